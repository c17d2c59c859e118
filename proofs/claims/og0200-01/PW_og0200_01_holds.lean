import PyProof.Rows.All
import Wide.All
import OpenK.AllK
import Wide.FinOn
import Lean
import PySem.Challenge.RW_og0200_01
set_option tactic.hygienic false
set_option bootstrap.genMatcherCode false
set_option compiler.extract_closed false
set_option genSizeOf false
set_option genSizeOfSpec false
set_option linter.all false
section
open PySem PySem.W PyProof.Rows
set_option Elab.async false
set_option maxRecDepth 1000000
namespace HC
noncomputable def viewQ : Program := view PySem.Challenge.pw_og0200_01 [0, 2, 3, 5, 6, 7, 8, 9, 10, 11, 12, 13, 14, 15, 16, 17, 18, 19, 20, 22, 23, 25, 27, 29, 30, 31, 32, 33, 34, 35, 36, 37, 38, 39]
theorem left_join {p q : Program} {loose : List Str} {Xt : Shared → Bool} {α : Type} {Yf : Shared → α} {Ya : World → α} {N : Nat} {g0 : Bool}
    (b : ∀ w, (openEnds treeTable p w N).map (fun s => openSeen q loose (importedModules p.main.body) Xt g0 s) = some (openGood q loose)) (c : ∀ w, (openEnds treeTable p w N).map Yf = some (Ya w)) : LeftO p q loose Xt Yf Ya N g0 := fun w => by
  have b := b w
  have c := c w
  cases h : openEnds treeTable p w N with
  | none => rw [h] at b; cases b
  | some s =>
    rw [h, Option.map_some] at b c
    rw [Option.map_some, Option.some.inj b, Option.some.inj c]
theorem left_b (w : World) : (openEnds treeTable PySem.Challenge.pw_og0200_01 w 6276).map (fun s => openSeen viewQ [PySem.Str.ofString "set_of_sets"] (importedModules PySem.Challenge.pw_og0200_01.main.body) (fun s => xlAt viewQ [] s && recOk (RowW.records (OpenRow.toRowW PySem.Challenge.rw_og0200_01.row)) s) true s) = some (openGood viewQ [PySem.Str.ofString "set_of_sets"]) := by
  unfold openEnds topFrom
  rw [PySem.W.Fast.te14082659384304107361, PySem.W.Fast.te14364793385576792824]
  kernel_rfl
set_option maxHeartbeats 0 in
theorem ws : PySem.Challenge.rw_og0200_01.wellSaid = true := by kernel_rfl
end HC
local macro_rules | `(tactic| o_law) => `(tactic| refine holds_law HC.ws fun said => ?_)
local macro_rules | `(tactic| o_head $H) => `(tactic| (
  refine holds_open (q := HC.viewQ) (loose := [PySem.Str.ofString "set_of_sets"]) (Xt := fun s => xlAt HC.viewQ [] s && recOk (RowW.records (OpenRow.toRowW PySem.Challenge.rw_og0200_01.row)) s) (XP := XL HC.viewQ []) (Yf := Hook.obs $H) (Ya := Hook.val $H) (YP := Hook.says $H) (N := 6276) ?hl (Hook.of $H) (Hook.keeps $H) (fun s e => xl_of s (Bool.and_eq_true_iff.mp e).1) XL.keeps (by rfl) (by rfl) (by rfl) (fun s e => recFacts_of (Bool.and_eq_true_iff.mp e).2) (by rfl) (by first | assumption | decide +kernel) (by decide +kernel) ⟨rfl, rfl, rfl, rfl, rfl, by decide +kernel⟩ ?hw ?hc
  (case hl => (refine HC.left_join HC.left_b (fun w => ?_); unfold openEnds topFrom; rw [PySem.W.Fast.te14082659384304107361, PySem.W.Fast.te14364793385576792824]; kernel_rfl))))
set_option maxRecDepth 1000000 in
set_option maxHeartbeats 8000000 in
open_top hd for PySem.Challenge.rw_og0200_01
end
section
namespace Og
theorem cps {P : Prop} (h : ∀ G : Prop, (P → G) → G) : P := h P fun h => h
theorem O03 {p q r : Prop} {G : Prop} (h : p ∧ q ∧ r) (n : p → q → r → G) : G :=
  n h.1 h.2.1 h.2.2
theorem O04 {p q r s : Prop} {G : Prop} (h : p ∧ q ∧ r ∧ s) (n : p → q → r → s → G) : G :=
  n h.1 h.2.1 h.2.2.1 h.2.2.2
theorem O05 {p q r s t : Prop} {G : Prop} (h : p ∧ q ∧ r ∧ s ∧ t) (n : p → q → r → s → t → G) : G :=
  n h.1 h.2.1 h.2.2.1 h.2.2.2.1 h.2.2.2.2
theorem O06 {p q r s t u : Prop} {G : Prop} (h : p ∧ q ∧ r ∧ s ∧ t ∧ u) (n : p → q → r → s → t → u → G) : G :=
  n h.1 h.2.1 h.2.2.1 h.2.2.2.1 h.2.2.2.2.1 h.2.2.2.2.2
theorem O07 {p q r s t u v : Prop} {G : Prop} (h : p ∧ q ∧ r ∧ s ∧ t ∧ u ∧ v) (n : p → q → r → s → t → u → v → G) : G :=
  n h.1 h.2.1 h.2.2.1 h.2.2.2.1 h.2.2.2.2.1 h.2.2.2.2.2.1 h.2.2.2.2.2.2
theorem O08 {p q r s t u v w : Prop} {G : Prop} (h : p ∧ q ∧ r ∧ s ∧ t ∧ u ∧ v ∧ w) (n : p → q → r → s → t → u → v → w → G) : G :=
  n h.1 h.2.1 h.2.2.1 h.2.2.2.1 h.2.2.2.2.1 h.2.2.2.2.2.1 h.2.2.2.2.2.2.1 h.2.2.2.2.2.2.2
theorem O0_14 {p q r s t u v w x y z k l m : Prop} {G : Prop} (h : p ∧ q ∧ r ∧ s ∧ t ∧ u ∧ v ∧ w ∧ x ∧ y ∧ z ∧ k ∧ l ∧ m) (n : p → q → r → s → t → u → v → w → x → y → z → k → l → m → G) : G :=
  n h.1 h.2.1 h.2.2.1 h.2.2.2.1 h.2.2.2.2.1 h.2.2.2.2.2.1 h.2.2.2.2.2.2.1 h.2.2.2.2.2.2.2.1 h.2.2.2.2.2.2.2.2.1 h.2.2.2.2.2.2.2.2.2.1 h.2.2.2.2.2.2.2.2.2.2.1 h.2.2.2.2.2.2.2.2.2.2.2.1 h.2.2.2.2.2.2.2.2.2.2.2.2.1 h.2.2.2.2.2.2.2.2.2.2.2.2.2
theorem O12 {α : Sort _} {p q : α → Prop} {G : Prop} (h : ∃ a, p a ∧ q a) (n : ∀ a, p a → q a → G) : G :=
  h.elim fun a h => n a h.1 h.2
theorem O13 {α : Sort _} {p q r : α → Prop} {G : Prop} (h : ∃ a, p a ∧ q a ∧ r a) (n : ∀ a, p a → q a → r a → G) : G :=
  h.elim fun a h => n a h.1 h.2.1 h.2.2
theorem O14 {α : Sort _} {p q r s : α → Prop} {G : Prop} (h : ∃ a, p a ∧ q a ∧ r a ∧ s a) (n : ∀ a, p a → q a → r a → s a → G) : G :=
  h.elim fun a h => n a h.1 h.2.1 h.2.2.1 h.2.2.2
theorem O15 {α : Sort _} {p q r s t : α → Prop} {G : Prop} (h : ∃ a, p a ∧ q a ∧ r a ∧ s a ∧ t a) (n : ∀ a, p a → q a → r a → s a → t a → G) : G :=
  h.elim fun a h => n a h.1 h.2.1 h.2.2.1 h.2.2.2.1 h.2.2.2.2
theorem O21 {α : Sort _} {β : Sort _} {p : α → β → Prop} {G : Prop} (h : ∃ a b, p a b) (n : ∀ a b, p a b → G) : G :=
  h.elim fun a h => h.elim fun b h => n a b h
theorem O22 {α : Sort _} {β : Sort _} {p q : α → β → Prop} {G : Prop} (h : ∃ a b, p a b ∧ q a b) (n : ∀ a b, p a b → q a b → G) : G :=
  h.elim fun a h => h.elim fun b h => n a b h.1 h.2
theorem O23 {α : Sort _} {β : Sort _} {p q r : α → β → Prop} {G : Prop} (h : ∃ a b, p a b ∧ q a b ∧ r a b) (n : ∀ a b, p a b → q a b → r a b → G) : G :=
  h.elim fun a h => h.elim fun b h => n a b h.1 h.2.1 h.2.2
theorem O24 {α : Sort _} {β : Sort _} {p q r s : α → β → Prop} {G : Prop} (h : ∃ a b, p a b ∧ q a b ∧ r a b ∧ s a b) (n : ∀ a b, p a b → q a b → r a b → s a b → G) : G :=
  h.elim fun a h => h.elim fun b h => n a b h.1 h.2.1 h.2.2.1 h.2.2.2
theorem O26 {α : Sort _} {β : Sort _} {p q r s t u : α → β → Prop} {G : Prop} (h : ∃ a b, p a b ∧ q a b ∧ r a b ∧ s a b ∧ t a b ∧ u a b) (n : ∀ a b, p a b → q a b → r a b → s a b → t a b → u a b → G) : G :=
  h.elim fun a h => h.elim fun b h => n a b h.1 h.2.1 h.2.2.1 h.2.2.2.1 h.2.2.2.2.1 h.2.2.2.2.2
theorem O32 {α : Sort _} {β : Sort _} {γ : Sort _} {p q : α → β → γ → Prop} {G : Prop} (h : ∃ a b c, p a b c ∧ q a b c) (n : ∀ a b c, p a b c → q a b c → G) : G :=
  h.elim fun a h => h.elim fun b h => h.elim fun c h => n a b c h.1 h.2
theorem O33 {α : Sort _} {β : Sort _} {γ : Sort _} {p q r : α → β → γ → Prop} {G : Prop} (h : ∃ a b c, p a b c ∧ q a b c ∧ r a b c) (n : ∀ a b c, p a b c → q a b c → r a b c → G) : G :=
  h.elim fun a h => h.elim fun b h => h.elim fun c h => n a b c h.1 h.2.1 h.2.2
theorem O34 {α : Sort _} {β : Sort _} {γ : Sort _} {p q r s : α → β → γ → Prop} {G : Prop} (h : ∃ a b c, p a b c ∧ q a b c ∧ r a b c ∧ s a b c) (n : ∀ a b c, p a b c → q a b c → r a b c → s a b c → G) : G :=
  h.elim fun a h => h.elim fun b h => h.elim fun c h => n a b c h.1 h.2.1 h.2.2.1 h.2.2.2
theorem O35 {α : Sort _} {β : Sort _} {γ : Sort _} {p q r s t : α → β → γ → Prop} {G : Prop} (h : ∃ a b c, p a b c ∧ q a b c ∧ r a b c ∧ s a b c ∧ t a b c) (n : ∀ a b c, p a b c → q a b c → r a b c → s a b c → t a b c → G) : G :=
  h.elim fun a h => h.elim fun b h => h.elim fun c h => n a b c h.1 h.2.1 h.2.2.1 h.2.2.2.1 h.2.2.2.2
theorem O3_6 {α : Sort _} {β : Sort _} {γ : Sort _} {p q r s t u : α → β → γ → Prop} {G : Prop} (h : ∃ a b c, p a b c ∧ q a b c ∧ r a b c ∧ s a b c ∧ t a b c ∧ u a b c) (n : ∀ a b c, p a b c → q a b c → r a b c → s a b c → t a b c → u a b c → G) : G :=
  h.elim fun a h => h.elim fun b h => h.elim fun c h => n a b c h.1 h.2.1 h.2.2.1 h.2.2.2.1 h.2.2.2.2.1 h.2.2.2.2.2
theorem O42 {α : Sort _} {β : Sort _} {γ : Sort _} {δ : Sort _} {p q : α → β → γ → δ → Prop} {G : Prop} (h : ∃ a b c d, p a b c d ∧ q a b c d) (n : ∀ a b c d, p a b c d → q a b c d → G) : G :=
  h.elim fun a h => h.elim fun b h => h.elim fun c h => h.elim fun d h => n a b c d h.1 h.2
theorem O43 {α : Sort _} {β : Sort _} {γ : Sort _} {δ : Sort _} {p q r : α → β → γ → δ → Prop} {G : Prop} (h : ∃ a b c d, p a b c d ∧ q a b c d ∧ r a b c d) (n : ∀ a b c d, p a b c d → q a b c d → r a b c d → G) : G :=
  h.elim fun a h => h.elim fun b h => h.elim fun c h => h.elim fun d h => n a b c d h.1 h.2.1 h.2.2
theorem O44 {α : Sort _} {β : Sort _} {γ : Sort _} {δ : Sort _} {p q r s : α → β → γ → δ → Prop} {G : Prop} (h : ∃ a b c d, p a b c d ∧ q a b c d ∧ r a b c d ∧ s a b c d) (n : ∀ a b c d, p a b c d → q a b c d → r a b c d → s a b c d → G) : G :=
  h.elim fun a h => h.elim fun b h => h.elim fun c h => h.elim fun d h => n a b c d h.1 h.2.1 h.2.2.1 h.2.2.2
theorem O4_5 {α : Sort _} {β : Sort _} {γ : Sort _} {δ : Sort _} {p q r s t : α → β → γ → δ → Prop} {G : Prop} (h : ∃ a b c d, p a b c d ∧ q a b c d ∧ r a b c d ∧ s a b c d ∧ t a b c d) (n : ∀ a b c d, p a b c d → q a b c d → r a b c d → s a b c d → t a b c d → G) : G :=
  h.elim fun a h => h.elim fun b h => h.elim fun c h => h.elim fun d h => n a b c d h.1 h.2.1 h.2.2.1 h.2.2.2.1 h.2.2.2.2
theorem O4_6 {α : Sort _} {β : Sort _} {γ : Sort _} {δ : Sort _} {p q r s t u : α → β → γ → δ → Prop} {G : Prop} (h : ∃ a b c d, p a b c d ∧ q a b c d ∧ r a b c d ∧ s a b c d ∧ t a b c d ∧ u a b c d) (n : ∀ a b c d, p a b c d → q a b c d → r a b c d → s a b c d → t a b c d → u a b c d → G) : G :=
  h.elim fun a h => h.elim fun b h => h.elim fun c h => h.elim fun d h => n a b c d h.1 h.2.1 h.2.2.1 h.2.2.2.1 h.2.2.2.2.1 h.2.2.2.2.2
theorem O52 {α : Sort _} {β : Sort _} {γ : Sort _} {δ : Sort _} {ε : Sort _} {p q : α → β → γ → δ → ε → Prop} {G : Prop} (h : ∃ a b c d e, p a b c d e ∧ q a b c d e) (n : ∀ a b c d e, p a b c d e → q a b c d e → G) : G :=
  h.elim fun a h => h.elim fun b h => h.elim fun c h => h.elim fun d h => h.elim fun e h => n a b c d e h.1 h.2
theorem O5_7 {α : Sort _} {β : Sort _} {γ : Sort _} {δ : Sort _} {ε : Sort _} {p q r s t u v : α → β → γ → δ → ε → Prop} {G : Prop} (h : ∃ a b c d e, p a b c d e ∧ q a b c d e ∧ r a b c d e ∧ s a b c d e ∧ t a b c d e ∧ u a b c d e ∧ v a b c d e) (n : ∀ a b c d e, p a b c d e → q a b c d e → r a b c d e → s a b c d e → t a b c d e → u a b c d e → v a b c d e → G) : G :=
  h.elim fun a h => h.elim fun b h => h.elim fun c h => h.elim fun d h => h.elim fun e h => n a b c d e h.1 h.2.1 h.2.2.1 h.2.2.2.1 h.2.2.2.2.1 h.2.2.2.2.2.1 h.2.2.2.2.2.2
theorem I03 {p q r : Prop} (pp : p) (qq : q) (rr : r) : p ∧ q ∧ r := ⟨pp, qq, rr⟩
theorem I04 {p q r s : Prop} (pp : p) (qq : q) (rr : r) (ss : s) : p ∧ q ∧ r ∧ s := ⟨pp, qq, rr, ss⟩
theorem I05 {p q r s t : Prop} (pp : p) (qq : q) (rr : r) (ss : s) (tt : t) : p ∧ q ∧ r ∧ s ∧ t := ⟨pp, qq, rr, ss, tt⟩
theorem I06 {p q r s t u : Prop} (pp : p) (qq : q) (rr : r) (ss : s) (tt : t) (uu : u) : p ∧ q ∧ r ∧ s ∧ t ∧ u := ⟨pp, qq, rr, ss, tt, uu⟩
theorem I07 {p q r s t u v : Prop} (pp : p) (qq : q) (rr : r) (ss : s) (tt : t) (uu : u) (vv : v) : p ∧ q ∧ r ∧ s ∧ t ∧ u ∧ v := ⟨pp, qq, rr, ss, tt, uu, vv⟩
theorem I08 {p q r s t u v w : Prop} (pp : p) (qq : q) (rr : r) (ss : s) (tt : t) (uu : u) (vv : v) (ww : w) : p ∧ q ∧ r ∧ s ∧ t ∧ u ∧ v ∧ w := ⟨pp, qq, rr, ss, tt, uu, vv, ww⟩
theorem I12 {α : Sort _} {p q : α → Prop} (a : α) (pp : p a) (qq : q a) : ∃ a, p a ∧ q a := ⟨a, pp, qq⟩
theorem I13 {α : Sort _} {p q r : α → Prop} (a : α) (pp : p a) (qq : q a) (rr : r a) : ∃ a, p a ∧ q a ∧ r a := ⟨a, pp, qq, rr⟩
theorem I14 {α : Sort _} {p q r s : α → Prop} (a : α) (pp : p a) (qq : q a) (rr : r a) (ss : s a) : ∃ a, p a ∧ q a ∧ r a ∧ s a := ⟨a, pp, qq, rr, ss⟩
theorem I21 {α : Sort _} {β : Sort _} {p : α → β → Prop} (a : α) (b : β) (pp : p a b) : ∃ a b, p a b := ⟨a, b, pp⟩
theorem I22 {α : Sort _} {β : Sort _} {p q : α → β → Prop} (a : α) (b : β) (pp : p a b) (qq : q a b) : ∃ a b, p a b ∧ q a b := ⟨a, b, pp, qq⟩
theorem I23 {α : Sort _} {β : Sort _} {p q r : α → β → Prop} (a : α) (b : β) (pp : p a b) (qq : q a b) (rr : r a b) : ∃ a b, p a b ∧ q a b ∧ r a b := ⟨a, b, pp, qq, rr⟩
theorem I24 {α : Sort _} {β : Sort _} {p q r s : α → β → Prop} (a : α) (b : β) (pp : p a b) (qq : q a b) (rr : r a b) (ss : s a b) : ∃ a b, p a b ∧ q a b ∧ r a b ∧ s a b := ⟨a, b, pp, qq, rr, ss⟩
theorem I26 {α : Sort _} {β : Sort _} {p q r s t u : α → β → Prop} (a : α) (b : β) (pp : p a b) (qq : q a b) (rr : r a b) (ss : s a b) (tt : t a b) (uu : u a b) : ∃ a b, p a b ∧ q a b ∧ r a b ∧ s a b ∧ t a b ∧ u a b := ⟨a, b, pp, qq, rr, ss, tt, uu⟩
theorem I31 {α : Sort _} {β : Sort _} {γ : Sort _} {p : α → β → γ → Prop} (a : α) (b : β) (c : γ) (pp : p a b c) : ∃ a b c, p a b c := ⟨a, b, c, pp⟩
theorem I32 {α : Sort _} {β : Sort _} {γ : Sort _} {p q : α → β → γ → Prop} (a : α) (b : β) (c : γ) (pp : p a b c) (qq : q a b c) : ∃ a b c, p a b c ∧ q a b c := ⟨a, b, c, pp, qq⟩
theorem I33 {α : Sort _} {β : Sort _} {γ : Sort _} {p q r : α → β → γ → Prop} (a : α) (b : β) (c : γ) (pp : p a b c) (qq : q a b c) (rr : r a b c) : ∃ a b c, p a b c ∧ q a b c ∧ r a b c := ⟨a, b, c, pp, qq, rr⟩
theorem I34 {α : Sort _} {β : Sort _} {γ : Sort _} {p q r s : α → β → γ → Prop} (a : α) (b : β) (c : γ) (pp : p a b c) (qq : q a b c) (rr : r a b c) (ss : s a b c) : ∃ a b c, p a b c ∧ q a b c ∧ r a b c ∧ s a b c := ⟨a, b, c, pp, qq, rr, ss⟩
theorem I35 {α : Sort _} {β : Sort _} {γ : Sort _} {p q r s t : α → β → γ → Prop} (a : α) (b : β) (c : γ) (pp : p a b c) (qq : q a b c) (rr : r a b c) (ss : s a b c) (tt : t a b c) : ∃ a b c, p a b c ∧ q a b c ∧ r a b c ∧ s a b c ∧ t a b c := ⟨a, b, c, pp, qq, rr, ss, tt⟩
theorem I42 {α : Sort _} {β : Sort _} {γ : Sort _} {δ : Sort _} {p q : α → β → γ → δ → Prop} (a : α) (b : β) (c : γ) (d : δ) (pp : p a b c d) (qq : q a b c d) : ∃ a b c d, p a b c d ∧ q a b c d := ⟨a, b, c, d, pp, qq⟩
theorem I43 {α : Sort _} {β : Sort _} {γ : Sort _} {δ : Sort _} {p q r : α → β → γ → δ → Prop} (a : α) (b : β) (c : γ) (d : δ) (pp : p a b c d) (qq : q a b c d) (rr : r a b c d) : ∃ a b c d, p a b c d ∧ q a b c d ∧ r a b c d := ⟨a, b, c, d, pp, qq, rr⟩
theorem I44 {α : Sort _} {β : Sort _} {γ : Sort _} {δ : Sort _} {p q r s : α → β → γ → δ → Prop} (a : α) (b : β) (c : γ) (d : δ) (pp : p a b c d) (qq : q a b c d) (rr : r a b c d) (ss : s a b c d) : ∃ a b c d, p a b c d ∧ q a b c d ∧ r a b c d ∧ s a b c d := ⟨a, b, c, d, pp, qq, rr, ss⟩
end Og
end
section
set_option maxRecDepth 100000
namespace Og
open PySem PySem.W PyProof.Rows PySem.Calls PySem.Spec
/-- values of the abstract interpreter: no addresses, but the written ones of the top -/
inductive AV where
  | none
  | bool (b : Bool)
  | int (i : Int)
  | str (x : Str)
  | tup (l : List AV)
  | lst (l : List AV)
  | dct (ks vs : List AV)
  | itm (ks vs : List AV)
  | rng (a b : Int)
  | inst (c : Addr) (l : Nat)
  | loc (l : Nat)
  | val (v : Value)
  | clo (ps : Arguments) (sc : Scope) (body : Expr) (ns : List Str) (vs : List AV)
/-- what stands at a store place -/
inductive MO where
  | list (l : List AV)
  | dict (ks vs : List AV)
  | attrs (ks : List Str) (vs : List AV)
noncomputable abbrev Sto := List MO
/-- what a name of a frame holds -/
inductive LV where
  | v (a : AV)
  | ol (l : List AV)
  | od (ks vs : List AV)
  | oz (xs ys : List AV)
structure Cx where
  sc : Scope
  vars : List (Str × LV)
  lam : Bool
inductive Fl where
  | next (cx : Cx)
  | ret (a : AV)
noncomputable abbrev Hd := AV → List AV → Sto → Option (AV × Sto)
noncomputable abbrev Gl := Str → Option AV
noncomputable def big : Nat := 2 ^ 20
noncomputable def smallI (i : Int) : Bool := decide (-(2 ^ 40) < i ∧ i < 2 ^ 40)
noncomputable def Cx.get? (cx : Cx) (G : Gl) (x : Str) : Option AV :=
  match cx.vars.lookup x with
  | some (.v a) => some a
  | some _ => none
  | none => match cx.sc.names.lookup x with
    | some .globalImplicit => G x
    | _ => none
noncomputable def setVar (vars : List (Str × LV)) (x : Str) (lv : LV) : List (Str × LV) := (x, lv) :: vars
/-- a store: the name must be the block's own -/
noncomputable def Cx.put (cx : Cx) (x : Str) (lv : LV) : Option Cx :=
  match cx.sc.names.lookup x with
  | some .local => some { cx with vars := setVar cx.vars x lv }
  | some .cell => some { cx with vars := setVar cx.vars x lv }
  | _ => none
noncomputable def constA : Const → Option AV
  | .none => some .none
  | .bool b => some (.bool b)
  | .int i => some (.int i)
  | .str s => some (.str s)
  | _ => none
noncomputable def asInt : AV → Option Int
  | .int i => some i
  | _ => none
noncomputable def asBool : AV → Option Bool
  | .bool b => some b
  | _ => none
noncomputable def asStr : AV → Option Str
  | .str x => some x
  | _ => none
noncomputable def asLst : AV → Option (List AV)
  | .lst l => some l
  | _ => none
noncomputable def asTup : AV → Option (List AV)
  | .tup l => some l
  | _ => none
noncomputable def isNoneA : AV → Bool
  | .none => true
  | _ => false
noncomputable def vw1 {α : Type} : List α → Option α
  | [a] => some a
  | _ => none
noncomputable def eq0 : AV → AV → Option Bool
  | .none, b => if isNoneA b then some true else none
  | .bool a, b => (asBool b).map (a == ·)
  | .int a, b => (asInt b).map (a == ·)
  | .str a, b => (asStr b).map (a == ·)
  | _, _ => none
noncomputable def eqLf (f : AV → AV → Option Bool) : List AV → List AV → Option Bool
  | a :: l, b :: m => (f a b).bind fun x => (eqLf f l m).map fun y => x && y
  | _, _ => some true
noncomputable def eqA : Nat → AV → AV → Option Bool
  | 0, a, b => eq0 a b
  | n + 1, a, b => match a with
    | .tup l => (asTup b).bind fun m => (eqLf (eqA n) l m).map fun x => x && l.length == m.length
    | .lst l => (asLst b).bind fun m => if l.length == m.length then eqLf (eqA n) l m else some false
    | a => eq0 a b
noncomputable def truthA : AV → Option Bool
  | .none => some false
  | .bool b => some b
  | _ => none
noncomputable def addL (l m : List AV) : Option (List AV) := if l.length + m.length ≤ big then some (l ++ m) else none
noncomputable def addA : AV → AV → Option AV
  | .int a, b => (asInt b).map fun b => .int (a + b)
  | .tup l, b => (asTup b).bind fun m => (addL l m).map .tup
  | .lst l, b => (asLst b).bind fun m => (addL l m).map .lst
  | _, _ => none
noncomputable def repS (x : Str) (n : Int) : Str := ⟨(List.replicate n.toNat x.cps.toList).flatten.toArray⟩
noncomputable def mulA : AV → AV → Option AV
  | .int a, b => (asInt b).bind fun b => if smallI a && smallI b then some (.int (a * b)) else none
  | .str x, b => (asInt b).bind fun n => if decide (0 ≤ n ∧ n < 2 ^ 10) && decide (x.length ≤ 2 ^ 10) then some (.str (repS x n)) else none
  | .tup l, b => (asInt b).bind fun n => if decide (2 ≤ n ∧ n < 2 ^ 10) && decide (1 ≤ l.length ∧ l.length ≤ 2 ^ 10) then some (.tup (List.replicate n.toNat l).flatten) else none
  | _, _ => none
noncomputable def int2 (f : Int → Int → Option AV) (a b : AV) : Option AV := (asInt a).bind fun a => (asInt b).bind fun b => f a b
noncomputable def binA : Operator → AV → AV → Option AV
  | .Add, a, b => addA a b
  | .Sub, a, b => int2 (fun a b => some (.int (a - b))) a b
  | .Mult, a, b => mulA a b
  | .Mod, a, b => int2 (fun a b => if decide (0 < b) then some (.int (Int.fmod a b)) else none) a b
  | _, _, _ => none
/-- what an index, a test of membership, or a loop reads of an object -/
inductive Ct where
  | list (l : List AV)
  | tup (l : List AV)
  | dict (ks vs : List AV)
noncomputable def ctOf (st : Sto) : AV → Option Ct
  | .lst l => some (.list l)
  | .tup l => some (.tup l)
  | .dct ks vs => some (.dict ks vs)
  | .loc i => match st[i]? with
    | some (.list l) => some (.list l)
    | some (.dict ks vs) => some (.dict ks vs)
    | _ => none
  | _ => none
inductive BR where
  | av (a : AV)
  | own (x : Str)
noncomputable def ctB (cx : Cx) (st : Sto) : BR → Option Ct
  | .av a => ctOf st a
  | .own x => match cx.vars.lookup x with
    | some (.ol l) => some (.list l)
    | some (.od ks vs) => some (.dict ks vs)
    | _ => none
noncomputable def idxL (l : List AV) (i : Int) : Option AV :=
  if 0 ≤ i then (if i < (l.length : Int) then l[i.toNat]? else none)
  else if 0 ≤ i + l.length then l[(i + l.length).toNat]? else none
/-- the kinds of dict keys: ints, strs, tuples of ints -/
noncomputable def intsOf : List AV → Option (List Int)
  | [] => some []
  | .int i :: l => (intsOf l).map (i :: ·)
  | _ :: _ => none
noncomputable def keyOk : AV → Bool
  | .int _ => true
  | .str _ => true
  | .tup l => (intsOf l).isSome
  | _ => false
noncomputable def keyEq : AV → AV → Option Bool
  | .int a, b => (asInt b).map (a == ·)
  | .str a, b => (asStr b).map (a == ·)
  | .tup l, b => (intsOf l).bind fun a => ((asTup b).bind intsOf).map (a == ·)
  | _, _ => none
noncomputable def findK (k : AV) : List AV → List AV → Option (Option AV)
  | x :: ks, v :: vs => match keyEq x k with
    | some true => some (some v)
    | some false => findK k ks vs
    | none => none
  | _, _ => if keyOk k then some none else none
noncomputable def hasK (k : AV) (ks : List AV) : Option Bool := (findK k ks ks).map (·.isSome)
noncomputable def putK (k v : AV) : List AV → List AV → Option (List AV × List AV)
  | x :: ks, u :: vs => match keyEq x k with
    | some true => some (x :: ks, v :: vs)
    | some false => (putK k v ks vs).map fun p => (x :: p.1, u :: p.2)
    | none => none
  | _, _ => some ([k], [v])
noncomputable def getItemA (c : Ct) (i : AV) : Option AV :=
  match c, i with
  | .list l, .int i => if smallI i then idxL l i else none
  | .tup l, .int i => if smallI i then idxL l i else none
  | .dict ks vs, .int i => (findK (.int i) ks vs).join
  | .dict ks vs, .str x => (findK (.str x) ks vs).join
  | _, _ => none
noncomputable def memL (a : AV) : List AV → Option Bool
  | [] => some false
  | x :: l => match eqA 6 x a, memL a l with
    | some p, some q => some (p || q)
    | _, _ => none
noncomputable def inA (c : Ct) (a : AV) : Option Bool :=
  match c with
  | .list l => memL a l
  | .tup l => memL a l
  | .dict ks _ => hasK a ks
noncomputable def ltA : AV → AV → Option Bool
  | .int a, b => (asInt b).map fun b => decide (a < b)
  | .tup l, b => ((vw1 l).bind asInt).bind fun i => (((asTup b).bind vw1).bind asInt).map fun j => decide (i < j)
  | _, _ => none
noncomputable def isA : AV → Option Bool
  | .none => some true
  | .lst _ => some false
  | _ => none
noncomputable def int2b (f : Int → Int → Bool) (a b : AV) : Option Bool := (asInt a).bind fun a => (asInt b).map fun b => f a b
noncomputable def cmpA : CmpOp → AV → AV → Option Bool
  | .Eq, a, b => eqA 6 a b
  | .NotEq, a, b => (eqA 6 a b).map (!·)
  | .Lt, a, b => ltA a b
  | .LtE, a, b => int2b (fun a b => decide (a ≤ b)) a b
  | .Gt, a, b => int2b (fun a b => decide (a > b)) a b
  | .GtE, a, b => int2b (fun a b => decide (a ≥ b)) a b
  | .Is, a, b => if isNoneA b then isA a else none
  | _, _, _ => none
noncomputable def sliceA (c : Ct) (lo up : Option Int) : Option AV :=
  match c, lo, up with
  | .list l, none, some n => if decide (0 ≤ n ∧ n < 2 ^ 20 ∧ l.length ≤ big) then some (.lst (l.take n.toNat)) else none
  | .tup l, some n, none => if decide (1 ≤ n ∧ n ≤ (l.length : Int) ∧ l.length ≤ big) then some (.tup (l.drop n.toNat)) else none
  | _, _, _ => none
/-- what a for runs over -/
noncomputable def iterA (st : Sto) : AV → Option (List AV)
  | .lst l => if l.length ≤ big then some l else none
  | .tup l => if l.length ≤ big then some l else none
  | .rng a b => if decide (0 ≤ a ∧ a ≤ (big : Int) ∧ 0 ≤ b ∧ b ≤ (big : Int)) then some ((List.range (b - a).toNat).map fun i => AV.int (a + (i : Nat))) else none
  | _ => none
noncomputable def keepIx : Str → Nat → List (Str × NameKind) → Option Nat
  | _, _, [] => none
  | x, i, (y, _) :: r => if x == y then some i else keepIx x (i + 1) r
theorem nos {α : Type} {a : α} {C : Prop} (h : (none : Option α) = some a) : C := by cases h
end Og
end
section
set_option maxRecDepth 100000
namespace Og
open PySem PySem.W PyProof.Rows PySem.Calls PySem.Spec
/-! ## views -/
noncomputable def vw2 {α : Type} : List α → Option (α × α)
  | [a, b] => some (a, b)
  | _ => none
noncomputable def asDct : AV → Option (List AV × List AV)
  | .dct ks vs => some (ks, vs)
  | _ => none
noncomputable def asInst : AV → Option (Addr × Nat)
  | .inst c l => some (c, l)
  | _ => none
noncomputable def asLoc : AV → Option Nat
  | .loc l => some l
  | _ => none
noncomputable def asVal : AV → Option Value
  | .val v => some v
  | _ => none
noncomputable def asRef : Value → Option Addr
  | .ref a => some a
  | _ => none
noncomputable def asTy : Value → Option String
  | .type t => some t
  | _ => none
noncomputable def isTy (t : String) (a : AV) : Bool := ((asVal a).bind asTy) == some t
noncomputable def atAttrs (st : Sto) (l : Nat) : Option (List Str × List AV) := match st[l]? with
  | some (.attrs ks vs) => some (ks, vs)
  | _ => none
noncomputable def atDict (st : Sto) (l : Nat) : Option (List AV × List AV) := match st[l]? with
  | some (.dict ks vs) => some (ks, vs)
  | _ => none
noncomputable def atList (st : Sto) (l : Nat) : Option (List AV) := match st[l]? with
  | some (.list l) => some l
  | _ => none
noncomputable def lvL : LV → Option (List AV)
  | .ol l => some l
  | _ => none
noncomputable def lvD : LV → Option (List AV × List AV)
  | .od ks vs => some (ks, vs)
  | _ => none
noncomputable def lvZ : LV → Option (List AV × List AV)
  | .oz ks vs => some (ks, vs)
  | _ => none
noncomputable def ownL (cx : Cx) (x : Str) : Option (List AV) := (cx.vars.lookup x).bind lvL
noncomputable def ownD (cx : Cx) (x : Str) : Option (List AV × List AV) := (cx.vars.lookup x).bind lvD
noncomputable def ownZ (cx : Cx) (x : Str) : Option (List AV × List AV) := (cx.vars.lookup x).bind lvZ
universe u
/-- the one look at an expression -/
noncomputable abbrev vw {γ : Sort u} (e : Expr) (o : γ) (bo : BoolOp → List Expr → Pos → γ := fun D0 D1 D2 => o) (bin : Expr → Operator → Expr → Pos → γ := fun D0 D1 D2 D3 => o) (un : UnaryOp → Expr → Pos → γ := fun D0 D1 D2 => o) (lam : Arguments → Expr → Scope → Pos → γ := fun D0 D1 D2 D3 => o) (ife : Expr → Expr → Expr → Pos → γ := fun D0 D1 D2 D3 => o) (dic : List (Option Expr) → List Expr → Pos → γ := fun D0 D1 D2 => o) (st : List Expr → Nat → Pos → γ := fun D0 D1 D2 => o) (lc : Expr → List Comprehension → Scope → Pos → γ := fun D0 D1 D2 D3 => o) (sc : Expr → List Comprehension → Scope → Pos → γ := fun D0 D1 D2 D3 => o) (dc : Expr → Expr → List Comprehension → Scope → Pos → γ := fun D0 D1 D2 D3 D4 => o) (cmp : Expr → List CmpOp → List Expr → Pos → γ := fun D0 D1 D2 D3 => o) (call : Expr → List Expr → List Keyword → Pos → γ := fun D0 D1 D2 D3 => o) (fmt : Expr → Int → Option Expr → Pos → γ := fun D0 D1 D2 D3 => o) (js : List Expr → Pos → γ := fun D0 D1 => o) (con : Const → Nat → Pos → γ := fun D0 D1 D2 => o) (att : Expr → Str → Pos → γ := fun D0 D1 D2 => o) (sub : Expr → Expr → Pos → γ := fun D0 D1 D2 => o) (star : Expr → Pos → γ := fun D0 D1 => o) (nm : Str → Pos → γ := fun D0 D1 => o) (li : List Expr → Pos → γ := fun D0 D1 => o) (tu : List Expr → Nat → Pos → γ := fun D0 D1 D2 => o) (sl : Option Expr → Option Expr → Option Expr → Pos → γ := fun D0 D1 D2 D3 => o) : γ := match e with
  | .BoolOp a b c => bo a b c
  | .BinOp a b c d => bin a b c d
  | .UnaryOp a b c => un a b c
  | .Lambda a b c d => lam a b c d
  | .IfExp a b c d => ife a b c d
  | .Dict a b c => dic a b c
  | .Set a b c => st a b c
  | .ListComp a b c d => lc a b c d
  | .SetComp a b c d => sc a b c d
  | .DictComp a b c d e => dc a b c d e
  | .Compare a b c d => cmp a b c d
  | .Call a b c d => call a b c d
  | .FormattedValue a b c d => fmt a b c d
  | .JoinedStr a b => js a b
  | .Constant a b c => con a b c
  | .Attribute a b c => att a b c
  | .Subscript a b c => sub a b c
  | .Starred a b => star a b
  | .Name a b => nm a b
  | .List a b => li a b
  | .Tuple a b c => tu a b c
  | .Slice a b c d => sl a b c d
  | _ => o
noncomputable def asNm (e : Expr) : Option Str := vw e none (nm := fun x D0 => some x)
noncomputable def asAttr (e : Expr) : Option (Expr × Str × Pos) := vw e none (att := fun o n p => some (o, n, p))
noncomputable def cInt : Const → Option Int
  | .int n => some n
  | _ => none
noncomputable def cStr : Const → Option Str
  | .str n => some n
  | _ => none
noncomputable def intC (e : Expr) : Option Int := vw e none (con := fun c D0 D1 => cInt c)
noncomputable def strC (e : Expr) : Option Str := vw e none (con := fun c D0 D1 => cStr c)
noncomputable def fmtC (e : Expr) : Option Expr := vw e none (fmt := fun v c f D0 => if f.isNone && c == -1 then some v else none)
noncomputable def asSlice (e : Expr) : Option (Option Int × Option Int) := vw e none (sl := fun a b c D0 => match a, b, c with
  | none, some e, none => (intC e).map fun n => (none, some n)
  | some e, none, none => (intC e).map fun n => (some n, none)
  | _, _, _ => none)
noncomputable def gen1 : List Comprehension → Option (Expr × Expr × List Expr)
  | [⟨t, it, ifs, n⟩] => if n == 0 then some (t, it, ifs) else none
  | _ => none
noncomputable def inOp : CmpOp → Option Bool
  | .In => some true
  | .NotIn => some false
  | _ => none
noncomputable def leC : List CmpOp → Option CmpOp
  | [.LtE, o] => some o
  | _ => none
noncomputable def isLt : CmpOp → Bool
  | .Lt => true
  | _ => false
noncomputable def bo : BoolOp → Bool → Bool → Bool
  | .And, b, c => b && c
  | .Or, b, c => b || c
noncomputable def dbgN (x : Str) : Bool := x == ("__debug__" : Str) || x == ("__classdict__" : Str)
/-- several Bools at once -/
theorem and2 {a b : Bool} (h : (a && b) = true) : a = true ∧ b = true := Bool.and_eq_true_iff.mp h
theorem and3 {a b c : Bool} (h : (a && b && c) = true) : a = true ∧ b = true ∧ c = true := ⟨(and2 (and2 h).1).1, (and2 (and2 h).1).2, (and2 h).2⟩
theorem and4 {a b c d : Bool} (h : (a && b && c && d) = true) : a = true ∧ b = true ∧ c = true ∧ d = true := ⟨(and3 (and2 h).1).1, (and3 (and2 h).1).2.1, (and3 (and2 h).1).2.2, (and2 h).2⟩
theorem and5 {a b c d e : Bool} (h : (a && b && c && d && e) = true) : a = true ∧ b = true ∧ c = true ∧ d = true ∧ e = true :=
  ⟨(and4 (and2 h).1).1, (and4 (and2 h).1).2.1, (and4 (and2 h).1).2.2.1, (and4 (and2 h).1).2.2.2, (and2 h).2⟩
theorem ifn_some {α : Type} {b : Bool} {x : Option α} {a : α} (h : (if b then none else x) = some a) : b = false ∧ x = some a := by
  cases b with
  | true => exact nos h
  | false => exact ⟨rfl, h⟩
/-! ## what the views say -/
theorem vw1_eq {α : Type} {l : List α} {a : α} (h : vw1 l = some a) : l = [a] := by
  rcases l with _ | ⟨x, _ | ⟨y, l⟩⟩ <;> first | exact nos h | exact congrArg (fun x => [x]) (Option.some.inj h)
theorem vw2_eq {α : Type} {l : List α} {a : α × α} (h : vw2 l = some a) : l = [a.1, a.2] := by
  rcases l with _ | ⟨x, _ | ⟨y, _ | ⟨z, l⟩⟩⟩ <;> first | exact nos h | exact Option.some.inj h ▸ rfl
theorem asInt_eq {a : AV} {i : Int} (h : asInt a = some i) : a = .int i := by cases a <;> first | exact nos h | exact congrArg AV.int (Option.some.inj h)
theorem asBool_eq {a : AV} {i : Bool} (h : asBool a = some i) : a = .bool i := by cases a <;> first | exact nos h | exact congrArg AV.bool (Option.some.inj h)
theorem asStr_eq {a : AV} {i : Str} (h : asStr a = some i) : a = .str i := by cases a <;> first | exact nos h | exact congrArg AV.str (Option.some.inj h)
theorem asLst_eq {a : AV} {i : List AV} (h : asLst a = some i) : a = .lst i := by cases a <;> first | exact nos h | exact congrArg AV.lst (Option.some.inj h)
theorem asTup_eq {a : AV} {i : List AV} (h : asTup a = some i) : a = .tup i := by cases a <;> first | exact nos h | exact congrArg AV.tup (Option.some.inj h)
theorem asLoc_eq {a : AV} {i : Nat} (h : asLoc a = some i) : a = .loc i := by cases a <;> first | exact nos h | exact congrArg AV.loc (Option.some.inj h)
theorem asVal_eq {a : AV} {i : Value} (h : asVal a = some i) : a = .val i := by cases a <;> first | exact nos h | exact congrArg AV.val (Option.some.inj h)
theorem asDct_eq {a : AV} {i : List AV × List AV} (h : asDct a = some i) : a = .dct i.1 i.2 := by cases a <;> first | exact nos h | exact Option.some.inj h ▸ rfl
theorem asInst_eq {a : AV} {i : Addr × Nat} (h : asInst a = some i) : a = .inst i.1 i.2 := by cases a <;> first | exact nos h | exact Option.some.inj h ▸ rfl
theorem isNoneA_eq {a : AV} (h : isNoneA a = true) : a = .none := by cases a <;> first | rfl | exact Bool.noConfusion h
theorem asRef_eq {a : Value} {i : Addr} (h : asRef a = some i) : a = .ref i := by cases a <;> first | exact nos h | exact congrArg Value.ref (Option.some.inj h)
theorem asTy_eq {a : Value} {i : String} (h : asTy a = some i) : a = .type i := by cases a <;> first | exact nos h | exact congrArg Value.type (Option.some.inj h)
theorem isTy_eq {t : String} {a : AV} (h : isTy t a = true) : a = .val (.type t) := by
  refine O12 (Option.bind_eq_some_iff.mp (eq_of_beq h)) ?_; rintro v h1 h2
  exact (asVal_eq h1) ▸ (asTy_eq h2) ▸ rfl
theorem atAttrs_eq {st : Sto} {l : Nat} {q : List Str × List AV} (h : atAttrs st l = some q) : st[l]? = some (.attrs q.1 q.2) := by
  unfold atAttrs at h
  cases e : st[l]? with
  | none => replace h := e ▸ h; exact nos h
  | some m => replace h := e ▸ h; clear e; cases m <;> first | exact nos h | exact Option.some.inj h ▸ rfl
theorem atDict_eq {st : Sto} {l : Nat} {q : List AV × List AV} (h : atDict st l = some q) : st[l]? = some (.dict q.1 q.2) := by
  unfold atDict at h
  cases e : st[l]? with
  | none => replace h := e ▸ h; exact nos h
  | some m => replace h := e ▸ h; clear e; cases m <;> first | exact nos h | exact Option.some.inj h ▸ rfl
theorem atList_eq {st : Sto} {l : Nat} {q : List AV} (h : atList st l = some q) : st[l]? = some (.list q) := by
  unfold atList at h
  cases e : st[l]? with
  | none => replace h := e ▸ h; exact nos h
  | some m => replace h := e ▸ h; clear e; cases m <;> first | exact nos h | exact Option.some.inj h ▸ rfl
theorem ownL_eq {cx : Cx} {x : Str} {l : List AV} (h : ownL cx x = some l) : cx.vars.lookup x = some (.ol l) := by
  refine O12 (Option.bind_eq_some_iff.mp h) ?_; rintro v h1 h2
  refine h1 ▸ ?_
  clear h1; cases v <;> first | exact nos h2 | exact Option.some.inj h2 ▸ rfl
theorem ownD_eq {cx : Cx} {x : Str} {l : List AV × List AV} (h : ownD cx x = some l) : cx.vars.lookup x = some (.od l.1 l.2) := by
  refine O12 (Option.bind_eq_some_iff.mp h) ?_; rintro v h1 h2
  refine h1 ▸ ?_
  clear h1; cases v <;> first | exact nos h2 | exact Option.some.inj h2 ▸ rfl
theorem ownZ_eq {cx : Cx} {x : Str} {l : List AV × List AV} (h : ownZ cx x = some l) : cx.vars.lookup x = some (.oz l.1 l.2) := by
  refine O12 (Option.bind_eq_some_iff.mp h) ?_; rintro v h1 h2
  refine h1 ▸ ?_
  clear h1; cases v <;> first | exact nos h2 | exact Option.some.inj h2 ▸ rfl
theorem own_is {cx : Cx} {x : Str} (h : ((ownL cx x).isSome || (ownD cx x).isSome) = true) : ∃ lv, cx.vars.lookup x = some lv := by
  rcases Bool.or_eq_true_iff.mp h with q | q
  · obtain ⟨l, e⟩ := Option.isSome_iff_exists.mp q; exact ⟨_, ownL_eq e⟩
  · obtain ⟨l, e⟩ := Option.isSome_iff_exists.mp q; exact ⟨_, ownD_eq e⟩
theorem asNm_eq {e : Expr} {x : Str} (h : asNm e = some x) : ∃ p, e = .Name x p := by cases e <;> first | exact nos h | exact ⟨_, by rw [← Option.some.inj h]⟩
theorem asAttr_eq {e : Expr} {x : Expr × Str × Pos} (h : asAttr e = some x) : e = .Attribute x.1 x.2.1 x.2.2 := by cases e <;> first | exact nos h | exact Option.some.inj h ▸ rfl
set_option tactic.hygienic true in
theorem intC_eq {e : Expr} {n : Int} (h : intC e = some n) : ∃ k p, e = .Constant (.int n) k p := by
  cases e <;> try exact nos h
  rename_i c _ _
  cases c <;> first | exact nos h | exact Og.I21 _ _ (by rw [← Option.some.inj h])
set_option tactic.hygienic true in
theorem strC_eq {e : Expr} {n : Str} (h : strC e = some n) : ∃ k p, e = .Constant (.str n) k p := by
  cases e <;> try exact nos h
  rename_i c _ _
  cases c <;> first | exact nos h | exact Og.I21 _ _ (by rw [← Option.some.inj h])
set_option tactic.hygienic true in
theorem fmtC_eq {e v : Expr} (h : fmtC e = some v) : ∃ p, e = .FormattedValue v (-1) none p := by
  cases e <;> try exact nos h
  rename_i v' c sp p
  cases sp with
  | some _ => exact nos h
  | none =>
    have h : (if c == -1 then some v' else none) = some v := h
    by_cases q : c = -1
    · rw [if_pos (by simpa using q)] at h; exact ⟨p, by exact q ▸ (Option.some.inj h) ▸ rfl⟩
    · rw [if_neg (by simpa using q)] at h; exact nos h
set_option tactic.hygienic true in
theorem asSlice_eq {e : Expr} {q : Option Int × Option Int} (h : asSlice e = some q) : (∃ n k p s, e = .Slice none (some (.Constant (.int n) k p)) none s ∧ q = (none, some n)) ∨ ∃ n k p s, e = .Slice (some (.Constant (.int n) k p)) none none s ∧ q = (some n, none) := by
  cases e <;> try exact nos h
  rename_i lo up stp s
  cases stp <;> cases lo <;> cases up <;> first | exact nos h | skip
  · refine O12 (Option.map_eq_some_iff.mp h) ?_; rintro n h1 h2
    refine O21 (intC_eq h1) ?_; rintro k p rfl
    exact .inl (Og.I42 n k p s rfl h2.symm)
  · refine O12 (Option.map_eq_some_iff.mp h) ?_; rintro n h1 h2
    refine O21 (intC_eq h1) ?_; clear h h1; rintro k p rfl
    exact .inr (Og.I42 n k p s rfl h2.symm)
theorem if_some {α : Type} {b : Bool} {x : Option α} {a : α} (h : (if b then x else none) = some a) : b = true ∧ x = some a := by
  cases b with
  | true => exact ⟨rfl, h⟩
  | false => exact nos h
theorem gen1_eq {l : List Comprehension} {q : Expr × Expr × List Expr} (h : gen1 l = some q) : l = [⟨q.1, q.2.1, q.2.2, 0⟩] := by
  rcases l with _ | ⟨⟨t, it, ifs, n⟩, _ | ⟨y, l⟩⟩
  · exact nos h
  · obtain ⟨h1, h2⟩ := if_some h
    exact (eq_of_beq h1) ▸ (Option.some.inj h2) ▸ rfl
  · exact nos h
theorem inOp_eq {o : CmpOp} {b : Bool} (h : inOp o = some b) : o = if b then .In else .NotIn := by cases o <;> first | exact nos h | exact Option.some.inj h ▸ rfl
theorem leC_eq {l : List CmpOp} {o : CmpOp} (h : leC l = some o) : l = [.LtE, o] := by
  rcases l with _ | ⟨x, _ | ⟨y, _ | ⟨z, l⟩⟩⟩
  · exact nos h
  · cases x <;> exact nos h
  · cases x <;> first | exact nos h | exact Option.some.inj h ▸ rfl
  · cases x <;> exact nos h
theorem isLt_eq {o : CmpOp} (h : isLt o = true) : o = .Lt := by cases o <;> first | rfl | exact absurd h (by decide)
theorem son {α : Type} {a : α} {C : Prop} (h : some a = none) : C := by cases h
theorem tfN {C : Prop} (h : true = false) : C := Bool.noConfusion h
theorem ftN {C : Prop} (h : false = true) : C := Bool.noConfusion h
theorem pick {α : Type} {p : Prop} [Decidable p] {x y : Option α} {a : α} (h : (if p then x else y) = some a) : (p ∧ x = some a) ∨ y = some a := by
  by_cases q : p
  · rw [if_pos q] at h; exact .inl ⟨q, h⟩
  · rw [if_neg q] at h; exact .inr h
/-! ## small steps of arithmetic: each spares an omega -/
theorem k0 {a b : Nat} (h : Nat.ble a b = true) : a ≤ b := Nat.le_of_ble_eq_true h
theorem k1 {a b c : Nat} (h : a ≤ b) (e : Nat.ble b c = true) : a ≤ c := Nat.le_trans h (k0 e)
theorem k1' {a b c : Nat} (h : a ≤ b) (e : Nat.ble (b + 1) c = true) : a < c := Nat.lt_of_le_of_lt h (k0 e)
theorem k2 {a b k c : Nat} (h : a ≤ b) (e : Nat.ble (b + k) c = true) : a + k ≤ c := Nat.le_trans (Nat.add_le_add_right h k) (k0 e)
theorem k3 {a j c : Nat} (h : a + j < c) : a < c := Nat.lt_of_le_of_lt (Nat.le_add_right a j) h
theorem k3' {a j c : Nat} (h : a + j ≤ c) : a ≤ c := Nat.le_trans (Nat.le_add_right a j) h
theorem k4 {a j k c : Nat} (h : a + j < c) (e : Nat.ble k j = true) : a + k < c := Nat.lt_of_le_of_lt (Nat.add_le_add_left (k0 e) a) h
theorem k4' {a j k l c : Nat} (h : a + j < c) (e : Nat.ble (k + l) j = true) : a + k + l < c := Nat.add_assoc a k l ▸ k4 h e
theorem k4l {a j k c : Nat} (h : a + j ≤ c) (e : Nat.ble k j = true) : a + k ≤ c := Nat.le_trans (Nat.add_le_add_left (k0 e) a) h
theorem k5 {a n i j k : Nat} (h : a ≤ n + i + j) (e : Nat.ble (i + j) k = true) : a ≤ n + k :=
  Nat.le_trans h (Nat.add_assoc n i j ▸ Nat.add_le_add_left (k0 e) n)
theorem k6 {a b n i j l k : Nat} (g : a ≤ b + l) (h : b ≤ n + i + j) (e : Nat.ble (i + j + l) k = true) : a ≤ n + k :=
  Nat.le_trans g (Nat.le_trans (Nat.add_le_add_right h l) (by rw [Nat.add_assoc n, Nat.add_assoc n]; exact Nat.add_le_add_left (k0 e) n))
theorem k7 {a k l c : Nat} (e : Nat.ble (k + l) c = true) (h : a ≤ c - l - k) : a + k + l ≤ c := by have := k0 e; omega
theorem k8 {a b i j c : Nat} (g : a ≤ i) (h : b ≤ j) (e : Nat.ble (i + 1) c = true) (f : Nat.ble (j + 1) c = true) : max a b + 1 ≤ c :=
  Nat.succ_le_of_lt (Nat.max_lt.2 ⟨k1' g e, k1' h f⟩)
theorem m1 {a k x c : Nat} (e : Nat.ble k (a + c) = true) : a * x + k ≤ a * (x + 1) + c :=
  Nat.le_trans (Nat.add_le_add_left (k0 e) _) (Nat.le_of_eq (Nat.add_assoc (a * x) a c).symm)
theorem m1' {a k l x c : Nat} (e : Nat.ble (k + l) (a + c) = true) : a * x + k + l ≤ a * (x + 1) + c := Nat.add_assoc (a * x) k l ▸ m1 e
theorem m1n {a k x : Nat} (e : Nat.ble k a = true) : a * x + k ≤ a * (x + 1) := Nat.add_le_add_left (k0 e) _
theorem m1n' {a k l x : Nat} (e : Nat.ble (k + l) a = true) : a * x + k + l ≤ a * (x + 1) := Nat.add_assoc (a * x) k l ▸ m1n e
theorem m2 {a b x k l c : Nat} (e : Nat.ble (k + l) (b + c) = true) (f : Nat.ble a b = true) : a * x + k + l ≤ b * (x + 1) + c :=
  Nat.le_trans (Nat.add_le_add_right (Nat.add_le_add_right (Nat.mul_le_mul_right x (k0 f)) k) l) (m1' e)
theorem m2n {a b x k : Nat} (e : Nat.ble k b = true) (f : Nat.ble a b = true) : a * x + k ≤ b * (x + 1) :=
  Nat.le_trans (Nat.add_le_add_right (Nat.mul_le_mul_right x (k0 f)) k) (m1n e)
theorem xl {a b c x y : Nat} (f : Nat.ble a b = true) : a * x + c ≤ b * max x y + c := Nat.add_le_add_right (Nat.mul_le_mul (k0 f) (Nat.le_max_left x y)) c
theorem xr {a b c x y : Nat} (f : Nat.ble a b = true) : a * y + c ≤ b * max x y + c := Nat.add_le_add_right (Nat.mul_le_mul (k0 f) (Nat.le_max_right x y)) c
theorem xln {a b x y : Nat} (f : Nat.ble a b = true) : a * x ≤ b * max x y := Nat.mul_le_mul (k0 f) (Nat.le_max_left x y)
theorem xrn {a b x y : Nat} (f : Nat.ble a b = true) : a * y ≤ b * max x y := Nat.mul_le_mul (k0 f) (Nat.le_max_right x y)
theorem lts {p : Nat → Prop} {n v : Nat} (h : v < n + 1) (k : v < n → p v) (e : p n) : p v :=
  (Nat.lt_or_eq_of_le (Nat.le_of_lt_succ h)).elim k (fun q => q ▸ e)
theorem lt0 {p : Nat → Prop} {v : Nat} (h : v < 1) (e : p 0) : p v := lts h (fun h => absurd h (Nat.not_lt_zero v)) e
end Og
end
section
set_option maxRecDepth 100000
namespace Og
open PySem PySem.W PyProof.Rows PySem.Calls PySem.Spec
noncomputable abbrev Fro := Addr → Option Obj
noncomputable abbrev tupO (vs : List Value) (n : Nat) : Obj := { cls := .type "tuple", data := .seq vs.toArray n }
noncomputable abbrev lstO (vs : List Value) (n : Nat) : Obj := { cls := .type "list", data := .seq vs.toArray n }
noncomputable abbrev dctO (es : List DictEntry) (n : Nat) : Obj := { cls := .type "dict", data := .dict es.toArray n }
noncomputable abbrev itmO (d : Addr) : Obj := { cls := .type "dict_items", data := .fields #[.ref d] }
noncomputable abbrev rngO (a b : Int) (t u v : Tok) : Obj := { cls := .type "range", data := .fields #[.int a t, .int b u, .int 1 v] }
noncomputable abbrev celO (v : Value) : Obj := { cls := .type "cell", data := .cell (some v) }
section
variable (prog : Program) (w : World)
/-- an entry of a dict bears the key k -/
noncomputable def KeyR (F : Fro) : AV → DictEntry → Prop
  | .int i, e => (∃ t, e.key = .int i t) ∧ e.hash = (intKind prog w).hash i
  | .str x, e => (∃ t, e.key = .str x t) ∧ e.hash = (strKind prog w).hash x
  | .tup l, e => ∃ a vs n is, e.key = .ref a ∧ F a = some (tupO vs n) ∧ ItemsAre (intKind prog w) is vs ∧ l = is.map AV.int ∧ e.hash = tupleKeyHash (intKind prog w) is
  | _, _ => False
inductive KKind where | int | str | tup
noncomputable def KKind.has : KKind → AV → Prop
  | .int, k => ∃ i, k = .int i
  | .str, k => ∃ x, k = .str x
  | .tup, k => ∃ is : List Int, k = .tup (is.map AV.int)
structure KeysR (F : Fro) (es : List DictEntry) (ks : List AV) : Prop where
  pairs : Paired (fun e k => KeyR prog w F k e) es ks
  nodup : ks.Nodup
  kind : ∃ κ : KKind, ∀ k ∈ ks, κ.has k
noncomputable def lamQ : Str := "_law_truths.<locals>.<lambda>"
mutual
inductive Rel (F : Fro) (ρ : List Addr) : Value → AV → Prop
  | none : Rel F ρ .none .none
  | bool (b) : Rel F ρ (.bool b) (.bool b)
  | int (i t) : Rel F ρ (.int i t) (.int i)
  | str (x t) : Rel F ρ (.str x t) (.str x)
  | tup {a vs l n} : F a = some (tupO vs n) → RelL F ρ vs l → Rel F ρ (.ref a) (.tup l)
  | lst {a vs l n} : F a = some (lstO vs n) → RelL F ρ vs l → Rel F ρ (.ref a) (.lst l)
  | dct {a es n ks us vs} : F a = some (dctO es n) → (a == sysModules) = false → KeysR prog w F es ks → us = es.map (·.val) → RelL F ρ us vs → Rel F ρ (.ref a) (.dct ks vs)
  | itm {a d es n ks us vs} : F a = some (itmO d) → F d = some (dctO es n) → (d == sysModules) = false → KeysR prog w F es ks → us = es.map (·.val) → RelL F ρ us vs → Rel F ρ (.ref a) (.itm ks vs)
  | rng {a i j t u v} : F a = some (rngO i j t u v) → Rel F ρ (.ref a) (.rng i j)
  | inst {a c l dx} : F a = some (instObj c dx) → ρ[l]? = some dx → Rel F ρ (.ref a) (.inst c l)
  | loc {a l} : ρ[l]? = some a → Rel F ρ (.ref a) (.loc l)
  | val (v) : Rel F ρ v (.val v)
  | clo {a params sc body cl pm c' ctv o us t ns cs vs fvs} : F a = some (kla_obj "<lambda>" lamQ params body sc cl pm c' ctv) →
      F c' = some o → o.data = .fields us → us[1]? = some (.str lamQ t) → cl = ns.zip cs → ns.length = cs.length →
      Paired (fun c v => ∃ o, F c = some o ∧ o.data = .cell (some v)) cs vs → RelL F ρ vs fvs → Rel F ρ (.ref a) (.clo params sc body ns fvs)
inductive RelL (F : Fro) (ρ : List Addr) : List Value → List AV → Prop
  | nil : RelL F ρ [] []
  | cons {v a vs l} : Rel F ρ v a → RelL F ρ vs l → RelL F ρ (v :: vs) (a :: l)
end
end
/-- what a related value is, by the shape of the other -/
noncomputable def RelInv (prog : Program) (w : World) (F : Fro) (ρ : List Addr) (v : Value) : AV → Prop
  | .none => v = .none
  | .bool b => v = .bool b
  | .int i => ∃ t, v = .int i t
  | .str x => ∃ t, v = .str x t
  | .tup l => ∃ a vs n, v = .ref a ∧ F a = some (tupO vs n) ∧ RelL prog w F ρ vs l
  | .lst l => ∃ a vs n, v = .ref a ∧ F a = some (lstO vs n) ∧ RelL prog w F ρ vs l
  | .dct ks vs => ∃ a es n us, v = .ref a ∧ F a = some (dctO es n) ∧ (a == sysModules) = false ∧ KeysR prog w F es ks ∧ us = es.map (·.val) ∧ RelL prog w F ρ us vs
  | .itm ks vs => ∃ a d es n us, v = .ref a ∧ F a = some (itmO d) ∧ F d = some (dctO es n) ∧ (d == sysModules) = false ∧ KeysR prog w F es ks ∧ us = es.map (·.val) ∧ RelL prog w F ρ us vs
  | .rng i j => ∃ a t u x, v = .ref a ∧ F a = some (rngO i j t u x)
  | .inst c l => ∃ a dx, v = .ref a ∧ F a = some (instObj c dx) ∧ ρ[l]? = some dx
  | .loc l => ∃ a, v = .ref a ∧ ρ[l]? = some a
  | .val u => v = u
  | .clo .. => True
theorem Rel.inv {prog : Program} {w : World} {F : Fro} {ρ : List Addr} {v : Value} {a : AV} (R : Rel prog w F ρ v a) : RelInv prog w F ρ v a := by
  cases R with
  | none => exact rfl
  | bool b => exact rfl
  | int i t => exact ⟨_, rfl⟩
  | str x t => exact ⟨_, rfl⟩
  | tup h1 h2 => exact Og.I33 _ _ _ rfl h1 h2
  | lst h1 h2 => exact Og.I33 _ _ _ rfl h1 h2
  | dct h1 h2 h3 h4 h5 => exact ⟨_, _, _, _, rfl, h1, h2, h3, h4, h5⟩
  | itm h1 h2 h3 h4 h5 h6 => exact ⟨_, _, _, _, _, rfl, h1, h2, h3, h4, h5, h6⟩
  | rng h1 => exact Og.I42 _ _ _ _ rfl h1
  | inst h1 h2 => exact Og.I23 _ _ rfl h1 h2
  | loc h1 => exact Og.I12 _ rfl h1
  | val v => exact rfl
  | clo => exact trivial
section
variable {prog : Program} {w : World} {F F' : Fro} {ρ ρ' : List Addr}
theorem KeyR.mono (hs : ∀ a o, F a = some o → F' a = some o) {k : AV} {e : DictEntry} (h : KeyR prog w F k e) : KeyR prog w F' k e := by
  cases k <;> try exact h
  refine O43 h ?_; clear h; rintro a vs n is h1 h2 r
  exact Og.I43 a vs n is h1 (hs _ _ h2) r
theorem Paired.map' {α β : Type} {R S : α → β → Prop} (f : ∀ a b, R a b → S a b) {l : List α} {m : List β} (h : Paired R l m) : Paired S l m := by
  induction h with
  | nil => exact .nil
  | cons h _ ih => exact .cons (f _ _ h) ih
theorem KeysR.mono (hs : ∀ a o, F a = some o → F' a = some o) {es : List DictEntry} {ks : List AV} (h : KeysR prog w F es ks) : KeysR prog w F' es ks :=
  ⟨Paired.map' (fun D0 D1 q => KeyR.mono hs q) h.pairs, h.nodup, h.kind⟩
theorem Rel.mono (hs : ∀ a o, F a = some o → F' a = some o) (hr : ∀ (i : Nat) (a : Addr), ρ[i]? = some a → ρ'[i]? = some a) {v : Value} {a : AV} (h : Rel prog w F ρ v a) : Rel prog w F' ρ' v a :=
  Rel.rec (motive_1 := fun v a D0 => Rel prog w F' ρ' v a) (motive_2 := fun vs l D0 => RelL prog w F' ρ' vs l)
    .none .bool .int .str (fun h D0 r => .tup (hs _ _ h) r) (fun h D0 r => .lst (hs _ _ h) r) (fun h q k e D0 r => .dct (hs _ _ h) q (k.mono hs) e r)
    (fun h d q k e D0 r => .itm (hs _ _ h) (hs _ _ d) q (k.mono hs) e r) (fun h => .rng (hs _ _ h)) (fun h k => .inst (hs _ _ h) (hr _ _ k)) (fun k => .loc (hr _ _ k)) .val
    (fun h1 h2 h3 h4 h5 h6 h7 D0 r => .clo (hs _ _ h1) (hs _ _ h2) h3 h4 h5 h6 (Paired.map' (fun D0 D1 q => Og.O12 q fun o q1 q2 => ⟨o, hs _ _ q1, q2⟩) h7) r)
    .nil (fun D0 D1 h r => .cons h r) h
/-- lists of related values: the induction -/
theorem RelL.ind {Q : List Value → List AV → Prop} (h0 : Q [] []) (h1 : ∀ {v a vs l}, Rel prog w F ρ v a → RelL prog w F ρ vs l → Q vs l → Q (v :: vs) (a :: l)) :
    ∀ {vs : List Value} {l : List AV}, RelL prog w F ρ vs l → Q vs l
  | _, _, .nil => h0
  | _, _, .cons h r => h1 h r (RelL.ind h0 h1 r)
theorem RelL.nilR {vs : List Value} (h : RelL prog w F ρ vs []) : vs = [] := by cases h; rfl
theorem RelL.nilL {l : List AV} (h : RelL prog w F ρ [] l) : l = [] := by cases h; rfl
theorem RelL.consR {vs : List Value} {a : AV} {l : List AV} (h : RelL prog w F ρ vs (a :: l)) : ∃ v us, vs = v :: us ∧ Rel prog w F ρ v a ∧ RelL prog w F ρ us l := by
  cases h with
  | cons h r => exact ⟨_, _, rfl, h, r⟩
theorem RelL.consL {v : Value} {vs : List Value} {l : List AV} (h : RelL prog w F ρ (v :: vs) l) : ∃ a m, l = a :: m ∧ Rel prog w F ρ v a ∧ RelL prog w F ρ vs m := by
  cases h with
  | cons h r => exact Og.I23 _ _ rfl h r
theorem RelL.mono (hs : ∀ a o, F a = some o → F' a = some o) (hr : ∀ (i : Nat) (a : Addr), ρ[i]? = some a → ρ'[i]? = some a) {vs : List Value} {l : List AV} (h : RelL prog w F ρ vs l) : RelL prog w F' ρ' vs l :=
  RelL.ind (Q := RelL prog w F' ρ') .nil (fun h D0 r => .cons (Rel.mono hs hr h) r) h
theorem RelL.length {vs : List Value} {l : List AV} (h : RelL prog w F ρ vs l) : vs.length = l.length :=
  RelL.ind (Q := fun vs l => vs.length = l.length) rfl (fun D0 D1 r => congrArg Nat.succ r) h
theorem RelL.append {vs us : List Value} {l m : List AV} (h : RelL prog w F ρ vs l) (k : RelL prog w F ρ us m) : RelL prog w F ρ (vs ++ us) (l ++ m) :=
  RelL.ind (Q := fun vs l => RelL prog w F ρ (vs ++ us) (l ++ m)) k (fun h D0 r => .cons h r) h
theorem RelL.get {vs : List Value} {l : List AV} (h : RelL prog w F ρ vs l) : ∀ {i : Nat} {a : AV}, l[i]? = some a → ∃ v, vs[i]? = some v ∧ Rel prog w F ρ v a :=
  RelL.ind (Q := fun vs l => ∀ {i : Nat} {a : AV}, l[i]? = some a → ∃ v, vs[i]? = some v ∧ Rel prog w F ρ v a) (fun h => nos h)
    (fun {v _ _ _} h _ r {i} {_} q => match i with
      | 0 => Og.I12 v rfl (Option.some.inj q ▸ h)
      | _ + 1 => r q) h
theorem RelL.get' {vs : List Value} {l : List AV} (h : RelL prog w F ρ vs l) : ∀ {i : Nat} {v : Value}, vs[i]? = some v → ∃ a, l[i]? = some a ∧ Rel prog w F ρ v a :=
  RelL.ind (Q := fun vs l => ∀ {i : Nat} {v : Value}, vs[i]? = some v → ∃ a, l[i]? = some a ∧ Rel prog w F ρ v a) (fun h => nos h)
    (fun {_ a _ _} h _ r {i} {_} q => match i with
      | 0 => Og.I12 a rfl (Option.some.inj q ▸ h)
      | _ + 1 => r q) h
theorem RelL.take {vs : List Value} {l : List AV} (n : Nat) (h : RelL prog w F ρ vs l) : RelL prog w F ρ (vs.take n) (l.take n) :=
  RelL.ind (Q := fun vs l => ∀ n, RelL prog w F ρ (vs.take n) (l.take n)) (fun n => by rw [List.take_nil, List.take_nil]; exact .nil)
    (fun h D0 r n => match n with
      | 0 => .nil
      | n + 1 => .cons h (r n)) h n
theorem RelL.drop {vs : List Value} {l : List AV} (n : Nat) (h : RelL prog w F ρ vs l) : RelL prog w F ρ (vs.drop n) (l.drop n) :=
  RelL.ind (Q := fun vs l => ∀ n, RelL prog w F ρ (vs.drop n) (l.drop n)) (fun n => by rw [List.drop_nil, List.drop_nil]; exact .nil)
    (fun h k r n => match n with
      | 0 => .cons h k
      | n + 1 => r n) h n
end
/-- what stands at a store place -/
noncomputable def MoR (prog : Program) (w : World) (F : Fro) (ρ : List Addr) (h : Heap) (a : Addr) : MO → Prop
  | .list l => ∃ vs n, h.get? a = some (lstO vs n) ∧ RelL prog w F ρ vs l
  | .dict ks vs => ∃ es n, h.get? a = some (dctO es n) ∧ KeysR prog w F es ks ∧ RelL prog w F ρ (es.map (·.val)) vs
  | .attrs ks vs => ∃ es n, h.get? a = some (dctO es n) ∧ Paired (fun e x => (∃ t, e.key = Value.str x t) ∧ e.hash = PyData.keyHash w.params x) es ks ∧ ks.Nodup ∧ RelL prog w F ρ (es.map (·.val)) vs
/-- the fixed ground: the written part, the top's facts, the maker's table -/
structure Base (prog : Program) (w : World) (K : Frag) (p : Program) (loose : List Str) (mg mb : Str → Option Value) (B : Heap) (cL P : Addr) : Prop where
  X : K.In B
  T : TopRead p loose mg mb B
  hd : CodeHd B cL P
  bl : B.BuiltinsAt mg P
  none : B.get? P = .none
  mods : ∃ o, B.get? sysModules = some o
structure GR (prog : Program) (w : World) (B : Heap) (P : Addr) (F : Fro) (ρ : List Addr) (st : Sto) (h : Heap) : Prop where
  base : ∀ a o, B.get? a = some o → F a = some o
  mods : ∃ o, F sysModules = some o
  fz : ∀ a o, F a = some o → h.get? a = some o ∧ a ≠ P
  len : ρ.length = st.length
  nd : ρ.Nodup
  off : ∀ a ∈ ρ, F a = none ∧ a ≠ P
  objs : ∀ (i : Nat) a m, ρ[i]? = some a → st[i]? = some m → MoR prog w F ρ h a m
  tab : ∃ ps, h.get? P = some (tabObj ps) ∧ TriplesOk ps.toList ∧ ∀ pos cv, codeAmong pos ps.toList = some cv → ∃ c o vs t, cv = .ref c ∧ F c = some o ∧ o.data = .fields vs ∧ vs[1]? = some (.str lamQ t)
structure Step (P : Addr) (X : Addr → Prop) (F : Fro) (ρ : List Addr) (h : Heap) (F' : Fro) (ρ' : List Addr) (h' : Heap) : Prop where
  sub : ∀ a o, F a = some o → F' a = some o
  new : ∀ a o, F' a = some o → F a = some o ∨ h.get? a = none ∨ X a
  pre : ∃ ext, ρ' = ρ ++ ext ∧ ∀ a ∈ ext, h.get? a = none
  keep : ∀ a o, h.get? a = some o → a ∉ ρ → a ≠ P → ¬ X a → h'.get? a = some o
  live : ∀ a o, h.get? a = some o → ∃ o', h'.get? a = some o'
theorem Step.refl {P : Addr} {X : Addr → Prop} {F : Fro} {ρ : List Addr} {h : Heap} : Step P X F ρ h F ρ h :=
  ⟨fun D0 D1 e => e, fun D0 D1 e => .inl e, ⟨[], by simp⟩, fun D0 D1 e D2 D3 D4 => e, fun D0 o e => ⟨o, e⟩⟩
theorem Step.refs {P : Addr} {X : Addr → Prop} {F F' : Fro} {ρ ρ' : List Addr} {h h' : Heap} (s : Step P X F ρ h F' ρ' h') : ∀ (i : Nat) (a : Addr), ρ[i]? = some a → ρ'[i]? = some a := by
  refine O12 s.pre ?_; clear s; rintro ext rfl _
  intro i a e
  rw [List.getElem?_append_left (List.getElem?_eq_some_iff.mp e).1]; exact e
theorem Step.rel {prog : Program} {w : World} {P : Addr} {X : Addr → Prop} {F F' : Fro} {ρ ρ' : List Addr} {h h' : Heap} (s : Step P X F ρ h F' ρ' h') {v : Value} {a : AV} (r : Rel prog w F ρ v a) : Rel prog w F' ρ' v a := r.mono s.sub s.refs
theorem Step.relL {prog : Program} {w : World} {P : Addr} {X : Addr → Prop} {F F' : Fro} {ρ ρ' : List Addr} {h h' : Heap} (s : Step P X F ρ h F' ρ' h') {v : List Value} {a : List AV} (r : RelL prog w F ρ v a) : RelL prog w F' ρ' v a := r.mono s.sub s.refs
theorem Step.dead {P : Addr} {X : Addr → Prop} {F F' : Fro} {ρ ρ' : List Addr} {h h' : Heap} (s : Step P X F ρ h F' ρ' h') {a : Addr} (e : h'.get? a = none) : h.get? a = none := by
  cases q : h.get? a with
  | none => rfl
  | some o => obtain ⟨o', e'⟩ := s.live a o q; rw [e] at e'; exact nos e'
theorem Step.trans {P : Addr} {X : Addr → Prop} {F F' F'' : Fro} {ρ ρ' ρ'' : List Addr} {h h' h'' : Heap} (a : Step P X F ρ h F' ρ' h') (b : Step P X F' ρ' h' F'' ρ'' h'') : Step P X F ρ h F'' ρ'' h'' where
  sub := fun x o e => b.sub x o (a.sub x o e)
  new := fun x o e => by
    rcases b.new x o e with q | q | q
    · exact a.new x o q
    · exact .inr (.inl (a.dead q))
    · exact .inr (.inr q)
  pre := by
    refine O12 a.pre ?_; rintro e1 rfl h1
    refine O12 b.pre ?_; rintro e2 rfl h2
    refine Og.I12 (e1 ++ e2) (by rw [List.append_assoc]) (fun x hx => ?_)
    rcases List.mem_append.mp hx with q | q
    · exact h1 x q
    · exact a.dead (h2 x q)
  keep := fun x o e n p q => by
    refine b.keep x o (a.keep x o e n p q) (fun hm => ?_) p q
    refine O12 a.pre ?_; clear a b; rintro e1 rfl h1
    rcases List.mem_append.mp hm with z | z
    · exact n z
    · rw [h1 x z] at e; exact nos e
  live := fun x o e => by
    obtain ⟨o', e'⟩ := a.live x o e
    exact b.live x o' e'
theorem Step.weak {P : Addr} {X Y : Addr → Prop} {F F' : Fro} {ρ ρ' : List Addr} {h h' : Heap} (a : Step P X F ρ h F' ρ' h') (hx : ∀ x, X x → Y x) : Step P Y F ρ h F' ρ' h' :=
  ⟨a.sub, fun x o e => (a.new x o e).imp id (Or.imp id (hx x)), a.pre, fun x o e n p q => a.keep x o e n p fun z => q (hx x z), a.live⟩
theorem Step.touch {P : Addr} {X : Addr → Prop} {F F' : Fro} {ρ ρ' : List Addr} {h h' h'' : Heap} (S : Step P X F ρ h F' ρ' h') (T : Addr → Prop) (hT : ∀ a, T a → h.get? a = none)
    (k : ∀ a o, ¬ T a → h'.get? a = some o → h''.get? a = some o) : Step P X F ρ h F' ρ' h'' :=
  ⟨S.sub, S.new, S.pre, fun a o e n p q => k a o (fun t => by rw [hT a t] at e; exact nos e) (S.keep a o e n p q), fun a o e => by
    obtain ⟨o', e'⟩ := S.live a o e
    exact ⟨o', k a o' (fun t => by rw [hT a t] at e; exact nos e) e'⟩⟩
theorem dead_size (h : Heap) {a : Addr} (ha : h.objs.size ≤ a) : h.get? a = none := by
  cases e : h.get? a with
  | none => rfl
  | some o => exact absurd (Heap.lt_size e) (Nat.not_lt.mpr ha)
end Og
end
section
set_option maxRecDepth 100000
namespace Og
open PySem PySem.W PyProof.Rows PySem.Calls PySem.Spec
noncomputable def VarAt (h : Heap) (env : Env) (x : Str) (v : Value) : Prop :=
  (env.kindOf x = some .local ∧ ∃ m, h.Ns env.locals m ∧ m x = some v) ∨
  ((env.kindOf x = some .cell ∨ env.kindOf x = some .free) ∧ ∃ c, env.cells.lookup x = some c ∧ h.IsCell c (some v))
/-- what stands behind a zip that was made and not yet begun -/
noncomputable def ZipAt (h : Heap) (z TI TO i1 i2 l1 l2 : Addr) : Prop :=
  IsZip h z TI TO .none ∧ IsPair h TI (.ref i1) (.ref i2) ∧ IsPair h TO .none .none ∧ h.IsListIter i1 l1 0 ∧ h.IsListIter i2 l2 0 ∧ ZipApart z TI TO i1 i2 l1 l2
noncomputable def LvR (prog : Program) (w : World) (F : Fro) (ρ : List Addr) (h : Heap) (o : List Addr) (v : Value) : LV → Prop
  | .v a => Rel prog w F ρ v a
  | .ol l => ∃ a vs n, o = [a] ∧ v = .ref a ∧ h.get? a = some (lstO vs n) ∧ RelL prog w F ρ vs l
  | .od ks vs => ∃ a es n, o = [a] ∧ v = .ref a ∧ h.get? a = some (dctO es n) ∧ (a == sysModules) = false ∧ KeysR prog w F es ks ∧ RelL prog w F ρ (es.map (·.val)) vs
  | .oz xs ys => ∃ z TI TO i1 i2 l1 l2 us vs n m, o = [z, TI, TO, i1, i2] ∧ v = .ref z ∧ ZipAt h z TI TO i1 i2 l1 l2 ∧ F l1 = some (lstO us n) ∧ F l2 = some (lstO vs m) ∧ RelL prog w F ρ us xs ∧ RelL prog w F ρ vs ys
/-- the code that may make functions, and its table -/
noncomputable def LamC (P : Addr) (F : Fro) (env : Env) (cx : Cx) : Prop := cx.lam = true → ∃ c, env.code = .ref c ∧ env.qual ++ Str.ofString "<lambda>" = lamQ ∧ ∀ h : Heap, (∀ a o, F a = some o → h.get? a = some o) → CodeHd h c P
theorem LamC.mono {P : Addr} {F F' : Fro} {env : Env} {cx cx' : Cx} (x : LamC P F env cx) (hs : ∀ a o, F a = some o → F' a = some o) (hl : cx'.lam = true → cx.lam = true) : LamC P F' env cx' := fun e =>
  Og.O13 (x (hl e)) fun c q1 q0 q2 => ⟨c, q1, q0, fun h k => q2 h fun a o z => k a o (hs a o z)⟩
structure FR (prog : Program) (w : World) (P : Addr) (F : Fro) (ρ : List Addr) (h : Heap) (env : Env) (cx : Cx) (ow : Str → List Addr) : Prop where
  kind : env.scope.kind = .function
  glob : env.globals = mainGlobals ∧ env.builtins = builtinsNs
  ks : ∀ x k, cx.sc.names.lookup x = some k → k = .globalImplicit ∨ k = .local ∨ k = .cell → env.kindOf x = some k
  free : ∀ x, cx.sc.names.lookup x = some .free → (env.kindOf x = some .free ∨ env.kindOf x = some .cell) ∧ ∃ c, env.cells.lookup x = some c
  lns : ∃ m, h.Ns env.locals m
  var : ∀ x lv, cx.vars.lookup x = some lv → ∃ v, VarAt h env x v ∧ LvR prog w F ρ h (ow x) v lv
  lok : env.locals ∉ ρ ∧ F env.locals = none ∧ env.locals ≠ P
  cell : ∀ x, cx.sc.names.lookup x = some .cell → ∃ c v0, env.cells.lookup x = some c ∧ h.IsCell c v0 ∧ F c = none
  capart : ∀ x y c, cx.sc.names.lookup x = some .cell → env.cells.lookup x = some c → env.cells.lookup y = some c → x = y
  clt : ∀ x c, env.cells.lookup x = some c → ∃ o, h.get? c = some o
  own : ∀ x, ∀ a ∈ ow x, F a = none ∧ a ∉ ρ ∧ a ≠ P ∧ a ≠ env.locals ∧ ∀ y c, env.cells.lookup y = some c → a ≠ c
  oinj : ∀ x y, ∀ a ∈ ow x, a ∈ ow y → x = y
  below : ∀ x, ∀ a ∈ ow x, ∃ o, h.get? a = some o
  lamc : LamC P F env cx
/-- the frame's own addresses: what a last expression may freeze or use up -/
noncomputable def Own (env : Env) (cx : Cx) (ow : Str → List Addr) (a : Addr) : Prop :=
  (∃ x, cx.sc.names.lookup x = some .cell ∧ env.cells.lookup x = some a) ∨ ∃ x, a ∈ ow x
section
variable {prog : Program} {w : World} {B : Heap} {P : Addr} {F F' : Fro} {ρ ρ' : List Addr} {st : Sto} {h h' : Heap} {env : Env} {cx : Cx} {ow : Str → List Addr}
theorem MoR.cell_ne {c a : Addr} {m : MO} {v : Option Value} (M : MoR prog w F ρ h a m) (C : h.IsCell c v) : a ≠ c := by
  rintro rfl
  refine Og.cps fun G kG => ?_
  refine O12 C ?_; clear C; rintro o ho hd
  refine kG ?_
  clear kG
  cases m with
  | list l => refine O22 M ?_; clear M; rintro vs n e _; (replace e := Option.some.inj (ho.symm.trans e); clear ho; subst e); cases hd
  | dict ks vs => refine O22 M ?_; clear M; rintro es n e _; (replace e := Option.some.inj (ho.symm.trans e); clear ho; subst e); cases hd
  | attrs ks vs => refine O22 M ?_; clear M; rintro es n e _; (replace e := Option.some.inj (ho.symm.trans e); clear ho; subst e); cases hd
theorem GR.cell_off (G : GR prog w B P F ρ st h) {c : Addr} {v : Option Value} (C : h.IsCell c v) : c ∉ ρ ∧ c ≠ P := by
  constructor
  · intro hm
    obtain ⟨i, hi, e⟩ := List.getElem_of_mem hm
    have hlt : i < st.length := G.len ▸ hi
    exact MoR.cell_ne (G.objs i c (st[i]'hlt) (by exact (List.getElem?_eq_getElem hi) ▸ e ▸ rfl) (List.getElem?_eq_getElem hlt)) C rfl
  · rintro rfl
    refine O12 G.tab ?_; rintro ps e _
    refine O12 C ?_; clear C; rintro o ho hd
    (replace e := Option.some.inj (ho.symm.trans e); clear ho; subst e); cases hd
theorem IsCell.keep {c : Addr} {v : Option Value} (C : h.IsCell c v) (k : ∀ o, h.get? c = some o → h'.get? c = some o) : h'.IsCell c v :=
  Og.O12 C fun o ho hd => ⟨o, k o ho, hd⟩
theorem Ns.keep {L : Addr} {m : Str → Option Value} (N : h.Ns L m) (k : ∀ o, h.get? L = some o → h'.get? L = some o) : h'.Ns L m :=
  Og.O32 N fun o es ep ho r => ⟨o, es, ep, k o ho, r⟩
theorem VarAt.keep {x : Str} {v : Value} (V : VarAt h env x v) (k1 : ∀ o, h.get? env.locals = some o → h'.get? env.locals = some o)
    (k2 : ∀ c v, h.IsCell c v → ∀ o, h.get? c = some o → h'.get? c = some o) : VarAt h' env x v := by
  rcases V with ⟨hk, m, hn, hv⟩ | ⟨hk, c, hc, hv⟩
  · exact .inl ⟨hk, m, Ns.keep hn k1, hv⟩
  · exact .inr ⟨hk, c, hc, IsCell.keep hv (k2 c _ hv)⟩
theorem IsPair.keep' {a : Addr} {x y : Value} (I : IsPair h a x y) (k : ∀ o, h.get? a = some o → h'.get? a = some o) : IsPair h' a x y := k _ I
theorem ZipAt.keep {z TI TO i1 i2 l1 l2 : Addr} (Z : ZipAt h z TI TO i1 i2 l1 l2) (k : ∀ a ∈ [z, TI, TO, i1, i2], ∀ o, h.get? a = some o → h'.get? a = some o) : ZipAt h' z TI TO i1 i2 l1 l2 := by
  refine O06 Z ?_; clear Z; rintro h1 h2 h3 ⟨o4, e4, r4⟩ ⟨o5, e5, r5⟩ h6
  exact ⟨k z (by simp) _ h1, k TI (by simp) _ h2, k TO (by simp) _ h3, ⟨o4, k i1 (by simp) _ e4, r4⟩, ⟨o5, k i2 (by simp) _ e5, r5⟩, h6⟩
theorem LvR.keep {o : List Addr} {v : Value} {lv : LV} (R : LvR prog w F ρ h o v lv) (hs : ∀ a o, F a = some o → F' a = some o) (hr : ∀ (i : Nat) (a : Addr), ρ[i]? = some a → ρ'[i]? = some a)
    (k : ∀ a ∈ o, ∀ ob, h.get? a = some ob → h'.get? a = some ob) : LvR prog w F' ρ' h' o v lv := by
  cases lv with
  | v a => exact Rel.mono hs hr R
  | ol l => refine O34 R ?_; clear R; rintro a vs n rfl rfl e r; exact Og.I34 a vs n rfl rfl (k a (by simp) _ e) (r.mono hs hr)
  | od ks vs => refine O3_6 R ?_; clear R; rintro a es n rfl rfl e p q r; exact ⟨a, es, n, rfl, rfl, k a (by simp) _ e, p, q.mono hs, r.mono hs hr⟩
  | oz xs ys =>
    refine Og.cps fun G kG => ?_
    obtain ⟨z, TI, TO, i1, i2, l1, l2, us, vs, n, m, rfl, rfl, hz, e1, e2, r1, r2⟩ := R
    refine kG ?_
    clear kG
    exact ⟨z, TI, TO, i1, i2, l1, l2, us, vs, n, m, rfl, rfl, hz.keep k, hs _ _ e1, hs _ _ e2, r1.mono hs hr, r2.mono hs hr⟩
/-- an expression that is not the last leaves the frame as it was -/
theorem FR.step (R : FR prog w P F ρ h env cx ow) (G : GR prog w B P F ρ st h) (S : Step P (fun D0 => False) F ρ h F' ρ' h') : FR prog w P F' ρ' h' env cx ow := by
  obtain ⟨m0, hn0⟩ := R.lns
  have hL : ∃ o, h.get? env.locals = some o := Og.O32 hn0 fun o D0 D1 e D2 => ⟨o, e⟩
  have kL : ∀ o, h.get? env.locals = some o → h'.get? env.locals = some o := fun o e => S.keep _ o e R.lok.1 R.lok.2.2 id
  have kC : ∀ c v, h.IsCell c v → ∀ o, h.get? c = some o → h'.get? c = some o := fun c v C o e => S.keep c o e (G.cell_off C).1 (G.cell_off C).2 id
  have off : ∀ a, (∃ o, h.get? a = some o) → a ∉ ρ → a ∉ ρ' := fun a ha hn hm => by
    refine O12 S.pre ?_; clear S; rintro ext rfl hx
    rcases List.mem_append.mp hm with q | q
    · exact hn q
    · obtain ⟨o, e⟩ := ha; rw [hx a q] at e; exact nos e
  have fre : ∀ a, (∃ o, h.get? a = some o) → F a = none → F' a = none := fun a ha hn => by
    cases q : F' a with
    | none => rfl
    | some o => rcases S.new a o q with z | z | z
                · exact Og.nos (hn.symm.trans z)
                · obtain ⟨o, e⟩ := ha; exact Og.nos (z.symm.trans e)
                · exact z.elim
  refine ⟨R.kind, R.glob, R.ks, R.free, ⟨m0, Ns.keep hn0 kL⟩, fun x lv e => ?_, Og.I03 (off _ hL R.lok.1) (fre _ hL R.lok.2.1) R.lok.2.2, fun x e => ?_, R.capart, fun x c e => (R.clt x c e).elim fun o q => S.live c o q, fun x a ha => ?_, R.oinj, fun x a ha => (R.below x a ha).elim fun o q => S.live a o q, R.lamc.mono S.sub id⟩
  · refine O12 (R.var x lv e) ?_; rintro v V L
    exact Og.I12 v (V.keep kL kC) (L.keep S.sub S.refs fun a ha ob q => S.keep a ob q (R.own x a ha).2.1 (R.own x a ha).2.2.1 id)
  · refine O23 (R.cell x e) ?_; rintro c v0 e1 e2 e3
    exact ⟨c, v0, e1, IsCell.keep e2 (kC c v0 e2), fre c (Og.O12 e2 fun o q D0 => ⟨o, q⟩) e3⟩
  · refine O04 (R.own x a ha) ?_; rintro h1 h2 h3 h4
    exact Og.I04 (fre a (R.below x a ha) h1) (off a (R.below x a ha) h2) h3 h4
end
/-- how a relation of the ground goes on -/
theorem GR.alloc {prog : Program} {w : World} {B : Heap} {P : Addr} {F : Fro} {ρ : List Addr} {st : Sto} {h : Heap} (G : GR prog w B P F ρ st h) {o : Obj} (hf : o.isFreed = false) :
    ∃ F', GR prog w B P F' ρ st (h.push o) ∧ Step P (fun D0 => False) F ρ h F' ρ (h.push o) ∧ F' h.objs.size = some o := by
  have hPlt : P < h.objs.size := by refine O12 G.tab ?_; rintro ps e _; exact Heap.lt_size e
  have hne : ∀ a o', F a = some o' → a ≠ h.objs.size := fun a o' e => Nat.ne_of_lt (Heap.lt_size (G.fz a o' e).1)
  refine Og.I13 (fun a => if a = h.objs.size then some o else F a) ⟨?_, ?_, ?_, G.len, G.nd, ?_, ?_, ?_⟩ ⟨?_, ?_, ⟨[], by simp⟩, ?_, ?_⟩ (if_pos rfl)
  · intro a o' e
    have e' := G.base a o' e
    refine (?_ : (if a = h.objs.size then some o else F a) = some o')
    exact (if_neg (hne a o' e')) ▸ e'
  · obtain ⟨om, em⟩ := G.mods
    exact ⟨om, by show (if sysModules = h.objs.size then some o else F sysModules) = some om; exact (if_neg (hne _ om em)) ▸ em⟩
  · intro a o' e
    by_cases q : a = h.objs.size
    · subst q
      have : some o = some o' := by simpa using e
      (replace this := Option.some.inj this; clear e; subst this)
      exact ⟨Heap.get?_push_size _ hf, Nat.ne_of_gt hPlt⟩
    · have e' : F a = some o' := by simpa [q] using e
      exact ⟨Heap.get?_push_of_some _ (G.fz a o' e').1, (G.fz a o' e').2⟩
  · intro a ha
    obtain ⟨h1, h2⟩ := G.off a ha
    obtain ⟨i, hi, e⟩ := List.getElem_of_mem ha
    have hlt : i < st.length := G.len ▸ hi
    have M := G.objs i a (st[i]'hlt) (by exact (List.getElem?_eq_getElem hi) ▸ e ▸ rfl) (List.getElem?_eq_getElem hlt)
    have hal : a < h.objs.size := by
      cases hm : st[i]'hlt with
      | list l => replace M := hm ▸ M; refine O22 M ?_; clear M; rintro vs n e _; exact Heap.lt_size e
      | dict ks vs => rw [hm] at M; refine O22 M ?_; clear M; rintro vs n e _; exact Heap.lt_size e
      | attrs ks vs => rw [hm] at M; refine O22 M ?_; clear M; rintro vs n e _; exact Heap.lt_size e
    exact ⟨by show (if a = h.objs.size then some o else F a) = none; exact (if_neg (Nat.ne_of_lt hal)) ▸ h1, h2⟩
  · intro i a m e1 e2
    have M := G.objs i a m e1 e2
    have hs : ∀ a o', F a = some o' → (if a = h.objs.size then some o else F a) = some o' := fun a o' e => by exact (if_neg (hne a o' e)) ▸ e
    cases m with
    | list l => refine O22 M ?_; clear M; rintro vs n e r; exact Og.I22 vs n (Heap.get?_push_of_some _ e) (r.mono hs fun D0 D1 z => z)
    | dict ks vs => refine O23 M ?_; clear M; rintro es n e k r; exact Og.I23 es n (Heap.get?_push_of_some _ e) (k.mono hs) (r.mono hs fun D0 D1 z => z)
    | attrs ks vs => refine O24 M ?_; clear M; rintro es n e k d r; exact Og.I24 es n (Heap.get?_push_of_some _ e) k d (r.mono hs fun D0 D1 z => z)
  · refine O13 G.tab ?_; rintro ps e t q
    refine Og.I13 ps (Heap.get?_push_of_some _ e) t (fun pos cv z => ?_)
    refine O43 (q pos cv z) ?_; rintro c oc vs tt z1 z2 z3
    exact Og.I43 c oc vs tt z1 (by show (if c = h.objs.size then some o else F c) = some oc; exact (if_neg (hne c oc z2)) ▸ z2) z3
  · intro a o' e; show (if a = h.objs.size then some o else F a) = some o'; exact (if_neg (hne a o' e)) ▸ e
  · intro a o' e
    by_cases q : a = h.objs.size
    · exact .inr (.inl (dead_size h (Nat.le_of_eq q.symm)))
    · exact .inl (by simpa [q] using e)
  · exact fun a o' e D0 D1 D2 => Heap.get?_push_of_some _ e
  · exact fun a o' e => ⟨o', Heap.get?_push_of_some _ e⟩
end Og
end
section
set_option maxRecDepth 100000
namespace Og
open PySem PySem.W PyProof.Rows PySem.Calls PySem.Spec
/-! ## what the written part says of classes, functions, globals -/
noncomputable def dFunc : Data → Option FuncData
  | .func fd => some fd
  | _ => none
theorem dFunc_eq {d : Data} {fd : FuncData} (h : dFunc d = some fd) : d = .func fd := by cases d <;> first | exact nos h | exact congrArg _ (Option.some.inj h)
noncomputable def vRef : Value → Option Addr
  | .ref a => some a
  | _ => none
theorem vRef_eq {v : Value} {a : Addr} (h : vRef v = some a) : v = .ref a := by cases v <;> first | exact nos h | exact congrArg _ (Option.some.inj h)
noncomputable def oRef (o : Option (Option Value)) : Option Addr := (o.bind id).bind vRef
theorem oRef_eq {o : Option (Option Value)} {a : Addr} (h : oRef o = some a) : o = some (some (.ref a)) := by
  cases o with
  | none => exact nos h
  | some o => cases o with
    | none => exact nos h
    | some v => exact congrArg (fun v => some (some v)) (vRef_eq h)
section
variable (K : Frag)
noncomputable def fnK (a : Addr) : Option FuncData := (K.lookup a).bind fun o => (dFunc o.data).bind fun fd =>
    if fd.closure.isEmpty && fd.globals == mainGlobals && fd.builtins == builtinsNs && fd.defaults == .none && fd.kwdefaults == .none && codeIn K fd.code fd.qualname &&
      fd.params.posonlyargs.isEmpty && fd.params.vararg.isNone && fd.params.kwonlyargs.isEmpty && fd.params.kwarg.isNone &&
      !fd.scope.isGenerator && !fd.scope.isCoroutine && fd.scope.kind == .function then some fd else none
noncomputable def methK (c : Addr) (name : Str) : Option Addr := (oRef (findIn K (.ref c) name)).bind fun f => if plainGet K c name && isFn K (.ref f) then some f else none
noncomputable def attrK (c : Addr) (name : Str) : Bool := plainGet K c name && hasDictIn K c && (match findIn K (.ref c) name with
  | some attr => noGet K attr
  | none => false)
noncomputable def storK (c : Addr) (name : Str) : Bool := plainOver K c && takerIn K c name == some none && (clsIn K c).any (·.hasDict) &&
  findIn K (.ref c) "__setattr__" == some (some (.builtin "object.__setattr__"))
noncomputable def initK (c : Addr) : Option Addr := (oRef (findIn K (.ref c) "__init__")).bind fun f => if makesIn K c && isFn K (.ref f) then some f else none
/-- a value of the top as an abstract one -/
noncomputable def avK : Nat → Value → Option AV
  | _, .int i _ => some (.int i)
  | _, .ref a => (match K.lookup a with
    | some ⟨_, _, .func _, _⟩ => some (.val (.ref a))
    | some ⟨_, _, .cls _, _⟩ => some (.val (.ref a))
    | _ => none)
  | _, _ => none
noncomputable def avT : Nat → Value → Option AV
  | _, .int i _ => some (.int i)
  | 0, _ => none
  | n + 1, .ref a => (match K.lookup a with
    | some ⟨.type t, none, .seq vs _, sl⟩ => if t == "tuple" && sl.isEmpty then (vs.toList.mapM (avT n)).map .tup else none
    | _ => none)
  | _, _ => none
noncomputable def glK (x : Str) : Option AV := match nsIn K mainGlobals x with
  | some (some v) => (match avK K 0 v with
    | some a => some a
    | none => avT K 4 v)
  | some none => if x == ("__name__" : Str) then none else (bootBuiltins x).map .val
  | none => none
end
section
variable (K : Frag)
noncomputable def freshName (cx : Cx) (x : Str) : Bool := (cx.vars.lookup x).isNone && cx.sc.names.lookup x == some .globalImplicit
/-- the names that a target binds, the values in order -/
noncomputable def bindT (cx : Cx) (t : Expr) (a : AV) : Option Cx := vw t none (nm := fun x D0 => cx.put x (.v a))
noncomputable def bindTs : Cx → List Expr → List AV → Option Cx
  | cx, [], [] => some cx
  | cx, t :: ts, a :: l => match bindT cx t a with
    | some cx1 => bindTs cx1 ts l
    | none => none
  | _, _, _ => none
noncomputable def seqOf : AV → Option (List AV)
  | .tup l => some l
  | .lst l => some l
  | _ => none
noncomputable def assignT (cx : Cx) (t : Expr) (a : AV) : Option Cx := vw t none (nm := fun x D0 => cx.put x (.v a)) (tu := fun ts D0 D1 => match seqOf a with
    | some l => if ts.length == l.length && decide (ts.length ≤ 8) then bindTs cx ts l else none
    | none => none)
noncomputable def shared (cx : Cx) (x : Str) : Bool := cx.sc.names.lookup x == some .cell || cx.sc.names.lookup x == some .free
noncomputable def compVars (cx : Cx) (sc : Scope) : Cx := ⟨sc, sc.names.filterMap fun p => if p.2 == .free then (match cx.vars.lookup p.1 with
  | some (.v a) => some (p.1, LV.v a)
  | _ => none) else none, false⟩
noncomputable def freeOk (cx : Cx) (sc : Scope) : Bool := sc.names.all fun y => y.2 != .free || shared cx y.1
noncomputable def compOk (sc : Scope) : Bool := sc.kind == .function && sc.names.all (fun y => sc.names.lookup y.1 == some y.2)
noncomputable def notVal : AV → Bool
  | .val _ => false
  | _ => true
noncomputable def baseOk (e : Expr) : Bool := vw e true (call := fun f a k D0 => !((asNm f).isSome && a.isEmpty && k.isEmpty))
noncomputable def notStar (e : Expr) : Bool := vw e true (star := fun D0 D1 => false)
noncomputable def isSet (e : Expr) : Bool := vw e false (st := fun D0 D1 D2 => true)
theorem isSet_ne {e : Expr} (h : isSet e = false) : ∀ x y z, e ≠ .Set x y z := by
  rintro x y z rfl
  cases h
end
end Og
end
section
set_option maxRecDepth 100000
namespace Og
open PySem PySem.W PyProof.Rows PySem.Calls PySem.Spec PySem.SeqAt
section
variable {prog : Program} {w : World} {F : Fro} {ρ : List Addr} {h : Heap}
theorem isTuple_of {F : Fro} {h : Heap} (fz : ∀ a o, F a = some o → h.get? a = some o) {a : Addr} {vs : List Value} {n : Nat} (e : F a = some (tupO vs n)) : h.IsTuple a vs.toArray := ⟨_, fz _ _ e, rfl, n, rfl⟩
theorem isTup_of {F : Fro} {h : Heap} (fz : ∀ a o, F a = some o → h.get? a = some o) {a : Addr} {vs : List Value} {n : Nat} (e : F a = some (tupO vs n)) : IsTup h a vs.toArray := ⟨_, fz _ _ e, rfl, n, rfl⟩
theorem isList_of {F : Fro} {h : Heap} (fz : ∀ a o, F a = some o → h.get? a = some o) {a : Addr} {vs : List Value} {n : Nat} (e : F a = some (lstO vs n)) : h.IsList a vs.toArray := ⟨_, fz _ _ e, rfl, n, rfl⟩
theorem tupO_inj {vs us : List Value} {n m : Nat} (e : tupO vs n = tupO us m) : vs = us := by
  injection e with _ _ e3 _
  injection e3 with e4 _
  exact congrArg Array.toList e4
theorem lstO_inj {vs us : List Value} {n m : Nat} (e : lstO vs n = lstO us m) : vs = us := by
  injection e with _ _ e3 _
  injection e3 with e4 _
  exact congrArg Array.toList e4
noncomputable def EqS (prog : Program) (w : World) (F : Fro) (ρ : List Addr) (n : Nat) (f : AV → AV → Option Bool) : Prop :=
  ∀ a b r, f a b = some r → ∀ v u, Rel prog w F ρ v a → Rel prog w F ρ u b → (v = u → r = true) ∧ ∀ (A : Around) (s : Shared), (∀ a o, F a = some o → s.heap.get? a = some o) → A.units + n < cLine → EqAt A s v u r ∧ RcAt A s v u r ∧ RcNeAt A s v u (!r)
theorem eq0_sound (n : Nat) : EqS prog w F ρ n eq0 := by
  intro a b r e v u Rv Ru
  cases a <;> try exact nos e
  · obtain ⟨hb, e⟩ := if_some e
    refine Og.cps fun G kG => ?_
    replace Ru := (isNoneA_eq hb) ▸ Ru
    refine kG ?_
    clear kG
    rw [Rv.inv, Ru.inv, ← Option.some.inj e]
    exact ⟨fun D0 => rfl, fun A s D0 D1 => Og.I03 (EqAt.same _) RcAt.none_none RcNeAt.none_none⟩
  · refine O12 (Option.map_eq_some_iff.mp e) ?_; rintro y e1 e2
    replace Ru := (asBool_eq e1) ▸ Ru
    refine Rv.inv ▸ Ru.inv ▸ e2 ▸ ?_
    exact ⟨fun q => by clear e1 e2 Ru; cases q; simp, fun A s D0 D1 => Og.I03 (EqAt.bool_bool _ _) (RcAt.bool_bool _ _) (RcNeAt.bool_bool _ _)⟩
  · refine O12 (Option.map_eq_some_iff.mp e) ?_; rintro y e1 e2
    replace Ru := (asInt_eq e1) ▸ Ru
    obtain ⟨t1, rfl⟩ := Rv.inv
    obtain ⟨t2, rfl⟩ := Ru.inv
    refine e2 ▸ ?_
    exact ⟨fun q => by cases q; simp, fun A s D0 D1 => Og.I03 (EqAt.int_int _ _ _ _) (RcAt.int_int _ _ _ _) (RcNeAt.int_int _ _ _ _)⟩
  · refine O12 (Option.map_eq_some_iff.mp e) ?_; rintro y e1 e2
    replace Ru := (asStr_eq e1) ▸ Ru
    obtain ⟨t1, rfl⟩ := Rv.inv
    obtain ⟨t2, rfl⟩ := Ru.inv
    refine e2 ▸ ?_
    exact ⟨fun q => by cases q; simp, fun A s D0 D1 => Og.I03 (EqAt.str_str _ _ _ _) (RcAt.str_str _ _ _ _) (RcNeAt.str_str _ _ _ _)⟩
theorem relL_nil {vs : List Value} (V : RelL prog w F ρ vs []) : vs = [] := by cases V; rfl
theorem relL_cons {vs : List Value} {a : AV} {l : List AV} (V : RelL prog w F ρ vs (a :: l)) : ∃ v us, vs = v :: us ∧ Rel prog w F ρ v a ∧ RelL prog w F ρ us l := by
  cases V with
  | cons h r => exact ⟨_, _, rfl, h, r⟩
theorem eqLf_at {n : Nat} {f : AV → AV → Option Bool} (hf : EqS prog w F ρ n f) : ∀ (l m : List AV) (r : Bool), eqLf f l m = some r → ∀ vs us, RelL prog w F ρ vs l → RelL prog w F ρ us m →
    (vs = us → r = true) ∧ ∃ e : Nat → Bool, r = (List.range (min vs.length us.length)).all e ∧
      ∀ (A : Around) (s : Shared), (∀ a o, F a = some o → s.heap.get? a = some o) → A.units + n < cLine → ∀ j v u, vs[j]? = some v → us[j]? = some u → EqAt A s v u (e j) := by
  intro l
  induction l with
  | nil =>
    intro m r h vs us hv hu
    (first | obtain rfl := hv.inv | obtain ⟨_, rfl⟩ := hv.inv | cases hv)
    have : r = true := by simpa [eqLf] using h.symm
    clear h; subst this
    exact ⟨fun D0 => rfl, fun D0 => true, by simp, fun D0 D1 D2 D3 j v u e => by exact Og.nos e⟩
  | cons a l ih =>
    intro m r h vs us hv hu
    cases m with
    | nil =>
      cases hu
      have : r = true := by simpa [eqLf] using h.symm
      clear h; subst this
      exact ⟨fun D0 => rfl, fun D0 => true, by simp, fun D0 D1 D2 D3 j v u D4 e => by exact Og.nos e⟩
    | cons b m =>
      refine Og.cps fun G kG => ?_
      refine O23 (relL_cons hv) ?_; rintro v vs rfl hv1 hv2
      refine O23 (relL_cons hu) ?_; rintro u us rfl hu1 hu2
      clear hv hu
      refine O12 (Option.bind_eq_some_iff.mp h) ?_; rintro x hx h
      refine O12 (Option.map_eq_some_iff.mp h) ?_; rintro y hy h
      obtain ⟨p1, p2⟩ := hf a b x hx v u hv1 hu1
      obtain ⟨q1, e, q2, q3⟩ := ih m y hy vs us hv2 hu2
      clear ih hf hv1 hv2 hu1 hu2 hx hy
      refine kG ?_
      clear kG
      refine h ▸ ?_
      refine ⟨fun q => ?_, fun j => if j = 0 then x else e (j - 1), ?_, ?_⟩
      · injection q with z1 z2
        rw [p1 z1, q1 z2]; rfl
      · rw [q2, List.length_cons, List.length_cons, Nat.succ_min_succ, List.range_succ_eq_map, List.all_cons, List.all_map]
        simp [Function.comp_def]
      · intro A s k hu' j v' u' e1 e2
        cases j with
        | zero => exact Option.some.inj e1 ▸ Option.some.inj e2 ▸ (p2 A s k hu').1
        | succ j => exact q3 A s k hu' j v' u' e1 e2
theorem eqTup {n : Nat} {f : AV → AV → Option Bool} (hf : EqS prog w F ρ n f) {l m : List AV} {x : Bool} (hx : eqLf f l m = some x) {v u : Value} (Rv : Rel prog w F ρ v (.tup l)) (Ru : Rel prog w F ρ u (.tup m)) :
    (v = u → (x && l.length == m.length) = true) ∧ ∀ (A : Around) (s : Shared), (∀ a o, F a = some o → s.heap.get? a = some o) → A.units + (n + 1) < cLine → EqAt A s v u (x && l.length == m.length) ∧ RcAt A s v u (x && l.length == m.length) ∧ RcNeAt A s v u (!(x && l.length == m.length)) := by
  refine O33 Rv.inv ?_; rintro a' vs n1 rfl Fa La
  refine O33 Ru.inv ?_; rintro b' us n2 rfl Fb Lb
  clear Rv Ru
  obtain ⟨p1, e', p2, p3⟩ := eqLf_at hf l m x hx vs us La Lb
  have key : a' = b' → (x && l.length == m.length) = true := by
    rintro rfl
    rw [Fa] at Fb
    have := tupO_inj (Option.some.inj Fb)
    refine (p1 this) ▸ La.length ▸ Lb.length ▸ this ▸ ?_
    simp
  refine ⟨fun q => key (Value.ref.inj q), fun A s k hu => ?_⟩
  have he := fun j (h1 : j < vs.toArray.size) (h2 : j < us.toArray.size) => p3 A.in1 s k (by refine (?_ : A.units + 1 + n < cLine); omega) j _ _ (by rw [← List.getElem?_toArray, Array.getElem?_eq_getElem h1]) (by rw [← List.getElem?_toArray, Array.getElem?_eq_getElem h2])
  have t1 := RcAt.tuples (A := A) (e := e') (isTuple_of k Fa) (isTuple_of k Fb) (by (apply k3; assumption)) he
  have t2 := RcNeAt.tuples (A := A) (e := e') (isTuple_of k Fa) (isTuple_of k Fb) (by (apply k3; assumption)) he
  have hx' : (x && l.length == m.length) = ((List.range (min vs.toArray.size us.toArray.size)).all e' && vs.toArray.size == us.toArray.size) := by
    refine p2 ▸ La.length ▸ Lb.length ▸ ?_; rfl
  clear p1 p2 p3 he La Lb hx
  rw [hx'] at key ⊢
  refine Og.I03 ?_ t1 t2
  by_cases hab : a' = b'
  · clear Fb t1 t2; subst hab; exact (key rfl) ▸ EqAt.same _
  · exact EqAt.of_refs hab t1
theorem eqLst {n : Nat} {f : AV → AV → Option Bool} (hf : EqS prog w F ρ n f) {l m : List AV} {r : Bool} (e : (if l.length == m.length then eqLf f l m else some false) = some r) {v u : Value} (Rv : Rel prog w F ρ v (.lst l)) (Ru : Rel prog w F ρ u (.lst m)) :
    (v = u → r = true) ∧ ∀ (A : Around) (s : Shared), (∀ a o, F a = some o → s.heap.get? a = some o) → A.units + (n + 1) < cLine → EqAt A s v u r ∧ RcAt A s v u r ∧ RcNeAt A s v u (!r) := by
  refine O33 Rv.inv ?_; rintro a' vs n1 rfl Fa La
  refine O33 Ru.inv ?_; rintro b' us n2 rfl Fb Lb
  clear Rv Ru
  have same : a' = b' → vs = us := by
    rintro rfl
    rw [Fa] at Fb
    exact lstO_inj (Option.some.inj Fb)
  by_cases hlen : l.length = m.length
  · rw [if_pos (by simpa using hlen)] at e
    have hl : vs.length = us.length := by exact La.length ▸ Lb.length ▸ hlen ▸ rfl
    obtain ⟨p1, e', p2, p3⟩ := eqLf_at hf l m r e vs us La Lb
    have key : a' = b' → r = true := fun q => p1 (same q)
    refine ⟨fun q => key (Value.ref.inj q), fun A s k hu => ?_⟩
    have he := fun j (h1 : j < vs.toArray.size) (h2 : j < us.toArray.size) => p3 A.in1 s k (by refine (?_ : A.units + 1 + n < cLine); (clear hlen hl p3 h1 h2; omega)) j _ _ (by rw [← List.getElem?_toArray, Array.getElem?_eq_getElem h1]) (by rw [← List.getElem?_toArray, Array.getElem?_eq_getElem h2])
    have t1 := RcAt.lists (A := A) (e := e') (isList_of k Fa) (isList_of k Fb) (by exact hl) (by (apply k3; assumption)) he
    have t2 := RcNeAt.lists (A := A) (e := e') (isList_of k Fa) (isList_of k Fb) (by exact hl) (by (apply k3; assumption)) he
    have hx' : r = (List.range vs.toArray.size).all e' := by rw [p2, hl, Nat.min_self, List.size_toArray, hl]
    clear p1 p2 p3 he La Lb e same
    rw [hx'] at key ⊢
    refine Og.I03 ?_ t1 t2
    by_cases hab : a' = b'
    · subst hab; exact (key rfl) ▸ EqAt.same _
    · exact EqAt.of_refs hab t1
  · rw [if_neg (by simpa using hlen)] at e
    have hl : ¬ vs.length = us.length := by exact La.length ▸ Lb.length ▸ hlen
    have hab : a' ≠ b' := fun q => hl (congrArg List.length (same q))
    refine (Option.some.inj e) ▸ ?_
    refine ⟨fun q => absurd (Value.ref.inj q) hab, fun A s k hu => ?_⟩
    have t1 := RcAt.lists_lengths (A := A) (isList_of k Fa) (isList_of k Fb) (by simpa using hl) (by (apply k3; assumption))
    exact Og.I03 (EqAt.of_refs hab t1) t1 (RcNeAt.lists_lengths (isList_of k Fa) (isList_of k Fb) (by simpa using hl) (by (apply k3; assumption)))
set_option tactic.hygienic true in
theorem eqA_other {n : Nat} {a b : AV} (h : asTup a = none) (h' : asLst a = none) : eqA (n + 1) a b = eq0 a b := by
  cases a
  case tup => exact nomatch h
  case lst => exact nomatch h'
  all_goals (delta eqA; rfl)
set_option tactic.hygienic true in
theorem eqA_sound : ∀ n : Nat, EqS prog w F ρ n (eqA n) := by
  intro n
  induction n with
  | zero => exact eq0_sound 0
  | succ n ih =>
    intro a b r e v u Rv Ru
    cases a
    case tup =>
      refine Og.cps fun G kG => ?_
      refine O12 (Option.bind_eq_some_iff.mp e) ?_; rintro m e1 e
      refine O12 (Option.map_eq_some_iff.mp e) ?_; rintro x hx e2
      refine kG ?_
      clear kG
      exact e2 ▸ eqTup ih hx Rv (asTup_eq e1 ▸ Ru)
    case lst =>
      refine Og.cps fun G kG => ?_
      refine O12 (Option.bind_eq_some_iff.mp e) ?_; rintro m e1 e
      refine kG ?_
      clear kG
      exact eqLst ih e Rv (asLst_eq e1 ▸ Ru)
    all_goals exact eq0_sound (n + 1) _ b r ((eqA_other rfl rfl).symm.trans e) v u Rv Ru
end
end Og
end
section
set_option maxRecDepth 100000
namespace Og
open PySem PySem.W PyProof.Rows PySem.Calls PySem.Spec PySem.SeqAt
noncomputable abbrev NoX : Addr → Prop := fun D0 => False
section
variable {prog : Program} {w : World} {B : Heap} {P : Addr} {F : Fro} {ρ : List Addr} {st : Sto} {h : Heap}
/-- the goal behind an expression -/
noncomputable def PQ (prog : Program) (w : World) (B : Heap) (P : Addr) (F : Fro) (ρ : List Addr) (s : Shared) (st' : Sto) (a : AV) (Q : Value → Shared → Prop) : Prop :=
  ∀ v h' tk F' ρ', Step P NoX F ρ s.heap F' ρ' h' → GR prog w B P F' ρ' st' h' → Rel prog w F' ρ' v a → Q v { s with heap := h', toks := tk }
theorem PQ.now {s : Shared} {a : AV} {Q : Value → Shared → Prop} (k : PQ prog w B P F ρ s st a Q) (G : GR prog w B P F ρ st s.heap) {v : Value} (R : Rel prog w F ρ v a) (tk : Nat) : Q v { s with toks := tk } := k v s.heap tk F ρ .refl G R
/-- what a value refers to, read off the heap -/
noncomputable def CtR (prog : Program) (w : World) (F : Fro) (ρ : List Addr) (h : Heap) (v : Value) : Ct → Prop
  | .list l => ∃ a vs n, v = .ref a ∧ h.get? a = some (lstO vs n) ∧ RelL prog w F ρ vs l
  | .tup l => ∃ a vs n, v = .ref a ∧ h.get? a = some (tupO vs n) ∧ RelL prog w F ρ vs l
  | .dict ks vs => ∃ a es n, v = .ref a ∧ h.get? a = some (dctO es n) ∧ (a == sysModules) = false ∧ KeysR prog w F es ks ∧ RelL prog w F ρ (es.map (·.val)) vs
theorem GR.ne_modules (G : GR prog w B P F ρ st h) {a : Addr} (hn : F a = none) : (a == sysModules) = false := by
  have : a ≠ sysModules := fun q => by obtain ⟨o, e⟩ := G.mods; replace hn := e ▸ q ▸ hn; exact son hn
  simpa using this
set_option tactic.hygienic true in
theorem ctOf_sound (G : GR prog w B P F ρ st h) {v : Value} {a : AV} {c : Ct} (e : ctOf st a = some c) (R : Rel prog w F ρ v a) : CtR prog w F ρ h v c := by
  cases a <;> first | exact nos e | skip
  case lst l => (replace e := Option.some.inj e; subst e); exact O33 R.inv fun _ _ _ h1 h2 h3 => Og.I33 _ _ _ h1 ((G.fz _ _ h2).1) h3
  case tup l => (replace e := Option.some.inj e; subst e); exact O33 R.inv fun _ _ _ h1 h2 h3 => Og.I33 _ _ _ h1 ((G.fz _ _ h2).1) h3
  case dct ks vs => (replace e := Option.some.inj e; subst e); exact O4_6 R.inv fun _ _ _ _ h1 h2 h3 h4 h5 h6 => Og.I35 _ _ _ h1 ((G.fz _ _ h2).1) h3 h4 (h5 ▸ h6)
  case loc i =>
    refine O12 R.inv ?_; rintro ad rfl hr
    replace e : (match st[i]? with | some (.list l) => some (Ct.list l) | some (.dict ks vs) => some (.dict ks vs) | _ => none) = some c := e
    cases hl : st[i]? with
    | none => rw [hl] at e; exact nos e
    | some m =>
      rw [hl] at e
      cases m with
      | list l =>
        (replace e := Option.some.inj e; subst e)
        exact O22 (G.objs i ad _ hr hl) fun vs n q r => Og.I33 _ vs n rfl q r
      | dict ks vs =>
        (replace e := Option.some.inj e; subst e)
        exact O23 (G.objs i ad _ hr hl) fun es n q k r => Og.I35 _ es n rfl q (G.ne_modules (G.off ad (List.mem_of_getElem? hr)).1) k r
      | attrs _ _ => exact nos e
/-! ### dicts by their keys -/
theorem Paired.get_left {α β : Type} {R : α → β → Prop} {l : List α} {m : List β} (h : Paired R l m) : ∀ x ∈ l, ∃ y ∈ m, R x y := by
  induction h with
  | nil => exact fun D0 hx => nomatch hx
  | cons h t ih =>
    intro x hx
    rcases List.mem_cons.mp hx with rfl | hx
    · exact Og.I12 _ (.head _) h
    · refine O12 (ih x hx) ?_; rintro y hy r
      exact Og.I12 y (.tail _ hy) r
theorem findK_kind {k : AV} : ∀ {ks vs : List AV} {r : Option AV}, findK k ks vs = some r → ks.length = vs.length → ks ≠ [] → ∃ k' ∈ ks, ∃ b, keyEq k' k = some b := by
  intro ks vs r e hl hne
  cases ks with
  | nil => exact absurd rfl hne
  | cons x ks =>
    cases vs with
    | nil => simp at hl
    | cons u vs =>
      unfold findK at e
      cases q : keyEq x k with
      | none => rw [q] at e; exact nos e
      | some b => exact ⟨x, .head _, b, q⟩
theorem kind_of {κ : KKind} {k k' : AV} {b : Bool} (h1 : κ.has k') (h2 : keyEq k' k = some b) : (∃ x, k = .str x ∧ κ = .str) ∨ (∃ i, k = .int i ∧ κ = .int) ∨ (∃ l, k = .tup l ∧ κ = .tup) := by
  cases κ with
  | int =>
    refine Og.cps fun G kG => ?_
    obtain ⟨i, rfl⟩ := h1
    refine O12 (Option.map_eq_some_iff.mp h2) ?_; rintro y e _
    refine kG ?_
    clear kG
    exact .inr (.inl ⟨y, asInt_eq e, rfl⟩)
  | str =>
    refine Og.cps fun G kG => ?_
    obtain ⟨i, rfl⟩ := h1
    refine O12 (Option.map_eq_some_iff.mp h2) ?_; rintro y e _
    refine kG ?_
    clear kG
    exact .inl ⟨y, asStr_eq e, rfl⟩
  | tup =>
    refine Og.cps fun G kG => ?_
    obtain ⟨i, rfl⟩ := h1
    refine O12 (Option.bind_eq_some_iff.mp h2) ?_; rintro _ _ h
    refine O12 (Option.map_eq_some_iff.mp h) ?_; rintro _ h _
    refine O12 (Option.bind_eq_some_iff.mp h) ?_; rintro m e _
    refine kG ?_
    clear kG
    exact .inr (.inr ⟨m, asTup_eq e, rfl⟩)
theorem all_str {ks vs : List AV} {x : Str} {r : Option AV} (hκ : ∃ κ : KKind, ∀ k ∈ ks, κ.has k) (e : findK (.str x) ks vs = some r) (hl : ks.length = vs.length) : ∀ k ∈ ks, ∃ y, k = .str y := by
  obtain ⟨κ, hκ⟩ := hκ
  by_cases hne : ks = []
  · clear e hl hκ; subst hne; intro k hk; cases hk
  · obtain ⟨k', hk', b, hb⟩ := findK_kind e hl hne
    rcases kind_of (hκ k' hk') hb with ⟨_, _, rfl⟩ | ⟨_, q, _⟩ | ⟨_, q, _⟩
    · exact hκ
    · cases q
    · cases q
theorem all_int {ks vs : List AV} {x : Int} {r : Option AV} (hκ : ∃ κ : KKind, ∀ k ∈ ks, κ.has k) (e : findK (.int x) ks vs = some r) (hl : ks.length = vs.length) : ∀ k ∈ ks, ∃ y, k = .int y := by
  obtain ⟨κ, hκ⟩ := hκ
  by_cases hne : ks = []
  · clear e hl hκ; subst hne; intro k hk; cases hk
  · obtain ⟨k', hk', b, hb⟩ := findK_kind e hl hne
    rcases kind_of (hκ k' hk') hb with ⟨_, q, _⟩ | ⟨_, _, rfl⟩ | ⟨_, q, _⟩
    · cases q
    · exact hκ
    · cases q
theorem all_tup {ks vs : List AV} {l : List AV} {r : Option AV} (hκ : ∃ κ : KKind, ∀ k ∈ ks, κ.has k) (e : findK (.tup l) ks vs = some r) (hl : ks.length = vs.length) : ∀ k ∈ ks, ∃ y : List Int, k = .tup (y.map AV.int) := by
  obtain ⟨κ, hκ⟩ := hκ
  by_cases hne : ks = []
  · clear e hl hκ; subst hne; intro k hk; cases hk
  · obtain ⟨k', hk', b, hb⟩ := findK_kind e hl hne
    rcases kind_of (hκ k' hk') hb with ⟨_, q, _⟩ | ⟨_, q, _⟩ | ⟨_, _, rfl⟩
    · cases q
    · cases q
    · exact hκ
set_option tactic.hygienic true in
/-- finding by a str -/
theorem find_str {x : Str} : ∀ {es : List DictEntry} {ks vs : List AV} {r : Option AV}, Paired (fun e k => KeyR prog w F k e) es ks → RelL prog w F ρ (es.map (·.val)) vs → (∀ k ∈ ks, ∃ y, k = AV.str y) → findK (.str x) ks vs = some r →
    match r with
    | some a => ∃ v, (es.find? fun e => (strKind prog w).is x e.key).map (·.val) = some v ∧ Rel prog w F ρ v a
    | none => (es.find? fun e => (strKind prog w).is x e.key).map (·.val) = none := by
  intro es
  induction es with
  | nil =>
    intro ks vs r hp _ _ e
    cases hp
    have : r = none := by simpa [findK, keyOk] using e.symm
    clear e; subst this; rfl
  | cons d es ih =>
    intro ks vs r hp hv hk e
    cases hp with
    | cons h1 h2 =>
      rename_i k ks
      cases vs with
      | nil => (first | obtain rfl := hv.inv | obtain ⟨_, rfl⟩ := hv.inv | cases hv)
      | cons u vs => cases hv with
        | cons hv1 hv2 =>
          refine Og.cps fun G kG => ?_
          obtain ⟨y, rfl⟩ := hk k (.head _)
          obtain ⟨⟨t, hd⟩, _⟩ := h1
          have his : (strKind prog w).is x d.key = (y == x) := by rw [hd]; rfl
          have e : (match (some (y == x) : Option Bool) with
            | some true => some (some u)
            | some false => findK (.str x) ks vs
            | none => none) = some r := e
          refine kG ?_
          clear kG
          cases q : (y == x) with
          | true =>
            rw [q] at e
            (replace e := Option.some.inj e; subst e)
            exact ⟨d.val, by simp [List.find?_cons, his, q], hv1⟩
          | false =>
            rw [q] at e
            have := ih h2 hv2 (fun k hk' => hk k (.tail _ hk')) e
            simpa [List.find?_cons, his, q] using this
set_option tactic.hygienic true in
theorem find_int {x : Int} : ∀ {es : List DictEntry} {ks vs : List AV} {r : Option AV}, Paired (fun e k => KeyR prog w F k e) es ks → RelL prog w F ρ (es.map (·.val)) vs → (∀ k ∈ ks, ∃ y, k = AV.int y) → findK (.int x) ks vs = some r →
    match r with
    | some a => ∃ v, (es.find? fun e => (intKind prog w).is x e.key).map (·.val) = some v ∧ Rel prog w F ρ v a
    | none => (es.find? fun e => (intKind prog w).is x e.key).map (·.val) = none := by
  intro es
  induction es with
  | nil =>
    intro ks vs r hp _ _ e
    cases hp
    have : r = none := by simpa [findK, keyOk] using e.symm
    clear e; subst this; rfl
  | cons d es ih =>
    intro ks vs r hp hv hk e
    cases hp with
    | cons h1 h2 =>
      rename_i k ks
      cases vs with
      | nil => (first | obtain rfl := hv.inv | obtain ⟨_, rfl⟩ := hv.inv | cases hv)
      | cons u vs => cases hv with
        | cons hv1 hv2 =>
          refine Og.cps fun G kG => ?_
          obtain ⟨y, rfl⟩ := hk k (.head _)
          obtain ⟨⟨t, hd⟩, _⟩ := h1
          have his : (intKind prog w).is x d.key = (y == x) := by refine hd ▸ ?_; rfl
          have e : (match (some (y == x) : Option Bool) with
            | some true => some (some u)
            | some false => findK (.int x) ks vs
            | none => none) = some r := e
          refine kG ?_
          clear kG
          cases q : (y == x) with
          | true =>
            rw [q] at e
            (replace e := Option.some.inj e; subst e)
            exact ⟨d.val, by simp [List.find?_cons, his, q], hv1⟩
          | false =>
            rw [q] at e
            have := ih h2 hv2 (fun k hk' => hk k (.tail _ hk')) e
            simpa [List.find?_cons, his, q] using this
theorem mapOf_str {a : Addr} {es : List DictEntry} {n : Nat} {ks : List AV} (ho : h.get? a = some (dctO es n)) (K : KeysR prog w F es ks) (hk : ∀ k ∈ ks, ∃ y, k = AV.str y) : h.MapOf (strKind prog w) a (fun k => findBy (strKind prog w).is es.toArray k) := by
  refine Og.I35 _ es.toArray n ho ⟨rfl, rfl, rfl⟩ rfl (fun e he => ?_) (fun D0 => rfl)
  refine Og.cps fun G kG => ?_
  refine O12 (Paired.get_left K.pairs e (by simpa using he)) ?_; rintro k hk' r
  obtain ⟨y, rfl⟩ := hk k hk'
  obtain ⟨⟨t, q⟩, hh⟩ := r
  refine kG ?_
  clear kG
  exact Og.I12 y (by exact q ▸ strKind_is prog w y t) hh
theorem mapOf_int {a : Addr} {es : List DictEntry} {n : Nat} {ks : List AV} (ho : h.get? a = some (dctO es n)) (K : KeysR prog w F es ks) (hk : ∀ k ∈ ks, ∃ y, k = AV.int y) : h.MapOf (intKind prog w) a (fun k => findBy (intKind prog w).is es.toArray k) := by
  refine Og.I35 _ es.toArray n ho ⟨rfl, rfl, rfl⟩ rfl (fun e he => ?_) (fun D0 => rfl)
  refine Og.cps fun G kG => ?_
  refine O12 (Paired.get_left K.pairs e (by simpa using he)) ?_; rintro k hk' r
  obtain ⟨y, rfl⟩ := hk k hk'
  obtain ⟨⟨t, q⟩, hh⟩ := r
  refine kG ?_
  clear kG
  exact Og.I12 y (by exact q ▸ intKind_is prog w y t) hh
theorem hasK_of {k : AV} {ks : List AV} {b : Bool} (h : hasK k ks = some b) : ∃ r, findK k ks ks = some r ∧ b = r.isSome := by
  unfold hasK at h
  refine O12 (Option.map_eq_some_iff.mp h) ?_; rintro r h1 h2
  exact Og.I12 r h1 h2.symm
/-- membership found by keys alone: the values play no part -/
theorem findK_vals {k : AV} : ∀ {ks vs us : List AV} {r : Option AV}, ks.length = vs.length → ks.length = us.length → findK k ks vs = some r → ∃ r', findK k ks us = some r' ∧ r'.isSome = r.isSome := by
  intro ks
  induction ks with
  | nil =>
    intro vs us r _ _ e
    delta findK at e ⊢
    exact Og.I12 r e rfl
  | cons x ks ih =>
    intro vs us r h1 h2 e
    cases vs with
    | nil => cases h1
    | cons v vs => cases us with
      | nil => cases h2
      | cons u us =>
        unfold findK at e ⊢
        cases q : keyEq x k with
        | none => replace e := q ▸ e; exact nos e
        | some b =>
          rw [q] at e
          cases b with
          | true => (replace e := Option.some.inj e; subst e); exact Og.I12 _ rfl rfl
          | false => exact ih (by simpa using h1) (by simpa using h2) e
/-! tuples of ints as keys -/
theorem intsOf_map : ∀ is : List Int, intsOf (is.map AV.int) = some is
  | [] => rfl
  | i :: is => by rw [List.map_cons, intsOf, intsOf_map is]; rfl
theorem intsOf_eq : ∀ {l : List AV} {is : List Int}, intsOf l = some is → l = is.map AV.int
  | [], is, h => by (replace h := Option.some.inj h; subst h); rfl
  | a :: l, is, h => by
    cases a <;> simp [intsOf] at h
    refine O12 h ?_; clear h; rintro js h1 rfl
    refine (intsOf_eq h1) ▸ ?_; rfl
theorem itemsAre_of : ∀ {vs : List Value} {is : List Int}, RelL prog w F ρ vs (is.map AV.int) → ItemsAre (intKind prog w) is vs
  | [], is, h => by cases is with | nil => exact .nil | cons _ _ => cases h
  | v :: vs, is, h => by
    cases is with
    | nil => cases h
    | cons i is => cases h with
      | cons h1 h2 => cases h1 with | int _ t => exact .cons (intKind_is prog w i t) (itemsAre_of h2)
noncomputable abbrev tupK (prog : Program) (w : World) := tupleKind (intKind prog w)
theorem tupKeys (fz : ∀ a o, F a = some o → h.get? a = some o) {es : List DictEntry} {ks : List AV} (hp : Paired (fun e k => KeyR prog w F k e) es ks) : (∀ k ∈ ks, ∃ y : List Int, k = AV.tup (y.map AV.int)) →
    ∃ xs : List (List Int × Addr × Value), es = xs.map (entryOfKey (tupK prog w)) ∧ ks = xs.map (fun x => AV.tup (x.1.map AV.int)) ∧ ∀ x ∈ xs, (tupK prog w).is h x.1 x.2.1 := by
  induction hp with
  | nil => exact fun D0 => Og.I13 ([]) rfl rfl (fun D0 hx => nomatch hx)
  | @cons e k es ks h1 _ ih =>
    intro hk
    refine O13 (ih (fun k' h' => hk k' (.tail _ h'))) ?_; rintro xs q1 q2 q3
    obtain ⟨y, rfl⟩ := hk k (.head _)
    refine O4_5 h1 ?_; clear h1; rintro a vs n is e1 e2 e3 e4 e5
    have hy : y = is := by
      have := congrArg intsOf e4
      rw [intsOf_map, intsOf_map] at this
      exact Option.some.inj this
    clear e4; subst hy
    refine Og.I13 ((y, a, e.val) :: xs) ?_ ?_ ?_
    · refine List.map_cons ▸ q1 ▸ ?_
      congr 1
      obtain ⟨eh, ek, ev⟩ := e
      simp only at e1 e5
      subst e1 e5
      rfl
    · exact List.map_cons ▸ q2 ▸ rfl
    · intro x hx
      rcases List.mem_cons.mp hx with rfl | hx
      · exact Og.I34 _ vs.toArray n (fz _ _ e2) rfl rfl e3
      · exact q3 x hx
theorem keyEq_tup (a b : List Int) : keyEq (.tup (a.map AV.int)) (.tup (b.map AV.int)) = some (a == b) := by
  refine (?_ : (intsOf _).bind _ = _)
  rw [intsOf_map]
  refine (?_ : (intsOf _).map _ = _)
  rw [intsOf_map]; rfl
theorem atKey_tup {y : List Int} : ∀ {xs : List (List Int × Addr × Value)} {us : List AV} {r : Option AV}, xs.length = us.length → findK (.tup (y.map AV.int)) (xs.map fun x => AV.tup (x.1.map AV.int)) us = some r → (atKey xs y).isSome = r.isSome
  | [], us, r, hl, e => by
    have : r = none := by
      clear hl; cases us <;> (simp [findK, keyOk, intsOf_map] at e; exact e.symm)
    clear e; subst this; rfl
  | x :: xs, [], r, hl, e => by simp at hl
  | x :: xs, u :: us, r, hl, e => by
    rw [List.map_cons] at e
    unfold findK at e
    rw [keyEq_tup] at e
    unfold atKey
    rw [List.find?_cons]
    cases q : (x.1 == y) with
    | true =>
      rw [q] at e
      (replace e := Option.some.inj e; subst e)
      have q' : x.1 = y := by simpa using q
      simp [q']
    | false =>
      replace e := q ▸ e
      have q' : ¬ x.1 = y := by simpa using q
      simp only [q', decide_false]
      exact atKey_tup (by simpa using hl) e
theorem dictH {a : Addr} {es : List DictEntry} {n : Nat} {ks : List AV} (fz : ∀ a o, F a = some o → h.get? a = some o) (ho : h.get? a = some (dctO es n)) (K : KeysR prog w F es ks) (hk : ∀ k ∈ ks, ∃ y : List Int, k = AV.tup (y.map AV.int)) :
    ∃ xs, h.DictOfH (tupK prog w) a xs ∧ es = xs.map (entryOfKey (tupK prog w)) ∧ ks = xs.map (fun x => AV.tup (x.1.map AV.int)) := by
  refine O13 (tupKeys fz K.pairs hk) ?_; rintro xs h1 h2 h3
  refine Og.I13 xs ⟨_, es.toArray, n, ho, ⟨rfl, rfl, rfl⟩, rfl, by exact h1, h3, ?_⟩ h1 h2
  have := K.nodup
  rw [h2, List.nodup_iff_pairwise_ne] at this
  rw [List.nodup_iff_pairwise_ne, List.pairwise_map]
  rw [List.pairwise_map] at this
  exact this.imp fun hne he => hne (by exact he ▸ rfl)
theorem Paired.len {α β : Type} {R : α → β → Prop} {l : List α} {m : List β} (h : Paired R l m) : l.length = m.length := Paired.length h
end
end Og
end
section
set_option maxRecDepth 100000
namespace Og
open PySem PySem.W PyProof.Rows PySem.Calls PySem.Spec PySem.SeqAt
section
variable {prog : Program} {w : World} {F : Fro} {ρ : List Addr} {A : Around} {E : Value → Shared → Prop} {s : Shared}
set_option tactic.hygienic true in
theorem mem_val {n : Nat} {x : AV} {u : Value} (Ru : Rel prog w F ρ u x) : ∀ {l : List AV} {vs : List Value} {b : Bool}, memL x l = some b → RelL prog w F ρ vs l →
    ∃ e : Value → Bool, vs.any e = b ∧ ∀ y ∈ vs, ∀ (A : Around) (s : Shared), (∀ a o, F a = some o → s.heap.get? a = some o) → A.units + 6 < cLine → EqAt A s y u (e y) := by
  classical
  intro l vs b h hv
  refine Og.I12 (fun y => decide (∃ (i : Nat) (a : AV), vs[i]? = some y ∧ l[i]? = some a ∧ eqA 6 a x = some true)) ?_ ?_
  · induction l generalizing vs b with
    | nil =>
      (first | obtain rfl := hv.inv | obtain ⟨_, rfl⟩ := hv.inv | cases hv)
      have : b = false := by simpa [memL] using h.symm
      clear h; subst this; rfl
    | cons a l ih =>
      cases hv with
      | cons h1 h2 =>
        rename_i v vs
        unfold memL at h
        split at h
        · rename_i p q hp hq
          (replace h := Option.some.inj h; subst h)
          have ih' := ih hq h2
          rw [Bool.eq_iff_iff]
          simp only [List.any_eq_true, decide_eq_true_eq, Bool.or_eq_true] at ih' ⊢
          constructor
          · rintro ⟨y, _, i, a', e1, e2, e3⟩
            cases i with
            | zero =>
              simp only [List.getElem?_cons_zero, Option.some.injEq] at e2
              subst e2
              rw [hp] at e3
              exact .inl (Option.some.inj e3)
            | succ i =>
              simp only [List.getElem?_cons_succ] at e1 e2
              refine .inr ?_
              have := (Bool.eq_iff_iff.mp ih').mp
              simp only [List.any_eq_true, decide_eq_true_eq] at this
              exact this ⟨y, List.mem_of_getElem? e1, i, a', e1, e2, e3⟩
          · rintro (hp' | hq')
            · exact ⟨v, .head _, 0, a, rfl, rfl, by exact hp ▸ hp' ▸ rfl⟩
            · have := (Bool.eq_iff_iff.mp ih').mpr hq'
              refine Og.cps fun G kG => ?_
              simp only [List.any_eq_true, decide_eq_true_eq] at this
              obtain ⟨y, _, i, a', e1, e2, e3⟩ := this
              refine kG ?_
              clear kG
              exact ⟨y, .tail _ (List.mem_of_getElem? e1), i + 1, a', by exact e1, by exact e2, e3⟩
        · exact nos h
  · intro y hy A s k hu
    have all : ∀ {l : List AV} {vs : List Value} {b : Bool}, memL x l = some b → RelL prog w F ρ vs l → ∀ (i : Nat) (a : AV), l[i]? = some a → ∃ r, eqA 6 a x = some r := by
      intro l
      induction l with
      | nil => intro vs b _ _ i a e; exact Og.nos e
      | cons c l ih =>
        intro vs b h hv i a e
        unfold memL at h
        split at h
        · rename_i p q hp hq
          cases hv with
          | cons _ h2 => cases i with
            | zero => simp only [List.getElem?_cons_zero, Option.some.injEq] at e; subst e; exact ⟨p, hp⟩
            | succ i => exact ih hq h2 i a (by simpa using e)
        · exact nos h
    by_cases q : ∃ (i : Nat) (a : AV), vs[i]? = some y ∧ l[i]? = some a ∧ eqA 6 a x = some true
    · show EqAt A s y u (decide _)
      rw [decide_eq_true q]
      refine Og.cps fun G kG => ?_
      refine O23 q ?_; clear q; rintro i a e1 e2 e3
      refine O12 (hv.get e2) ?_; rintro v' e4 r
      (replace e4 := Option.some.inj (e1.symm.trans e4); subst e4)
      refine kG ?_
      clear kG
      exact ((eqA_sound 6 a x true e3 y u r Ru).2 A s k hu).1
    · show EqAt A s y u (decide _)
      rw [decide_eq_false q]
      obtain ⟨i, hi, e1⟩ := List.getElem_of_mem hy
      have e1' : vs[i]? = some y := by exact (List.getElem?_eq_getElem hi) ▸ e1 ▸ rfl
      refine O12 (hv.get' e1') ?_; rintro a e2 r
      obtain ⟨b', hb'⟩ := all h hv i a e2
      cases b' with
      | true => exact absurd (Og.I23 i a e1' e2 hb') q
      | false => exact ((eqA_sound 6 a x false hb' y u r Ru).2 A s k hu).1
set_option tactic.hygienic true in
/-- «in» and «not in» -/
theorem keyEq_no : ∀ (x k : AV), ((∃ s, x = .str s) ∨ (∃ i, x = .int i) ∨ ∃ l, x = .tup l) ∨ keyEq k x = none := by
  intro x k
  cases x
  case str => exact .inl (.inl ⟨_, rfl⟩)
  case int => exact .inl (.inr (.inl ⟨_, rfl⟩))
  case tup => exact .inl (.inr (.inr ⟨_, rfl⟩))
  all_goals exact .inr (by cases k <;> first | rfl | (rename_i l; refine (?_ : (intsOf l).bind _ = none); cases intsOf l <;> rfl))
set_option tactic.hygienic true in
theorem key_shape {x : AV} {ks vs : List AV} {r : Option AV} (h : findK x ks vs = some r) : (∃ s, x = .str s) ∨ (∃ i, x = .int i) ∨ ∃ l, x = .tup l := by
  have nil : (if keyOk x then some none else none : Option (Option AV)) = some r → (∃ s, x = .str s) ∨ (∃ i, x = .int i) ∨ ∃ l, x = .tup l := fun h => by
    cases x
    case str => exact .inl ⟨_, rfl⟩
    case int => exact .inr (.inl ⟨_, rfl⟩)
    case tup => exact .inr (.inr ⟨_, rfl⟩)
    all_goals cases (show (none : Option (Option AV)) = some r from h)
  rcases ks with _ | ⟨k, ks⟩
  · exact nil h
  · rcases vs with _ | ⟨v, vs⟩
    · exact nil h
    · rcases keyEq_no x k with q | q
      · exact q
      · unfold findK at h
        rw [q] at h
        exact nos h
theorem in_sound {c : Ct} {x : AV} {b : Bool} {u v : Value} (fz : ∀ a o, F a = some o → s.heap.get? a = some o) (e : inA c x = some b) (C : CtR prog w F ρ s.heap v c) (Ru : Rel prog w F ρ u x) (hu : A.units + 20 < cLine)
    {Q : Value → Shared → Prop} (q : ∀ tk, Q (.bool b) { s with toks := tk }) : wpAny (model prog w) A (compareOp .In u v) Q E s := by
  have q0 := q s.toks
  cases c with
  | list l =>
    refine O33 C ?_; clear C; rintro a vs n rfl ho L
    refine O12 (mem_val (n := 0) Ru e L) ?_; rintro e' h1 h2
    refine in_listAt e' ⟨_, ho, rfl, n, rfl⟩ (fun y hy => h2 y (by simpa using hy) _ s fz (by show A.units + 1 + 6 < cLine; omega)) ?_
    exact (show vs.toArray.any e' = b from by simpa using h1) ▸ q0
  | tup l =>
    refine O33 C ?_; clear C; rintro a vs n rfl ho L
    refine O12 (mem_val (n := 0) Ru e L) ?_; rintro e' h1 h2
    refine in_tupleAt e' ⟨_, ho, rfl, n, rfl⟩ (fun y hy => h2 y (by simpa using hy) _ s fz (by show A.units + 1 + 6 < cLine; omega)) ?_
    exact (show vs.toArray.any e' = b from by simpa using h1) ▸ q0
  | dict ks vs =>
    refine O35 C ?_; clear C; rintro a es n rfl ho lo K L
    refine O12 (hasK_of e) ?_; clear q0 e; rintro r hr rfl
    refine O12 (findK_vals rfl (by rw [← L.length, List.length_map, Paired.length K.pairs] : ks.length = vs.length) hr) ?_; rintro r' hr' hs
    obtain ⟨x, rfl⟩ | ⟨x, rfl⟩ | ⟨l, rfl⟩ := key_shape hr
    ·
      obtain ⟨t, rfl⟩ := Ru.inv
      have hk := all_str K.kind hr rfl
      refine wpAny_in_of (strKind_is prog w x t) lo (mapOf_str ho K hk) ?_
      have := find_str (x := x) K.pairs L hk hr'
      have hh : (findBy (strKind prog w).is es.toArray x).isSome = r.isSome := by
        refine hs ▸ ?_
        unfold findBy
        rw [List.find?_toArray]
        cases r' with
        | none => dsimp only at this; rw [this]; rfl
        | some a' => refine O12 this ?_; clear this; rintro v' h1 _; rw [h1]; rfl
      exact hh ▸ q _
    ·
      obtain ⟨t, rfl⟩ := Ru.inv
      have hk := all_int K.kind hr rfl
      refine wpAny_in_of (intKind_is prog w x t) lo (mapOf_int ho K hk) ?_
      have := find_int (x := x) K.pairs L hk hr'
      have hh : (findBy (intKind prog w).is es.toArray x).isSome = r.isSome := by
        refine hs ▸ ?_
        unfold findBy
        rw [List.find?_toArray]
        cases r' with
        | none => dsimp only at this; rw [this]; rfl
        | some a' => refine O12 this ?_; clear this; rintro v' h1 _; rw [h1]; rfl
      exact hh ▸ q _
    ·
      refine Og.cps fun G kG => ?_
      have hk := all_tup K.kind hr rfl
      refine O13 (dictH fz ho K hk) ?_; rintro xs hd _ hks
      have hint : ∃ is, intsOf l = some is := by
        cases ks with
        | nil =>
          unfold findK at hr
          simp only [keyOk] at hr
          cases q' : intsOf l with
          | some is => exact ⟨is, rfl⟩
          | none => simp [q'] at hr
        | cons k ks =>
          unfold findK at hr
          obtain ⟨y, rfl⟩ := hk k (.head _)
          cases q' : intsOf l with
          | some is => exact ⟨is, rfl⟩
          | none =>
            have z : keyEq (.tup (y.map AV.int)) (.tup l) = none := by
              refine (?_ : (intsOf _).bind _ = _)
              rw [intsOf_map]
              refine (?_ : (intsOf l).map _ = _)
              refine q' ▸ ?_; rfl
            replace hr := z ▸ hr; exact nos hr
      obtain ⟨is, his⟩ := hint
      have hl' := intsOf_eq his
      subst hl'
      refine O33 Ru.inv ?_; rintro aa us m rfl Fa La
      refine kG ?_
      clear kG
      refine wpAny_in_heap (knd := tupK prog w) (k := is) (by refine (?_ : A.units + 1 < cLine); omega) (Og.I34 _ us.toArray m (fz _ _ Fa) rfl rfl (itemsAre_of La)) lo hd ?_
      rw [hks] at hr
      exact (atKey_tup (by simp) hr) ▸ q _
theorem notIn_sound {c : Ct} {x : AV} {b : Bool} {u v : Value} (fz : ∀ a o, F a = some o → s.heap.get? a = some o) (e : inA c x = some b) (C : CtR prog w F ρ s.heap v c) (Ru : Rel prog w F ρ u x) (hu : A.units + 20 < cLine)
    {Q : Value → Shared → Prop} (q : ∀ tk, Q (.bool (!b)) { s with toks := tk }) : wpAny (model prog w) A (compareOp .NotIn u v) Q E s := by
  have h : wpAny (model prog w) A (contains v u) (fun r s' => Q (.bool (!r)) s') E s := by
    have := in_sound (A := A) (E := E) (Q := fun r s' => ∃ b, r = .bool b ∧ Q (.bool (!b)) s') fz e C Ru hu (fun tk => Og.I12 b rfl (q tk))
    have e' : compareOp .In u v = (do return Value.bool (← contains v u)) := rfl
    replace this := (e') ▸ this
    intro Γ p hΓ
    have z := this Γ p hΓ
    rw [Sem.wp_bind'] at z
    refine Sem.wp_mono _ _ _ (fun r p' s' hr => ?_) (fun D0 D1 D2 x => x) p s z
    refine O12 hr ?_; clear hr; rintro b' hb hq
    cases hb
    exact hq
  refine (?_ : wpAny _ _ (do return Value.bool (!(← contains v u))) _ _ _)
  exact wpAny_bind (wpAny_mono h (fun r s' z => wpAny_pure z) fun D0 D1 x => x)
set_option tactic.hygienic true in
theorem seqIndex_of {l : List AV} {i : Int} {a : AV} (h : idxL l i = some a) : ∃ j, seqIndex? i l.length = some j ∧ l[j]? = some a := by
  unfold idxL at h
  unfold seqIndex?
  split at h
  · rename_i h0
    split at h
    · rename_i h1
      refine ⟨i.toNat, ?_, h⟩
      have : ¬ i < 0 := by (clear h1 h; omega)
      simp only [this, if_false]
      have : (decide (0 ≤ i) && decide (i < (l.length : Int))) = true := by simp; (clear h this; omega)
      exact if_pos this
    · exact nos h
  · rename_i h0
    split at h
    · rename_i h1
      refine ⟨(i + l.length).toNat, ?_, h⟩
      have : i < 0 := by (clear h1 h; omega)
      simp only [this, if_true]
      have : (decide (0 ≤ i + (l.length : Int)) && decide (i + (l.length : Int) < (l.length : Int))) = true := by simp; (clear h this; omega)
      exact if_pos this
    · exact nos h
theorem smallI_of {i : Int} (h : smallI i = true) : -(2 ^ 63) ≤ i ∧ i < 2 ^ 63 := by
  have := of_decide_eq_true h
  omega
set_option tactic.hygienic true in
/-- an item -/
theorem item_sound {c : Ct} {x a : AV} {u v : Value} (fz : ∀ a o, F a = some o → s.heap.get? a = some o) (e : getItemA c x = some a) (C : CtR prog w F ρ s.heap v c) (Ru : Rel prog w F ρ u x)
    {Q : Value → Shared → Prop} (q : ∀ r tk, Rel prog w F ρ r a → Q r { s with toks := tk }) : wpAny (model prog w) A (getItem v u) Q E s := by
  cases c with
  | list l =>
    refine O33 C ?_; clear C; rintro ad vs n rfl ho L
    cases x <;> first | exact nos e | skip
    rename_i i
    obtain ⟨hs, e⟩ := if_some (show (if smallI i then idxL l i else none) = some a from e)
    · skip
      obtain ⟨t, rfl⟩ := Ru.inv
      refine O12 (seqIndex_of e) ?_; rintro j hj hx
      refine O12 (L.get hx) ?_; rintro r hr R
      have hsm := smallI_of hs
      have q' := q r s.toks R
      unfold seqIndex? at hj
      by_cases h0 : i < 0
      · simp only [h0, if_true] at hj
        split at hj
        · rename_i hb
          (replace hj := Option.some.inj hj; subst hj)
          simp only [Bool.and_eq_true, decide_eq_true_eq] at hb
          rw [← L.length] at hb hr
          refine wpAny_getItem_list_neg ⟨_, ho, rfl, n, rfl⟩ h0 (by simp; omega) hsm.1 ?_ q'
          simpa using hr
        · exact nos hj
      · simp only [h0, if_false] at hj
        split at hj
        · rename_i hb
          (replace hj := Option.some.inj hj; subst hj)
          exact wpAny_getItem_list ⟨_, ho, rfl, n, rfl⟩ (by omega) hsm.2 (by simpa using hr) q'
        · exact nos hj
  | tup l =>
    refine O33 C ?_; clear C; rintro ad vs n rfl ho L
    cases x <;> first | exact nos e | skip
    rename_i i
    obtain ⟨hs, e⟩ := if_some (show (if smallI i then idxL l i else none) = some a from e)
    · skip
      obtain ⟨t, rfl⟩ := Ru.inv
      refine O12 (seqIndex_of e) ?_; rintro j hj hx
      refine O12 (L.get hx) ?_; rintro r hr R
      have hsm := smallI_of hs
      exact PyProof.Rows.getItem_tuple ⟨_, ho, rfl, n, rfl⟩ hsm.1 hsm.2 (by rw [← L.length] at hj; exact hj) (by simpa using hr) (q r s.toks R)
  | dict ks vs =>
    refine O35 C ?_; clear C; rintro ad es n rfl ho lo K L
    have hl : ks.length = vs.length := by rw [← L.length, List.length_map, Paired.length K.pairs]
    cases x with
    | str x =>
      obtain ⟨t, rfl⟩ := Ru.inv
      have e2 : findK (.str x) ks vs = some (some a) := by
        replace e : (findK (.str x) ks vs).join = some a := e
        cases q' : findK (AV.str x) ks vs with
        | none => rw [q'] at e; exact nos e
        | some r => rw [q'] at e; exact congrArg some e
      have hk := all_str K.kind e2 hl
      refine O12 (find_str (x := x) K.pairs L hk e2) ?_; rintro r h1 R
      exact wpAny_getItem_of (strKind_is prog w x t) (mapOf_str ho K hk) (by unfold findBy; rw [List.find?_toArray]; exact h1) (q r _ R)
    | int x =>
      obtain ⟨t, rfl⟩ := Ru.inv
      have e2 : findK (.int x) ks vs = some (some a) := by
        replace e : (findK (.int x) ks vs).join = some a := e
        cases q' : findK (AV.int x) ks vs with
        | none => rw [q'] at e; exact nos e
        | some r => rw [q'] at e; exact congrArg some e
      have hk := all_int K.kind e2 hl
      refine O12 (find_int (x := x) K.pairs L hk e2) ?_; rintro r h1 R
      exact wpAny_getItem_of (intKind_is prog w x t) (mapOf_int ho K hk) (by unfold findBy; rw [List.find?_toArray]; exact h1) (q r _ R)
    | _ => rcases e
end
end Og
end
section
set_option maxRecDepth 100000
namespace Og
open PySem PySem.W PyProof.Rows PySem.Calls PySem.Spec PySem.SeqAt
section
variable {prog : Program} {w : World} {B : Heap} {P : Addr} {F : Fro} {ρ : List Addr} {st : Sto} {A : Around} {E : Value → Shared → Prop} {s : Shared}
theorem GR.fz' {h : Heap} (G : GR prog w B P F ρ st h) : ∀ a o, F a = some o → h.get? a = some o := fun a o e => (G.fz a o e).1
theorem bigLine : big ≤ sizeLine := by decide
/-- a new tuple -/
theorem PQ.newTup {Q : Value → Shared → Prop} {l : List AV} {vs : List Value} (G : GR prog w B P F ρ st s.heap) (L : RelL prog w F ρ vs l) (k : PQ prog w B P F ρ s st (.tup l) Q) (tk : Nat) :
    Q (.ref s.heap.objs.size) { s with heap := s.heap.push (tupO vs 0), toks := tk } := by
  refine O13 (G.alloc (o := tupO vs 0) rfl) ?_; rintro F' G' S e
  exact k _ _ tk F' ρ S G' (.tup e (S.relL L))
theorem PQ.newLst {Q : Value → Shared → Prop} {l : List AV} {vs : List Value} (G : GR prog w B P F ρ st s.heap) (L : RelL prog w F ρ vs l) (k : PQ prog w B P F ρ s st (.lst l) Q) (tk : Nat) :
    Q (.ref s.heap.objs.size) { s with heap := s.heap.push (lstO vs 0), toks := tk } := by
  refine O13 (G.alloc (o := lstO vs 0) rfl) ?_; rintro F' G' S e
  exact k _ _ tk F' ρ S G' (.lst e (S.relL L))
theorem add_tup {t b : Addr} {vs ws : List Value} {n m : Nat} {Q : Value → Shared → Prop} (ht : s.heap.get? t = some (tupO vs n)) (hb : s.heap.get? b = some (tupO ws m))
    (h0 : vs = [] → Q (.ref b) s) (h1 : vs ≠ [] → ws = [] → Q (.ref t) s)
    (h2 : vs ≠ [] → ws ≠ [] → Q (.ref s.heap.objs.size) { s with heap := s.heap.push (tupO (vs ++ ws) 0) })
    (hsz : vs.length + ws.length ≤ sizeLine) : wpAny (model prog w) A (binaryOp .Add (.ref t) (.ref b)) Q E s := by
  by_cases hv : vs = []
  · exact concat_meets (Og.I12 _ ht rfl) (Og.I12 _ hb rfl) noFill_tuple_add seq_tuple_add PySem.F.slot_tuple_add PySem.F.entry_tuple_add (PySem.F.args_tuple_add_2 _ _)
      (tuple_addW0 t b vs.toArray ws.toArray n m none none #[] #[] (by simp [hv])) (Og.I03 ht hb (h0 hv))
  · by_cases hw : ws = []
    · exact concat_meets ⟨_, ht, rfl⟩ ⟨_, hb, rfl⟩ noFill_tuple_add seq_tuple_add PySem.F.slot_tuple_add PySem.F.entry_tuple_add (PySem.F.args_tuple_add_2 _ _)
        (tuple_addW1 t b vs.toArray ws.toArray n m none none #[] #[] (by simpa using hv) (by simp [hw])) ⟨ht, hb, h1 hv hw⟩
    · refine concat_meets ⟨_, ht, rfl⟩ ⟨_, hb, rfl⟩ noFill_tuple_add seq_tuple_add PySem.F.slot_tuple_add PySem.F.entry_tuple_add (PySem.F.args_tuple_add_2 _ _)
        (tuple_addW2 t b vs.toArray ws.toArray n m none none #[] #[] (by simpa using hv) (by simpa using hw) (by exact List.size_toArray ▸ List.size_toArray ▸ hsz)) ⟨ht, hb, ?_⟩
      exact (by simp : vs.toArray ++ ws.toArray = (vs ++ ws).toArray) ▸ h2 hv hw
theorem foldl_rep (l : List Nat) : ∀ (n : Nat) (acc : Array Nat), ((List.replicate n l.toArray).foldl (· ++ ·) acc) = acc ++ (List.replicate n l).flatten.toArray := by
  intro n
  induction n with
  | zero => intro acc; rfl
  | succ n ih => intro acc; rw [List.replicate_succ, List.replicate_succ, List.foldl_cons, ih, List.flatten_cons]; simp
theorem addL_ok {l m r : List AV} (h : addL l m = some r) : l.length + m.length ≤ big ∧ r = l ++ m := by
  unfold addL at h
  by_cases q : l.length + m.length ≤ big
  · rw [if_pos q] at h; exact ⟨q, (Option.some.inj h).symm⟩
  · rw [if_neg q] at h; exact nos h
theorem mul_ints (a b : Int) : binA .Mult (.int a) (.int b) = if smallI a && smallI b then some (.int (a * b)) else none := rfl
theorem mod_ints (a b : Int) : binA .Mod (.int a) (.int b) = if decide (0 < b) then some (.int (Int.fmod a b)) else none := rfl
theorem int2_ok {f : Int → Int → Option AV} {a b c : AV} (h : int2 f a b = some c) : ∃ i j, a = .int i ∧ b = .int j ∧ f i j = some c := by
  refine O12 (Option.bind_eq_some_iff.mp h) ?_; rintro i e1 h
  refine O12 (Option.bind_eq_some_iff.mp h) ?_; rintro j e2 h
  exact Og.I23 i j (asInt_eq e1) (asInt_eq e2) h
theorem mul_str' {x : Str} {n : Int} {t t' : Tok} (h0 : 0 ≤ n) (h1 : n < 2 ^ 10) (h2 : x.length ≤ 2 ^ 10) (G : GR prog w B P F ρ st s.heap) {Q : Value → Shared → Prop} (k : PQ prog w B P F ρ s st (.str (repS x n)) Q) : wpAny (model prog w) A (binaryOp .Mult (.str x t) (.int n t')) Q E s := by
  refine PySem.P.mul_str (by simp; omega) ?_ ?_ ?_
  · intro g1 g2
    have hx : ((x.length : Int)) ≤ 2 ^ 10 := by exact_mod_cast h2
    have : (2 ^ 10 : Int) ≤ (2 ^ 63 - 1) / n := by
      rw [Int.le_ediv_iff_mul_le (by omega)]
      have : (2 : Int) ^ 10 * n ≤ 2 ^ 10 * 2 ^ 10 := by omega
      omega
    omega
  · intro g1 g2
    unfold Builtin.Str.tooLong
    have : x.length * n.toNat ≤ 2 ^ 10 * 2 ^ 10 := Nat.mul_le_mul h2 (by omega)
    have hl : sizeLine = 2 ^ 24 := rfl
    rw [decide_eq_false_iff_not, hl]
    omega
  · have hlen : (⟨(List.replicate n.toNat x.cps.toList).flatten.toArray⟩ : Str).length ≤ sizeLine := by
      refine (?_ : (List.replicate n.toNat x.cps.toList).flatten.toArray.size ≤ sizeLine)
      have : x.cps.toList.length ≤ 2 ^ 10 := by have : x.cps.toList.length = x.length := by simp [Str.length]
                                                omega
      have h3 : n.toNat * x.cps.toList.length ≤ 2 ^ 10 * 2 ^ 10 := Nat.mul_le_mul (by omega) this
      have hl : sizeLine = 2 ^ 24 := rfl
      rw [List.size_toArray, List.length_flatten, List.map_replicate, List.sum_replicate_nat, hl]
      omega
    have q := k.now G (.str ⟨(List.replicate n.toNat x.cps.toList).flatten.toArray⟩ s.toks) (s.toks + 1)
    by_cases g1 : n < 1
    · rw [if_pos g1]
      have : n.toNat = 0 := by omega
      rw [this] at q hlen
      exact ⟨hlen, q⟩
    · rw [if_neg g1]
      by_cases g2 : (n == 1 || x.length == 0) = true
      · rw [if_pos g2]
        have hx : (⟨(List.replicate n.toNat x.cps.toList).flatten.toArray⟩ : Str) = x := by
          clear h2 k hlen q; obtain ⟨cps⟩ := x
          obtain ⟨l⟩ := cps
          rw [Bool.or_eq_true, beq_iff_eq] at g2
          rcases g2 with g2 | g2
          · subst g2; simp
          · have : l = [] := by simpa [Str.length] using g2
            subst this
            congr 1
            have : (List.replicate n.toNat ([] : List Nat)).flatten = [] := by simp
            simp [this]
        rw [show repS x n = x from hx] at k
        exact k.now G (.str x _) s.toks
      · rw [if_neg g2]
        have hx : (⟨(List.replicate n.toNat x.cps).foldl (· ++ ·) #[]⟩ : Str) = ⟨(List.replicate n.toNat x.cps.toList).flatten.toArray⟩ := by
          have := foldl_rep x.cps.toList n.toNat #[]
          simp only [Array.toArray_toList] at this
          rw [this]; simp
        exact hx ▸ ⟨hlen, q⟩
theorem add_sound {a b c : AV} {v u : Value} (G : GR prog w B P F ρ st s.heap) (e : addA a b = some c) (Rv : Rel prog w F ρ v a) (Ru : Rel prog w F ρ u b) {Q : Value → Shared → Prop}
    (k : PQ prog w B P F ρ s st c Q) : wpAny (model prog w) A (binaryOp .Add v u) Q E s := by
  cases a <;> try exact nos e
  · refine O12 (Option.map_eq_some_iff.mp e) ?_; rintro j e1 e2
    obtain ⟨t1, rfl⟩ := Rv.inv
    obtain ⟨t2, rfl⟩ := (asInt_eq e1 ▸ Ru).inv
    exact PySem.P.add_int ((e2 ▸ k).now G (.int _ _) _)
  · refine O12 (Option.bind_eq_some_iff.mp e) ?_; rintro m e1 e
    refine O12 (Option.map_eq_some_iff.mp e) ?_; rintro r hr e2
    obtain ⟨hsz, hr⟩ := addL_ok hr
    replace k := e2 ▸ k; replace k := hr ▸ k
    refine O33 Rv.inv ?_; rintro a' vs n1 rfl Fa La
    refine O33 ((asTup_eq e1 ▸ Ru).inv) ?_; rintro b' us n2 rfl Fb Lb
    clear e e1 e2 hr Rv Ru
    refine add_tup (G.fz' _ _ Fa) (G.fz' _ _ Fb) (fun q => ?_) (fun D0 q => ?_) (fun D0 D1 => k.newTup G (La.append Lb) _) ?_
    · subst q; cases La; exact k.now G (.tup Fb Lb) _
    · clear Fb; subst q; cases Lb; rw [List.append_nil] at k; exact k.now G (.tup Fa La) _
    · exact La.length ▸ Lb.length ▸ Nat.le_trans hsz bigLine
  · refine O12 (Option.bind_eq_some_iff.mp e) ?_; rintro m e1 e
    refine O12 (Option.map_eq_some_iff.mp e) ?_; rintro r hr e2
    obtain ⟨hsz, hr⟩ := addL_ok hr
    replace k := e2 ▸ k; replace k := hr ▸ k
    refine O33 Rv.inv ?_; rintro a' vs n1 rfl Fa La
    refine O33 ((asLst_eq e1 ▸ Ru).inv) ?_; rintro b' us n2 rfl Fb Lb
    refine PySem.P.add_list (G.fz' _ _ Fa) (G.fz' _ _ Fb) ?_ ?_
    · have := k.newLst G (La.append Lb) s.toks
      simpa using this
    · simp only [List.size_toArray]; exact La.length ▸ Lb.length ▸ Nat.le_trans hsz bigLine
theorem mul_sound {a b c : AV} {v u : Value} (G : GR prog w B P F ρ st s.heap) (e : mulA a b = some c) (Rv : Rel prog w F ρ v a) (Ru : Rel prog w F ρ u b) {Q : Value → Shared → Prop}
    (k : PQ prog w B P F ρ s st c Q) (hmul : ∀ l n t, a = .tup l → u = .int n t → wpAny (model prog w) A (binaryOp .Mult v u) Q E s) : wpAny (model prog w) A (binaryOp .Mult v u) Q E s := by
  cases a <;> try exact nos e
  · refine O12 (Option.bind_eq_some_iff.mp e) ?_; rintro j e1 e
    obtain ⟨hs, e⟩ := if_some e
    obtain ⟨t1, rfl⟩ := Rv.inv
    obtain ⟨t2, rfl⟩ := (asInt_eq e1 ▸ Ru).inv
    have h1 := smallI_of (Bool.and_eq_true_iff.mp hs).1
    exact PySem.P.mul_int ((Option.some.inj e ▸ k).now G (.int _ _) _) (IntMulOk.of_left (intBits_le_64 (by omega) (by omega)))
  · refine O12 (Option.bind_eq_some_iff.mp e) ?_; rintro j e1 e
    obtain ⟨hs, e⟩ := if_some e
    have hs := Bool.and_eq_true_iff.mp hs
    clear hmul; obtain ⟨t1, rfl⟩ := Rv.inv
    obtain ⟨t2, rfl⟩ := (asInt_eq e1 ▸ Ru).inv
    exact mul_str' (of_decide_eq_true hs.1).1 (of_decide_eq_true hs.1).2 (of_decide_eq_true hs.2) G (Option.some.inj e ▸ k)
  · refine O12 (Option.bind_eq_some_iff.mp e) ?_; rintro j e1 e
    obtain ⟨t2, h⟩ := (asInt_eq e1 ▸ Ru).inv
    exact hmul _ _ _ rfl h
theorem bin_sound {op : Operator} {a b c : AV} {v u : Value} (G : GR prog w B P F ρ st s.heap) (e : binA op a b = some c) (Rv : Rel prog w F ρ v a) (Ru : Rel prog w F ρ u b) {Q : Value → Shared → Prop}
    (k : PQ prog w B P F ρ s st c Q) (hmul : ∀ l n t, op = .Mult → a = .tup l → u = .int n t → wpAny (model prog w) A (binaryOp op v u) Q E s) : wpAny (model prog w) A (binaryOp op v u) Q E s := by
  cases op <;> try exact nos e
  · exact add_sound G e Rv Ru k
  · clear hmul
    refine O23 (int2_ok e) ?_; rintro i j e1 e2 e3
    obtain ⟨t1, rfl⟩ := (e1 ▸ Rv).inv
    obtain ⟨t2, rfl⟩ := (e2 ▸ Ru).inv
    exact PySem.P.sub_int ((Option.some.inj e3 ▸ k).now G (.int _ _) _)
  · exact mul_sound G e Rv Ru k fun l n t => hmul l n t rfl
  · clear hmul
    refine O23 (int2_ok e) ?_; rintro i j e1 e2 e3
    obtain ⟨t1, rfl⟩ := (e1 ▸ Rv).inv
    obtain ⟨t2, rfl⟩ := (e2 ▸ Ru).inv
    obtain ⟨hs, e3⟩ := if_some e3
    exact mod_int' (by have := of_decide_eq_true hs; omega) ((Option.some.inj e3 ▸ k).now G (.int _ _) _)
end
end Og
end
section
set_option maxRecDepth 100000
namespace Og
open PySem PySem.W PyProof.Rows PySem.Calls PySem.Spec PySem.SeqAt
theorem tuple_ltW (a b : Addr) (i j : Int) (t u : Tok) (n m : Nat) :
    Meets (Builtin.«tuple.__lt__» ⟨[.ref a, .ref b], []⟩) (fun D0 R s => s.heap.get? a = some (tupO [.int i t] n) ∧ s.heap.get? b = some (tupO [.int j u] m) ∧ R (.ok (.ret (.bool (decide (i < j))))) s) :=
  .of_wp fun prog w A R s h => by
    obtain ⟨hp, g, d, tk, os⟩ := s; refine O03 h ?_; clear h; rintro ha hb h
    have f2 := AutoSeq1.sub_tuple_tuple
    wp_walk using wpAny_loadPart' ha, wpAny_loadPart' hb
    refine (?_ : wpAny _ _ (eqBool (.int i t) (.int j u)) _ _ _)
    refine wpAny_eqBool_int ?_
    by_cases hij : i = j
    · clear hb; subst hij
      rw [show (i == i) = true from by simp]
      simp only [Bool.not_true, Bool.false_eq_true, if_false]
      have : decide (i < i) = false := by simp
      replace h := this ▸ h
      wp_walk
      exact Og.I12 _ rfl h
    · rw [show (i == j) = false from by simpa using hij]
      simp only [Bool.not_false, if_true]
      refine wpAny_bind (wpAny_rule (wpAny_bind ?_))
      refine (?_ : wpAny _ _ (compareOp .Lt (.int i t) (.int j u)) _ _ _)
      refine PySem.P.lt_int ?_
      wp_walk
      exact Og.I12 _ rfl h
section
variable {prog : Program} {w : World} {B : Heap} {P : Addr} {F : Fro} {ρ : List Addr} {st : Sto} {A : Around} {E : Value → Shared → Prop} {s : Shared}
theorem truth_sound {a : AV} {b : Bool} {v : Value} (e : truthA a = some b) (R : Rel prog w F ρ v a) {Q : Bool → Shared → Prop} (q : Q b s) : wpAny (model prog w) A (truthy v) Q E s := by
  unfold truthA at e
  split at e
  · (replace e := Option.some.inj e; subst e); cases R; exact wpAny_pure q
  · (replace e := Option.some.inj e; subst e); cases R; exact wpAny_truthy_bool q
  · exact nos e
/-- what is behind a slice of a list's head -/
theorem slice_list {a sl : Addr} {vs : List Value} {n : Nat} {m : Int} {t : Tok} {Q : Value → Shared → Prop} (ho : s.heap.get? a = some (lstO vs n)) (hs : s.heap.IsSliceOf sl .none (.int m t) .none) (h0 : 0 ≤ m) (hm : m < 2 ^ 20) (hsz : vs.length ≤ sizeLine)
    (q : Q (.ref s.heap.objs.size) { s with heap := s.heap.push (lstO (vs.take m.toNat) 0) }) : wpAny (model prog w) A (getItem (.ref a) (.ref sl)) Q E s := by
  refine wpAny_getItem_list_slice ⟨_, ho, rfl, n, rfl⟩ hs .none (.int m t) .none (by decide) ?_ (by exact hsz)
  have : slicePick vs.toArray none (some m) none = (vs.take m.toNat).toArray := by
    have := slicePick_upto' vs.toArray m.toNat
    replace this := (Int.toNat_of_nonneg h0 : ((m.toNat : Nat) : Int) = m) ▸ this
    simpa using this
  exact this ▸ q
theorem lt_pair {a b : Addr} {i j : Int} {t u : Tok} {n m : Nat} {Q : Value → Shared → Prop} (ha : s.heap.get? a = some (tupO [.int i t] n)) (hb : s.heap.get? b = some (tupO [.int j u] m)) (hu : A.units + 20 < cLine)
    (q : Q (.bool (decide (i < j))) s) : wpAny (model prog w) A (compareOp .Lt (.ref a) (.ref b)) Q E s := by
  refine (?_ : wpAny _ _ (richCompare .Lt (.ref a) (.ref b)) _ _ _)
  exact richCompare_meets_room (T := "tuple") (Og.I12 _ ha rfl) (Og.I12 _ hb rfl) PySem.F.slot_tuple_lt PySem.F.entry_tuple_lt (PySem.F.args_tuple_lt_2 _ _) (tuple_ltW a b i j t u n m) (Og.I03 ha hb ⟨(fun z => by cases z), q⟩) (by (apply k3; assumption))
theorem lt1 {l : List AV} {i : Int} (h : (vw1 l).bind asInt = some i) : l = [.int i] := by
  refine O12 (Option.bind_eq_some_iff.mp h) ?_; rintro x e1 e2
  exact (vw1_eq e1) ▸ (asInt_eq e2) ▸ rfl
theorem rel_one_int {vs : List Value} {i : Int} (L : RelL prog w F ρ vs [.int i]) : ∃ t, vs = [.int i t] := by
  refine O23 (relL_cons L) ?_; clear L; rintro v us rfl h1 h2
  obtain ⟨t, rfl⟩ := h1.inv
  exact (relL_nil h2) ▸ ⟨t, rfl⟩
theorem ltA_inv {a b : AV} {r : Bool} (e : ltA a b = some r) : ∃ i j, ((a = .int i ∧ b = .int j) ∨ (a = .tup [.int i] ∧ b = .tup [.int j])) ∧ decide (i < j) = r := by
  cases a <;> try exact nos e
  · refine O12 (Option.map_eq_some_iff.mp e) ?_; rintro j e1 e2
    exact Og.I22 _ j (.inl ⟨rfl, asInt_eq e1⟩) e2
  · refine O12 (Option.bind_eq_some_iff.mp e) ?_; rintro i e1 e
    refine Og.cps fun G kG => ?_
    refine O12 (Option.map_eq_some_iff.mp e) ?_; rintro j e2 e3
    refine O12 (Option.bind_eq_some_iff.mp e2) ?_; rintro m e4 e5
    refine O12 (Option.bind_eq_some_iff.mp e4) ?_; rintro m' e6 e4
    refine kG ?_
    clear kG
    exact Og.I22 i j (.inr ⟨by exact (lt1 e1) ▸ rfl, by exact (asTup_eq e6) ▸ (vw1_eq e4) ▸ (asInt_eq e5) ▸ rfl⟩) e3
theorem lt_sound {a b : AV} {r : Bool} {v u : Value} (G : GR prog w B P F ρ st s.heap) (e : ltA a b = some r) (Rv : Rel prog w F ρ v a) (Ru : Rel prog w F ρ u b) (hu : A.units + 20 < cLine) {Q : Value → Shared → Prop}
    (q : Q (.bool r) s) : wpAny (model prog w) A (compareOp .Lt v u) Q E s := by
  refine O22 (ltA_inv e) ?_; rintro i j h er
  clear e
  rw [← er] at q
  rcases h with ⟨e1, e2⟩ | ⟨e1, e2⟩
  · obtain ⟨t1, rfl⟩ := (e1 ▸ Rv).inv
    obtain ⟨t2, rfl⟩ := (e2 ▸ Ru).inv
    exact PySem.P.lt_int q
  · refine O33 ((e1 ▸ Rv).inv) ?_; rintro a' vs n1 rfl Fa La
    refine O33 ((e2 ▸ Ru).inv) ?_; clear Ru; rintro b' us n2 rfl Fb Lb
    obtain ⟨t1, rfl⟩ := rel_one_int La
    obtain ⟨t2, rfl⟩ := rel_one_int Lb
    exact lt_pair (G.fz' _ _ Fa) (G.fz' _ _ Fb) hu q
theorem int2b_ok {f : Int → Int → Bool} {a b : AV} {r : Bool} {v u : Value} (h : int2b f a b = some r) (Rv : Rel prog w F ρ v a) (Ru : Rel prog w F ρ u b) : ∃ i j t t', v = .int i t ∧ u = .int j t' ∧ r = f i j := by
  refine Og.cps fun G kG => ?_
  refine O12 (Option.bind_eq_some_iff.mp h) ?_; rintro i e1 h
  refine O12 (Option.map_eq_some_iff.mp h) ?_; rintro j e2 h
  obtain ⟨t1, h1⟩ := (asInt_eq e1 ▸ Rv).inv
  obtain ⟨t2, h2⟩ := (asInt_eq e2 ▸ Ru).inv
  refine kG ?_
  clear kG
  exact Og.I43 i j t1 t2 h1 h2 h.symm
theorem is_sound {a : AV} {r : Bool} {v : Value} (e : isA a = some r) (Rv : Rel prog w F ρ v a) {Q : Value → Shared → Prop} (q : Q (.bool r) s) : wpAny (model prog w) A (compareOp .Is v .none) Q E s := by
  cases a <;> try exact nos e
  · obtain rfl := Rv.inv
    replace q := (Option.some.inj e) ▸ q; exact is_none q
  · refine O33 Rv.inv ?_; clear Rv; rintro _ _ _ rfl _ _
    replace q := (Option.some.inj e) ▸ q; exact is_none q
theorem cmp_sound {op : CmpOp} {a b : AV} {r : Bool} {v u : Value} (G : GR prog w B P F ρ st s.heap) (e : cmpA op a b = some r) (Rv : Rel prog w F ρ v a) (Ru : Rel prog w F ρ u b) (hu : A.units + 20 < cLine) {Q : Value → Shared → Prop}
    (q : Q (.bool r) s) : wpAny (model prog w) A (compareOp op v u) Q E s := by
  cases op <;> try exact nos e
  · exact ((eqA_sound 6 _ _ _ e v u Rv Ru).2 A s G.fz' (by omega)).2.1 prog w E Q q
  · refine O12 (Option.map_eq_some_iff.mp e) ?_; rintro x hx e
    exact ((eqA_sound 6 _ _ _ hx v u Rv Ru).2 A s G.fz' (by omega)).2.2 prog w E Q (e ▸ q)
  · exact lt_sound G e Rv Ru hu q
  · refine O43 (int2b_ok e Rv Ru) ?_; clear Rv Ru e; rintro i j t t' rfl rfl rfl
    exact PySem.P.le_int q
  · refine O43 (int2b_ok e Rv Ru) ?_; rintro i j t t' rfl rfl rfl
    exact PySem.P.gt_int q
  · refine O43 (int2b_ok e Rv Ru) ?_; rintro i j t t' rfl rfl rfl
    exact PySem.P.ge_int q
  · obtain ⟨hb, e⟩ := if_some e
    obtain rfl := (isNoneA_eq hb ▸ Ru).inv
    exact is_sound e Rv q
end
end Og
end
section
set_option maxRecDepth 100000
namespace Og
open PySem PySem.W PyProof.Rows PySem.Calls PySem.Spec PySem.SeqAt
/-- the closure of a block, in the model's order -/
noncomputable def closL (cells : List (Str × Addr)) : List (Str × NameKind) → List (Str × Addr) → List (Str × Addr)
  | [], acc => acc
  | (x, k) :: r, acc => if k == .free then closL cells r ((x, (cells.lookup x).getD 0) :: acc) else closL cells r acc
theorem closureFor_eq {scope : Scope} {env : Env} (h : ∀ x ∈ scope.names, x.2 = .free → ∃ c, env.cells.lookup x.1 = some c) : closureFor scope env = pure (closL env.cells scope.names []) := by
  unfold closureFor
  have key : ∀ (names : List (Str × NameKind)) (acc : List (Str × Addr)), (∀ x ∈ names, x.2 = .free → ∃ c, env.cells.lookup x.1 = some c) →
      (forIn names acc fun (x : Str × NameKind) cs => (if x.2 == .free then (do let c ← cellOf env x.1; pure (ForInStep.yield ((x.1, c) :: cs))) else pure (ForInStep.yield cs) : Sem _)) = pure (closL env.cells names acc) := by
    intro names
    induction names with
    | nil => intro acc _; rfl
    | cons p names ih =>
      intro acc hn
      obtain ⟨x, k⟩ := p
      rw [List.forIn_cons]
      unfold closL
      by_cases hk : k = .free
      · subst hk
        obtain ⟨c, hc⟩ := hn (x, .free) (.head _) rfl
        have hc' : cellOf env x = pure c := by unfold cellOf; exact hc ▸ rfl
        simp only [beq_self_eq_true, if_true]
        rw [hc', hc]
        exact ih _ fun y hy => hn y (.tail _ hy)
      · have : (k == NameKind.free) = false := by simpa using hk
        simp only [this, Bool.false_eq_true, if_false]
        exact ih _ fun y hy => hn y (.tail _ hy)
  have := key scope.names [] h
  show (forIn scope.names [] _ >>= fun r => pure r) = _
  rw [← this]; rw [bind_pure]
set_option tactic.hygienic true in
theorem lookup_closL {cells : List (Str × Addr)} {x : Str} : ∀ {names : List (Str × NameKind)} {acc : List (Str × Addr)} {c : Addr}, (closL cells names acc).lookup x = some c → acc.lookup x = some c ∨ ((x, NameKind.free) ∈ names ∧ c = (cells.lookup x).getD 0)
  | [], _, _, h => .inl h
  | (y, k) :: r, acc, c, h => by
    unfold closL at h
    split at h
    · rename_i hk
      have hk' : k = .free := by simpa using hk
      subst hk'
      rcases lookup_closL h with q | ⟨q, e⟩
      · rw [List.lookup_cons] at q
        cases hxy : (x == y) with
        | true =>
          replace q := hxy ▸ q
          have : x = y := by simpa using hxy
          clear h hxy; subst this
          exact .inr ⟨.head _, (Option.some.inj q).symm⟩
        | false => replace q := hxy ▸ q; exact .inl q
      · exact .inr ⟨.tail _ q, e⟩
    · rcases lookup_closL h with q | ⟨q, e⟩
      · exact .inl q
      · exact .inr ⟨.tail _ q, e⟩
set_option tactic.hygienic true in
theorem closL_has {cells : List (Str × Addr)} {x : Str} : ∀ {names : List (Str × NameKind)} {acc : List (Str × Addr)}, ((x, NameKind.free) ∈ names ∨ (acc.lookup x).isSome = true) → ∃ c, (closL cells names acc).lookup x = some c
  | [], acc, h => by
    rcases h with h | h
    · cases h
    · exact Option.isSome_iff_exists.mp h
  | (y, k) :: r, acc, h => by
    unfold closL
    split
    · refine closL_has ?_
      rcases h with h | h
      · cases h with
        | head => exact .inr (by simp)
        | tail _ h => exact .inl h
      · refine .inr ?_
        rw [List.lookup_cons]
        cases (x == y) <;> simp [h]
    · rename_i hk
      refine closL_has ?_
      rcases h with h | h
      · cases h with
        | head => exact absurd hk (by decide)
        | tail _ h => exact .inl h
      · exact .inr h
theorem cellsFrom_app : ∀ (names : List (Str × NameKind)) (n : Nat) (acc acc' : List (Str × Addr)), cellsFrom n names (acc ++ acc') = cellsFrom n names acc ++ acc'
  | [], _, _, _ => rfl
  | (y, k) :: r, n, acc, acc' => by
    unfold cellsFrom
    split
    · exact cellsFrom_app r (n + 1) ((y, n) :: acc) acc'
    · exact cellsFrom_app r n acc acc'
set_option tactic.hygienic true in
theorem cellsFrom_names' : ∀ (names : List (Str × NameKind)) (n : Nat) (acc : List (Str × Addr)) (x : Str) (c : Addr), (x, c) ∈ cellsFrom n names acc → (x, NameKind.cell) ∈ names ∨ (x, c) ∈ acc
  | [], _, _, _, _, h => .inr h
  | (y, k) :: r, n, acc, x, c, h => by
    unfold cellsFrom at h
    split at h
    · rename_i hk
      have hk' : k = .cell := by simpa using hk
      subst hk'
      rcases cellsFrom_names' r _ _ x c h with q | q
      · exact .inl (.tail _ q)
      · rcases List.mem_cons.mp q with q | q
        · clear h; cases q; exact .inl (.head _)
        · exact .inr q
    · rcases cellsFrom_names' r _ _ x c h with q | q
      · exact .inl (.tail _ q)
      · exact .inr q
set_option tactic.hygienic true in
theorem cellsFrom_has {x : Str} : ∀ (names : List (Str × NameKind)) (n : Nat) (acc : List (Str × Addr)), ((x, NameKind.cell) ∈ names ∨ (acc.lookup x).isSome = true) → ∃ c, (cellsFrom n names acc).lookup x = some c
  | [], _, acc, h => by
    rcases h with h | h
    · cases h
    · exact Option.isSome_iff_exists.mp h
  | (y, k) :: r, n, acc, h => by
    unfold cellsFrom
    split
    · refine cellsFrom_has r _ _ ?_
      rcases h with h | h
      · cases h with
        | head => exact .inr (by simp)
        | tail _ h => exact .inl h
      · refine .inr ?_
        rw [List.lookup_cons]
        cases (x == y) <;> simp [h]
    · rename_i hk
      refine cellsFrom_has r _ _ ?_
      rcases h with h | h
      · cases h with
        | head => exact absurd hk (by decide)
        | tail _ h => exact .inl h
      · exact .inr h
theorem lookup_append' {α : Type} {x : Str} : ∀ (l m : List (Str × α)), (l ++ m).lookup x = (l.lookup x).or (m.lookup x)
  | [], m => by simp
  | (y, a) :: l, m => by
    rw [List.cons_append, List.lookup_cons, List.lookup_cons]
    cases (x == y) with
    | true => rfl
    | false => exact lookup_append' l m
theorem lookup_map_kind (f : Str → NameKind → NameKind) {x : Str} : ∀ (names : List (Str × NameKind)), (names.map fun p => (p.1, f p.1 p.2)).lookup x = (names.lookup x).map (f x)
  | [] => rfl
  | (y, k) :: r => by
    rw [List.map_cons, List.lookup_cons, List.lookup_cons, lookup_map_kind f r]
    cases h : (x == y) with
    | true => have : x = y := by simpa using h
              clear h; subst this; rfl
    | false => rfl
theorem relabel_kind {scope : Scope} {env : Env} {x : Str} : (relabel scope env).names.lookup x = (scope.names.lookup x).map fun k => if (k == .free && env.scope.kind == .function && env.kindOf x == some .cell) then .cell else k := by
  have := lookup_map_kind (fun n k => if (k == .free && env.scope.kind == .function && env.kindOf n == some .cell) then .cell else k) (x := x) scope.names
  rw [← this]
  unfold relabel
  congr 1
  apply List.map_congr_left
  intro p _
  obtain ⟨n, k⟩ := p
  by_cases h : (k == NameKind.free && env.scope.kind == ScopeKind.function && env.kindOf n == some NameKind.cell) = true <;> simp [h]
theorem GR.touch {prog : Program} {w : World} {B : Heap} {P : Addr} {F : Fro} {ρ : List Addr} {st : Sto} {h h' : Heap} (G : GR prog w B P F ρ st h) (T : Addr → Prop) (hT : ∀ a, T a → F a = none ∧ a ∉ ρ ∧ a ≠ P)
    (k : ∀ a o, ¬ T a → h.get? a = some o → h'.get? a = some o) : GR prog w B P F ρ st h' := by
  refine ⟨G.base, G.mods, fun a o e => ⟨(fun a o e => k a o (fun t => by rw [(hT a t).1] at e; exact nos e) (G.fz a o e).1 : ∀ a o, F a = some o → h'.get? a = some o) a o e, (G.fz a o e).2⟩, G.len, G.nd, G.off, fun i a m e1 e2 => ?_, ?_⟩
  · have kr : ∀ o, h.get? a = some o → h'.get? a = some o := fun o e => k a o (fun t => (hT a t).2.1 (List.mem_of_getElem? e1)) e
    have M := G.objs i a m e1 e2
    cases m with
    | list l => refine O22 M ?_; clear M; rintro vs n e r; exact Og.I22 vs n (kr _ e) r
    | dict ks vs => refine O22 M ?_; clear M; rintro es n e r; exact Og.I22 es n (kr _ e) r
    | attrs ks vs => refine O22 M ?_; clear M; rintro es n e r; exact Og.I22 es n (kr _ e) r
  · refine O13 G.tab ?_; rintro ps e t q
    exact Og.I13 ps (k _ _ (fun t => (hT P t).2.2 rfl) e) t q
theorem GR.keeps {prog : Program} {w : World} {B : Heap} {P : Addr} {F : Fro} {ρ : List Addr} {st : Sto} {h h' : Heap} (G : GR prog w B P F ρ st h) (k : ∀ a o, h.get? a = some o → h'.get? a = some o) : GR prog w B P F ρ st h' :=
  G.touch (fun D0 => False) (fun D0 f => f.elim) fun a o D0 e => k a o e
theorem Step.keeps {P : Addr} {X : Addr → Prop} {F : Fro} {ρ : List Addr} {h h' : Heap} (k : ∀ a o, h.get? a = some o → h'.get? a = some o) : Step P X F ρ h F ρ h' :=
  ⟨fun D0 D1 e => e, fun D0 D1 e => .inl e, ⟨[], by simp⟩, fun a o e D0 D1 D2 => k a o e, fun a o e => ⟨o, k a o e⟩⟩
theorem GR.there {prog : Program} {w : World} {B : Heap} {P : Addr} {F : Fro} {ρ : List Addr} {st : Sto} {h : Heap} (G : GR prog w B P F ρ st h) {a : Addr} (ha : a ∈ ρ) : a < h.objs.size := by
  obtain ⟨i, hi, e⟩ := List.getElem_of_mem ha
  have hlt : i < st.length := G.len ▸ hi
  have M := G.objs i a (st[i]'hlt) (by exact (List.getElem?_eq_getElem hi) ▸ e ▸ rfl) (List.getElem?_eq_getElem hlt)
  cases hm : st[i]'hlt with
  | list l => replace M := hm ▸ M; refine O22 M ?_; clear M; rintro vs n e _; exact Heap.lt_size e
  | dict ks vs => replace M := hm ▸ M; refine O22 M ?_; clear M; rintro vs n e _; exact Heap.lt_size e
  | attrs ks vs => replace M := hm ▸ M; refine O22 M ?_; clear M; rintro vs n e _; exact Heap.lt_size e
theorem GR.Plt {prog : Program} {w : World} {B : Heap} {P : Addr} {F : Fro} {ρ : List Addr} {st : Sto} {h : Heap} (G : GR prog w B P F ρ st h) : P < h.objs.size := by
  refine O12 G.tab ?_; rintro ps e _; exact Heap.lt_size e
/-- what is new lies off everything -/
theorem GR.newOff {prog : Program} {w : World} {B : Heap} {P : Addr} {F : Fro} {ρ : List Addr} {st : Sto} {h : Heap} (G : GR prog w B P F ρ st h) {a : Addr} (ha : h.get? a = none) : F a = none ∧ a ∉ ρ ∧ a ≠ P := by
  refine Og.I03 ?_ (fun q => ?_) (fun q => ?_)
  · cases q : F a with
    | none => rfl
    | some o => replace ha := ((G.fz a o q).1) ▸ ha; exact son ha
  · obtain ⟨i, hi, e⟩ := List.getElem_of_mem q
    have hlt : i < st.length := G.len ▸ hi
    have M := G.objs i a (st[i]'hlt) (by exact (List.getElem?_eq_getElem hi) ▸ e ▸ rfl) (List.getElem?_eq_getElem hlt)
    cases hm : st[i]'hlt with
    | list l => replace M := hm ▸ M; refine O22 M ?_; clear M; rintro vs n e _; exact Og.nos (ha.symm.trans e)
    | dict ks vs => replace M := hm ▸ M; refine O22 M ?_; clear M; rintro vs n e _; exact Og.nos (ha.symm.trans e)
    | attrs ks vs => replace M := hm ▸ M; refine O22 M ?_; clear M; rintro vs n e _; exact Og.nos (ha.symm.trans e)
  · refine O12 G.tab ?_; rintro ps e _; replace ha := q ▸ ha; exact Og.nos (ha.symm.trans e)
theorem pushCells_size : ∀ (names : List (Str × NameKind)) (h : Heap), h.objs.size ≤ (pushCells h names).objs.size
  | [], _ => Nat.le_refl _
  | (_, k) :: r, h => by
    unfold pushCells
    split
    · refine Nat.le_trans ?_ (pushCells_size r _); rw [Heap.size_push]; exact Nat.le_succ _
    · exact pushCells_size r h
theorem lookup_compVars {cx : Cx} {x : Str} {lv : LV} : ∀ {names : List (Str × NameKind)}, (names.filterMap fun p => if p.2 == .free then (match cx.vars.lookup p.1 with
      | some (.v a) => some (p.1, LV.v a)
      | _ => none) else none).lookup x = some lv → (x, NameKind.free) ∈ names ∧ ∃ a, cx.vars.lookup x = some (.v a) ∧ lv = .v a
  | [], h => by exact Og.nos h
  | (y, k) :: r, h => by
    replace h := List.filterMap_cons ▸ h
    by_cases hk : k = .free
    · subst hk
      simp only [beq_self_eq_true, if_true] at h
      cases q : cx.vars.lookup y with
      | none => rw [q] at h; obtain ⟨h1, h2⟩ := lookup_compVars h; exact ⟨.tail _ h1, h2⟩
      | some l =>
        replace h := q ▸ h
        cases l with
        | v a =>
          dsimp only at h
          rw [List.lookup_cons] at h
          cases z : (x == y) with
          | true =>
            replace h := z ▸ h
            have : x = y := by simpa using z
            clear z; subst this
            exact ⟨.head _, a, q, (Option.some.inj h).symm⟩
          | false => replace h := z ▸ h; obtain ⟨h1, h2⟩ := lookup_compVars h; exact ⟨.tail _ h1, h2⟩
        | _ => obtain ⟨h1, h2⟩ := lookup_compVars h; exact ⟨.tail _ h1, h2⟩
    · have : (k == NameKind.free) = false := by simpa using hk
      refine Og.cps fun G kG => ?_
      simp only [this, Bool.false_eq_true, if_false] at h
      obtain ⟨h1, h2⟩ := lookup_compVars h
      refine kG ?_
      clear kG
      exact ⟨.tail _ h1, h2⟩
end Og
end
section
set_option maxRecDepth 100000
namespace Og
open PySem PySem.W PyProof.Rows PySem.Calls PySem.Spec PySem.SeqAt
theorem compOk_kind {sc : Scope} (h : compOk sc = true) : sc.kind = .function := by
  unfold compOk at h
  simp only [Bool.and_eq_true, beq_iff_eq] at h
  exact h.1
theorem compOk_at {sc : Scope} (h : compOk sc = true) {x : Str} {k : NameKind} (hm : (x, k) ∈ sc.names) : sc.names.lookup x = some k := by
  unfold compOk at h
  simp only [Bool.and_eq_true, List.all_eq_true, beq_iff_eq] at h
  exact h.2 _ hm
noncomputable abbrev compE (sc : Scope) (C : Addr) (env : Env) : Env := compEnvC sc (cellsFrom (C + 1) sc.names (closL env.cells sc.names [])) C env
section
variable {prog : Program} {w : World} {B : Heap} {P : Addr} {F : Fro} {ρ : List Addr} {st : Sto} {A : Around} {E : Value → Shared → Prop} {s : Shared} {env : Env} {cx : Cx} {ow : Str → List Addr} {sc : Scope}
theorem clos_ok (R : FR prog w P F ρ s.heap env cx ow) (hf : freeOk cx sc = true) : ∀ x ∈ sc.names, x.2 = .free → (env.kindOf x.1 = some .free ∨ env.kindOf x.1 = some .cell) ∧ ∃ c, env.cells.lookup x.1 = some c := by
  intro x hx hk
  unfold freeOk at hf
  have := List.all_eq_true.mp hf x hx
  simp only [hk, bne_self_eq_false, Bool.false_or] at this
  unfold shared at this
  simp only [Bool.or_eq_true, beq_iff_eq] at this
  rcases this with q | q
  · refine O22 (R.cell _ q) ?_; rintro c _ e _
    exact ⟨.inr (R.ks _ _ q (.inr (.inr rfl))), c, e⟩
  · exact R.free _ q
/-- the block's own environment -/
theorem comp_env {M : Model} (G : GR prog w B P F ρ st s.heap) (R : FR prog w P F ρ s.heap env cx ow) (hok : compOk sc = true) (hf : freeOk cx sc = true) {Q : Env → Shared → Prop}
    (hQ : ∀ h' C, s.heap.get? C = none → (∀ x c, (cellsFrom (C + 1) sc.names (closL env.cells sc.names [])).lookup x = some c → sc.names.lookup x = some .cell → s.heap.get? c = none) → (∀ x c, (cellsFrom (C + 1) sc.names (closL env.cells sc.names [])).lookup x = some c → s.heap.get? c = none ∨ env.cells.lookup x = some c) → (∀ a o, s.heap.get? a = some o → h'.get? a = some o) → FR prog w P F ρ h' (compE sc C env) (compVars cx sc) (fun D0 => []) →
      Q { scope := sc, locals := C, globals := env.globals, cells := cellsFrom (C + 1) sc.names (closL env.cells sc.names []), qual := env.qual, func := none, code := env.code, frame := env.frame, builtins := env.builtins } { s with heap := h' }) :
    wpAny M A (newFunctionEnv sc env.globals (closL env.cells sc.names []) [] env.qual none .none (some env)) Q E s := by
  have hk := compOk_kind hok
  simp only [newFunctionEnv, Option.isSome_some, if_true]
  refine wpAny_bind (wpAny_alloc ?_)
  refine wpAny_bind (wpAny_layCells _ (fun name kind cells => by cases hkc : kind == NameKind.cell <;> simp [hkc]) _ _ _ _ ?_)
  simp only [List.forIn_nil]
  refine wpAny_bind (wpAny_pure (wpAny_pure ?_))
  generalize hH : s.heap.push { cls := .type "dict", data := .dict #[] } = H1
  have hsz1 : H1.objs.size = s.heap.objs.size + 1 := by rw [← hH, Heap.size_push]
  have k2 : ∀ a o, s.heap.get? a = some o → (pushCells H1 sc.names).get? a = some o := fun a o e => pushCells_keeps _ _ a o ((fun a o e => hH ▸ Heap.get?_push_of_some _ e : ∀ a o, s.heap.get? a = some o → H1.get? a = some o) a o e)
  have hsz2 := pushCells_size sc.names H1
  have ok := cellsFrom_ok sc.names H1 (s.heap.objs.size + 1) [] ⟨fun D0 D1 hm => (nomatch hm), List.Pairwise.nil⟩ (by exact hsz1 ▸ Nat.le_refl _)
  replace ok := hsz1 ▸ ok
  have hns : (pushCells H1 sc.names).Ns s.heap.objs.size (fun D0 => none) := by
    refine Heap.Ns.keeps ?_ (fun b o e => pushCells_keeps _ _ b o e)
    exact hH ▸ Heap.Ns.new s.heap (.type "dict")
  have hcl := clos_ok R hf
  have own : ∀ x c, (cellsFrom (s.heap.objs.size + 1) sc.names []).lookup x = some c → (x, NameKind.cell) ∈ sc.names ∧ s.heap.objs.size + 1 ≤ c ∧ (pushCells H1 sc.names).IsCell c none := fun x c e => by
    have hm := mem_of_lookup e
    rcases cellsFrom_names' _ _ _ x c hm with q | q
    · exact Og.I03 q ((ok.empty x c hm).2) ((ok.empty x c hm).1)
    · exact nomatch q
  have clo : ∀ x c, (closL env.cells sc.names []).lookup x = some c → (x, NameKind.free) ∈ sc.names ∧ env.cells.lookup x = some c := fun x c e => by
    rcases lookup_closL e with q | ⟨q, rfl⟩
    · exact nos q
    · obtain ⟨_, c', hc'⟩ := hcl _ q rfl
      exact ⟨q, by refine (hc' : env.cells.lookup x = some c') ▸ ?_; rfl⟩
  have cells : ∀ x, (cellsFrom (s.heap.objs.size + 1) sc.names (closL env.cells sc.names [])).lookup x = ((cellsFrom (s.heap.objs.size + 1) sc.names []).lookup x).or ((closL env.cells sc.names []).lookup x) := fun x => by
    have := cellsFrom_app sc.names (s.heap.objs.size + 1) [] (closL env.cells sc.names [])
    rw [List.nil_append] at this
    rw [this, lookup_append']
  have freeAt : ∀ x, (x, NameKind.free) ∈ sc.names → (cellsFrom (s.heap.objs.size + 1) sc.names (closL env.cells sc.names [])).lookup x = env.cells.lookup x := fun x hx => by
    rw [cells]
    have hn : (cellsFrom (s.heap.objs.size + 1) sc.names []).lookup x = none := by
      cases q : (cellsFrom (s.heap.objs.size + 1) sc.names []).lookup x with
      | none => rfl
      | some c =>
        have h2 := compOk_at hok hx
        replace h2 := (compOk_at hok (own x c q).1) ▸ h2; exact absurd h2 (by decide)
    refine hn ▸ Option.none_or ▸ ?_
    obtain ⟨c, hc⟩ := closL_has (cells := env.cells) (acc := []) (.inl hx)
    exact hc ▸ ((clo x c hc).2) ▸ rfl
  have kindF : ∀ x, sc.names.lookup x = some .free → (compE sc s.heap.objs.size env).kindOf x = some .free ∨ (compE sc s.heap.objs.size env).kindOf x = some .cell := fun x e => by
    refine (?_ : (relabel sc env).names.lookup x = _ ∨ (relabel sc env).names.lookup x = _)
    rw [relabel_kind, e, Option.map_some]
    split
    · exact .inr rfl
    · exact .inl rfl
  have memOf : ∀ x k, sc.names.lookup x = some k → (x, k) ∈ sc.names := fun x k e => mem_of_lookup e
  have cellLt : ∀ x c, env.cells.lookup x = some c → (x, NameKind.free) ∈ sc.names → True := fun D0 D1 D2 D3 => trivial
  refine hsz1 ▸ ?_
  refine hQ _ s.heap.objs.size (dead_size _ (Nat.le_refl _)) (fun x c e ex => ?_) (fun x c e => ?_) k2 ?_
  · rw [cells] at e
    cases q1 : (cellsFrom (s.heap.objs.size + 1) sc.names []).lookup x with
    | some c1 => rw [q1] at e; (replace e := Option.some.inj e; subst e); exact dead_size _ (Nat.le_of_succ_le (own x _ q1).2.1)
    | none =>
      obtain ⟨c', hc'⟩ := cellsFrom_has (x := x) sc.names (s.heap.objs.size + 1) [] (.inl (memOf x _ ex))
      rw [q1] at hc'; exact nos hc'
  · rw [cells] at e
    cases q1 : (cellsFrom (s.heap.objs.size + 1) sc.names []).lookup x with
    | some c1 => replace e := q1 ▸ e; (replace e := Option.some.inj e; subst e); exact .inl (dead_size _ (Nat.le_of_succ_le (own x _ q1).2.1))
    | none => rw [q1] at e; exact .inr (clo x c e).2
  have off := G.newOff (dead_size s.heap (Nat.le_refl s.heap.objs.size))
  refine ⟨by refine (?_ : (relabel sc env).kind = _); exact hk, R.glob, ?_, ?_, ⟨_, hns⟩, ?_, Og.I03 off.2.1 off.1 off.2.2, ?_, ?_, ?_, (fun D0 D1 h => nomatch h), (fun D0 D1 D2 h => nomatch h), (fun D0 D1 h => nomatch h), fun z => nomatch z⟩
  · intro x k e hk'
    refine (?_ : (relabel sc env).names.lookup x = _)
    rw [relabel_kind, show sc.names.lookup x = some k from e, Option.map_some]
    clear e; rcases hk' with rfl | rfl | rfl <;> rfl
  · intro x e
    refine ⟨kindF x e, ?_⟩
    refine Og.cps fun G kG => ?_
    have hm := memOf x _ e
    obtain ⟨_, c, hc⟩ := hcl _ hm rfl
    refine kG ?_
    clear kG
    exact ⟨c, (freeAt x hm).trans hc⟩
  · intro x lv e
    refine Og.cps fun G kG => ?_
    obtain ⟨hm, a, ha, rfl⟩ := lookup_compVars e
    refine O12 (R.var x _ ha) ?_; rintro v V L
    obtain ⟨hkk, c0, hc0⟩ := hcl _ hm rfl
    refine kG ?_
    clear kG
    refine Og.I12 v (.inr ⟨(kindF x (compOk_at hok hm)).symm, ?_⟩) L
    rcases V with ⟨q, _⟩ | ⟨_, c, hc, hv⟩
    · rcases hkk with z | z <;> (replace q := z ▸ q; rcases q)
    · exact ⟨c, (freeAt x hm).trans hc, IsCell.keep hv fun o e => k2 c o e⟩
  · intro x e
    have hm := memOf x _ e
    obtain ⟨c, hc⟩ := cellsFrom_has (x := x) sc.names (s.heap.objs.size + 1) [] (.inl hm)
    have o := own x c hc
    exact Og.I23 c none (by refine (?_ : (cellsFrom (s.heap.objs.size + 1) sc.names (closL env.cells sc.names [])).lookup x = _); rw [cells, hc]; rfl) o.2.2 ((G.newOff (dead_size s.heap (Nat.le_of_succ_le o.2.1))).1)
  · intro x y c hx e1 e2
    have e1 : (cellsFrom (s.heap.objs.size + 1) sc.names (closL env.cells sc.names [])).lookup x = some c := e1
    have e2 : (cellsFrom (s.heap.objs.size + 1) sc.names (closL env.cells sc.names [])).lookup y = some c := e2
    rw [cells] at e1 e2
    have low : ∀ z, (closL env.cells sc.names []).lookup z = some c → ¬ s.heap.objs.size + 1 ≤ c := fun z hz hle => by
      obtain ⟨o, q⟩ := R.clt z c (clo z c hz).2
      exact Nat.not_lt.mpr hle (Nat.lt_succ_of_lt (Heap.lt_size q))
    cases q1 : (cellsFrom (s.heap.objs.size + 1) sc.names []).lookup x with
    | some c1 =>
      rw [q1] at e1
      (replace e1 := Option.some.inj e1; subst e1)
      cases q2 : (cellsFrom (s.heap.objs.size + 1) sc.names []).lookup y with
      | some c2 => rw [q2] at e2; (replace e2 := Option.some.inj e2; clear e1; clear low; subst e2); exact name_of_addr ok.apart (mem_of_lookup q1) (mem_of_lookup q2)
      | none => replace e2 := q2 ▸ e2; exact absurd (own x _ q1).2.1 (low y e2)
    | none =>
      obtain ⟨c', hc'⟩ := cellsFrom_has (x := x) sc.names (s.heap.objs.size + 1) [] (.inl (memOf x _ hx))
      rw [q1] at hc'; exact nos hc'
  · intro x c e
    have e : (cellsFrom (s.heap.objs.size + 1) sc.names (closL env.cells sc.names [])).lookup x = some c := e
    rw [cells] at e
    cases q1 : (cellsFrom (s.heap.objs.size + 1) sc.names []).lookup x with
    | some c1 => rw [q1] at e; (replace e := Option.some.inj e; subst e); refine O12 ((own x _ q1).2.2) ?_; rintro o q _; exact ⟨o, q⟩
    | none => rw [q1] at e; obtain ⟨o, q⟩ := R.clt x c (clo x c e).2; exact ⟨o, k2 c o q⟩
end
end Og
end
section
set_option maxRecDepth 100000
namespace Og
open PySem PySem.W PyProof.Rows PySem.Calls PySem.Spec PySem.SeqAt
noncomputable def Touch (env : Env) (cx : Cx) (a : Addr) : Prop := a = env.locals ∨ ∃ x, cx.sc.names.lookup x = some .cell ∧ env.cells.lookup x = some a
section
variable {prog : Program} {w : World} {B : Heap} {P : Addr} {F : Fro} {ρ : List Addr} {st : Sto} {A : Around} {E : Value → Shared → Prop} {s : Shared} {env : Env} {cx : Cx} {ow : Str → List Addr}
theorem Ns.ne_cell {h : Heap} {L c : Addr} {m : Str → Option Value} {v : Option Value} (N : h.Ns L m) (C : h.IsCell c v) : L ≠ c := by
  rintro rfl
  refine O33 N ?_; clear N; rintro o es ep ho hd _
  refine O12 C ?_; clear C; rintro o' ho' hd'
  (replace ho' := Option.some.inj (ho.symm.trans ho'); subst ho'); replace hd' := hd ▸ hd'; cases hd'
theorem FR.touchOff {h : Heap} (R : FR prog w P F ρ h env cx ow) (G : GR prog w B P F ρ st h) : ∀ a, Touch env cx a → F a = none ∧ a ∉ ρ ∧ a ≠ P := by
  rintro a (rfl | ⟨x, e, hc⟩)
  · exact Og.I03 R.lok.2.1 R.lok.1 R.lok.2.2
  · refine O23 (R.cell x e) ?_; rintro c v0 e1 e2 e3
    (replace e1 := Option.some.inj (hc.symm.trans e1); subst e1)
    exact Og.I03 e3 ((G.cell_off e2).1) ((G.cell_off e2).2)
theorem put_ok {x : Str} {lv : LV} {cx' : Cx} (e : cx.put x lv = some cx') : (cx.sc.names.lookup x = some .local ∨ cx.sc.names.lookup x = some .cell) ∧ cx' = { cx with vars := (x, lv) :: cx.vars } := by
  delta Cx.put at e
  cases h : cx.sc.names.lookup x with
  | none => rw [h] at e; exact nos e
  | some k =>
    rw [h] at e
    clear h; cases k <;> first | exact nos e | exact ⟨.inl rfl, (Option.some.inj e).symm⟩ | exact ⟨.inr rfl, (Option.some.inj e).symm⟩
theorem bindT_inv {t : Expr} {a : AV} {cx' : Cx} (e : bindT cx t a = some cx') : ∃ x p, t = .Name x p ∧ cx.put x (.v a) = some cx' := by
  cases t <;> first | exact nos e | exact Og.I22 _ _ rfl e
theorem bindTs_inv {t : Expr} {ts : List Expr} {a : AV} {l : List AV} {cx' : Cx} (e : bindTs cx (t :: ts) (a :: l) = some cx') : ∃ c, bindT cx t a = some c ∧ bindTs c ts l = some cx' := by
  replace e : (match bindT cx t a with | some c => bindTs c ts l | none => none) = some cx' := e
  revert e
  cases bindT cx t a with
  | none => exact fun e => nos e
  | some c => exact fun e => Og.I12 c rfl e
set_option tactic.hygienic true in
theorem assignT_inv {t : Expr} {a : AV} {cx' : Cx} (e : assignT cx t a = some cx') : (∃ x p, t = .Name x p ∧ cx.put x (.v a) = some cx') ∨
    ∃ ts c p l, t = .Tuple ts c p ∧ seqOf a = some l ∧ (ts.length == l.length && decide (ts.length ≤ 8)) = true ∧ bindTs cx ts l = some cx' := by
  cases t <;> first | exact nos e | exact .inl (Og.I22 _ _ rfl e) | skip
  next ts c p =>
  replace e : (match seqOf a with | some l => if ts.length == l.length && decide (ts.length ≤ 8) then bindTs cx ts l else none | none => none) = some cx' := e
  revert e
  cases seqOf a with
  | none => exact fun e => nos e
  | some l => exact fun e => .inr (Og.I44 ts c p l rfl rfl (if_some e).1 (if_some e).2)
theorem put_sound {M : Model} (G : GR prog w B P F ρ st s.heap) (R : FR prog w P F ρ s.heap env cx ow) {x : Str} {lv : LV} {cx' : Cx} {v : Value} {o : List Addr} (e : cx.put x lv = some cx')
    (L : LvR prog w F ρ s.heap o v lv)
    (ho : ∀ a ∈ o, F a = none ∧ a ∉ ρ ∧ a ≠ P ∧ a ≠ env.locals ∧ (∀ y c, env.cells.lookup y = some c → a ≠ c) ∧ (∃ ob, s.heap.get? a = some ob) ∧ ∀ y, y ≠ x → a ∉ ow y)
    {Q : Unit → Shared → Prop} (k : ∀ h' tk, (∀ a ob, ¬ Touch env cx a → s.heap.get? a = some ob → h'.get? a = some ob) → FR prog w P F ρ h' env cx' (fun y => if y = x then o else ow y) → Q () { s with heap := h', toks := tk }) :
    wpAny M A (storeName env x v) Q E s := by
  obtain ⟨hk, rfl⟩ := put_ok e
  obtain ⟨m0, hn0⟩ := R.lns
  have main : ∀ h' : Heap, ∀ T : Addr, Heap.SameBut T s.heap h' → Touch env cx T → (∃ m, h'.Ns env.locals m) → (∀ y v, y ≠ x → VarAt s.heap env y v → VarAt h' env y v) → VarAt h' env x v →
      (∀ y c v0, s.heap.IsCell c v0 → env.cells.lookup y = some c → ∃ v1, h'.IsCell c v1) →
      (∀ a ob, ¬ Touch env cx a → s.heap.get? a = some ob → h'.get? a = some ob) ∧ FR prog w P F ρ h' env { cx with vars := (x, lv) :: cx.vars } (fun y => if y = x then o else ow y) := by
    intro h' T hs hT hns hv hx hc
    have kp : ∀ a ob, ¬ Touch env cx a → s.heap.get? a = some ob → h'.get? a = some ob := fun a ob hn q => hs.extBut a ob (fun z => hn (z ▸ hT)) q
    have lv' : ∀ a, (∃ ob, s.heap.get? a = some ob) → ∃ ob, h'.get? a = some ob := fun a zz => zz.elim fun ob q => by
      by_cases z : a = T
      · subst z
        rcases hT with rfl | ⟨y, e1, e2⟩
        · refine O42 hns ?_; clear hns; rintro m oo _ _ q _; exact ⟨oo, q⟩
        · refine O23 (R.cell y e1) ?_; rintro c v0 q1 q2 _
          (replace q1 := Option.some.inj (e2.symm.trans q1); subst q1)
          refine O22 (hc y _ v0 q2 e2) ?_; rintro v1 oo q3 _
          exact ⟨oo, q3⟩
      · exact ⟨ob, hs.extBut a ob z q⟩
    refine ⟨kp, ⟨R.kind, R.glob, R.ks, R.free, hns, fun y lvy hy => ?_, R.lok, fun y hy => ?_, R.capart, fun y c hc' => lv' c (R.clt y c hc'), fun y a ha => ?_, fun y z a ha hb => ?_, fun y a ha => ?_, R.lamc⟩⟩
    · by_cases hyx : y = x
      · clear hk e k hv; subst hyx
        rw [List.lookup_cons] at hy
        rw [beq_self_eq_true] at hy
        (replace hy := Option.some.inj hy; subst hy)
        refine Og.I12 v hx ?_
        show LvR prog w F ρ h' (if y = y then o else ow y) v lv
        refine (if_pos rfl) ▸ ?_
        refine L.keep (fun D0 D1 q => q) (fun D0 D1 q => q) fun a ha ob q => kp a ob (fun t => ?_) q
        refine O06 (ho a ha) ?_; rintro _ _ _ h4 h5 _
        rcases t with t | ⟨z, e1, e2⟩
        · exact h4 t
        · exact h5 z a e2 rfl
      · rw [List.lookup_cons] at hy
        simp only [(by simpa using hyx : (y == x) = false)] at hy
        refine O12 (R.var y lvy hy) ?_; rintro u V Lu
        refine Og.I12 u (hv y u hyx V) ?_
        show LvR prog w F ρ h' (if y = x then o else ow y) u lvy
        refine (if_neg hyx) ▸ ?_
        refine Lu.keep (fun D0 D1 q => q) (fun D0 D1 q => q) fun a ha ob q => kp a ob (fun t => ?_) q
        refine O05 (R.own y a ha) ?_; rintro _ _ _ h4 h5
        rcases t with t | ⟨z, e1, e2⟩
        · exact h4 t
        · exact h5 z a e2 rfl
    · refine O23 (R.cell y hy) ?_; rintro c v0 q1 q2 q3
      obtain ⟨v1, q4⟩ := hc y c v0 q2 q1
      exact Og.I23 c v1 q1 q4 q3
    · by_cases hyx : y = x
      · rw [if_pos hyx] at ha
        refine O06 (ho a ha) ?_; rintro h1 h2 h3 h4 h5 _
        exact Og.I05 h1 h2 h3 h4 h5
      · rw [if_neg hyx] at ha; exact R.own y a ha
    · by_cases hyx : y = x <;> by_cases hzx : z = x
      · exact hyx ▸ hzx ▸ rfl
      · rw [if_pos hyx] at ha; rw [if_neg hzx] at hb
        exact absurd hb ((ho a ha).2.2.2.2.2.2 z hzx)
      · rw [if_neg hyx] at ha; rw [if_pos hzx] at hb
        exact absurd ha ((ho a hb).2.2.2.2.2.2 y hyx)
      · rw [if_neg hyx] at ha; rw [if_neg hzx] at hb; exact R.oinj y z a ha hb
    · by_cases hyx : y = x
      · rw [if_pos hyx] at ha; exact lv' a (ho a ha).2.2.2.2.2.1
      · rw [if_neg hyx] at ha; exact lv' a (R.below y a ha)
  rcases hk with hk | hk
  · refine wpAny_storeName_local (R.ks _ _ hk (.inr (.inl rfl))) hn0 (fun h' hn' hs => ?_) (by refine R.kind ▸ ?_; rfl)
    have V1 : ∀ y u, y ≠ x → VarAt s.heap env y u → VarAt h' env y u := fun y u hyx V => by
      rcases V with ⟨q, m, qn, qv⟩ | ⟨q, c, qc, qv⟩
      · exact .inl ⟨q, _, hn', by rw [if_neg hyx, ← Heap.Ns.agree qn hn0]; exact qv⟩
      · exact .inr ⟨q, c, qc, qv.sameBut hs (Ns.ne_cell hn0 qv).symm⟩
    obtain ⟨k1, k2⟩ := main h' env.locals hs (.inl rfl) ⟨_, hn'⟩ V1 (.inl ⟨R.ks _ _ hk (.inr (.inl rfl)), _, hn', by simp⟩) fun y c v0 C D0 => ⟨v0, C.sameBut hs (Ns.ne_cell hn0 C).symm⟩
    exact k h' _ k1 k2
  · refine O23 (R.cell x hk) ?_; rintro c v0 q1 q2 q3
    refine wpAny_storeName_cell R.kind (R.ks _ _ hk (.inr (.inr rfl))) q1 q2 fun h' hc' hs => ?_
    have V1 : ∀ y u, y ≠ x → VarAt s.heap env y u → VarAt h' env y u := fun y u hyx V => by
      rcases V with ⟨q, m, qn, qv⟩ | ⟨q, c', qc, qv⟩
      · exact .inl ⟨q, m, qn.sameBut hs (Ns.ne_cell qn q2), qv⟩
      · exact .inr ⟨q, c', qc, qv.sameBut hs fun z => hyx (R.capart x y c hk q1 (z ▸ qc)).symm⟩
    obtain ⟨k1, k2⟩ := main h' c hs (.inr (Og.I12 x hk q1)) ⟨m0, hn0.sameBut hs (Ns.ne_cell hn0 q2)⟩ V1 (.inr ⟨.inl (R.ks _ _ hk (.inr (.inr rfl))), c, q1, hc'⟩) fun y c' v1 C D0 => by
        by_cases z : c' = c
        · subst z; exact ⟨_, hc'⟩
        · exact ⟨v1, C.sameBut hs z⟩
    exact k h' _ k1 k2
/-- a store of a value that is not owned -/
theorem put_v {M : Model} (G : GR prog w B P F ρ st s.heap) (R : FR prog w P F ρ s.heap env cx ow) {x : Str} {a : AV} {cx' : Cx} {v : Value} (e : cx.put x (.v a) = some cx') (L : Rel prog w F ρ v a)
    {Q : Unit → Shared → Prop} (k : ∀ h' tk ow', (∀ a ob, ¬ Touch env cx a → s.heap.get? a = some ob → h'.get? a = some ob) → FR prog w P F ρ h' env cx' ow' → (∀ y a, a ∈ ow' y → a ∈ ow y) → Q () { s with heap := h', toks := tk }) :
    wpAny M A (storeName env x v) Q E s :=
  put_sound G R e (o := []) L (fun a ha => nomatch ha) fun h' tk k1 k2 => k h' tk _ k1 k2 fun y a ha => by
    by_cases hyx : y = x
    · replace ha := (if_pos hyx) ▸ ha; exact nomatch ha
    · replace ha := (if_neg hyx) ▸ ha; exact ha
theorem GR.touched {h h' : Heap} (G : GR prog w B P F ρ st h) (R : FR prog w P F ρ h env cx ow) (k : ∀ a ob, ¬ Touch env cx a → h.get? a = some ob → h'.get? a = some ob) : GR prog w B P F ρ st h' :=
  G.touch (Touch env cx) (R.touchOff G) k
theorem bindT_sound {M : Model} (G : GR prog w B P F ρ st s.heap) (R : FR prog w P F ρ s.heap env cx ow) {t : Expr} {a : AV} {cx' : Cx} {v : Value} (e : bindT cx t a = some cx') (L : Rel prog w F ρ v a)
    {Q : Unit → Shared → Prop} (k : ∀ h' tk ow', (∀ a ob, ¬ Touch env cx a → s.heap.get? a = some ob → h'.get? a = some ob) → FR prog w P F ρ h' env cx' ow' → (∀ y a, a ∈ ow' y → a ∈ ow y) → cx'.sc = cx.sc → Q () { s with heap := h', toks := tk }) :
    wpAny M A (assign t env v) Q E s := by
  refine O22 (bindT_inv e) ?_; clear e; rintro x p rfl e
  exact wpAny_assign_Name (put_v G R e L fun h' tk ow' k1 k2 k3 => k h' tk ow' k1 k2 k3 (by clear k2; clear k; obtain ⟨_, rfl⟩ := put_ok e; rfl))
theorem bindTs_sound {M : Model} : ∀ {ts : List Expr} {l : List AV} {vs : List Value} {s : Shared} {cx cx' : Cx} {ow : Str → List Addr}, GR prog w B P F ρ st s.heap → FR prog w P F ρ s.heap env cx ow →
    bindTs cx ts l = some cx' → RelL prog w F ρ vs l →
    ∀ {Q : Unit → Shared → Prop}, (∀ h' tk ow', (∀ a ob, ¬ Touch env cx a → s.heap.get? a = some ob → h'.get? a = some ob) → FR prog w P F ρ h' env cx' ow' → (∀ y a, a ∈ ow' y → a ∈ ow y) → cx'.sc = cx.sc → Q () { s with heap := h', toks := tk }) →
    wpAny M A (assignInOrder (ts.map fun t v => assign t env v) vs) Q E s := by
  intro ts
  induction ts with
  | nil =>
    intro l vs s cx cx' ow G R e h Q k
    cases l with
    | cons _ _ => exact nos e
    | nil =>
      exact (RelL.nilR h) ▸ wpAny_assignInOrder_none (k s.heap s.toks ow (fun D0 D1 D2 q => q) (Option.some.inj e ▸ R) (fun D0 D1 q => q) (Option.some.inj e ▸ rfl))
  | cons t ts ih =>
    intro l vs s cx cx' ow G R e h Q k
    cases l with
    | nil => exact nos e
    | cons a l =>
      refine O23 (RelL.consR h) ?_; clear h; rintro v us rfl h1 h2
      refine O12 (bindTs_inv e) ?_; clear e; rintro cx1 e1 e
      · refine wpAny_assignInOrder_more (bindT_sound G R e1 h1 fun h' tk ow' k1 k2 k3 k4 => ?_)
        have tc : ∀ a, Touch env cx1 a ↔ Touch env cx a := fun a => by unfold Touch; rw [k4]
        refine ih (s := { s with heap := h', toks := tk }) (G.touched R k1) k2 e h2 fun h'' tk' ow'' q1 q2 q3 q4 => ?_
        exact k h'' tk' ow'' (fun a ob hn q => q1 a ob (fun z => hn ((tc a).mp z)) (k1 a ob hn q)) q2 (fun y a z => k3 y a (q3 y a z)) (q4.trans k4)
theorem assignEach_plain {ts : List Expr} (h : ∀ t ∈ ts, ∃ x p, t = .Name x p) : (assignEach ts env).map (·.2) = (ts.map fun t v => assign t env v) ∧ (assignEach ts env).findIdx? (·.1) = none ∧ (assignEach ts env).length = ts.length := by
  induction ts with
  | nil => exact Og.I03 rfl rfl rfl
  | cons t ts ih =>
    refine O21 (h _ (.head _)) ?_; rintro x p rfl
    refine O03 (ih fun t ht => h t (.tail _ ht)) ?_; rintro i1 i2 i3
    have e : assignEach (.Name x p :: ts) env = (false, assign (.Name x p) env) :: assignEach ts env := rfl
    refine e ▸ ?_
    refine Og.I03 (by refine List.map_cons ▸ i1 ▸ ?_; rfl) (by rw [List.findIdx?_cons, i2]; rfl) (by simp [i3])
theorem bindTs_names : ∀ {ts : List Expr} {l : List AV} {cx cx' : Cx}, bindTs cx ts l = some cx' → ∀ t ∈ ts, ∃ x p, t = .Name x p
  | [], _, _, _, _, _, ht => nomatch ht
  | t :: ts, [], _, _, e, _, _ => by exact nos e
  | t :: ts, a :: l, cx, cx', e, u, hu => by
    refine O12 (bindTs_inv e) ?_; clear e; rintro cx1 e1 e
    rcases List.mem_cons.mp hu with rfl | hu
    · exact O22 (bindT_inv e1) fun x p q D0 => Og.I21 x p q
    · exact bindTs_names e u hu
set_option tactic.hygienic true in
/-- a store to a name, or to a tuple of names -/
theorem assign_sound (hh : A.handled = none) (G : GR prog w B P F ρ st s.heap) (R : FR prog w P F ρ s.heap env cx ow) {t : Expr} {a : AV} {cx' : Cx} {v : Value} (e : assignT cx t a = some cx') (L : Rel prog w F ρ v a)
    {Q : Unit → Shared → Prop} (k : ∀ h' tk ow', (∀ a ob, ¬ Touch env cx a → s.heap.get? a = some ob → h'.get? a = some ob) → FR prog w P F ρ h' env cx' ow' → (∀ y a, a ∈ ow' y → a ∈ ow y) → cx'.sc = cx.sc → Q () { s with heap := h', toks := tk }) :
    wpAny (model prog w) A (assign t env v) Q E s := by
  rcases assignT_inv e with ⟨x, p, rfl, e⟩ | ⟨ts, ctx, pos, l, rfl, hl, hlen, e⟩
  · exact wpAny_assign_Name (put_v G R e L fun h' tk ow' k1 k2 k3 => k h' tk ow' k1 k2 k3 (by clear k e k2; obtain ⟨_, rfl⟩ := put_ok e; rfl))
  · skip
    · skip
      · have hlen : ts.length = l.length := by simp only [Bool.and_eq_true, beq_iff_eq] at hlen; exact hlen.1
        have pl := assignEach_plain (env := env) (bindTs_names e)
        have fin : ∀ vs : List Value, RelL prog w F ρ vs l → ∀ h1 : Heap, Heap.ExtBut s.heap.objs.size s.heap h1 → wpAny (model prog w) A (assignInOrder ((assignEach ts env).map (·.2)) vs) Q E { s with heap := h1 } := fun vs V h1 he => by
          have kk : ∀ a ob, s.heap.get? a = some ob → h1.get? a = some ob := fun a ob q => he a ob (Nat.ne_of_lt (Heap.lt_size q)) q
          refine pl.1 ▸ ?_
          refine bindTs_sound (s := { s with heap := h1 }) (G.keeps kk) (R.step G (Step.keeps kk : Step P NoX F ρ s.heap F ρ h1)) e V fun h' tk ow' k1 k2 k3 k4 => ?_
          exact k h' tk ow' (fun a ob hn q => k1 a ob hn (kk a ob q)) k2 k3 k4
        cases a <;> first | exact nos hl | (simp only [seqOf] at hl; try rcases hl)
        · cases L with
          | tup Fa La =>
            rename_i ad vs n
            have hsz : vs.length = ts.length := by rw [La.length, hlen]
            refine wpAny_assign_Tuple hh (isTuple_of G.fz' Fa) (by rw [pl.2.2, List.size_toArray, hsz]) pl.2.1 fun h1 he => fin vs La h1 he
        · cases L with
          | lst Fa La =>
            rename_i ad vs n
            have hsz : vs.length = ts.length := by rw [La.length, hlen]
            rw [arm_assign_Tuple]
            refine wpAny_bind (wpAny_standAt ?_)
            unfold unpack
            refine pl.2.2 ▸ pl.2.1 ▸ ?_
            have := PySem.W.kun_itemsOf (A := A) (E := E) (prog := prog) (w := w) hh (isList_of G.fz' Fa) (Q := fun vs s' => wpAny (model prog w) A (assignInOrder ((assignEach ts env).map (·.2)) vs) Q E s') fun h1 he => fin vs La h1 he
            rw [List.size_toArray, hsz] at this
            exact wpAny_bind (wpAny_holding this)
end
end Og
end
section
set_option maxRecDepth 100000
namespace Og
open PySem PySem.W PyProof.Rows PySem.Calls PySem.Spec PySem.SeqAt
/-- a value that a source hands over: one that was there, or a tuple of such, to be unpacked at once -/
noncomputable def ItemR (prog : Program) (w : World) (t : Expr) (F : Fro) (ρ : List Addr) (h' : Heap) (v : Value) (a : AV) : Prop :=
  Rel prog w F ρ v a ∨ ∃ T vs l, v = .ref T ∧ a = .tup l ∧ h'.IsTuple T vs.toArray ∧ RelL prog w F ρ vs l ∧ ∃ ts c p, t = .Tuple ts c p
structure Src (prog : Program) (w : World) (A : Around) (t : Expr) (I : Addr) (fp wr : List Addr) (l : List AV) (F : Fro) (ρ : List Addr) (St : Nat → Heap → Prop) : Prop where
  sub : ∀ b ∈ wr, b ∈ fp
  frame : ∀ i h h', St i h → (∀ b ∈ fp, ∀ o, h.get? b = some o → h'.get? b = some o) → St i h'
  live : ∀ i h, St i h → ∀ b ∈ fp, ∃ o, h.get? b = some o
  item : ∀ i a (s : Shared) (Q : Value → Shared → Prop) (E : Value → Shared → Prop), l[i]? = some a → St i s.heap →
    (∀ v h' tk, ItemR prog w t F ρ h' v a → St (i + 1) h' → (∀ b o, b ∉ wr → s.heap.get? b = some o → h'.get? b = some o) → Q v { s with heap := h', toks := tk }) →
    wpAny (model prog w) A (pyNext (.ref I)) (fun r s₁ => ∃ v, r = some v ∧ wpAny (model prog w) A (letOwnedTupleGo t (.ref I) v) (fun D0 s₂ => Q v s₂) E s₁) E s
  done : ∀ (s : Shared) (Q : Option Value → Shared → Prop) (E : Value → Shared → Prop), St l.length s.heap →
    (∀ h' tk, (∀ b o, b ∉ wr → s.heap.get? b = some o → h'.get? b = some o) → Q none { s with heap := h', toks := tk }) → wpAny (model prog w) A (pyNext (.ref I)) Q E s
  self : ∀ i (s : Shared) (Q : Value → Shared → Prop) (E : Value → Shared → Prop), St i s.heap → Q (.ref I) s → wpAny (model prog w) A (pyIter (.ref I)) Q E s
section
variable {prog : Program} {w : World} {B : Heap} {P : Addr} {F : Fro} {ρ : List Addr} {st : Sto} {A : Around} {E : Value → Shared → Prop} {s : Shared}
noncomputable def goNames : List String := ["enumerate", "zip", "dict_itemiterator", "dict_reverseitemiterator", "odict_iterator", "itertools.zip_longest", "itertools.pairwise"]
theorem letGo_plain {M : Model} {t : Expr} {I : Addr} {o : Obj} {n : String} {v : Value} {Q : Unit → Shared → Prop} (ho : s.heap.get? I = some o) (hc : o.cls = .type n) (hn : goNames.contains n = false) (q : Q () s) :
    wpAny M A (letOwnedTupleGo t (.ref I) v) Q E s := by
  have core : wpAny M A (do
      let (.ref r, .ref a) := (Value.ref I, v) | return
      let o ← load r
      match o.cls, o.data with
      | .type n, .fields vs =>
        if ["enumerate", "zip", "dict_itemiterator", "dict_reverseitemiterator", "odict_iterator", "itertools.zip_longest", "itertools.pairwise"].contains n && vs[0]? == some (rawInt a) then
          rule "for.unpacks-the-owned-tuple"
          updateField r 0 .none
      | _, _ => pure ()) Q E s := by
    cases v <;> try exact wpAny_pure q
    refine wpAny_bind (wpAny_load ho ?_)
    refine hc ▸ ?_
    cases hd : o.data <;> try exact wpAny_pure q
    dsimp only
    refine (show (["enumerate", "zip", "dict_itemiterator", "dict_reverseitemiterator", "odict_iterator", "itertools.zip_longest", "itertools.pairwise"].contains n) = false from hn) ▸ ?_
    simp only [Bool.false_and, Bool.false_eq_true, if_false]
    exact wpAny_pure q
  cases t <;> first | exact core | exact wpAny_pure q
theorem Src.ofWalks {t : Expr} {I : Addr} {fp wr : List Addr} {l : List AV} {Pv : Nat → Value → Prop} {St : Nat → Heap → Prop} (W : Walks prog w A I fp wr l.length Pv St)
    (hl : ∀ i h, St i h → ∀ b ∈ fp, ∃ o, h.get? b = some o) (hc : ∀ i h, St i h → ∃ o n, h.get? I = some o ∧ o.cls = .type n ∧ goNames.contains n = false)
    (hP : ∀ i v a, Pv i v → l[i]? = some a → Rel prog w F ρ v a) : Src prog w A t I fp wr l F ρ St where
  sub := W.sub
  frame := W.frame
  live := hl
  item := fun i a s Q E hi st k => by
    refine W.item i s _ E (List.getElem?_eq_some_iff.mp hi).1 st fun v h' tk hv st' kk => ?_
    refine Og.I12 v rfl ?_
    refine O23 (hc _ _ st') ?_; rintro o n e1 e2 e3
    exact letGo_plain (s := { s with heap := h', toks := tk }) e1 e2 e3 (k v h' tk (.inl (hP i v a hv hi)) st' kk)
  done := W.done
  self := W.self
theorem IsListIter.obj {h : Heap} {I ax : Addr} {i : Nat} (x : h.IsListIter I ax i) : ∃ o, h.get? I = some o ∧ o.cls = .type "list_iterator" := Og.O13 x fun o e c D0 => ⟨o, e, c⟩
theorem IsTupleIter.obj {h : Heap} {I ax : Addr} {i : Nat} (x : h.IsTupleIter I ax i) : ∃ o, h.get? I = some o ∧ o.cls = .type "tuple_iterator" := Og.O13 x fun o e c D0 => ⟨o, e, c⟩
set_option tactic.hygienic true in
/-- an iterator over what does not change -/
theorem iter_sound (hh : A.handled = none) (G : GR prog w B P F ρ st s.heap) {t : Expr} {v : Value} {a : AV} {l : List AV} (e : iterA st a = some l) (R : Rel prog w F ρ v a) {Q : Value → Shared → Prop}
    (k : ∀ I fp wr St h' tk, Src prog w A t I fp wr l F ρ St → St 0 h' → (∀ b ∈ wr, s.heap.get? b = none) → (∀ b ∈ fp, b ∈ wr ∨ ∃ o, F b = some o) → (∀ b o, s.heap.get? b = some o → h'.get? b = some o) →
      l.length ≤ big → Q (.ref I) { s with heap := h', toks := tk }) : wpAny (model prog w) A (pyIter v) Q E s := by
  unfold iterA at e
  split at e
  · split at e
    · rename_i hsz
      cases e
      refine O33 R.inv ?_; rintro ax vs n rfl Fa L
      ·
        have hl := isList_of G.fz' Fa
        refine wpAny_pyIter_list hl ?_
        have hne : ax ≠ s.heap.objs.size := Nat.ne_of_lt (Heap.lt_size (G.fz' _ _ Fa))
        have W := Walks.list (prog := prog) (w := w) (A := A) hh s.heap.objs.size ax hne vs.toArray
        rw [show vs.toArray.size = l.length from by rw [List.size_toArray]; exact L.length] at W
        refine k _ _ _ _ _ s.toks (Src.ofWalks W (fun i h hs b hb => ?_) (fun i h hs => ?_) fun i v a hv hi => ?_) ⟨Og.I13 _ (Heap.get?_push_size _ rfl) rfl rfl, hl.push _⟩ (fun b hb => ?_) (fun b hb => ?_) (fun b o q => Heap.get?_push_of_some _ q) hsz
        · simp only [List.mem_cons, List.not_mem_nil, or_false] at hb
          rcases hb with rfl | rfl
          · refine O12 (IsListIter.obj hs.1) ?_; rintro o q _; exact ⟨o, q⟩
          · refine O12 hs.2 ?_; rintro o q _; exact ⟨o, q⟩
        · refine O12 (IsListIter.obj hs.1) ?_; rintro o q1 q2; exact ⟨o, _, q1, q2, by decide⟩
        · refine O12 (L.get hi) ?_; rintro v' q1 q2
          have : vs.toArray[i]? = some v' := by simpa using q1
          rw [this] at hv; (first | obtain rfl := hv.inv | obtain ⟨_, rfl⟩ := hv.inv | (replace hv := Option.some.inj hv; subst hv)); exact q2
        · simp only [List.mem_cons, List.not_mem_nil, or_false] at hb
          subst hb; exact dead_size _ (Nat.le_refl _)
        · simp only [List.mem_cons, List.not_mem_nil, or_false] at hb
          rcases hb with rfl | rfl
          · exact .inl (by simp)
          · exact .inr ⟨_, Fa⟩
    · cases e
  · split at e
    · rename_i hsz
      cases e
      refine O33 R.inv ?_; rintro ax vs n rfl Fa L
      ·
        have hl := isTuple_of G.fz' Fa
        refine wpAny_pyIter_tuple hl ?_
        have hne : ax ≠ s.heap.objs.size := Nat.ne_of_lt (Heap.lt_size (G.fz' _ _ Fa))
        have W := Walks.tuple (prog := prog) (w := w) (A := A) hh s.heap.objs.size ax hne vs.toArray
        rw [show vs.toArray.size = l.length from by rw [List.size_toArray]; exact L.length] at W
        refine k _ _ _ _ _ s.toks (Src.ofWalks W (fun i h hs b hb => ?_) (fun i h hs => ?_) fun i v a hv hi => ?_) ⟨Og.I13 _ (Heap.get?_push_size _ rfl) rfl rfl, hl.push _⟩ (fun b hb => ?_) (fun b hb => ?_) (fun b o q => Heap.get?_push_of_some _ q) hsz
        · simp only [List.mem_cons, List.not_mem_nil, or_false] at hb
          rcases hb with rfl | rfl
          · refine O12 (IsTupleIter.obj hs.1) ?_; rintro o q _; exact ⟨o, q⟩
          · refine O12 hs.2 ?_; rintro o q _; exact ⟨o, q⟩
        · refine O12 (IsTupleIter.obj hs.1) ?_; rintro o q1 q2; exact ⟨o, _, q1, q2, by decide⟩
        · refine O12 (L.get hi) ?_; rintro v' q1 q2
          have : vs.toArray[i]? = some v' := by simpa using q1
          rw [this] at hv; (first | obtain rfl := hv.inv | obtain ⟨_, rfl⟩ := hv.inv | (replace hv := Option.some.inj hv; subst hv)); exact q2
        · simp only [List.mem_cons, List.not_mem_nil, or_false] at hb
          subst hb; exact dead_size _ (Nat.le_refl _)
        · simp only [List.mem_cons, List.not_mem_nil, or_false] at hb
          rcases hb with rfl | rfl
          · exact .inl (by simp)
          · exact .inr ⟨_, Fa⟩
    · cases e
  · rename_i a b
    split at e
    · rename_i hab
      cases e
      have hab := of_decide_eq_true hab
      refine O42 R.inv ?_; rintro ad t u v rfl Fa
      ·
        refine wpAny_pyIter_range (G.fz' _ _ Fa) (small_one (by (clear k; omega)) (by have : (big : Int) = 2 ^ 20 := rfl; (clear k; omega)) (by (clear k; omega)) (by have : (big : Int) = 2 ^ 20 := rfl; (clear k; omega))) ?_
        have W := Walks.range (prog := prog) (w := w) (A := A) hh s.heap.objs.size a 1 (b - a).toNat
        have hlen : ((List.range (b - a).toNat).map fun i => AV.int (a + (i : Nat))).length = (b - a).toNat := by simp
        rw [← hlen] at W
        refine k _ _ _ _ _ s.toks (Src.ofWalks W (fun i h hs b hb => ?_) (fun i h hs => ?_) fun i v a' hv hi => ?_) ?_ (fun b hb => ?_) (fun b hb => ?_) (fun b o q => Heap.get?_push_of_some _ q) ?_
        · simp only [List.mem_cons, List.not_mem_nil, or_false] at hb
          subst hb; exact ⟨_, hs⟩
        · exact Og.I23 _ _ hs rfl (by decide)
        · obtain ⟨t, rfl⟩ := hv
          have hi' : i < (b - a).toNat := by have := (List.getElem?_eq_some_iff.mp hi).1; rwa [hlen] at this
          rw [List.getElem?_map, List.getElem?_range hi'] at hi
          (replace hi := Option.some.inj hi; subst hi)
          rw [Int.mul_one]; exact .int _ _
        · have e1 : Builtin.Range.rangeSize a b 1 = (((b - a).toNat : Nat) : Int) := by rw [rangeSize_one]; split <;> (clear k hab hlen; omega)
          refine e1 ▸ ?_
          refine (?_ : IsRangeIter _ _ _ _ _)
          rw [show a + ((0 : Nat) : Int) * 1 = a by (clear k hab hlen e1; omega), hlen, show (((b - a).toNat : Nat) : Int) - ((0 : Nat) : Int) = (((b - a).toNat : Nat) : Int) by (clear k hab hlen e1; omega)]
          exact Heap.get?_push_size _ rfl
        · simp only [List.mem_cons, List.not_mem_nil, or_false] at hb
          subst hb; exact dead_size _ (Nat.le_refl _)
        · exact .inl hb
        · rw [hlen]; have : (big : Int) = 2 ^ 20 := rfl
          have : big = 2 ^ 20 := rfl
          (clear k hlen this; omega)
    · cases e
  · cases e
end
end Og
end
section
set_option maxRecDepth 100000
namespace Og
open PySem PySem.W PyProof.Rows PySem.Calls PySem.Spec PySem.SeqAt
section
variable {prog : Program} {w : World} {B : Heap} {P : Addr} {F : Fro} {ρ : List Addr} {st : Sto} {A : Around} {E : Value → Shared → Prop} {s : Shared}
/-- what stands somewhere, and is no one's, may count as fixed from here on -/
theorem GR.freeze {h : Heap} (G : GR prog w B P F ρ st h) {a : Addr} {o : Obj} (e : h.get? a = some o) (hF : F a = none) (hρ : a ∉ ρ) (hP : a ≠ P) :
    ∃ F', GR prog w B P F' ρ st h ∧ (∀ b o', F b = some o' → F' b = some o') ∧ F' a = some o ∧ ∀ b o', F' b = some o' → F b = some o' ∨ b = a := by
  have hs : ∀ b o', F b = some o' → (if b = a then some o else F b) = some o' := fun b o' q => by rw [if_neg (fun z => by replace q := hF ▸ z ▸ q; exact nos q)]; exact q
  refine Og.I14 (fun b => if b = a then some o else F b) ⟨fun b o' q => hs b o' (G.base b o' q), ?_, fun b o' q => ?_, G.len, G.nd, fun b hb => ⟨?_, (G.off b hb).2⟩, fun i b m e1 e2 => ?_, ?_⟩ hs (if_pos rfl) (fun b o' q => ?_)
  · obtain ⟨om, em⟩ := G.mods; exact ⟨om, hs _ _ em⟩
  · by_cases z : b = a
    · clear hF hρ hs; subst z
      have : some o = some o' := by simpa using q
      (replace this := Option.some.inj this; subst this)
      exact ⟨e, hP⟩
    · exact G.fz b o' (by simpa [z] using q)
  · show (if b = a then some o else F b) = none
    rw [if_neg (fun z : b = a => hρ (z ▸ hb))]; exact (G.off b hb).1
  · have M := G.objs i b m e1 e2
    cases m with
    | list l => refine O22 M ?_; clear M; rintro vs n q r; exact Og.I22 vs n q (r.mono hs fun D0 D1 z => z)
    | dict ks vs => refine O23 M ?_; clear M; rintro es n q k r; exact Og.I23 es n q (k.mono hs) (r.mono hs fun D0 D1 z => z)
    | attrs ks vs => refine O24 M ?_; clear M; rintro es n q k d r; exact Og.I24 es n q k d (r.mono hs fun D0 D1 z => z)
  · refine O13 G.tab ?_; rintro ps q t z
    refine Og.I13 ps q t (fun pos cv y => ?_)
    refine O43 (z pos cv y) ?_; rintro c oc vs tt z1 z2 z3
    exact Og.I43 c oc vs tt z1 (hs _ _ z2) z3
  · by_cases z : b = a
    · exact .inr z
    · exact .inl (by simpa [z] using q)
/-- a step whose end freezes what was not there at its begin -/
theorem Step.froze {X : Addr → Prop} {F' F'' : Fro} {ρ' : List Addr} {h h' : Heap} (S : Step P X F ρ h F' ρ' h') {a : Addr} (hs : ∀ b o, F' b = some o → F'' b = some o) (hn : ∀ b o, F'' b = some o → F' b = some o ∨ b = a)
    (ha : h.get? a = none) : Step P X F ρ h F'' ρ' h' :=
  ⟨fun b o e => hs b o (S.sub b o e), fun b o e => by
    rcases hn b o e with q | q
    · exact S.new b o q
    · clear hn; subst q; exact .inr (.inl ha), S.pre, S.keep, S.live⟩
theorem FR.froze {h : Heap} {F' : Fro} {env : Env} {cx : Cx} {ow : Str → List Addr} (R : FR prog w P F ρ h env cx ow) {a : Addr} (hs : ∀ b o, F b = some o → F' b = some o) (hn : ∀ b o, F' b = some o → F b = some o ∨ b = a)
    (ha : a ≠ env.locals ∧ (∀ x c, cx.sc.names.lookup x = some .cell → env.cells.lookup x = some c → c ≠ a) ∧ ∀ x, a ∉ ow x) : FR prog w P F' ρ h env cx ow := by
  have fre : ∀ b, F b = none → b ≠ a → F' b = none := fun b hb hne => by
    cases q : F' b with
    | none => rfl
    | some o => rcases hn b o q with z | z
                · exact Og.nos (hb.symm.trans z)
                · exact absurd z hne
  refine ⟨R.kind, R.glob, R.ks, R.free, R.lns, fun x lv e => ?_, Og.I03 R.lok.1 (fre _ R.lok.2.1 ha.1.symm) R.lok.2.2, fun x e => ?_, R.capart, R.clt, fun x b hb => ?_, R.oinj, R.below, R.lamc.mono hs id⟩
  · refine O12 (R.var x lv e) ?_; rintro v V L
    exact Og.I12 v V (L.keep hs (fun D0 D1 z => z) fun D0 D1 D2 z => z)
  · refine O23 (R.cell x e) ?_; rintro c v0 e1 e2 e3
    exact Og.I23 c v0 e1 e2 (fre c e3 (ha.2.1 x c e e1))
  · obtain ⟨h1, h2⟩ := R.own x b hb
    exact ⟨fre b h1 (fun z => ha.2.2 x (z ▸ hb)), h2⟩
theorem FR.touch {h h' : Heap} {env : Env} {cx : Cx} {ow : Str → List Addr} (R : FR prog w P F ρ h env cx ow) (T : Addr → Prop) (k : ∀ a o, ¬ T a → h.get? a = some o → h'.get? a = some o)
    (h1 : ¬ T env.locals) (h2 : ∀ x c, env.cells.lookup x = some c → ¬ T c) (h3 : ∀ x, ∀ a ∈ ow x, ¬ T a) : FR prog w P F ρ h' env cx ow := by
  refine Og.cps fun G kG => ?_
  obtain ⟨m0, hn0⟩ := R.lns
  refine kG ?_
  clear kG
  refine ⟨R.kind, R.glob, R.ks, R.free, ⟨m0, Ns.keep hn0 fun o e => k _ o h1 e⟩, fun x lv e => ?_, R.lok, fun x e => ?_, R.capart, fun x c e => (R.clt x c e).elim fun o q => ⟨o, k c o (h2 x c e) q⟩, R.own, R.oinj,
    fun x a ha => (R.below x a ha).elim fun o q => ⟨o, k a o (h3 x a ha) q⟩, R.lamc⟩
  · refine O12 (R.var x lv e) ?_; rintro v V L
    refine Og.I12 v ?_ (L.keep (fun D0 D1 z => z) (fun D0 D1 z => z) fun a ha ob q => k a ob (h3 x a ha) q)
    rcases V with ⟨q, m, qn, qv⟩ | ⟨q, c, qc, qv⟩
    · exact .inl ⟨q, m, Ns.keep qn fun o e => k _ o h1 e, qv⟩
    · exact .inr ⟨q, c, qc, IsCell.keep qv fun o e => k c o (h2 x c qc) e⟩
  · refine O23 (R.cell x e) ?_; rintro c v0 e1 e2 e3
    exact Og.I23 c v0 e1 (IsCell.keep e2 fun o e => k c o (h2 x c e1) e) e3
/-- names that are left out -/
theorem FR.forget {h : Heap} {env : Env} {cx cx' : Cx} {ow : Str → List Addr} (R : FR prog w P F ρ h env cx ow) (hsc : cx'.sc = cx.sc) (hlam : cx'.lam = true → cx.lam = true) (hv : ∀ x lv, cx'.vars.lookup x = some lv → cx.vars.lookup x = some lv) : FR prog w P F ρ h env cx' ow :=
  ⟨R.kind, R.glob, fun x k e => R.ks x k (hsc ▸ e), fun x e => R.free x (hsc ▸ e), R.lns, fun x lv e => R.var x lv (hv x lv e), R.lok, fun x e => R.cell x (hsc ▸ e), fun x y c e => R.capart x y c (hsc ▸ e), R.clt, R.own, R.oinj, R.below, R.lamc.mono (fun D0 D1 z => z) hlam⟩
/-- nothing is owned where only values stand -/
theorem FR.noOwn {h : Heap} {env : Env} {cx : Cx} {ow : Str → List Addr} (R : FR prog w P F ρ h env cx ow) (hv : ∀ x lv, cx.vars.lookup x = some lv → ∃ a, lv = .v a) : FR prog w P F ρ h env cx (fun D0 => []) :=
  ⟨R.kind, R.glob, R.ks, R.free, R.lns, fun x lv e => by
    refine O12 (R.var x lv e) ?_; rintro v V L
    obtain ⟨a, rfl⟩ := hv x lv e
    exact Og.I12 v V L, R.lok, R.cell, R.capart, R.clt, (fun D0 D1 h => nomatch h), (fun D0 D1 D2 h => nomatch h), (fun D0 D1 h => nomatch h), R.lamc⟩
/-- the goal behind a test -/
noncomputable def PB (prog : Program) (w : World) (B : Heap) (P : Addr) (F : Fro) (ρ : List Addr) (s : Shared) (st' : Sto) {α : Type} (b : α) (Q : α → Shared → Prop) : Prop :=
  ∀ h' tk F' ρ', Step P NoX F ρ s.heap F' ρ' h' → GR prog w B P F' ρ' st' h' → Q b { s with heap := h', toks := tk }
/-- what an expression does, a test, at one place of the run -/
structure SE (prog : Program) (w : World) (B : Heap) (P : Addr) (A : Around) (e : Expr) (cx : Cx) (st : Sto) (a : AV) (st' : Sto) : Prop where
  ns : isSet e = false
  run : ∀ (E : Value → Shared → Prop) (s : Shared) F ρ env ow, GR prog w B P F ρ st s.heap → FR prog w P F ρ s.heap env cx ow → ∀ Q : Value → Shared → Prop, PQ prog w B P F ρ s st' a Q → wpAny (model prog w) A (eval e env) Q E s
noncomputable def ST (prog : Program) (w : World) (B : Heap) (P : Addr) (A : Around) (e : Expr) (cx : Cx) (st : Sto) (b : Bool) (st' : Sto) : Prop :=
  ∀ (E : Value → Shared → Prop) (s : Shared) F ρ env ow, GR prog w B P F ρ st s.heap → FR prog w P F ρ s.heap env cx ow → ∀ Q : Bool → Shared → Prop, PB prog w B P F ρ s st' b Q → wpAny (model prog w) A (isTrue e env (eval e env)) Q E s
/-- what a zip hands over -/
noncomputable def zipA (xs ys : List AV) : List AV := (xs.zip ys).map fun p => .tup [p.1, p.2]
theorem Src.zip (hh : A.handled = none) {elts : List Expr} {k : Nat} {pos : Pos} {z TI TO i1 i2 l1 l2 : Addr} (D : ZipApart z TI TO i1 i2 l1 l2) {us vs : List Value} {xs ys : List AV} (L1 : RelL prog w F ρ us xs) (L2 : RelL prog w F ρ vs ys) :
    Src prog w A (.Tuple elts k pos) z [z, TI, TO, i1, i2, l1, l2] [z, TI, TO, i1, i2] (zipA xs ys) F ρ
      (fun i h => IsZip h z TI TO .none ∧ IsPair h TI (.ref i1) (.ref i2) ∧ (∃ a b, IsPair h TO a b) ∧ h.IsListIter i1 l1 i ∧ h.IsListIter i2 l2 i ∧ h.IsList l1 us.toArray ∧ h.IsList l2 vs.toArray) := by
  have W := WalksT.zip2 (prog := prog) (w := w) (A := A) hh z TI TO i1 i2 l1 l2 D us.toArray vs.toArray
  have hlen : min us.toArray.size vs.toArray.size = (zipA xs ys).length := by
    rw [List.size_toArray, List.size_toArray, L1.length, L2.length]; simp [zipA, List.length_zip]
  replace W := hlen ▸ W
  have up : ∀ b, b ∉ [z, TI, TO, i1, i2] → b ∉ [z, TO, i1, i2] := fun b hb hc => hb (by
    simp only [List.mem_cons, List.not_mem_nil, or_false] at hc ⊢
    rcases hc with q | q | q | q <;> simp [q])
  refine ⟨fun b hb => ?_, W.frame, fun i h hs b hb => ?_, fun i a s Q E hi hst kk => ?_, fun s Q E hst kk => W.done s Q E hst fun h' tk k2 => kk h' tk fun b o hb e => k2 b o (up b hb) e, W.self⟩
  · simp only [List.mem_cons, List.not_mem_nil, or_false] at hb ⊢
    rcases hb with q | q | q | q | q <;> simp [q]
  · refine O07 hs ?_; clear hs; rintro h1 h2 ⟨a, b', h3⟩ ⟨o4, h4, _⟩ ⟨o5, h5, _⟩ ⟨o6, h6, _⟩ ⟨o7, h7, _⟩
    simp only [List.mem_cons, List.not_mem_nil, or_false] at hb
    clear D W; rcases hb with rfl | rfl | rfl | rfl | rfl | rfl | rfl
    · exact ⟨_, h1⟩
    · exact ⟨_, h2⟩
    · exact ⟨_, h3⟩
    · exact ⟨_, h4⟩
    · exact ⟨_, h5⟩
    · exact ⟨_, h6⟩
    · exact ⟨_, h7⟩
  · refine W.item i s _ E (List.getElem?_eq_some_iff.mp hi).1 hst fun T vals h' tk hP hT hTv hM hk => ?_
    refine Og.I12 _ rfl ?_
    refine W.go elts k pos i T _ _ _ hM fun h'' hst' hk' => ?_
    refine O23 hP ?_; clear hP; rintro x y hx hy rfl
    have hy' : vs[i]? = some y := by simpa using hy
    refine O12 (L1.get' (by simpa using hx : us[i]? = some x)) ?_; rintro a1 e1 r1
    refine O12 (L2.get' hy') ?_; rintro a2 e2 r2
    have hi' : a = .tup [a1, a2] := by
      unfold zipA at hi
      replace hi := (List.getElem?_zip_eq_some (z := (a1, a2)) |>.mpr ⟨e1, e2⟩) ▸ (List.getElem?_map) ▸ hi
      (replace hi := Option.some.inj hi; subst hi); rfl
    subst hi'
    refine kk _ h'' tk (.inr ⟨T, [x, y], [a1, a2], rfl, rfl, ?_, .cons r1 (.cons r2 .nil), elts, k, pos, rfl⟩) hst' fun b o hb e => hk' b o (up b hb) (hk b o (up b hb) e)
    refine O12 hTv ?_; clear hTv; rintro o ho r
    exact Og.I12 o (hk' T o (W.apart _ _ _ hM) ho) r
/-- the store of what a source handed over -/
theorem assign_item (hh : A.handled = none) (G : GR prog w B P F ρ st s.heap) {env : Env} {cx : Cx} {ow : Str → List Addr} (R : FR prog w P F ρ s.heap env cx ow) {t : Expr} {a : AV} {cx' : Cx} {v : Value} (e : assignT cx t a = some cx')
    (L : ItemR prog w t F ρ s.heap v a)
    {Q : Unit → Shared → Prop} (k : ∀ h' tk ow', (∀ a ob, ¬ Touch env cx a → s.heap.get? a = some ob → h'.get? a = some ob) → FR prog w P F ρ h' env cx' ow' → (∀ y a, a ∈ ow' y → a ∈ ow y) → cx'.sc = cx.sc → Q () { s with heap := h', toks := tk }) :
    wpAny (model prog w) A (assign t env v) Q E s := by
  rcases L with L | ⟨T, vs, l, rfl, rfl, hT, La, ts, c, p, rfl⟩
  · exact assign_sound hh G R e L k
  · obtain ⟨hlen, e⟩ := if_some (show (if ts.length == l.length && decide (ts.length ≤ 8) then bindTs cx ts l else none) = some cx' from e)
    · have hlen : ts.length = l.length := by simp only [Bool.and_eq_true, beq_iff_eq] at hlen; exact hlen.1
      have pl := assignEach_plain (env := env) (bindTs_names e)
      refine wpAny_assign_Tuple hh hT (by rw [pl.2.2, List.size_toArray, (by exact La.length ▸ hlen ▸ rfl : vs.length = ts.length)]) pl.2.1 fun h1 he => ?_
      have kk : ∀ a ob, s.heap.get? a = some ob → h1.get? a = some ob := fun a ob q => he a ob (Nat.ne_of_lt (Heap.lt_size q)) q
      refine pl.1 ▸ ?_
      refine bindTs_sound (s := { s with heap := h1 }) (G.keeps kk) (R.step G (Step.keeps kk : Step P NoX F ρ s.heap F ρ h1)) e La fun h' tk ow' k1 k2 k3 k4 => ?_
      exact k h' tk ow' (fun a ob hn q => k1 a ob hn (kk a ob q)) k2 k3 k4
end
end Og
end
section
set_option maxRecDepth 100000
namespace Og
open PySem PySem.W PyProof.Rows PySem.Calls PySem.Spec PySem.SeqAt
section
variable {prog : Program} {w : World} {B : Heap} {P : Addr} {F F' : Fro} {ρ ρ' : List Addr} {st : Sto} {A : Around} {E : Value → Shared → Prop} {h h' : Heap}
/-- what is no one's stays no one's -/
theorem Step.stays (S : Step P NoX F ρ h F' ρ' h') {a : Addr} (hl : ∃ o, h.get? a = some o) (hF : F a = none) (hρ : a ∉ ρ) : F' a = none ∧ a ∉ ρ' := by
  obtain ⟨o, e⟩ := hl
  constructor
  · cases q : F' a with
    | none => rfl
    | some o' => rcases S.new a o' q with z | z | z
                 · exact Og.nos (hF.symm.trans z)
                 · exact Og.nos (z.symm.trans e)
                 · exact z.elim
  · refine O12 S.pre ?_; clear S; rintro ext rfl hx
    intro hm
    rcases List.mem_append.mp hm with q | q
    · exact hρ q
    · replace e := (hx a q) ▸ e; exact nos e
/-- an address that is no one's at all -/
structure Free (P : Addr) (F : Fro) (ρ : List Addr) (h : Heap) (env : Env) (a : Addr) : Prop where
  live : ∃ o, h.get? a = some o
  fro : F a = none
  sto : a ∉ ρ
  neP : a ≠ P
  neL : a ≠ env.locals
  neC : ∀ x c, env.cells.lookup x = some c → c ≠ a
theorem Free.step {env : Env} {a : Addr} (f : Free P F ρ h env a) (S : Step P NoX F ρ h F' ρ' h') : Free P F' ρ' h' env a :=
  let ⟨q1, q2⟩ := S.stays f.live f.fro f.sto
  ⟨f.live.elim fun o e => S.live a o e, q1, q2, f.neP, f.neL, f.neC⟩
theorem Free.noTouch {env : Env} {cx : Cx} {a : Addr} (f : Free P F ρ h env a) : ¬ Touch env cx a := by
  rintro (q | ⟨x, _, q⟩)
  · exact f.neL q
  · exact f.neC x a q rfl
theorem assignT_vars {t : Expr} {a : AV} {cx cx' : Cx} (e : assignT cx t a = some cx') : cx'.sc = cx.sc ∧ ∀ x, (cx.sc.names.lookup x ≠ some .local ∧ cx.sc.names.lookup x ≠ some .cell) → cx'.vars.lookup x = cx.vars.lookup x := by
  have hput : ∀ {cx cx' : Cx} {y : Str} {lv : LV}, cx.put y lv = some cx' → cx'.sc = cx.sc ∧ ∀ x, (cx.sc.names.lookup x ≠ some .local ∧ cx.sc.names.lookup x ≠ some .cell) → cx'.vars.lookup x = cx.vars.lookup x := by
    intro cx cx' y lv e
    obtain ⟨hk, rfl⟩ := put_ok e
    refine ⟨rfl, fun x hx => ?_⟩
    have hne : x ≠ y := fun z => by clear e; subst z; rcases hk with q | q; exact hx.1 q; exact hx.2 q
    refine (?_ : List.lookup x ((y, lv) :: cx.vars) = _)
    rw [List.lookup_cons, show (x == y) = false from by simpa using hne]
  have hts : ∀ {ts : List Expr} {l : List AV} {cx cx' : Cx}, bindTs cx ts l = some cx' → cx'.sc = cx.sc ∧ ∀ x, (cx.sc.names.lookup x ≠ some .local ∧ cx.sc.names.lookup x ≠ some .cell) → cx'.vars.lookup x = cx.vars.lookup x := by
    intro ts
    induction ts with
    | nil => intro l cx cx' e; cases l <;> rcases e; exact ⟨rfl, fun D0 D1 => rfl⟩
    | cons t ts ih =>
      intro l cx cx' e
      cases l with
      | nil => exact nos e
      | cons a l =>
        refine O12 (bindTs_inv e) ?_; clear e; rintro cx1 e1 e
        · have h1 : cx1.sc = cx.sc ∧ ∀ x, (cx.sc.names.lookup x ≠ some .local ∧ cx.sc.names.lookup x ≠ some .cell) → cx1.vars.lookup x = cx.vars.lookup x := by
            exact O22 (bindT_inv e1) fun D0 D1 D2 q => hput q
          obtain ⟨q1, q2⟩ := ih e
          exact ⟨q1.trans h1.1, fun x hx => (q2 x (by exact h1.1 ▸ hx)).trans (h1.2 x hx)⟩
  rcases assignT_inv e with ⟨x, p, _, e⟩ | ⟨ts, ctx, pos, l, _, _, _, e⟩
  · exact hput e
  · exact hts e
inductive AndR (p : Expr → Sto → Bool → Sto → Prop) : List Expr → Sto → Bool → Sto → Prop
  | nil {st : Sto} : AndR p [] st true st
  | stop {c : Expr} {r : List Expr} {st st1 : Sto} : p c st false st1 → AndR p (c :: r) st false st1
  | go {c : Expr} {r : List Expr} {st st1 : Sto} {b : Bool} {st' : Sto} : p c st true st1 → AndR p r st1 b st' → AndR p (c :: r) st b st'
inductive OrR (p : Expr → Sto → Bool → Sto → Prop) : List Expr → Sto → Bool → Sto → Prop
  | nil {st : Sto} : OrR p [] st false st
  | stop {c : Expr} {r : List Expr} {st st1 : Sto} : p c st true st1 → OrR p (c :: r) st true st1
  | go {c : Expr} {r : List Expr} {st st1 : Sto} {b : Bool} {st' : Sto} : p c st false st1 → OrR p r st1 b st' → OrR p (c :: r) st b st'
inductive CompR (cx0 : Cx) (t : Expr) (pT : Cx → Sto → Bool → Sto → Prop) (pE : Cx → Sto → AV → Sto → Prop) : List AV → Sto → List AV → Sto → Prop
  | nil {st : Sto} : CompR cx0 t pT pE [] st [] st
  | no {a : AV} {l out : List AV} {st st1 st' : Sto} {cx1 : Cx} : assignT cx0 t a = some cx1 → pT cx1 st false st1 → CompR cx0 t pT pE l st1 out st' → CompR cx0 t pT pE (a :: l) st out st'
  | yes {a y : AV} {l bs : List AV} {st st1 st2 st' : Sto} {cx1 : Cx} : assignT cx0 t a = some cx1 → pT cx1 st true st1 → pE cx1 st1 y st2 → CompR cx0 t pT pE l st2 bs st' → CompR cx0 t pT pE (a :: l) st (y :: bs) st'
theorem AndR.imp {p q : Expr → Sto → Bool → Sto → Prop} (f : ∀ e st b st', p e st b st' → q e st b st') {l : List Expr} {st st' : Sto} {b : Bool} (h : AndR p l st b st') : AndR q l st b st' := by
  induction h with
  | nil => exact .nil
  | stop h => exact .stop (f _ _ _ _ h)
  | go h _ ih => exact .go (f _ _ _ _ h) ih
theorem OrR.imp {p q : Expr → Sto → Bool → Sto → Prop} (f : ∀ e st b st', p e st b st' → q e st b st') {l : List Expr} {st st' : Sto} {b : Bool} (h : OrR p l st b st') : OrR q l st b st' := by
  induction h with
  | nil => exact .nil
  | stop h => exact .stop (f _ _ _ _ h)
  | go h _ ih => exact .go (f _ _ _ _ h) ih
theorem CompR.imp {cx0 : Cx} {t : Expr} {pT qT : Cx → Sto → Bool → Sto → Prop} {pE qE : Cx → Sto → AV → Sto → Prop} (fT : ∀ cx st b st', pT cx st b st' → qT cx st b st') (fE : ∀ cx st a st', pE cx st a st' → qE cx st a st')
    {l out : List AV} {st st' : Sto} (h : CompR cx0 t pT pE l st out st') : CompR cx0 t qT qE l st out st' := by
  induction h with
  | nil => exact .nil
  | no h1 h2 _ ih => exact .no h1 (fT _ _ _ _ h2) ih
  | yes h1 h2 h3 _ ih => exact .yes h1 (fT _ _ _ _ h2) (fE _ _ _ _ h3) ih
theorem CompR.inv {cx0 : Cx} {t : Expr} {pT : Cx → Sto → Bool → Sto → Prop} {pE : Cx → Sto → AV → Sto → Prop} {a : AV} {l out : List AV} {st st' : Sto} (e : CompR cx0 t pT pE (a :: l) st out st') :
    ∃ cx1 b st1, assignT cx0 t a = some cx1 ∧ pT cx1 st b st1 ∧ ((b = false ∧ CompR cx0 t pT pE l st1 out st') ∨ (b = true ∧ ∃ y st2 bs, pE cx1 st1 y st2 ∧ out = y :: bs ∧ CompR cx0 t pT pE l st2 bs st')) := by
  cases e with
  | no a1 a2 a3 => exact Og.I33 _ _ _ a1 a2 (.inl ⟨rfl, a3⟩)
  | yes a1 a2 a3 a4 => exact Og.I33 _ _ _ a1 a2 (.inr ⟨rfl, _, _, _, a3, rfl, a4⟩)
theorem tests_sound {ifs : List Expr} (hifs : ifs.length ≤ 1) {cx : Cx} {st st' : Sto} {b : Bool} (e : AndR (fun c => ST prog w B P A c cx) ifs st b st')
    {s : Shared} {env : Env} {ow : Str → List Addr} (G : GR prog w B P F ρ st s.heap) (R : FR prog w P F ρ s.heap env cx ow) {Q : Bool → Shared → Prop} (k : PB prog w B P F ρ s st' b Q) :
    wpAny (model prog w) A (forIn ifs true fun c r => if r = true then do let ok ← isTrue c env (eval c env); pure (ForInStep.yield ok) else pure (ForInStep.yield r)) Q E s := by
  cases e with
  | nil => exact wpAny_tests_nil (k s.heap s.toks F ρ .refl G)
  | @stop c r _ _ h =>
    cases r with
    | nil => exact wpAny_tests_one (h E s F ρ env ow G R Q k)
    | cons _ _ => simp at hifs
  | @go c r _ st1 _ _ h e =>
    cases r with
    | nil => cases e; exact wpAny_tests_one (h E s F ρ env ow G R Q k)
    | cons _ _ => simp at hifs
/-- a comprehension's turns -/
theorem comp_loop {elt t iter : Expr} {ifs : List Expr} {sc : Scope} {pos : Pos} {cenv : Env} {cx0 : Cx}
    {D I : Addr} {fp wr : List Addr} {lz : List AV} {Fz Fs : Fro} {ρz ρs : List Addr} {hz : Heap} {St : Nat → Heap → Prop} {R : Result → Shared → Prop}
    (hh : A.handled = none) (hifs : ifs.length ≤ 1)
    (hcx : ∀ x lv, cx0.vars.lookup x = some lv → (∃ a, lv = .v a) ∧ cx0.sc.names.lookup x ≠ some .local ∧ cx0.sc.names.lookup x ≠ some .cell)
    (W : Src prog w A t I fp wr lz Fs ρs St) (hlam : cx0.lam = false) (hD : hz.get? D = none) (hC : ∀ a, Touch cenv cx0 a → hz.get? a = none) (hw : ∀ b ∈ wr, hz.get? b = none) (hDf : D ∉ fp) :
    ∀ (l : List AV) (i : Nat), lz.drop i = l → i + l.length = lz.length → ∀ (st : Sto) (out : List AV) (st' : Sto),
      CompR cx0 t (fun cx => AndR (fun c => ST prog w B P A c cx) ifs) (SE prog w B P A elt) l st out st' →
      ∀ (s : Shared) (F : Fro) (ρ : List Addr) (ys : List Value), Step P NoX Fz ρz hz F ρ s.heap → (∀ a o, Fs a = some o → F a = some o) → (∀ (i : Nat) (a : Addr), ρs[i]? = some a → ρ[i]? = some a) →
        GR prog w B P F ρ st s.heap → FR prog w P F ρ s.heap cenv cx0 (fun D0 => []) →
        St i s.heap → s.heap.PlainList D ys.toArray → Free P F ρ s.heap cenv D → (∀ b ∈ wr, Free P F ρ s.heap cenv b ∧ b ≠ D) → (∀ b ∈ fp, b ∈ wr ∨ ∃ o, F b = some o) → ys.length + l.length ≤ sizeLine →
        (∀ h' tk F' ρ' vs, Step P NoX Fz ρz hz F' ρ' h' → GR prog w B P F' ρ' st' h' → FR prog w P F' ρ' h' cenv cx0 (fun D0 => []) → h'.PlainList D (ys ++ vs).toArray → RelL prog w F' ρ' vs out →
          Free P F' ρ' h' cenv D → (∀ a o, F a = some o → F' a = some o) → (∀ (i : Nat) (a : Addr), ρ[i]? = some a → ρ'[i]? = some a) → R (.ok .next) { s with heap := h', toks := tk }) →
        codeAny (model prog w) A (.compLoop (.ListComp elt [⟨t, iter, ifs, 0⟩] sc pos) 0 (.ref I) (.ref D) cenv) R s := by
  intro l
  induction l with
  | nil =>
    intro i hi hlen st out st' e s F ρ ys S hs hr G RR hSt hacc fD fw ffp hsz k
    refine codeAny_of_tree ?_
    refine (?_ : wpAny _ A ((compTurn (.ListComp elt [⟨t, iter, ifs, 0⟩] sc pos) 0 (.ref I) (.ref D) cenv).onRaise (fun x => do noteFrame x cenv; theTreesLotGoes x)) _ _ s)
    refine wpAny_noted ?_
    rw [compTurn_list]
    refine wpAny_bind (wpAny_standAt (wpAny_bind ?_))
    have hlen' : i = lz.length := by simpa using hlen
    subst hlen'
    refine W.done s _ _ hSt fun h1 tk1 kk => ?_
    cases e
    have kw : ∀ a o, ¬ (a ∈ wr) → s.heap.get? a = some o → h1.get? a = some o := fun a o hn q => kk a o hn q
    have DD : D ∉ wr := fun q => (fw D q).2 rfl
    refine wpAny_pure (k h1 tk1 F ρ [] (S.touch (· ∈ wr) hw kw) (G.touch (· ∈ wr) (fun a q => Og.I03 ((fw a q).1.fro) ((fw a q).1.sto) ((fw a q).1.neP)) kw)
      (RR.touch (· ∈ wr) kw (fun q => (fw _ q).1.neL rfl) (fun x c q z => (fw c z).1.neC x c q rfl) fun D0 a q => nomatch q) ?_ .nil ?_ (fun D0 D1 q => q) fun D0 D1 q => q)
    · rw [List.append_nil]; exact hacc.at fun o q => kw D o DD q
    · exact ⟨fD.live.elim fun o q => ⟨o, kw D o DD q⟩, fD.fro, fD.sto, fD.neP, fD.neL, fD.neC⟩
  | cons a l ih =>
    intro i hi hlen st out st' e s F ρ ys S hs hr G RR hSt hacc fD fw ffp hsz k
    refine codeAny_of_tree ?_
    refine (?_ : wpAny _ A ((compTurn (.ListComp elt [⟨t, iter, ifs, 0⟩] sc pos) 0 (.ref I) (.ref D) cenv).onRaise (fun x => do noteFrame x cenv; theTreesLotGoes x)) _ _ s)
    refine wpAny_noted ?_
    rw [compTurn_list]
    refine wpAny_bind (wpAny_standAt (wpAny_bind ?_))
    have hia : lz[i]? = some a := by refine (List.head?_drop) ▸ hi ▸ ?_; rfl
    have hdrop : lz.drop (i + 1) = l := by
      have : (lz.drop i).drop 1 = l := by refine hi ▸ ?_; rfl
      rw [List.drop_drop] at this; exact this
    have hlen' : i + 1 + l.length = lz.length := by rw [List.length_cons] at hlen; (clear hifs ih hr hsz k hia; omega)
    have DD : D ∉ wr := fun q => (fw D q).2 rfl
    -- the interpreter's own steps
    refine O33 e.inv ?_; rintro cx1 b st1 e1 e2 e3
    clear e
    refine wpAny_mono (W.item i a s (fun v s₂ => wpAny (model prog w) A (assign t cenv v) (fun D0 s₂ => wpAny (model prog w) A (forIn ifs true fun c r => if r = true then do let ok ← isTrue c cenv (eval c cenv); pure (ForInStep.yield ok) else pure (ForInStep.yield r)) (fun ok s₃ =>
            if ok = true then wpAny (model prog w) A (eval elt cenv) (fun x s₄ =>
              wpAny (model prog w) A (call (.builtin "list.append") [.ref D, x]) (fun D0 s₅ => codeAny (model prog w) A (.compLoop (.ListComp elt [⟨t, iter, ifs, 0⟩] sc pos) 0 (.ref I) (.ref D) cenv) R s₅) (notedBy (model prog w) A cenv fun e s' => R (.error e) s') s₄) (notedBy (model prog w) A cenv fun e s' => R (.error e) s') s₃
            else codeAny (model prog w) A (.compLoop (.ListComp elt [⟨t, iter, ifs, 0⟩] sc pos) 0 (.ref I) (.ref D) cenv) R s₃) (notedBy (model prog w) A cenv fun e s' => R (.error e) s') s₂) (notedBy (model prog w) A cenv fun e s' => R (.error e) s') s₂)
        (notedBy (model prog w) A cenv fun e s' => R (.error e) s') hia hSt fun v h1 tk1 hv hSt1 kk => ?_) (fun r s₁ h₁ => ?_) fun D0 D1 q => q
    · -- the work of the turn
      have kw : ∀ a o, ¬ (a ∈ wr) → s.heap.get? a = some o → h1.get? a = some o := fun a o hn q => kk a o hn q
      have G1 : GR prog w B P F ρ st h1 := G.touch (· ∈ wr) (fun a q => Og.I03 ((fw a q).1.fro) ((fw a q).1.sto) ((fw a q).1.neP)) kw
      have R1 : FR prog w P F ρ h1 cenv cx0 (fun D0 => []) := RR.touch (· ∈ wr) kw (fun q => (fw _ q).1.neL rfl) (fun x c q z => (fw c z).1.neC x c q rfl) fun D0 a q => nomatch q
      have fD1 : Free P F ρ h1 cenv D := ⟨fD.live.elim fun o q => ⟨o, kw D o DD q⟩, fD.fro, fD.sto, fD.neP, fD.neL, fD.neC⟩
      have fw1 : ∀ b ∈ wr, Free P F ρ h1 cenv b ∧ b ≠ D := fun b hb => (fw b hb).elim fun f n => ⟨⟨W.live _ _ hSt1 b (W.sub b hb), f.fro, f.sto, f.neP, f.neL, f.neC⟩, n⟩
      have hacc1 : h1.PlainList D ys.toArray := hacc.at fun o q => kw D o DD q
      have hv' : ItemR prog w t F ρ h1 v a := by
        rcases hv with q | ⟨T, vs, l, q1, q2, q3, q4, q5⟩
        · exact .inl (q.mono hs hr)
        · exact .inr (Og.I35 T vs l q1 q2 q3 (q4.mono hs hr) q5)
      refine assign_item (s := { s with heap := h1, toks := tk1 }) hh G1 R1 e1 hv' fun h2 tk2 ow2 k2 R2 D0 hsc => ?_
      have S2 : Step P NoX Fz ρz hz F ρ h2 := (S.touch (· ∈ wr) hw kw : Step P NoX Fz ρz hz F ρ h1).touch (Touch cenv cx0) hC k2
      have G2 : GR prog w B P F ρ st h2 := G1.touched R1 k2
      have kfp : ∀ b ∈ fp, ¬ Touch cenv cx0 b := fun b hb z => by
        rcases ffp b hb with q | ⟨o, q⟩
        · exact (fw1 b q).1.noTouch z
        · rw [(R1.touchOff G1 b z).1] at q; exact nos q
      have hSt2 : St (i + 1) h2 := W.frame _ _ _ hSt1 fun b hb o q => k2 b o (kfp b hb) q
      have fD2 : Free P F ρ h2 cenv D := ⟨fD1.live.elim fun o q => ⟨o, k2 D o fD1.noTouch q⟩, fD.fro, fD.sto, fD.neP, fD.neL, fD.neC⟩
      have fw2 : ∀ b ∈ wr, Free P F ρ h2 cenv b ∧ b ≠ D := fun b hb => (fw1 b hb).elim fun f n => ⟨⟨W.live _ _ hSt2 b (W.sub b hb), f.fro, f.sto, f.neP, f.neL, f.neC⟩, n⟩
      have back : ∀ {F3 : Fro} {ρ3 : List Addr} {h3 : Heap}, FR prog w P F3 ρ3 h3 cenv cx1 ow2 → FR prog w P F3 ρ3 h3 cenv cx0 (fun D0 => []) := fun R3 =>
        (R3.forget hsc.symm (fun z => by rw [hlam] at z; exact ftN z) fun x lv q => by exact ((assignT_vars e1).2 x (hcx x lv q).2) ▸ q).noOwn fun x lv q => (hcx x lv q).1
      -- what holds after a step of the body
      have carry : ∀ {F3 : Fro} {ρ3 : List Addr} {h3 : Heap} , Step P NoX F ρ h2 F3 ρ3 h3 → (∀ b o, F b = some o → h3.get? b = some o) → St (i + 1) h3 ∧ h3.PlainList D ys.toArray ∧ Free P F3 ρ3 h3 cenv D ∧ (∀ b ∈ wr, Free P F3 ρ3 h3 cenv b ∧ b ≠ D) := fun S3 kF => by
        refine Og.I04 (W.frame _ _ _ hSt2 fun b hb o q => ?_) ((hacc1.at fun o q => k2 D o fD1.noTouch q : h2.PlainList D ys.toArray).at fun o q => S3.keep D o q fD2.sto fD2.neP id) (fD2.step S3) (fun b hb => ⟨(fw2 b hb).1.step S3, (fw2 b hb).2⟩)
        rcases ffp b hb with z | ⟨o', z⟩
        · exact S3.keep b o q (fw2 b z).1.sto (fw2 b z).1.neP id
        · have := G2.fz' b o' z
          (replace this := Option.some.inj (q.symm.trans this); subst this)
          exact kF b _ z
      refine tests_sound (s := { s with heap := h2, toks := tk2 }) hifs e2 G2 R2 fun h3 tk3 F3 ρ3 S3 G3 => ?_
      refine O04 (carry S3 fun b o q => G3.fz' b o (S3.sub b o q)) ?_; rintro c1 c2 c3 c4
      rcases e3 with ⟨rfl, e3⟩ | ⟨rfl, y, st2, bs, e4, rfl, e5⟩
      · rw [if_neg (by decide)]
        refine ih (i + 1) hdrop hlen' st1 out st' e3 { s with heap := h3, toks := tk3 } F3 ρ3 ys (S2.trans S3) (fun b o q => S3.sub b o (hs b o q)) (fun j b q => S3.refs j b (hr j b q)) G3 (back (R2.step G2 S3)) c1 c2 c3 c4
          (fun b hb => (ffp b hb).imp id fun zz => zz.elim fun o q => ⟨o, S3.sub b o q⟩) (by rw [List.length_cons] at hsz; (clear hifs ih hlen hr k hia hlen'; omega)) ?_
        intro h' tk F' ρ' vs k1 k2' k3 k4 k5 k6 k7 k8
        exact k h' tk F' ρ' vs k1 k2' k3 k4 k5 k6 (fun b o q => k7 b o (S3.sub b o q)) fun j b q => k8 j b (S3.refs j b q)
      · rw [if_pos rfl]
        refine e4.run _ { s with heap := h3, toks := tk3 } F3 ρ3 cenv ow2 G3 (R2.step G2 S3) _ fun u h4 tk4 F4 ρ4 S4 G4 Ru => ?_
        have S34 : Step P NoX F ρ h2 F4 ρ4 h4 := S3.trans S4
        refine O04 (carry S34 fun b o q => G4.fz' b o (S34.sub b o q)) ?_; rintro d1 d2 d3 d4
        refine wpAny_list_append_plain (s := { s with heap := h4, toks := tk4 }) d2 (fun h5 hp5 hs5 => ?_) (by refine List.size_toArray ▸ ?_; (apply k3'; assumption))
        have kD : ∀ b o, ¬ (b = D) → h4.get? b = some o → h5.get? b = some o := fun b o n q => hs5.extBut b o n q
        have G5 : GR prog w B P F4 ρ4 st2 h5 := G4.touch (· = D) (fun b q => q ▸ Og.I03 d3.fro d3.sto d3.neP) kD
        have R5 : FR prog w P F4 ρ4 h5 cenv cx0 (fun D0 => []) := (back (R2.step G2 S34)).touch (· = D) kD (fun q => d3.neL q.symm) (fun x c q z => d3.neC x c q z) fun D0 b q => nomatch q
        refine ih (i + 1) hdrop hlen' st2 bs st' e5 { s with heap := h5, toks := tk4 } F4 ρ4 (ys ++ [u]) ((S2.trans S34).touch (· = D) (fun b q => q ▸ hD) kD : Step P NoX Fz ρz hz F4 ρ4 h5) (fun b o q => S34.sub b o (hs b o q)) (fun j b q => S34.refs j b (hr j b q)) G5 R5
          (W.frame _ _ _ d1 fun b hb o q => kD b o (fun z => hDf (z ▸ hb)) q) (by simpa using hp5) ?_ (fun b hb => ?_)
          (fun b hb => (ffp b hb).imp id fun zz => zz.elim fun o q => ⟨o, S34.sub b o q⟩) (by rw [List.length_cons] at hsz; simp only [List.length_append, List.length_cons, List.length_nil]; (clear hifs ih hlen hr hia hlen' k; omega)) ?_
        · exact ⟨hp5.elim fun n q => ⟨_, q⟩, d3.fro, d3.sto, d3.neP, d3.neL, d3.neC⟩
        · obtain ⟨f, n⟩ := d4 b hb
          exact ⟨⟨f.live.elim fun o q => ⟨o, kD b o n q⟩, f.fro, f.sto, f.neP, f.neL, f.neC⟩, n⟩
        · intro h' tk F' ρ' vs k1 k2' k3 k4 k5 k6 k7 k8
          refine k h' tk F' ρ' (u :: vs) k1 k2' k3 (by simpa using k4) (.cons (Ru.mono k7 k8) k5) k6 (fun b o q => k7 b o (S34.sub b o q)) fun j b q => k8 j b (S34.refs j b q)
    · -- the tree of the turn
      refine O12 h₁ ?_; clear h₁; rintro v rfl hv
      refine wpAny_bind (wpAny_mono hv (fun D0 s₂ h₂ => ?_) fun D0 D1 q => q)
      refine wpAny_bind (wpAny_mono h₂ (fun D0 s₂ h₂ => wpAny_bind (wpAny_mono h₂ (fun ok s₃ h₃ => ?_) fun D0 D1 h' => h')) fun D0 D1 h' => h')
      cases ok with
      | false => exact wpAny_pure ⟨rfl, h₃⟩
      | true =>
        exact wpAny_bind (wpAny_bind (wpAny_mono h₃ (fun x s₄ h₄ => wpAny_bind (wpAny_mono h₄ (fun D0 s₅ h₅ => wpAny_pure (wpAny_pure ⟨rfl, h₅⟩)) fun D0 D1 h' => h')) fun D0 D1 h' => h'))
end
end Og
end
section
set_option maxRecDepth 100000
namespace Og
open PySem PySem.W PyProof.Rows PySem.Calls PySem.Spec PySem.SeqAt
section
variable {prog : Program} {w : World} {B : Heap} {P : Addr} {F F' : Fro} {ρ ρ' : List Addr} {st : Sto} {A : Around} {E : Value → Shared → Prop} {s : Shared}
theorem compVars_ok {cx : Cx} {sc : Scope} (hok : compOk sc = true) : ∀ x lv, (compVars cx sc).vars.lookup x = some lv → (∃ a, lv = .v a) ∧ (compVars cx sc).sc.names.lookup x ≠ some .local ∧ (compVars cx sc).sc.names.lookup x ≠ some .cell := by
  intro x lv e
  obtain ⟨hm, a, _, rfl⟩ := lookup_compVars e
  have := compOk_at hok hm
  exact Og.I03 ⟨a, rfl⟩ (by refine (?_ : sc.names.lookup x ≠ _); refine this ▸ ?_; simp) (by refine (?_ : sc.names.lookup x ≠ _); refine this ▸ ?_; simp)
/-- a comprehension from its iterator on -/
theorem comp_core {elt t iter : Expr} {ifs : List Expr} {sc : Scope} {pos : Pos} {env : Env} {cx : Cx} {ow : Str → List Addr}
    {I : Addr} {fp wr : List Addr} {l : List AV} {Fz : Fro} {ρz : List Addr} {hz : Heap} {St : Nat → Heap → Prop} {use : Option (Value → Sem Unit)} {Q : Value → Shared → Prop}
    (hh : A.handled = none) (hifs : ifs.length ≤ 1) (hok : compOk sc = true) (hf : freeOk cx sc = true)
    (G : GR prog w B P F ρ st s.heap) (RR : FR prog w P F ρ s.heap env cx ow) (W : Src prog w A t I fp wr l F ρ St) (hSt : St 0 s.heap) (S : Step P NoX Fz ρz hz F ρ s.heap)
    (hw : ∀ b ∈ wr, hz.get? b = none ∧ F b = none ∧ b ∉ ρ ∧ b ≠ P ∧ ∀ x c, env.cells.lookup x = some c → c ≠ b) (hfp : ∀ b ∈ fp, b ∈ wr ∨ ∃ o, F b = some o) (hsz : l.length ≤ big)
    {out : List AV} {st' : Sto}
    (e : CompR (compVars cx sc) t (fun cx => AndR (fun c => ST prog w B P A c cx) ifs) (SE prog w B P A elt) l st out st')
    (k : ∀ D C h' tk F' ρ', Step P NoX Fz ρz hz F' ρ' h' → GR prog w B P F' ρ' st' h' → Rel prog w F' ρ' (.ref D) (.lst out) → (∃ m, h'.Ns C m) → F' C = none ∧ C ∉ ρ' ∧ C ≠ P ∧ s.heap.get? C = none →
      compPost (model prog w) A E use Q (.ref D) C (.ok .next) { s with heap := h', toks := tk }) :
    wpAny (model prog w) A (newList []) (fun acc s₃ => wpAny (model prog w) A (newFunctionEnv sc env.globals (closL env.cells sc.names []) [] env.qual none .none (some env)) (fun cenv s₄ =>
      codeAny (model prog w) A (.compStart (.ListComp elt [⟨t, iter, ifs, 0⟩] sc pos) 0 (.ref I) acc { cenv with scope := relabel sc env }) (compPost (model prog w) A E use Q acc cenv.locals) s₄) E s₃) E s := by
  refine wpAny_newList ?_
  have k0 : ∀ a o, s.heap.get? a = some o → (s.heap.push (lstO [] 0)).get? a = some o := fun a o q => Heap.get?_push_of_some _ q
  have hD0 : s.heap.get? s.heap.objs.size = none := dead_size _ (Nat.le_refl _)
  have hDl : (s.heap.push (lstO [] 0)).get? s.heap.objs.size = some (lstO [] 0) := Heap.get?_push_size _ rfl
  refine comp_env (s := { s with heap := s.heap.push (lstO [] 0) }) (sc := sc) (G.keeps k0 : GR prog w B P F ρ st (s.heap.push (lstO [] 0))) (RR.step G (Step.keeps k0 : Step P NoX F ρ s.heap F ρ (s.heap.push (lstO [] 0)))) hok hf fun h4 C hC hcell hcells k4 R4 => ?_
  have up : ∀ a o, s.heap.get? a = some o → h4.get? a = some o := fun a o q => k4 a o (k0 a o q)
  have dn : ∀ a, (s.heap.push (lstO [] 0)).get? a = none → s.heap.get? a = none := fun a q => by
    cases z : s.heap.get? a with
    | none => rfl
    | some o => rw [k0 a o z] at q; exact son q
  have hCs := dn C hC
  have S4 : Step P NoX Fz ρz hz F ρ h4 := S.trans (Step.keeps up)
  have hD4 : h4.get? s.heap.objs.size = some (lstO [] 0) := k4 _ _ hDl
  have nD := G.newOff hD0
  have cellD : ∀ x c, (compE sc C env).cells.lookup x = some c → c ≠ s.heap.objs.size := fun x c q z => by
    subst z
    rcases hcells x _ q with y | y
    · rw [hDl] at y; exact son y
    · obtain ⟨o, z⟩ := RR.clt x _ y; exact Og.nos (hD0.symm.trans z)
  have fD : Free P F ρ h4 (compE sc C env) s.heap.objs.size := ⟨⟨_, hD4⟩, nD.1, nD.2.1, nD.2.2, (fun q => by
    have q : s.heap.objs.size = C := q
    replace hC := hDl ▸ q ▸ hC; exact son hC), cellD⟩
  have fw : ∀ b ∈ wr, Free P F ρ h4 (compE sc C env) b ∧ b ≠ s.heap.objs.size := fun b hb => by
    obtain ⟨o, q⟩ := (fun b hb => W.live 0 _ hSt b (W.sub b hb) : ∀ b ∈ wr, ∃ o, s.heap.get? b = some o) b hb
    refine O05 (hw b hb) ?_; rintro _ w2 w3 w4 w5
    refine ⟨⟨⟨o, up b o q⟩, w2, w3, w4, fun z => ?_, fun x c z y => ?_⟩, fun z => ?_⟩
    · have z : b = C := z
      rw [z, hCs] at q; exact nos q
    · clear hb w2 w3 w4; subst y
      rcases hcells x _ z with y | y
      · rw [dn _ y] at q; exact nos q
      · exact w5 x _ y rfl
    · replace q := hD0 ▸ z ▸ q; exact nos q
  have hSt4 : St 0 h4 := W.frame _ _ _ hSt fun b D0 o q => up b o q
  have loop : codeAny (model prog w) A (.compLoop (.ListComp elt [⟨t, iter, ifs, 0⟩] sc pos) 0 (.ref I) (.ref s.heap.objs.size) (compE sc C env)) (compPost (model prog w) A E use Q (.ref s.heap.objs.size) C) { s with heap := h4 } := by
    refine comp_loop hh hifs (compVars_ok hok) W rfl (S.dead hD0) (fun a ha => ?_) (fun b hb => (hw b hb).1) (fun hb => ?_) l 0 rfl (by simp) st out st' e { s with heap := h4 } F ρ [] S4 (fun D0 D1 q => q) (fun D0 D1 q => q) (G.keeps up : GR prog w B P F ρ st h4) R4 hSt4
      ⟨0, hD4⟩ fD fw hfp (by have : big ≤ sizeLine := bigLine; simp only [List.length_nil, Nat.zero_add]; omega) ?_
    · rcases ha with rfl | ⟨x, q1, q2⟩
      · exact S.dead hCs
      · exact S.dead (dn _ (hcell x a q2 q1))
    · rcases hfp _ hb with q | ⟨o, q⟩
      · exact (fw _ q).2 rfl
      · rw [nD.1] at q; exact nos q
    · intro h' tk F' ρ' vs S' G' R' hp' L' f' _ _
      obtain ⟨n, hp'⟩ := hp'
      refine O14 (G'.freeze (o := lstO vs n) (by simpa using hp') f'.fro f'.sto f'.neP) ?_; rintro F'' G'' hs hin hn
      obtain ⟨m, hm⟩ := R'.lns
      have lk := R'.lok
      refine k _ C h' tk F'' ρ' (S'.froze hs hn (S.dead hD0)) G'' (.lst hin (L'.mono hs fun D0 D1 z => z)) ⟨m, hm⟩ (Og.I04 ?_ lk.1 lk.2.2 hCs)
      cases q : F'' C with
      | none => rfl
      | some o => rcases hn C o q with z | z
                  · have := lk.2.1; have z : F' (compE sc C env).locals = some o := z; exact Og.nos (this.symm.trans z)
                  · exact absurd z (fun y => f'.neL y.symm)
  exact codeAny_compStart_list loop (W.self 0 _ _ _ hSt4 loop)
end
end Og
end
section
set_option maxRecDepth 100000
namespace Og
open PySem PySem.W PyProof.Rows PySem.Calls PySem.Spec PySem.SeqAt
section
variable {prog : Program} {w : World} {K : Frag} {p : Program} {loose : List Str} {mg mb : Str → Option Value} {B : Heap} {cL P : Addr} {F F' : Fro} {ρ ρ' : List Addr} {st : Sto} {A : Around} {E : Value → Shared → Prop} {s : Shared} {h : Heap} {env : Env} {cx : Cx} {ow : Str → List Addr}
theorem GR.keepB (G : GR prog w B P F ρ st h) : ∀ b o, B.get? b = some o → h.get? b = some o := fun b o e => G.fz' b o (G.base b o e)
theorem GR.inK (hB : Base prog w K p loose mg mb B cL P) (G : GR prog w B P F ρ st h) : K.In h := fun a o e => G.keepB a o (hB.X a o e)
theorem GR.froK (hB : Base prog w K p loose mg mb B cL P) (G : GR prog w B P F ρ st h) {a : Addr} {o : Obj} (e : K.lookup a = some o) : F a = some o := G.base a o (hB.X a o e)
set_option tactic.hygienic true in
theorem avT_rel (hB : Base prog w K p loose mg mb B cL P) (G : GR prog w B P F ρ st h) : ∀ (n : Nat) (v : Value) (a : AV), avT K n v = some a → Rel prog w F ρ v a := by
  intro n
  induction n with
  | zero =>
    intro v a e
    cases v <;> first | exact nos e | (replace e := Option.some.inj e; subst e)
    exact .int _ _
  | succ n ih =>
    intro v a e
    cases v <;> first | exact nos e | skip
    · (replace e := Option.some.inj e; subst e); exact .int _ _
    · next r =>
      cases hk : K.lookup r with
      | none =>
        replace e : (match K.lookup r with | some ⟨.type t, none, .seq vs _, sl⟩ => (if t == "tuple" && sl.isEmpty then (vs.toList.mapM (avT K n)).map .tup else none) | _ => none) = some a := e
        exact nos (hk ▸ e)
      | some o =>
        replace e : (match K.lookup r with | some ⟨.type t, none, .seq vs _, sl⟩ => (if t == "tuple" && sl.isEmpty then (vs.toList.mapM (avT K n)).map .tup else none) | _ => none) = some a := e
        rw [hk] at e
        obtain ⟨c, d, dt, sl⟩ := o
        cases c <;> first | exact nos e | skip
        cases d <;> first | exact nos e | skip
        cases dt <;> first | exact nos e | skip
        next t vs m =>
        obtain ⟨hc, e⟩ := if_some (show (if t == "tuple" && sl.isEmpty then (vs.toList.mapM (avT K n)).map AV.tup else none) = some a from e)
        · simp only [Bool.and_eq_true, beq_iff_eq] at hc
          refine O12 (Option.map_eq_some_iff.mp e) ?_; rintro l hl rfl
          have hs : sl = #[] := by simpa using hc.2
          subst hs
          have ht := hc.1
          clear hc e; subst ht
          have : ∀ (us : List Value) (l : List AV), us.mapM (avT K n) = some l → RelL prog w F ρ us l := by
            intro us
            induction us with
            | nil => intro l e; (replace e := Option.some.inj e; subst e); exact .nil
            | cons u us ihu =>
              intro l e
              rw [List.mapM_cons] at e
              refine O12 (Option.bind_eq_some_iff.mp e) ?_; rintro a1 e1 e
              refine O12 (Option.bind_eq_some_iff.mp e) ?_; rintro l1 e2 e
              (replace e := Option.some.inj e; subst e)
              exact .cons (ih u a1 e1) (ihu l1 e2)
          refine .tup (vs := vs.toList) (n := m) ?_ (this _ _ hl)
          have := G.froK hB hk
          exact this
set_option tactic.hygienic true in
theorem glK_sound (hB : Base prog w K p loose mg mb B cL P) (G : GR prog w B P F ρ st s.heap) {x : Str} {a : AV} (e : glK K x = some a) (hg : env.globals = mainGlobals ∧ env.builtins = builtinsNs) {Q : Value → Shared → Prop}
    (k : ∀ v, Rel prog w F ρ v a → Q v s) : wpAny (model prog w) A (loadGlobal env x) Q E s := by
  unfold glK at e
  have T := hB.T.keeps G.keepB
  have X := G.inK hB
  split at e
  · rename_i v hv
    refine loadGlobal_global (by exact hg.1 ▸ T.g) (mg_of X T.g hv) (k v ?_)
    split at e
    · rename_i a' ha
      (replace e := Option.some.inj e; subst e)
      clear hv; cases v <;> first | exact nos ha | skip
      · (replace ha := Option.some.inj ha; subst ha); exact .int _ _
      · next r =>
        replace ha : (match K.lookup r with | some ⟨_, _, .func _, _⟩ => some (.val (.ref r)) | some ⟨_, _, .cls _, _⟩ => some (.val (.ref r)) | _ => none) = some a' := ha
        revert ha
        cases K.lookup r with
        | none => exact fun ha => nos ha
        | some o =>
          obtain ⟨c, d, dt, sl⟩ := o
          cases dt <;> first | exact fun ha => nos ha | exact fun ha => Option.some.inj ha ▸ .val _
    · exact avT_rel hB G 4 v a e
  · rename_i hv
    split at e
    · exact nos e
    · rename_i hn
      refine O12 (Option.map_eq_some_iff.mp e) ?_; rintro v hv' rfl
      refine loadGlobal_builtin (by exact hg.1 ▸ T.g) (mg_none_of X T.g hv) (by exact hg.2 ▸ T.b) ((T.builtins x (by simpa using hn)).trans hv') (k v (.val v))
  · exact nos e
theorem var_sound (R : FR prog w P F ρ s.heap env cx ow) {x : Str} {lv : LV} (e : cx.vars.lookup x = some lv) (hx : (x == ("__classdict__" : Str)) = false) {Q : Value → Shared → Prop}
    (k : ∀ v, LvR prog w F ρ s.heap (ow x) v lv → Q v s) : wpAny (model prog w) A (loadName env x) Q E s := by
  refine O12 (R.var x lv e) ?_; rintro v V L
  rcases V with ⟨q, m, qn, qv⟩ | ⟨q | q, c, qc, qv⟩
  · exact wpAny_loadName_local R.kind q qn qv (k v L)
  · exact wpAny_loadName_cell R.kind q qc qv (k v L)
  · exact wpAny_loadName_free R.kind q qc qv (k v L) hx
set_option tactic.hygienic true in
theorem get_sound (hB : Base prog w K p loose mg mb B cL P) (G : GR prog w B P F ρ st s.heap) (R : FR prog w P F ρ s.heap env cx ow) {x : Str} {pos : Pos} {a : AV} (e : cx.get? (glK K) x = some a) (hx : (x == ("__debug__" : Str) || x == ("__classdict__" : Str)) = false)
    {Q : Value → Shared → Prop} (k : ∀ v, Rel prog w F ρ v a → Q v s) : wpAny (model prog w) A (eval (.Name x pos) env) Q E s := by
  simp only [Bool.or_eq_false_iff] at hx
  unfold Cx.get? at e
  split at e
  · rename_i a' ha
    refine Og.cps fun G kG => ?_
    (replace e := Option.some.inj e; subst e)
    refine kG ?_
    clear kG
    exact wpAny_Name (var_sound R ha hx.2 fun v L => k v L) hx.1
  · exact nos e
  · split at e
    · rename_i hn
      exact Name_function_global R.kind (R.ks _ _ hn (.inl rfl)) (glK_sound hB G e R.glob k) hx.1
    · exact nos e
/-! ### arguments -/
theorem starEach_cons {e : Expr} {es : List Expr} (h : notStar e = true) : starEach (e :: es) env = (false, eval e env) :: starEach es env := by
  cases e <;> first | rfl | (exact Og.ftN h)
theorem backTo_any {pos : Pos} : ∀ {es : List Expr}, es.all notStar = true → (backTo pos (starEach es env)).any (·.1) = false
  | [], _ => rfl
  | e :: es, h => by
    rw [List.all_cons, Bool.and_eq_true] at h
    refine (starEach_cons h.1) ▸ ?_
    refine (?_ : (false || (backTo pos (starEach es env)).any (·.1)) = false)
    exact backTo_any h.2
theorem backTo_all {pos : Pos} : ∀ {es : List Expr}, es.all notStar = true → (backTo pos (starEach es env)).all (fun x => !x.1) = true
  | [], _ => rfl
  | e :: es, h => by
    rw [List.all_cons, Bool.and_eq_true] at h
    refine (starEach_cons h.1) ▸ ?_
    refine (?_ : (!false && (backTo pos (starEach es env)).all (fun x => !x.1)) = true)
    exact backTo_all h.2
inductive LsR (p : Expr → Sto → AV → Sto → Prop) : List Expr → Sto → List AV → Sto → Prop
  | nil {st : Sto} : LsR p [] st [] st
  | cons {e : Expr} {r : List Expr} {st st1 st2 : Sto} {a : AV} {l : List AV} : notStar e = true → p e st a st1 → LsR p r st1 l st2 → LsR p (e :: r) st (a :: l) st2
theorem LsR.imp {p q : Expr → Sto → AV → Sto → Prop} (f : ∀ e st a st', p e st a st' → q e st a st') {es : List Expr} {st st' : Sto} {l : List AV} (h : LsR p es st l st') : LsR q es st l st' := by
  induction h with
  | nil => exact .nil
  | cons hn h _ ih => exact .cons hn (f _ _ _ _ h) ih
theorem LsR.len {p : Expr → Sto → AV → Sto → Prop} {es : List Expr} {st st' : Sto} {l : List AV} (h : LsR p es st l st') : l.length = es.length := by
  induction h with
  | nil => exact rfl
  | cons _ _ _ ih => exact congrArg (· + 1) ih
theorem LsR.star {p : Expr → Sto → AV → Sto → Prop} {es : List Expr} {st st' : Sto} {l : List AV} (h : LsR p es st l st') : es.all notStar = true := by
  induction h with
  | nil => exact rfl
  | cons hn _ _ ih => rw [List.all_cons, hn, ih]; rfl
theorem evL_sound {pos : Pos} {es : List Expr} {st : Sto} {l : List AV} {st' : Sto} (e : LsR (fun e => SE prog w B P A e cx) es st l st') :
    ∀ {s : Shared} {F : Fro} {ρ : List Addr}, GR prog w B P F ρ st s.heap → FR prog w P F ρ s.heap env cx ow →
    ∀ {Q : List Value → Shared → Prop}, (∀ vs h' tk F' ρ', Step P NoX F ρ s.heap F' ρ' h' → GR prog w B P F' ρ' st' h' → RelL prog w F' ρ' vs l → Q vs { s with heap := h', toks := tk }) →
    wpAny (model prog w) A (spliced (backTo pos (starEach es env))) Q E s := by
  induction e with
  | nil =>
    intro s F ρ G R Q k
    exact spliced_nil (k [] s.heap s.toks F ρ .refl G .nil)
  | cons hn h1 _ ih =>
    intro s F ρ G R Q k
    refine (starEach_cons hn) ▸ ?_
    refine spliced_cons (h1.run E s F ρ env ow G R _ fun v h' tk F1 ρ1 S1 G1 Rv => ?_)
    exact ih (s := { s with heap := h', toks := tk }) G1 (R.step G S1) fun vs h'' tk' F2 ρ2 S2 G2 L => k (v :: vs) h'' tk' F2 ρ2 (S1.trans S2) G2 (.cons (S2.rel Rv) L)
/-! ### calls -/
noncomputable def KeepOk (prog : Program) (w : World) (K : Frag) (F : Fro) (fv : Value) : Prop :=
  ∀ h : Heap, (∀ a o, F a = some o → h.get? a = some o) → K.In h → ∃ k, (k = Keeper.frame ∨ k = Keeper.machine ∨ k = Keeper.boundFrame) ∧ Looks (model prog w) h (keeperOf fv) k
structure CS (prog : Program) (w : World) (K : Frag) (B : Heap) (P : Addr) (A : Around) (f : AV) (args : List AV) (st : Sto) (a : AV) (st' : Sto) : Prop where
  keeper : ∀ F ρ fv, Rel prog w F ρ fv f → KeepOk prog w K F fv
  run : ∀ (E : Value → Shared → Prop) (s : Shared) F ρ fv avs, GR prog w B P F ρ st s.heap → Rel prog w F ρ fv f → RelL prog w F ρ avs args →
    ∀ Q, PQ prog w B P F ρ s st' a Q → wpAny (model prog w) A (call fv avs) Q E s
theorem callWith_sound (hB : Base prog w K p loose mg mb B cL P) {es : List Expr} {pos : Pos} {fv : Value} {fa : AV} {first : List Value} {firstA l : List AV} {st1 st2 : Sto} {a : AV}
    (G : GR prog w B P F ρ st s.heap) (R : FR prog w P F ρ s.heap env cx ow) (Rf : Rel prog w F ρ fv fa) (Lf : RelL prog w F ρ first firstA)
    (e1 : LsR (fun e => SE prog w B P A e cx) es st l st1) (e2 : CS prog w K B P A fa (firstA ++ l) st1 a st2) {Q : Value → Shared → Prop} (k : PQ prog w B P F ρ s st2 a Q) :
    wpAny (model prog w) A (callWith pos fv first (backTo pos (starEach es env)) []) Q E s := by
  have hstar := e1.star
  have fin : ∀ vs h' tk F' ρ', Step P NoX F ρ s.heap F' ρ' h' → GR prog w B P F' ρ' st1 h' → RelL prog w F' ρ' vs l →
      ((∀ a o, F a = some o → h'.get? a = some o) ∧ K.In h') ∧ wpAny (model prog w) A (call fv (first ++ vs)) Q E { s with heap := h', toks := tk } := fun vs h' tk F' ρ' S G' L =>
    ⟨⟨fun a o q => G'.fz' a o (S.sub a o q), G'.inK hB⟩, e2.run E { s with heap := h', toks := tk } F' ρ' fv _ G' (S.rel Rf) ((S.relL Lf).append L) Q fun v h'' tk' F'' ρ'' S' G'' Rv => k v h'' tk' F'' ρ'' (S.trans S') G'' Rv⟩
  refine callWith_of (P := fun h => (∀ a o, F a = some o → h.get? a = some o) ∧ K.In h) (by rw [backTo_any hstar]; rfl) (fun h hp => (e2.keeper F ρ fv Rf) h hp.1 hp.2) ?_
  cases es with
  | nil => clear e2; cases e1; exact evalArgs_nil3 (fin [] s.heap s.toks F ρ .refl G .nil)
  | cons e es =>
    have main := evL_sound (pos := pos) (E := E) e1 (s := s) G R (Q := fun vs s' => ((∀ a o, F a = some o → s'.heap.get? a = some o) ∧ K.In s'.heap) ∧ wpAny (model prog w) A (call fv (first ++ vs)) Q E s') fin
    rw [List.all_cons, Bool.and_eq_true] at hstar
    rw [starEach_cons hstar.1] at main ⊢
    exact evalArgs_plain main
end
end Og
end
section
set_option maxRecDepth 100000
namespace Og
open PySem PySem.W PyProof.Rows PySem.Calls PySem.Spec PySem.SeqAt
-- tuple * int
theorem repeat_tuple : seqRepeat? (.type "tuple") = pure (some (.builtin "tuple.__mul__")) := by
  unfold seqRepeat?
  refine (PySem.seqSlot_of (T := "tuple") (name := "__mul__") (id := "tuple.__mul__") PySem.F.slot_tuple_mul.lookup (by decide +kernel)) ▸ (PySem.seqSlot_of (T := "tuple") (name := "__rmul__") (id := "tuple.__rmul__") PySem.F.slot_tuple_rmul.lookup (by decide +kernel)) ▸ ?_
  rfl
theorem noFill_tuple_mul : fillsNumberSlot (.type "tuple") "mul" = pure false :=
  PySem.fillsNumberSlot_seq (id := "tuple.__mul__") (r := some (.builtin "tuple.__rmul__")) PySem.F.slot_tuple_mul.lookup (by decide +kernel) PySem.F.slot_tuple_rmul.lookup (by decide +kernel)
theorem int_rmul_tuple (a : Int) (t : Tok) (l : Addr) (items : Array Value) (n : Nat) :
    Meets (Builtin.«int.__rmul__» ⟨[.int a t, .ref l], []⟩) (fun D0 R s => s.heap.get? l = some { cls := .type "tuple", dict := none, data := .seq items n, slots := #[] } ∧ R (.ok (.ret Value.notImplemented)) s) :=
  .of_wp fun prog w A R s h => by obtain ⟨hp, g, d, tk, os⟩ := s; obtain ⟨hl, h⟩ := h; wp_walk; exact Og.I12 _ rfl h
theorem fold_size (arr : Array Value) : ∀ (n : Nat) (acc : Array Value), ((List.replicate n arr).foldl (· ++ ·) acc).size = acc.size + n * arr.size
  | 0, acc => by simp
  | n + 1, acc => by rw [List.replicate_succ, List.foldl_cons, fold_size arr n, Array.size_append, Nat.succ_mul]; omega
theorem fold_list (l : List Value) : ∀ (n : Nat) (acc : Array Value), ((List.replicate n l.toArray).foldl (· ++ ·) acc) = acc ++ (List.replicate n l).flatten.toArray
  | 0, acc => by simp
  | n + 1, acc => by rw [List.replicate_succ, List.replicate_succ, List.foldl_cons, fold_list l n, List.flatten_cons]; simp
theorem tuple_mulW (l : Addr) (items : Array Value) (n : Nat) (x : Int) (u : Tok) (h0 : items.isEmpty = false) (h1 : 2 ≤ x) (h2 : x < 2 ^ 20) (h3 : (items.size : Int) * x ≤ 2 ^ 20) :
    Meets (Builtin.«tuple.__mul__» ⟨[.ref l, .int x u], []⟩) (fun D0 R s => s.heap.get? l = some { cls := .type "tuple", dict := none, data := .seq items n, slots := #[] } ∧
      R (.ok (.ret (Value.ref s.heap.objs.size))) { s with heap := s.heap.push { cls := Value.type "tuple", data := Data.seq ((List.replicate x.toNat items).foldl (· ++ ·) #[]) } }) :=
  .of_wp fun prog w A R s h => by
    obtain ⟨hp, g, d, tk, os⟩ := s; obtain ⟨hl, h⟩ := h
    have c1 : ¬ ((decide (x < -2 ^ 63) || decide (x ≥ 2 ^ 63)) = true) := by simp; (clear h3; omega)
    have c2 : ¬ ((items.isEmpty || x == 1) = true) := by refine h0 ▸ ?_; simp; (clear h3 c1; omega)
    have c3 : ¬ ((decide (x ≤ 0) || items.isEmpty) = true) := by refine h0 ▸ ?_; simp; (clear h3 c1; omega)
    have c5 : ¬ (Builtin.Tuple.tupleTooMany ((items.size : Int) * x) = true) := by unfold Builtin.Tuple.tupleTooMany; simp [sizeLine]; (clear h1 h2 c1 c3; omega)
    have f1 := AutoSeq1.idx_int
    wp_walk using wpAny_loadPart' hl
    rw [if_neg c1]
    wp_walk using wpAny_loadPart' hl
    try rw [if_neg c2]
    wp_walk using wpAny_loadPart' hl
    try rw [if_neg c3]
    wp_walk using wpAny_loadPart' hl
    try refine (if_neg (by (clear h1 h2 c1 c3; omega) : ¬ ((items.size : Int) * x > (2 ^ 63 - 1) / 8))) ▸ ?_
    wp_walk using wpAny_loadPart' hl
    try rw [if_neg c5]
    wp_walk using wpAny_loadPart' hl
    have c6 : ¬ ((List.replicate x.toNat items).foldl (· ++ ·) #[]).size > sizeLine := by
      rw [fold_size]
      have : (x.toNat : Int) = x := by (clear h3 c1 c3; omega)
      have h4 : ((x.toNat * items.size : Nat) : Int) ≤ 2 ^ 20 := by push_cast; rw [this, Int.mul_comm]; exact h3
      have : sizeLine = 2 ^ 24 := rfl
      refine List.size_toArray ▸ List.length_nil ▸ ?_
      (clear h1 h2 h3 c1 c3; omega)
    refine (if_neg c6) ▸ ?_
    wp_walk using wpAny_loadPart' hl
    exact Og.I12 _ rfl h
section
variable {prog : Program} {w : World} {K : Frag} {p : Program} {loose : List Str} {mg mb : Str → Option Value} {B : Heap} {cL P : Addr} {F F' : Fro} {ρ ρ' : List Addr} {st : Sto} {A : Around} {E : Value → Shared → Prop} {s : Shared} {h : Heap} {env : Env} {cx : Cx} {ow : Str → List Addr}
theorem PQ.after {st' : Sto} {a : AV} {Q : Value → Shared → Prop} {h' : Heap} {tk : Nat} (k : PQ prog w B P F ρ s st' a Q) (S : Step P NoX F ρ s.heap F' ρ' h') : PQ prog w B P F' ρ' { s with heap := h', toks := tk } st' a Q :=
  fun v h'' tk' F'' ρ'' S' G' R => k v h'' tk' F'' ρ'' (S.trans S') G' R
theorem PB.after {α : Type} {st' : Sto} {b : α} {Q : α → Shared → Prop} {h' : Heap} {tk : Nat} (k : PB prog w B P F ρ s st' b Q) (S : Step P NoX F ρ s.heap F' ρ' h') : PB prog w B P F' ρ' { s with heap := h', toks := tk } st' b Q :=
  fun h'' tk' F'' ρ'' S' G' => k h'' tk' F'' ρ'' (S.trans S') G'
noncomputable def BRel (prog : Program) (w : World) (F : Fro) (ρ : List Addr) (h : Heap) (cx : Cx) (ow : Str → List Addr) (v : Value) : BR → Prop
  | .av a => Rel prog w F ρ v a
  | .own x => ∃ lv, cx.vars.lookup x = some lv ∧ LvR prog w F ρ h (ow x) v lv
structure SB (prog : Program) (w : World) (B : Heap) (P : Addr) (A : Around) (e : Expr) (cx : Cx) (st : Sto) (r : BR) (st' : Sto) : Prop where
  ns : isSet e = false
  run : ∀ (E : Value → Shared → Prop) (s : Shared) F ρ env ow, GR prog w B P F ρ st s.heap → FR prog w P F ρ s.heap env cx ow →
    ∀ Q : Value → Shared → Prop, (∀ v h' tk F' ρ', Step P NoX F ρ s.heap F' ρ' h' → GR prog w B P F' ρ' st' h' → BRel prog w F' ρ' h' cx ow v r → Q v { s with heap := h', toks := tk }) → wpAny (model prog w) A (eval e env) Q E s
theorem BRel.step {v : Value} {r : BR} (x : BRel prog w F ρ h cx ow v r) (R : FR prog w P F ρ h env cx ow) {h' : Heap} (S : Step P NoX F ρ h F' ρ' h') : BRel prog w F' ρ' h' cx ow v r := by
  cases r with
  | av a => exact S.rel x
  | own y =>
    refine O12 x ?_; clear x; rintro lv e L
    exact Og.I12 lv e (L.keep S.sub S.refs fun a ha ob q => S.keep a ob q (R.own y a ha).2.1 (R.own y a ha).2.2.1 id)
theorem ctB_sound (G : GR prog w B P F ρ st h) {r : BR} {c : Ct} {v : Value} (e : ctB cx st r = some c) (x : BRel prog w F ρ h cx ow v r) : CtR prog w F ρ h v c := by
  cases r with
  | av a => exact ctOf_sound G e x
  | own y =>
    refine O12 x ?_; clear x; rintro lv e1 L
    simp only [ctB, e1] at e
    cases lv with
    | v a => exact nos e
    | ol l => (replace e := Option.some.inj e; subst e); refine O34 L ?_; clear L; rintro a vs n _ rfl q r; exact Og.I33 a vs n rfl q r
    | od ks vs => (replace e := Option.some.inj e; subst e); refine O3_6 L ?_; clear L; rintro a es n _ rfl q m k r; exact Og.I35 a es n rfl q m k r
    | oz xs ys => exact nos e
/-! ### the parts -/
theorem const_sound {c : Const} {a : AV} {k : Nat} {pos : Pos} (e : constA c = some a) (G : GR prog w B P F ρ st s.heap) {Q : Value → Shared → Prop} (q : PQ prog w B P F ρ s st a Q) : wpAny (model prog w) A (eval (.Constant c k pos) env) Q E s := by
  cases c <;> first | exact nos e | (simp only [constA] at e; rcases e)
  · exact wpAny_pure (q.now G .none s.toks)
  · exact wpAny_pure (q.now G (.bool _) s.toks)
  · exact wpAny_Constant_int (q.now G (.int _ _) _)
  · exact Constant_str (q.now G (.str _ _) _)
theorem RelL.flat {l : List AV} {vs : List Value} (L : RelL prog w F ρ vs l) : ∀ n : Nat, RelL prog w F ρ (List.replicate n vs).flatten (List.replicate n l).flatten
  | 0 => .nil
  | n + 1 => by exact List.replicate_succ ▸ List.replicate_succ ▸ List.flatten_cons ▸ List.flatten_cons ▸ L.append (RelL.flat L n)
set_option tactic.hygienic true in
theorem mul_tup {l : List AV} {n : Int} {t : Tok} {a : AV} {v : Value} (G : GR prog w B P F ρ st s.heap) (e : binA .Mult (.tup l) (.int n) = some a) (Rv : Rel prog w F ρ v (.tup l)) {Q : Value → Shared → Prop} (k : PQ prog w B P F ρ s st a Q) :
    wpAny (model prog w) A (binaryOp .Mult v (.int n t)) Q E s := by
  have e : (if decide (2 ≤ n ∧ n < 2 ^ 10) && decide (1 ≤ l.length ∧ l.length ≤ 2 ^ 10) then some (AV.tup (List.replicate n.toNat l).flatten) else none) = some a := e
  split at e
  · rename_i hc
    simp only [Bool.and_eq_true, decide_eq_true_eq] at hc
    refine O03 hc ?_; clear hc; rintro ⟨h1, h2⟩ h3 h4
    (replace e := Option.some.inj e; subst e)
    refine O33 Rv.inv ?_; clear Rv; rintro ad vs m rfl Fa L
    ·
      have ho := G.fz' _ _ Fa
      have hlen := L.length
      have hne : vs.toArray.isEmpty = false := by
        cases vs with
        | nil => simp at hlen; (clear h1 h2; omega)
        | cons _ _ => rfl
      refine wpAny_binaryOp_repeat_ref (T := "tuple") (U := "int") (by decide) ⟨_, ho, rfl⟩ (fun s' => PySem.typeIs_int s' n t) noFill_tuple_mul PySem.F.fills_int_mul PySem.F.slot_int_rmul repeat_tuple PySem.F.slot_int_index.lookup
        (call_meets PySem.F.slot_int_rmul (PySem.typeIs_int s n t) PySem.F.entry_int_rmul (PySem.F.args_int_rmul_2 _ _) (int_rmul_tuple n t ad vs.toArray m)
          (Og.I04 ho rfl ⟨_, ho, rfl⟩ (call_meets PySem.F.slot_tuple_mul ⟨_, ho, rfl⟩ PySem.F.entry_tuple_mul (PySem.F.args_tuple_mul_2 _ _)
            (tuple_mulW ad vs.toArray m n t hne h1 (by (clear h3 h4 hlen; omega)) ?_) ⟨ho, ?_⟩)))
      · refine List.size_toArray ▸ hlen ▸ ?_
        have : (l.length : Int) ≤ 2 ^ 10 := by exact_mod_cast h4
        have : (l.length : Int) * n ≤ 2 ^ 10 * 2 ^ 10 := Int.mul_le_mul this (by (clear h3 h4 hlen this; omega)) (by (clear h3 h4 hlen this; omega)) (by decide)
        (clear h1 h2 h3 h4 hlen; omega)
      · refine (fold_list vs n.toNat #[]) ▸ ?_
        have := k.newTup G (L.flat n.toNat) s.toks
        simpa using this
  · exact nos e
set_option tactic.hygienic true in
theorem baseOk_eq {o : Expr} (hb : baseOk o = true) (name : Str) (t : Sem Value) : attributeBase o name env t = t := by
  cases o <;> first | exact rfl | skip
  next f a k p =>
  cases f <;> first | exact rfl | skip
  cases a <;> first | exact rfl | skip
  cases k <;> first | exact rfl | exact ftN hb
set_option tactic.hygienic true in
theorem subscripted_or (slice : Expr) (o i : Value) : subscripted slice false o i = operate [o, i] (getItem o i) ∨ subscripted slice false o i = operate [i, o] (getItem o i) := by
  cases slice <;> first | exact .inl rfl | skip
  next a b c d =>
  cases c
  · exact .inr rfl
  · exact .inl rfl
theorem subTail {value slice : Expr} {c : Ct} {v u : Value} (C : CtR prog w F ρ s.heap v c) {Q : Value → Shared → Prop}
    (h : wpAny (model prog w) A (getItem v u) Q E s) : wpAny (model prog w) A (subscriptTail value slice v u) Q E s := by
  obtain ⟨T, id, hT, hl⟩ : ∃ T id, s.TypeIs v T ∧ typeLookup (.type T) "__getitem__" = pure (some (.builtin id)) := by
    cases c with
    | list l => refine O33 C ?_; clear C; clear h; rintro a vs n rfl ho _; exact Og.I22 _ _ ⟨_, ho, rfl⟩ list_getitem_lookup
    | tup l => refine O33 C ?_; clear C; clear h; rintro a vs n rfl ho _; exact Og.I22 _ _ ⟨_, ho, rfl⟩ PySem.F.slot_tuple_getitem.lookup
    | dict ks vs => refine O34 C ?_; clear C; clear h; rintro a es n rfl ho hm _; exact Og.I22 _ _ ⟨_, ho, rfl⟩ slot_dict_getitem.lookup
  unfold subscriptTail
  refine wpAny_bind ?_
  refine (getitemInPython_of_ne hT.not_modules) ▸ ?_
  refine wpAny_bind (wpAny_specialOf hT hl ?_)
  have fin : wpAny (model prog w) A (subscripted slice false v u) (fun r s₃ => wpAny (model prog w) A (letTemporaryGo value v r >>= fun D0 => pure r) Q E s₃) E s := by
    rcases subscripted_or slice v u with q | q <;> refine q ▸ ?_ <;>
      exact wpAny_operating (wpAny_mono h (fun r s₃ h₃ => wpAny_bind (wpAny_letTemporaryGo (wpAny_pure h₃))) fun D0 D1 x => x)
  first
    | exact wpAny_pure (wpAny_bind fin)
    | exact wpAny_bind (wpAny_pure (wpAny_bind fin))
    | exact wpAny_bind fin
/-- a place of one list in another -/
theorem zip_lookup {name : Str} {w : World} {R : Value → AV → Prop} {es : List DictEntry} {ks : List Str} (hp : Paired (fun e x => (∃ t, e.key = Value.str x t) ∧ e.hash = PyData.keyHash w.params x) es ks) : ∀ {vs : List AV} {a : AV},
    (∀ (i : Nat) (v : Value), (es.map (·.val))[i]? = some v → ∀ b : AV, vs[i]? = some b → R v b) → es.length = vs.length → (ks.zip vs).lookup name = some a → ∃ v, getL name es = some (some v) ∧ R v a := by
  induction hp with
  | nil => exact fun D0 D1 h => nos h
  | @cons e x es ks hk hp ih =>
    intro vs a hR hlen h
    cases vs with
    | nil => exact nos h
    | cons b vs =>
      refine Og.cps fun G kG => ?_
      obtain ⟨⟨t, hk⟩, _⟩ := hk
      rw [List.zip_cons_cons, List.lookup_cons] at h
      have hstr : e.key.isStr name = (x == name) := by refine hk ▸ ?_; rfl
      refine kG ?_
      clear kG
      unfold getL
      refine (List.find?_cons) ▸ hstr ▸ ?_
      by_cases q : name = x
      · clear hk hstr; subst q
        rw [beq_self_eq_true] at h ⊢
        (replace h := Option.some.inj h; subst h)
        exact Og.I12 e.val rfl (hR 0 _ rfl _ rfl)
      · replace h := (beq_eq_false_iff_ne.mpr q) ▸ h
        refine (beq_eq_false_iff_ne.mpr fun z : x = name => q z.symm) ▸ ?_
        refine O12 (ih (fun i v e1 b e2 => hR (i + 1) v e1 b e2) (Nat.succ.inj hlen) h) ?_; rintro v h1 h2
        refine Og.I12 v ?_ h2
        unfold getL at h1
        cases z : es.find? (·.key.isStr name) with
        | some e' => replace h1 := z ▸ h1; exact h1
        | none =>
          rw [z] at h1
          rcases pick h1 with ⟨_, q⟩ | q
          · exact nos q
          · exact nos (Option.some.inj q)
theorem noRefs {w : World} {es : List DictEntry} {ks : List Str} (h : Paired (fun e x => (∃ t, e.key = Value.str x t) ∧ e.hash = PyData.keyHash w.params x) es ks) : es.any (·.refKey) = false := by
  induction h with
  | nil => rfl
  | cons h _ ih =>
    obtain ⟨⟨t, hk⟩, _⟩ := h
    rw [List.any_cons, ih, Bool.or_false]
    unfold DictEntry.refKey
    exact hk ▸ rfl
set_option tactic.hygienic true in
theorem getL_none {w : World} {name : Str} : ∀ {es : List DictEntry} {ks : List Str}, Paired (fun e x => (∃ t, e.key = Value.str x t) ∧ e.hash = PyData.keyHash w.params x) es ks → ks.contains name = false → getL name es = some none := by
  intro es ks hp hn
  have : es.find? (·.key.isStr name) = none := by
    induction hp with
    | nil => rfl
    | cons h t ih =>
      rename_i e x es ks
      obtain ⟨⟨tk, hk⟩, _⟩ := h
      rw [List.contains_cons, Bool.or_eq_false_iff] at hn
      refine (List.find?_cons) ▸ ?_
      have : e.key.isStr name = (x == name) := by refine hk ▸ ?_; rfl
      refine this ▸ ?_
      have q2 : (x == name) = false := by
        have := hn.1
        simp only [beq_eq_false_iff_ne, ne_eq] at this ⊢
        exact fun z => this z.symm
      exact q2 ▸ ih hn.2
  unfold getL
  refine this ▸ ?_
  simp only [noRefs hp, Bool.false_eq_true, if_false]
set_option tactic.hygienic true in
/-- an attribute of an instance -/
theorem attr_sound (hB : Base prog w K p loose mg mb B cL P) (G : GR prog w B P F ρ st s.heap) {c : Addr} {l : Nat} {v : Value} {name : Str} {ks : List Str} {vs : List AV} {a : AV} (R : Rel prog w F ρ v (.inst c l)) (hst : st[l]? = some (.attrs ks vs))
    (hk : attrK K c name = true) (e : (ks.zip vs).lookup name = some a) (ha : ∀ v, a ≠ .val v) {Q : Value → Shared → Prop} (k : PQ prog w B P F ρ s st a Q) {ex : Bool} : wpAny (model prog w) A (getAttr v name ex) Q E s := by
  refine O23 R.inv ?_; rintro ad dx rfl Fa hr
  ·
    refine O24 (G.objs l dx _ hr hst) ?_; rintro es n ho hp hnd L
    unfold attrK at hk
    simp only [Bool.and_eq_true] at hk
    obtain ⟨⟨h1, h2⟩, h3⟩ := hk
    split at h3
    · rename_i attr hattr
      refine O12 (zip_lookup (w := w) (R := fun v a => Rel prog w F ρ v a) hp (fun i v e1 b e2 => by
        refine O12 (L.get' e1) ?_; rintro a' e3 r
        (replace e3 := Option.some.inj (e2.symm.trans e3); subst e3); exact r) (by have := L.length; simpa using this) e) ?_; rintro u hu Ru
      have hnd : handedIn u = true := by
        clear e k; cases Ru <;> first | rfl | exact absurd rfl (ha _)
      exact get_value (G.inK hB) (⟨G.fz' _ _ Fa, rfl, rfl, ho⟩ : InstAt s.heap ad (instObj c dx) c (some (dctO es n))) (plainGet_of h1).1 (findObj_own h2 hattr h3 hu) hnd (k.now G Ru _)
    · exact ftN h3
end
end Og
end
section
set_option maxRecDepth 100000
namespace Og
open PySem PySem.W PyProof.Rows PySem.Calls PySem.Spec PySem.SeqAt
section
variable {prog : Program} {w : World} {K : Frag} {p : Program} {loose : List Str} {mg mb : Str → Option Value} {B : Heap} {cL P : Addr} {F F' : Fro} {ρ ρ' : List Addr} {st : Sto} {A : Around} {E : Value → Shared → Prop} {s : Shared} {h : Heap} {env : Env} {cx : Cx} {ow : Str → List Addr}
theorem fold_pure {it : Expr} (hn : isSet it = false) (x : Value) : foldedSetIterable it env x = pure x := by
  cases it <;> first | rfl | exact tfN hn
/-- a comprehension with one generator -/
inductive CpR (prog : Program) (w : World) (B : Heap) (P : Addr) (A : Around) (elt t it : Expr) (ifs : List Expr) (sc : Scope) (cx : Cx) (st : Sto) : List AV → Sto → Prop
  | mk {a1 : AV} {st1 st' : Sto} {l out : List AV} : compOk sc = true → freeOk cx sc = true → ifs.length ≤ 1 → SE prog w B P A it cx st a1 st1 → iterA st1 a1 = some l →
    CompR (compVars cx sc) t (fun cx => AndR (fun c => ST prog w B P A c cx) ifs) (SE prog w B P A elt) l st1 out st' → CpR prog w B P A elt t it ifs sc cx st out st'
theorem comp_sound (hh : A.handled = none) {elt t it : Expr} {ifs : List Expr} {sc : Scope} {pos : Pos} {out : List AV} {st' : Sto}
    (h : CpR prog w B P A elt t it ifs sc cx st out st') (G : GR prog w B P F ρ st s.heap) (R : FR prog w P F ρ s.heap env cx ow) {use : Option (Value → Sem Unit)} {Q : Value → Shared → Prop}
    (k : ∀ D C h' tk F' ρ', Step P NoX F ρ s.heap F' ρ' h' → GR prog w B P F' ρ' st' h' → Rel prog w F' ρ' (.ref D) (.lst out) → (∃ m, h'.Ns C m) → F' C = none ∧ C ∉ ρ' ∧ C ≠ P ∧ s.heap.get? C = none →
      compPost (model prog w) A E use Q (.ref D) C (.ok .next) { s with heap := h', toks := tk }) :
    wpAny (model prog w) A (comprehension (.ListComp elt [⟨t, it, ifs, 0⟩] sc pos) sc env (firstIterPos [⟨t, it, ifs, 0⟩] pos) (newList []) false (firstIter [⟨t, it, ifs, 0⟩] env) use) Q E s := by
  obtain ⟨hok, hf, hifs, h1, h2, h3⟩ := h
  refine wpAny_comprehension_free (g := ⟨t, it, ifs, 0⟩) (gs := []) (cl := closL env.cells sc.names []) rfl (fold_pure h1.ns) (closureFor_eq fun x hx hk => (clos_ok R hf x hx hk).2) (compOk_kind hok) (fun x hx hl => ?_) ?_
  · obtain ⟨x, k⟩ := x
    subst hl
    exact compOk_at hok hx
  refine (?_ : wpAny _ _ (eval it env) _ _ _)
  refine h1.run E s F ρ env ow G R _ fun v h1' tk1 F1 ρ1 S1 G1 Rv => ?_
  refine iter_sound (s := { s with heap := h1', toks := tk1 }) (t := t) hh G1 h2 Rv fun I fp wr St h2' tk2 W hSt hwr hfp kk hsz => ?_
  have S2 : Step P NoX F1 ρ1 h1' F1 ρ1 h2' := Step.keeps kk
  refine comp_core (s := { s with heap := h2', toks := tk2 }) (Fz := F) (ρz := ρ) (hz := s.heap) hh hifs hok hf (G1.keeps kk) ((R.step G S1).step G1 S2) W hSt (S1.trans S2) (fun b hb => ?_) hfp hsz h3 ?_
  · have hb' := hwr b hb
    have n := G1.newOff hb'
    refine Og.I05 (S1.dead hb') n.1 n.2.1 n.2.2 (fun x c q z => ?_)
    clear hb n; subst z
    obtain ⟨o, q'⟩ := R.clt x c q
    rw [S1.dead hb'] at q'; exact nos q'
  · intro D C h' tk F' ρ' S' G' R' hm hC
    exact k D C h' tk F' ρ' S' G' R' hm (Og.I04 hC.1 hC.2.1 hC.2.2.1 ((S1.trans S2).dead hC.2.2.2))
theorem comp_eval (hh : A.handled = none) {elt t it : Expr} {ifs : List Expr} {sc : Scope} {pos : Pos} {out : List AV} {st' : Sto}
    (h : CpR prog w B P A elt t it ifs sc cx st out st') : SE prog w B P A (.ListComp elt [⟨t, it, ifs, 0⟩] sc pos) cx st (.lst out) st' := ⟨rfl, fun E s F ρ env ow G R Q k => by
  rw [arm_eval_ListComp]
  refine comp_sound hh h G R fun D C h' tk F' ρ' S' G' R' hm hC => ?_
  obtain ⟨m, hm⟩ := hm
  refine Og.I12 m hm (fun h'' hs => ?_)
  have kC : ∀ b o, ¬ (b = C) → h'.get? b = some o → h''.get? b = some o := fun b o n q => hs.extBut b o n q
  exact k _ h'' tk F' ρ' (S'.touch (· = C) (fun b q => q ▸ hC.2.2.2) kC) (G'.touch (· = C) (fun b q => q ▸ Og.I03 hC.1 hC.2.1 hC.2.2.1) kC) R'⟩
/-! ### texts put together -/
inductive JoinR (p : Expr → Sto → AV → Sto → Prop) : List Expr → Sto → Str → Sto → Prop
  | nil {st : Sto} : JoinR p [] st ⟨#[]⟩ st
  | con {x y : Str} {k : Nat} {pos : Pos} {r : List Expr} {st st1 : Sto} : JoinR p r st y st1 → x.length ≤ 2 ^ 10 ∧ y.length ≤ 2 ^ 12 → JoinR p (.Constant (.str x) k pos :: r) st (x ++ y) st1
  | str {v : Expr} {x y : Str} {pos : Pos} {r : List Expr} {st st1 st2 : Sto} : p v st (.str x) st1 → JoinR p r st1 y st2 → x.length ≤ 2 ^ 10 ∧ y.length ≤ 2 ^ 12 → JoinR p (.FormattedValue v (-1) none pos :: r) st (x ++ y) st2
  | int {v : Expr} {i : Int} {y : Str} {pos : Pos} {r : List Expr} {st st1 st2 : Sto} : p v st (.int i) st1 → JoinR p r st1 y st2 → 0 ≤ i ∧ i < 10 ∧ y.length ≤ 2 ^ 12 → JoinR p (.FormattedValue v (-1) none pos :: r) st (Str.ofString (toString i) ++ y) st2
theorem JoinR.imp {p q : Expr → Sto → AV → Sto → Prop} (f : ∀ e st a st', p e st a st' → q e st a st') {l : List Expr} {st st' : Sto} {y : Str} (h : JoinR p l st y st') : JoinR q l st y st' := by
  induction h with
  | nil => exact .nil
  | con _ hb ih => exact .con ih hb
  | str h _ hb ih => exact .str (f _ _ _ _ h) ih hb
  | int h _ hb ih => exact .int (f _ _ _ _ h) ih hb
theorem digit_len (i : Int) (h0 : 0 ≤ i) (h1 : i < 10) : (Str.ofString (toString i)).length ≤ 2 ^ 10 := by
  have : ∀ j : Fin 10, (Str.ofString (toString (j.val : Int))).length ≤ 2 ^ 10 := by decide
  have := this ⟨i.toNat, by (clear this; omega)⟩
  rwa [show ((i.toNat : Nat) : Int) = i by (clear this; omega)] at this
theorem JoinR.len {p : Expr → Sto → AV → Sto → Prop} {l : List Expr} {st st' : Sto} {y : Str} (h : JoinR p l st y st') : y.length ≤ 2 ^ 14 := by
  cases h with
  | nil => decide
  | con _ hb => rw [Str.length_append]; omega
  | str _ _ hb => rw [Str.length_append]; omega
  | int _ _ hb => rw [Str.length_append]; have := digit_len _ hb.1 hb.2.1; omega
theorem join_sound {es : List Expr} {st st' : Sto} {out : Str} (e : JoinR (fun e => SE prog w B P A e cx) es st out st') :
    ∀ {s : Shared} {F : Fro} {ρ : List Addr} {acc : Str}, GR prog w B P F ρ st s.heap → FR prog w P F ρ s.heap env cx ow → acc.length + out.length ≤ sizeLine →
    ∀ {Q : Str → Shared → Prop}, (∀ h' tk F' ρ', Step P NoX F ρ s.heap F' ρ' h' → GR prog w B P F' ρ' st' h' → Q (acc ++ out) { s with heap := h', toks := tk }) →
    Joins (model prog w) A E (evalEach es env) acc Q s := by
  have h24 : sizeLine = 2 ^ 24 := rfl
  induction e with
  | nil =>
    intro s F ρ acc G R hl Q k
    have := k s.heap s.toks F ρ .refl G
    rw [show acc ++ (⟨#[]⟩ : Str) = acc from Str.append_empty acc] at this
    exact this
  | @con x y kk pos r st st1 _ hb ih =>
    intro s F ρ acc G R hl Q k
    rw [Str.length_append] at hl
    exact Constant_str (Og.I23 x _ rfl (by rw [Str.length_append]; omega) (ih (s := { s with toks := s.toks + 1 }) G R (by rw [Str.length_append]; omega) fun h' tk F' ρ' S' G' => Str.append_assoc acc x y ▸ k h' tk F' ρ' S' G'))
  | @str v x y pos r st st1 st2 h1 _ hb ih =>
    intro s F ρ acc G R hl Q k
    rw [Str.length_append] at hl
    refine wpAny_FormattedValue_plain (h1.run E s F ρ env ow G R _ fun u h1' tk1 F1 ρ1 S1 G1 Ru => ?_)
    obtain ⟨_, rfl⟩ := Ru.inv
    have fin : ∀ t tk2, ∃ y_1 t', Value.str x t = .str y_1 t' ∧ (acc ++ y_1).length ≤ sizeLine ∧ Joins (model prog w) A E (evalEach r env) (acc ++ y_1) Q { s with heap := h1', toks := tk2 } := fun t tk2 =>
      Og.I23 x t rfl (by rw [Str.length_append]; omega) (ih (s := { s with heap := h1', toks := tk2 }) G1 (R.step G S1) (by rw [Str.length_append]; omega) fun h' tk F' ρ' S' G' => Str.append_assoc acc x y ▸ k h' tk F' ρ' (S1.trans S') G')
    exact wpAny_formatField_str (fin _ _) (fin _ _) (by (clear ih hl fin; omega))
  | @int v i y pos r st st1 st2 h1 _ hb ih =>
    intro s F ρ acc G R hl Q k
    rw [Str.length_append] at hl
    refine wpAny_FormattedValue_plain (h1.run E s F ρ env ow G R _ fun u h1' tk1 F1 ρ1 S1 G1 Ru => ?_)
    obtain ⟨_, rfl⟩ := Ru.inv
    refine wpAny_formatField_int ?_ ⟨_, _, rfl, by rw [Str.length_append]; omega, ih (s := { s with heap := h1', toks := tk1 + 1 + 1 }) G1 (R.step G S1) (by rw [Str.length_append]; (clear hb ih; omega)) fun h' tk F' ρ' S' G' => Str.append_assoc acc _ y ▸ k h' tk F' ρ' (S1.trans S') G'⟩
    have : i.natAbs < 2 ^ 10 := by (clear h24 ih hl; omega)
    have h2 : i.natAbs.log2 ≤ 10 := by
      by_cases hz : i.natAbs = 0
      · refine hz ▸ ?_; decide
      · exact Nat.le_of_lt ((Nat.log2_lt hz).mpr this)
    (clear h24 hb ih hl this; omega)
end
end Og
end
section
set_option maxRecDepth 100000
namespace Og
open PySem PySem.W PyProof.Rows PySem.Calls PySem.Spec PySem.SeqAt
section
variable {prog : Program} {w : World} {K : Frag} {p : Program} {loose : List Str} {mg mb : Str → Option Value} {B : Heap} {cL P : Addr} {F F' : Fro} {ρ ρ' : List Addr} {st : Sto} {A : Around} {E : Value → Shared → Prop} {s : Shared} {h : Heap} {env : Env} {cx : Cx} {ow : Str → List Addr}
theorem behind_no {op : CmpOp} {r : Expr} (hn : isSet r = false) : behindInMarks op r = false := by
  cases r <;> first | rfl | exact tfN hn
theorem meets_items (d : Addr) (hd : (d == sysModules) = false) :
    MeetsIn prog w (Builtin.«dict.items» ⟨[.ref d], []⟩) (fun D0 R s => s.TypeIs (.ref d) "dict" ∧
      R (.ok (.ret (.ref s.heap.objs.size))) { s with heap := s.heap.push { cls := .type "dict_items", data := .fields #[.ref d] } }) :=
  .of_wp fun A R s zz => zz.elim fun hm h => by
    unfold Builtin.«dict.items»
    refine wpAny_bind ?_
    unfold Builtin.Dict.noArgs
    refine wpAny_bind (wpAny_notOrdered_dict hm ?_)
    refine (?_ : wpAny _ _ (pure d) _ _ s)
    refine wpAny_pure ?_
    show wpAny _ _ (Builtin.Dict.showsAll d >>= _) _ _ s
    unfold Builtin.Dict.showsAll
    refine (if_neg (by exact hd ▸ Bool.false_ne_true)) ▸ ?_
    refine wpAny_bind (wpAny_pure ?_)
    exact wpAny_bind (wpAny_newObj_type (wpAny_pure (Og.I12 _ rfl h)))
theorem method_eval {o : Expr} {name : Str} {apos pos : Pos} {es : List Expr} {Q : Value → Shared → Prop} (hb : baseOk o = true) (hline : (apos.endLine == pos.line) = true) (hlen : es.length ≤ 8) (hstar : es.all notStar = true)
    (h : wpAny (model prog w) A (eval o env) (fun ov s₁ => ∀ pl, wpAny (model prog w) A (getMethod ov name pl) (fun fx s₂ => wpAny (model prog w) A (callWith pos fx.1 fx.2 (backTo pos (starEach es env)) []) Q E s₂) E s₁) E s) :
    wpAny (model prog w) A (eval (.Call (.Attribute o name apos) es [] pos) env) Q E s := by
  rw [arm_eval_Call, baseOk_eq hb]
  refine wpAny_bind (wpAny_mono h (fun ov s₁ h₁ => wpAny_bind (wpAny_standAt ?_)) fun D0 D1 e => e)
  have hform : methodCallForm (es.length + ([] : List Keyword).length) (backTo pos (starEach es env)) (backToKw pos (keywordEach [] env)) = true := by
    unfold methodCallForm
    rw [backTo_all hstar]
    refine (?_ : (true && true && decide (es.length + 0 + 0 < 30)) = true)
    simp; omega
  delta methodCall calleeOf methodCallPos
  simp only [hform, hline, if_true, Bool.not_true, Bool.or_true]
  refine wpAny_bind (wpAny_holding (wpAny_mono (h₁ _) (fun fx s₂ h₂ => ?_) fun D0 D1 e => e))
  exact wpAny_bind (wpAny_pure h₂)
theorem CtR.keeps {v : Value} {c : Ct} {h' : Heap} (C : CtR prog w F ρ h v c) (kk : ∀ a o, h.get? a = some o → h'.get? a = some o) : CtR prog w F ρ h' v c := by
  cases c with
  | list l => refine O33 C ?_; clear C; rintro a vs n e ho r; exact Og.I33 a vs n e (kk _ _ ho) r
  | tup l => refine O33 C ?_; clear C; rintro a vs n e ho r; exact Og.I33 a vs n e (kk _ _ ho) r
  | dict ks vs => refine O33 C ?_; clear C; rintro a es n e ho r; exact Og.I33 a es n e (kk _ _ ho) r
theorem const_rule {c : Const} {a : AV} {kk : Nat} {pos : Pos} (e : constA c = some a) : SE prog w B P A (.Constant c kk pos) cx st a st := ⟨rfl, fun D0 D1 D2 D3 D4 D5 G D6 D7 k => const_sound e G k⟩
theorem name_rule (hB : Base prog w K p loose mg mb B cL P) {x : Str} {pos : Pos} {a : AV} (e : cx.get? (glK K) x = some a) (hx : (x == ("__debug__" : Str) || x == ("__classdict__" : Str)) = false) : SE prog w B P A (.Name x pos) cx st a st :=
  ⟨rfl, fun D0 s D1 D2 D3 D4 G R D5 k => get_sound hB G R e hx fun D0 Rv => k.now G Rv s.toks⟩
theorem tup_rule {es : List Expr} {c : Nat} {pos : Pos} {l : List AV} {st' : Sto} (h : LsR (fun e => SE prog w B P A e cx) es st l st') (hlen : es.length ≤ 64) : SE prog w B P A (.Tuple es c pos) cx st (.tup l) st' :=
  ⟨rfl, fun D0 D1 D2 D3 D4 D5 G R D6 k => wpAny_Tuple_spliced (evL_sound h G R fun D0 D1 D2 D3 D4 S G' L => ⟨by refine L.length ▸ h.len ▸ ?_; exact Nat.le_trans hlen (by decide), (k.after S).newTup G' L _⟩)⟩
theorem lst_rule {es : List Expr} {pos : Pos} {l : List AV} {st' : Sto} (h : LsR (fun e => SE prog w B P A e cx) es st l st') (hlen : es.length ≤ 64) : SE prog w B P A (.List es pos) cx st (.lst l) st' :=
  ⟨rfl, fun D0 D1 D2 D3 D4 D5 G R D6 k => wpAny_List_spliced (evL_sound h G R fun D0 D1 D2 D3 D4 S G' L => ⟨by refine L.length ▸ h.len ▸ ?_; exact Nat.le_trans hlen (by decide), (k.after S).newLst G' L _⟩)⟩
theorem dict_rule {pos : Pos} : SE prog w B P A (.Dict [] [] pos) cx st (.dct [] []) st := ⟨rfl, fun D0 s D1 ρ D2 D3 G D4 D5 k => by
  refine wpAny_Dict_empty ?_
  refine O13 (G.alloc (o := dctO [] 0) rfl) ?_; rintro F' G' S e
  refine k _ _ s.toks F' ρ S G' (.dct e ?_ ⟨.nil, List.nodup_nil, ⟨.int, fun D0 hx => nomatch hx⟩⟩ rfl .nil)
  exact G.ne_modules (G.newOff (dead_size s.heap (Nat.le_refl _))).1⟩
theorem bin_rule {l r : Expr} {op : Operator} {pos : Pos} {a1 a2 a : AV} {st1 st2 : Sto} (h1 : SE prog w B P A l cx st a1 st1) (h2 : SE prog w B P A r cx st1 a2 st2) (h3 : binA op a1 a2 = some a) : SE prog w B P A (.BinOp l op r pos) cx st a st2 := ⟨rfl, fun E s F ρ env ow G R Q k => by
  refine wpAny_BinOp (h1.run E s F ρ env ow G R _ fun v h1' tk1 F1 ρ1 S1 G1 Rv => ?_)
  refine h2.run E { s with heap := h1', toks := tk1 } F1 ρ1 env ow G1 (R.step G S1) _ fun u h2' tk2 F2 ρ2 S2 G2 Ru => ?_
  have k2 := k.after (tk := tk2) (S1.trans S2)
  have R1 := S2.rel Rv
  clear k R G G1 S1 S2 Rv h1 h2
  refine bin_sound (s := { s with heap := h2', toks := tk2 }) G2 h3 R1 Ru k2 fun l n t e1 e2 e3 => ?_
  subst e1; subst e2; subst e3
  cases Ru with
  | int _ _ => exact mul_tup (s := { s with heap := h2', toks := tk2 }) G2 h3 R1 k2
  | val _ => exact Og.nos h3⟩
theorem not_rule {x : Expr} {pos : Pos} {a1 : AV} {b : Bool} {st1 : Sto} (h1 : SE prog w B P A x cx st a1 st1) (h2 : truthA a1 = some b) : SE prog w B P A (.UnaryOp .Not x pos) cx st (.bool (!b)) st1 :=
  ⟨rfl, fun E s F ρ env ow G R D0 k => UnaryOp_ (h1.run E s F ρ env ow G R _ fun D0 h' tk F1 ρ1 S1 G1 Rv => not_of (truth_sound (s := { s with heap := h', toks := tk }) h2 Rv (k _ h' tk F1 ρ1 S1 G1 (.bool _))))⟩
theorem neg_rule {x : Expr} {pos : Pos} {i : Int} {st1 : Sto} (h1 : SE prog w B P A x cx st (.int i) st1) : SE prog w B P A (.UnaryOp .USub x pos) cx st (.int (-i)) st1 :=
  ⟨rfl, fun E s F ρ env ow G R D0 k => UnaryOp_ (h1.run E s F ρ env ow G R _ fun v h' tk F1 ρ1 S1 G1 Rv => by
    obtain ⟨_, rfl⟩ := Rv.inv
    exact PySem.P.neg_int (k _ h' _ F1 ρ1 S1 G1 (.int _ _)))⟩
noncomputable def goOn : BoolOp → Bool → Bool
  | .And, b => b
  | .Or, b => !b
theorem bool_run {op : BoolOp} {x y : Expr} {pos : Pos} {a1 : AV} {b : Bool} {st1 : Sto} (h1 : SE prog w B P A x cx st a1 st1) (h2 : truthA a1 = some b) (G : GR prog w B P F ρ st s.heap) (R : FR prog w P F ρ s.heap env cx ow) {Q : Value → Shared → Prop}
    (k : ∀ v h' tk F' ρ', Step P NoX F ρ s.heap F' ρ' h' → GR prog w B P F' ρ' st1 h' → Rel prog w F' ρ' v a1 → if goOn op b then wpAny (model prog w) A (boolOp pos op [eval y env]) Q E { s with heap := h', toks := tk } else Q v { s with heap := h', toks := tk }) :
    wpAny (model prog w) A (eval (.BoolOp op [x, y] pos) env) Q E s := by
  refine (?_ : wpAny _ _ (boolOp pos op [eval x env, eval y env]) _ _ _)
  unfold boolOp
  refine wpAny_bind (h1.run E s F ρ env ow G R _ fun v h1' tk1 F1 ρ1 S1 G1 Rv => ?_)
  have k := k v h1' tk1 F1 ρ1 S1 G1 Rv
  refine wpAny_bind (wpAny_standAt (wpAny_bind (wpAny_holding (truth_sound (s := { s with heap := h1', toks := tk1 }) h2 Rv ?_))))
  clear h1 h2 G R G1 S1 Rv
  cases op <;> rcases b
  · exact wpAny_pure k
  · exact k
  · exact k
  · exact wpAny_pure k
theorem bool_go {op : BoolOp} {x y : Expr} {pos : Pos} {a1 a : AV} {b : Bool} {st1 st' : Sto} (h1 : SE prog w B P A x cx st a1 st1) (h2 : truthA a1 = some b) (hg : goOn op b = true) (h3 : SE prog w B P A y cx st1 a st') : SE prog w B P A (.BoolOp op [x, y] pos) cx st a st' :=
  ⟨rfl, fun E s F ρ env ow G R Q k => bool_run h1 h2 G R fun D0 h' tk F1 ρ1 S1 G1 D1 => by
    rw [hg]
    exact h3.run E { s with heap := h', toks := tk } F1 ρ1 env ow G1 (R.step G S1) Q (k.after S1)⟩
theorem bool_stop {op : BoolOp} {x y : Expr} {pos : Pos} {a1 : AV} {b : Bool} {st1 : Sto} (h1 : SE prog w B P A x cx st a1 st1) (h2 : truthA a1 = some b) (hg : goOn op b = false) : SE prog w B P A (.BoolOp op [x, y] pos) cx st a1 st1 :=
  ⟨rfl, fun E s F ρ env ow G R Q k => bool_run h1 h2 G R fun v h' tk F1 ρ1 S1 G1 Rv => by
    exact hg ▸ k v h' tk F1 ρ1 S1 G1 Rv⟩
theorem cmp_rule (hu : A.units + 20 < cLine) {l r : Expr} {op : CmpOp} {pos : Pos} {a1 a2 : AV} {b : Bool} {st1 st2 : Sto} (h1 : SE prog w B P A l cx st a1 st1) (h2 : SE prog w B P A r cx st1 a2 st2) (h3 : cmpA op a1 a2 = some b) : SE prog w B P A (.Compare l [op] [r] pos) cx st (.bool b) st2 :=
  ⟨rfl, fun E s F ρ env ow G R Q k => wpAny_Compare1 (h1.run E s F ρ env ow G R _ fun v h1' tk1 F1 ρ1 S1 G1 Rv =>
    h2.run E { s with heap := h1', toks := tk1 } F1 ρ1 env ow G1 (R.step G S1) _ fun u h2' tk2 F2 ρ2 S2 G2 Ru =>
      cmp_sound (s := { s with heap := h2', toks := tk2 }) G2 h3 (S2.rel Rv) Ru hu (k _ h2' tk2 F2 ρ2 (S1.trans S2) G2 (.bool _))) (behind_no h2.ns)⟩
theorem in_rule (hu : A.units + 20 < cLine) {l r : Expr} {pos : Pos} {a1 : AV} {r2 : BR} {c : Ct} {b : Bool} {st1 st2 : Sto} (h1 : SE prog w B P A l cx st a1 st1) (h2 : SB prog w B P A r cx st1 r2 st2) (h3 : ctB cx st2 r2 = some c) (h4 : inA c a1 = some b) : SE prog w B P A (.Compare l [.In] [r] pos) cx st (.bool b) st2 :=
  ⟨rfl, fun E s F ρ env ow G R Q k => wpAny_Compare1 (h1.run E s F ρ env ow G R _ fun v h1' tk1 F1 ρ1 S1 G1 Rv =>
    h2.run E { s with heap := h1', toks := tk1 } F1 ρ1 env ow G1 (R.step G S1) _ fun u h2' tk2 F2 ρ2 S2 G2 Ru =>
      in_sound (s := { s with heap := h2', toks := tk2 }) G2.fz' h4 (ctB_sound G2 h3 Ru) (S2.rel Rv) hu fun tk => k _ h2' tk F2 ρ2 (S1.trans S2) G2 (.bool _)) (behind_no h2.ns)⟩
theorem notin_rule (hu : A.units + 20 < cLine) {l r : Expr} {pos : Pos} {a1 : AV} {r2 : BR} {c : Ct} {b : Bool} {st1 st2 : Sto} (h1 : SE prog w B P A l cx st a1 st1) (h2 : SB prog w B P A r cx st1 r2 st2) (h3 : ctB cx st2 r2 = some c) (h4 : inA c a1 = some b) : SE prog w B P A (.Compare l [.NotIn] [r] pos) cx st (.bool (!b)) st2 :=
  ⟨rfl, fun E s F ρ env ow G R Q k => wpAny_Compare1 (h1.run E s F ρ env ow G R _ fun v h1' tk1 F1 ρ1 S1 G1 Rv =>
    h2.run E { s with heap := h1', toks := tk1 } F1 ρ1 env ow G1 (R.step G S1) _ fun u h2' tk2 F2 ρ2 S2 G2 Ru =>
      notIn_sound (s := { s with heap := h2', toks := tk2 }) G2.fz' h4 (ctB_sound G2 h3 Ru) (S2.rel Rv) hu fun tk => k _ h2' tk F2 ρ2 (S1.trans S2) G2 (.bool _)) (behind_no h2.ns)⟩
theorem ifx_rule {t b o : Expr} {pos : Pos} {c : Bool} {a : AV} {st1 st' : Sto} (h1 : ST prog w B P A t cx st c st1) (h2 : SE prog w B P A (if c then b else o) cx st1 a st') : SE prog w B P A (.IfExp t b o pos) cx st a st' := ⟨rfl, fun E s F ρ env ow G R Q k => by
  rw [arm_eval_IfExp]
  refine wpAny_bind (h1 E s F ρ env ow G R _ fun h1' tk1 F1 ρ1 S1 G1 => ?_)
  have := h2.run E { s with heap := h1', toks := tk1 } F1 ρ1 env ow G1 (R.step G S1) Q (k.after S1)
  clear h2; cases c <;> exact this⟩
set_option tactic.hygienic true in
theorem sliceA_up {c : Ct} {n : Int} {b : AV} (h : sliceA c none (some n) = some b) : ∃ l, c = .list l ∧ b = .lst (l.take n.toNat) ∧ 0 ≤ n ∧ n < 2 ^ 20 ∧ l.length ≤ big := by
  cases c <;> first | exact nos h | skip
  rename_i l
  have h : (if decide (0 ≤ n ∧ n < 2 ^ 20 ∧ l.length ≤ big) then some (AV.lst (l.take n.toNat)) else none) = some b := h
  by_cases q : 0 ≤ n ∧ n < 2 ^ 20 ∧ l.length ≤ big
  · rw [if_pos (decide_eq_true q)] at h; exact Og.I13 l rfl ((Option.some.inj h).symm) q
  · rw [if_neg (by simpa using q)] at h; exact nos h
set_option tactic.hygienic true in
theorem sliceA_lo {c : Ct} {n : Int} {b : AV} (h : sliceA c (some n) none = some b) : ∃ l, c = .tup l ∧ b = .tup (l.drop n.toNat) ∧ 1 ≤ n ∧ n ≤ (l.length : Int) ∧ l.length ≤ big := by
  cases c <;> first | exact nos h | skip
  rename_i l
  have h : (if decide (1 ≤ n ∧ n ≤ (l.length : Int) ∧ l.length ≤ big) then some (AV.tup (l.drop n.toNat)) else none) = some b := h
  by_cases q : 1 ≤ n ∧ n ≤ (l.length : Int) ∧ l.length ≤ big
  · rw [if_pos (decide_eq_true q)] at h; exact Og.I13 l rfl ((Option.some.inj h).symm) q
  · rw [if_neg (by simpa using q)] at h; exact nos h
theorem sliceU_rule {v : Expr} {n : Int} {kk : Nat} {cp q pos : Pos} {a1 b : AV} {c : Ct} {st1 : Sto} (h1 : SE prog w B P A v cx st a1 st1) (h2 : ctOf st1 a1 = some c) (h3 : sliceA c none (some n) = some b) : SE prog w B P A (.Subscript v (.Slice none (some (.Constant (.int n) kk cp)) none q) pos) cx st b st1 := ⟨rfl, fun E s F ρ env ow G R Q k => by
  refine O15 (sliceA_up h3) ?_; rintro l rfl rfl b1 b2 b3
  refine Subscript_ (h1.run E s F ρ env ow G R _ fun x h1' tk1 F1 ρ1 S1 G1 Rv => ?_)
  have C := ctOf_sound G1 h2 Rv
  refine wpAny_Slice ?_
  rw [evalPart_none]
  refine wpAny_pure ?_
  rw [evalPart_some]
  refine wpAny_Constant_int (wpAny_pure ?_)
  generalize hob : ({ cls := .type "slice", data := .fields #[.none, .int n tk1, .none] } : Obj) = ob
  have kp : ∀ a o, h1'.get? a = some o → (h1'.push ob).get? a = some o := fun a o e => Heap.get?_push_of_some _ e
  refine subTail (s := { s with heap := h1'.push ob, toks := tk1 + 1 }) (C.keeps kp) ?_
  refine O33 C ?_; clear C; clear Rv; rintro ad vs m rfl ho L
  refine slice_list (s := { s with heap := h1'.push ob, toks := tk1 + 1 }) (kp _ _ ho) (hob ▸ Heap.IsSliceOf.new ..) b1 b2 (by exact L.length ▸ Nat.le_trans b3 bigLine) ?_
  exact (k.after (tk := tk1 + 1) (S1.trans (Step.keeps kp : Step P NoX F1 ρ1 h1' F1 ρ1 (h1'.push ob)))).newLst (G1.keeps kp) (L.take _) _⟩
theorem sliceL_rule {v : Expr} {n : Int} {kk : Nat} {cp q pos : Pos} {a1 b : AV} {c : Ct} {st1 : Sto} (h1 : SE prog w B P A v cx st a1 st1) (h2 : ctOf st1 a1 = some c) (h3 : sliceA c (some n) none = some b) : SE prog w B P A (.Subscript v (.Slice (some (.Constant (.int n) kk cp)) none none q) pos) cx st b st1 := ⟨rfl, fun E s F ρ env ow G R Q k => by
  refine O15 (sliceA_lo h3) ?_; rintro l rfl rfl b1 b2 b3
  refine Subscript_ (h1.run E s F ρ env ow G R _ fun x h1' tk1 F1 ρ1 S1 G1 Rv => ?_)
  have C := ctOf_sound G1 h2 Rv
  refine wpAny_Slice ?_
  rw [evalPart_some]
  refine wpAny_Constant_int ?_
  rw [evalPart_none]
  refine wpAny_pure (wpAny_pure ?_)
  clear h3; obtain ⟨m, rfl⟩ : ∃ m : Nat, n = m := ⟨n.toNat, by (clear b2 b3; omega)⟩
  generalize hob : ({ cls := .type "slice", data := .fields #[.int (m : Int) tk1, .none, .none] } : Obj) = ob
  have kp : ∀ a o, h1'.get? a = some o → (h1'.push ob).get? a = some o := fun a o e => Heap.get?_push_of_some _ e
  refine subTail (s := { s with heap := h1'.push ob, toks := tk1 + 1 }) (C.keeps kp) ?_
  refine O33 C ?_; clear C; clear Rv; rintro ad vs nn rfl ho L
  have hlen := L.length
  refine getItem_tuple_from (s := { s with heap := h1'.push ob, toks := tk1 + 1 }) (items := vs.toArray) ⟨_, kp _ _ ho, rfl, nn, rfl⟩ (hob ▸ Heap.IsSliceOf.new ..) (by (clear b3 b2 hlen; omega)) (by refine List.size_toArray ▸ ?_; omega) ?_ (by exact List.size_toArray ▸ hlen ▸ Nat.le_trans b3 bigLine)
  exact (k.after (tk := tk1 + 1) (S1.trans (Step.keeps kp : Step P NoX F1 ρ1 h1' F1 ρ1 (h1'.push ob)))).newTup (G1.keeps kp) (L.drop _) _⟩
theorem sub_rule {v i : Expr} {pos : Pos} {r1 : BR} {a2 b : AV} {c : Ct} {st1 st2 : Sto} (h1 : SB prog w B P A v cx st r1 st1) (h2 : SE prog w B P A i cx st1 a2 st2) (h3 : ctB cx st2 r1 = some c) (h4 : getItemA c a2 = some b) : SE prog w B P A (.Subscript v i pos) cx st b st2 :=
  ⟨rfl, fun E s F ρ env ow G R Q k => Subscript_ (h1.run E s F ρ env ow G R _ fun x h1' tk1 F1 ρ1 S1 G1 Rv =>
    h2.run E { s with heap := h1', toks := tk1 } F1 ρ1 env ow G1 (R.step G S1) _ fun u h2' tk2 F2 ρ2 S2 G2 Ru =>
      have C := ctB_sound G2 h3 (Rv.step (R.step G S1) S2)
      subTail (s := { s with heap := h2', toks := tk2 }) C (item_sound (s := { s with heap := h2', toks := tk2 }) G2.fz' h4 C Ru fun r tk Rr => k r h2' tk F2 ρ2 (S1.trans S2) G2 Rr))⟩
theorem attr_rule (hB : Base prog w K p loose mg mb B cL P) {o : Expr} {name : Str} {pos : Pos} {c : Addr} {l : Nat} {ks : List Str} {vs : List AV} {a : AV} {st1 : Sto} (hb : baseOk o = true) (h1 : SE prog w B P A o cx st (.inst c l) st1) (hst : st1[l]? = some (.attrs ks vs))
    (hk : attrK K c name = true) (h3 : (ks.zip vs).lookup name = some a) (hv : notVal a = true) : SE prog w B P A (.Attribute o name pos) cx st a st1 :=
  ⟨rfl, fun E s F ρ env ow G R Q k => Attribute_any_ (h1.run E s F ρ env ow G R _ fun v h' tk F1 ρ1 S1 G1 Rv =>
    attr_sound (s := { s with heap := h', toks := tk }) hB G1 Rv hst hk h3 (fun v z => by clear h3 k; subst z; exact ftN hv) (k.after S1)) (by rw [arm_eval_Attribute, baseOk_eq hb])⟩
theorem call_rule (hB : Base prog w K p loose mg mb B cL P) {x : Str} {xp pos : Pos} {es : List Expr} {fa a : AV} {l : List AV} {st1 st2 st3 : Sto} (h1 : SE prog w B P A (.Name x xp) cx st fa st1) (h2 : LsR (fun e => SE prog w B P A e cx) es st1 l st2) (h3 : CS prog w K B P A fa l st2 a st3) :
    SE prog w B P A (.Call (.Name x xp) es [] pos) cx st a st3 :=
  ⟨rfl, fun E s F ρ env ow G R Q k => Call_ (h1.run E s F ρ env ow G R _ fun D0 h' tk F1 ρ1 S1 G1 Rv =>
    callWith_sound (s := { s with heap := h', toks := tk }) (firstA := []) hB G1 (R.step G S1) Rv .nil h2 h3 (k.after S1)) rfl⟩
theorem items_rule {o : Expr} {apos pos : Pos} {ks vs : List AV} {st1 : Sto} (hline : (apos.endLine == pos.line) = true) (hb : baseOk o = true) (h1 : SE prog w B P A o cx st (.dct ks vs) st1) : SE prog w B P A (.Call (.Attribute o "items" apos) [] [] pos) cx st (.itm ks vs) st1 := ⟨rfl, fun E s F ρ env ow G R Q k => by
  refine method_eval hb hline (Nat.zero_le _) rfl (h1.run E s F ρ env ow G R _ fun v h1' tk1 F1 ρ1 S1 G1 Rv => fun pl => ?_)
  refine O4_6 Rv.inv ?_; rintro ad es' n us rfl Fa hm hk hu L
  have ho := G1.fz' _ _ Fa
  have hT : ({ s with heap := h1', toks := tk1 } : Shared).TypeIs (.ref ad) "dict" := Og.I12 _ ho rfl
  refine getMethod_builtin (s := { s with heap := h1', toks := tk1 }) hT PySem.F.plainAttrs_dict PySem.F.slot_dict_items PySem.F.type_dict_items (fun b hb => by cases hb; exact Og.I12 _ ho rfl) ?_
  refine method_meetsIn PySem.F.slot_dict_items PySem.F.entry_dict_items rfl (evalArgs_nil3 ⟨rfl, hT, PySem.F.args_dict_items_1 _, _, meets_items ad hm, hT, ?_⟩)
  refine O13 (G1.alloc (o := itmO ad) rfl) ?_; rintro F' G' S e
  exact k _ _ tk1 F' ρ1 (S1.trans S) G' (.itm e (S.sub _ _ Fa) hm (hk.mono S.sub) hu (S.relL L))⟩
theorem methK_ok {c f : Addr} {name : Str} (hm : methK K c name = some f) : findIn K (.ref c) name = some (some (.ref f)) ∧ plainGet K c name = true ∧ isFn K (.ref f) = true := by
  refine O12 (Option.bind_eq_some_iff.mp hm) ?_; clear hm; rintro f' hf hm
  obtain ⟨hc, e⟩ := if_some hm
  cases Option.some.inj e
  exact ⟨oRef_eq hf, Bool.and_eq_true_iff.mp hc⟩
theorem meth_rule (hB : Base prog w K p loose mg mb B cL P) {o : Expr} {name : Str} {apos pos : Pos} {es : List Expr} {c f : Addr} {l : Nat} {ks : List Str} {vs l2 : List AV} {a : AV} {st1 st2 st3 : Sto} (hline : (apos.endLine == pos.line) = true) (hlen : es.length ≤ 8) (hb : baseOk o = true)
    (h1 : SE prog w B P A o cx st (.inst c l) st1) (hm : methK K c name = some f) (hst : st1[l]? = some (.attrs ks vs)) (hcon : ks.contains name = false) (h2 : LsR (fun e => SE prog w B P A e cx) es st1 l2 st2) (h3 : CS prog w K B P A (.val (.ref f)) (.inst c l :: l2) st2 a st3) :
    SE prog w B P A (.Call (.Attribute o name apos) es [] pos) cx st a st3 := ⟨rfl, fun E s F ρ env ow G R Q k => by
  refine method_eval hb hline hlen h2.star (h1.run E s F ρ env ow G R _ fun v h1' tk1 F1 ρ1 S1 G1 Rv => fun pl => ?_)
  refine O03 (methK_ok hm) ?_; rintro hf' hp hfn
  refine O23 Rv.inv ?_; clear Rv; rintro ad dx rfl Fa hr
  refine O24 (G1.objs l dx _ hr hst) ?_; rintro es' n ho hp' hnd L
  have pg := plainGet_of hp
  refine method_fn (s := { s with heap := h1', toks := tk1 }) (G1.inK hB) (⟨G1.fz' _ _ Fa, rfl, rfl, ho⟩ : InstAt h1' ad (instObj c dx) c (some (dctO es' n))) pg.1 pg.2 hf' (beq_iff_eq.mp hfn) ?_ ?_
  · refine (?_ : (lookIn name (dctO es' n)).map (·.isSome) = some false)
    have : lookIn name (dctO es' n) = some none := getL_none hp' hcon
    exact this ▸ rfl
  · exact callWith_sound (s := { s with heap := h1', toks := tk1 }) (firstA := [.inst c l]) hB G1 (R.step G S1) (.val _) (.cons (.inst Fa hr) .nil) h2 h3 (k.after S1)⟩
theorem joined_rule {e1 e2 : Expr} {es : List Expr} {pos : Pos} {y : Str} {st1 : Sto} (h : JoinR (fun e => SE prog w B P A e cx) (e1 :: e2 :: es) st y st1) : SE prog w B P A (.JoinedStr (e1 :: e2 :: es) pos) cx st (.str y) st1 := ⟨rfl, fun E s F ρ env ow G R Q k => by
  have hl := h.len
  have h24 : sizeLine = 2 ^ 24 := rfl
  refine wpAny_JoinedStr (join_sound h G R (acc := Str.empty) ?_ fun h' tk F' ρ' S G' => ?_)
  · refine (?_ : 0 + y.length ≤ sizeLine); omega
  · rw [Str.empty_append]
    exact ⟨by omega, k _ h' _ F' ρ' S G' (.str _ _)⟩⟩
end
end Og
end
section
set_option maxRecDepth 100000
namespace Og
open PySem PySem.W PyProof.Rows PySem.Calls PySem.Spec PySem.SeqAt
section
variable {prog : Program} {w : World} {K : Frag} {p : Program} {loose : List Str} {mg mb : Str → Option Value} {B : Heap} {cL P : Addr} {F F' : Fro} {ρ ρ' : List Addr} {st : Sto} {A : Around} {E : Value → Shared → Prop} {s : Shared} {h : Heap} {env : Env} {cx : Cx} {ow : Str → List Addr}
theorem own_rule {x : Str} {pos : Pos} {lv : LV} (hl : cx.vars.lookup x = some lv) (hx : (x == ("__debug__" : Str) || x == ("__classdict__" : Str)) = false) : SB prog w B P A (.Name x pos) cx st (.own x) st :=
  have hx := Bool.or_eq_false_iff.mp hx
  ⟨rfl, fun D0 s F ρ D1 D2 G R D3 k => wpAny_Name (var_sound R hl hx.2 fun v L => k v s.heap s.toks F ρ .refl G (Og.I12 _ hl L)) hx.1⟩
theorem av_rule {e : Expr} {a : AV} {st' : Sto} (h : SE prog w B P A e cx st a st') : SB prog w B P A e cx st (.av a) st' := ⟨h.ns, fun E s F ρ env ow G R Q k => h.run E s F ρ env ow G R Q k⟩
theorem isTrue_cmp1 (l : Expr) (op : CmpOp) (r : Expr) (pos : Pos) (whole : Sem Value) : isTrue (.Compare l [op] [r] pos) env whole = (eval (.Compare l [op] [r] pos) env >>= fun c => holding [c] (truthy c)) := by
  rw [isTrue_Compare1, arm_eval_Compare]
  refine (?_ : _ = ((eval l env >>= fun left => compareChain pos left [op] (markedEach [op] [r] (evalEach [r] env))) >>= _))
  rw [bind_assoc]
  congr 1
  funext a
  refine (?_ : _ = ((do let rv ← holding [a] (markedBehindIn op r (eval r env)); standAt pos; operate [a, rv] (compareOp op a rv)) >>= _))
  simp only [bind_assoc]
noncomputable def notNot : UnaryOp → Bool
  | .Not => false
  | _ => true
noncomputable def plainTest (e : Expr) : Bool := vw e true (un := fun op D0 D1 => notNot op) (bo := fun D0 D1 D2 => false) (ife := fun D0 D1 D2 D3 => false) (cmp := fun D0 D1 D2 D3 => false)
set_option tactic.hygienic true in
theorem isTrue_plain {e : Expr} (hp : plainTest e = true) (whole : Sem Value) : isTrue e env whole = (do let v ← whole; standAt e.pos; holding [v] (truthy v)) := by
  cases e <;> first | rfl | (exact Og.ftN hp; done) | skip
  rename_i op x pos
  cases op <;> first | rfl | (exact Og.ftN hp)
theorem tand_rule {es : List Expr} {st : Sto} {b : Bool} {st' : Sto} (e : AndR (fun e => ST prog w B P A e cx) es st b st') : ∀ {s : Shared} {F : Fro} {ρ : List Addr}, GR prog w B P F ρ st s.heap → FR prog w P F ρ s.heap env cx ow → ∀ {Q : Bool → Shared → Prop}, PB prog w B P F ρ s st' b Q → wpAny (model prog w) A (allTrue .And es env) Q E s := by
  induction e with
  | nil => exact fun {s F ρ} G R {Q} k => wpAny_pure (k s.heap s.toks F ρ .refl G)
  | stop h =>
    intro s F ρ G R Q k
    rw [arm_allTrue_cons]
    exact wpAny_bind (h E s F ρ env ow G R _ fun h' tk F1 ρ1 S1 G1 => wpAny_pure (k h' tk F1 ρ1 S1 G1))
  | go h _ ih =>
    intro s F ρ G R Q k
    rw [arm_allTrue_cons]
    exact wpAny_bind (h E s F ρ env ow G R _ fun h' tk F1 ρ1 S1 G1 => ih (s := { s with heap := h', toks := tk }) G1 (R.step G S1) (k.after S1))
theorem tor_rule {es : List Expr} {st : Sto} {b : Bool} {st' : Sto} (e : OrR (fun e => ST prog w B P A e cx) es st b st') : ∀ {s : Shared} {F : Fro} {ρ : List Addr}, GR prog w B P F ρ st s.heap → FR prog w P F ρ s.heap env cx ow → ∀ {Q : Bool → Shared → Prop}, PB prog w B P F ρ s st' b Q → wpAny (model prog w) A (allTrue .Or es env) Q E s := by
  induction e with
  | nil => exact fun {s F ρ} G R {Q} k => wpAny_pure (k s.heap s.toks F ρ .refl G)
  | stop h =>
    intro s F ρ G R Q k
    rw [arm_allTrue_cons]
    exact wpAny_bind (h E s F ρ env ow G R _ fun h' tk F1 ρ1 S1 G1 => wpAny_pure (k h' tk F1 ρ1 S1 G1))
  | go h _ ih =>
    intro s F ρ G R Q k
    rw [arm_allTrue_cons]
    exact wpAny_bind (h E s F ρ env ow G R _ fun h' tk F1 ρ1 S1 G1 => ih (s := { s with heap := h', toks := tk }) G1 (R.step G S1) (k.after S1))
theorem tplain_rule {e : Expr} {a : AV} {b : Bool} {st' : Sto} (hp : plainTest e = true) (h : SE prog w B P A e cx st a st') (h2 : truthA a = some b) : ST prog w B P A e cx st b st' := fun E s F ρ env ow G R Q k => by
  rw [isTrue_plain hp]
  exact wpAny_bind (h.run E s F ρ env ow G R _ fun v h' tk F' ρ' S G' Rv => wpAny_bind (wpAny_standAt (wpAny_holding (truth_sound (s := { s with heap := h', toks := tk }) h2 Rv (k h' tk F' ρ' S G')))))
theorem tcmp_rule {l r : Expr} {op : CmpOp} {pos : Pos} {a : AV} {b : Bool} {st' : Sto} (h : SE prog w B P A (.Compare l [op] [r] pos) cx st a st') (h2 : truthA a = some b) : ST prog w B P A (.Compare l [op] [r] pos) cx st b st' := fun E s F ρ env ow G R Q k => by
  rw [isTrue_cmp1]
  exact wpAny_bind (h.run E s F ρ env ow G R _ fun v h' tk F' ρ' S G' Rv => wpAny_holding (truth_sound (s := { s with heap := h', toks := tk }) h2 Rv (k h' tk F' ρ' S G')))
theorem tnot_rule {x : Expr} {pos : Pos} {c : Bool} {st1 : Sto} (h : ST prog w B P A x cx st c st1) : ST prog w B P A (.UnaryOp .Not x pos) cx st (!c) st1 := fun E s F ρ env ow G R Q k => by
  rw [arm_isTrue_UnaryOp]
  exact wpAny_bind (h E s F ρ env ow G R _ fun h' tk F' ρ' S G' => wpAny_pure (k h' tk F' ρ' S G'))
theorem tif_rule {t b o : Expr} {pos : Pos} {c d : Bool} {st1 st' : Sto} (h1 : ST prog w B P A t cx st c st1) (h2 : ST prog w B P A (if c then b else o) cx st1 d st') : ST prog w B P A (.IfExp t b o pos) cx st d st' := fun E s F ρ env ow G R Q k => by
  rw [arm_isTrue_IfExp]
  refine wpAny_bind (h1 E s F ρ env ow G R _ fun h1' tk1 F1 ρ1 S1 G1 => ?_)
  have := h2 E { s with heap := h1', toks := tk1 } F1 ρ1 env ow G1 (R.step G S1) Q (k.after S1)
  clear h2; cases c <;> exact this
/-- a chain of two comparisons: the first holds, or not -/
theorem tchain_run {l r1 r2 : Expr} {o2 : CmpOp} {pos : Pos} {i j : Int} {st1 st2 : Sto} (h1 : SE prog w B P A l cx st (.int i) st1) (h2 : SE prog w B P A r1 cx st1 (.int j) st2) (G : GR prog w B P F ρ st s.heap) (R : FR prog w P F ρ s.heap env cx ow) {Q : Bool → Shared → Prop}
    (k : ∀ t h' tk F' ρ', Step P NoX F ρ s.heap F' ρ' h' → GR prog w B P F' ρ' st2 h' → wpAny (model prog w) A (if decide (i ≤ j) then testChain pos (.int j t) [o2] [markedBehindIn o2 r2 (eval r2 env)] else pure false) Q E { s with heap := h', toks := tk }) :
    wpAny (model prog w) A (isTrue (.Compare l [.LtE, o2] [r1, r2] pos) env (eval (.Compare l [.LtE, o2] [r1, r2] pos) env)) Q E s := by
  rw [arm_isTrue_Compare]
  refine wpAny_bind (h1.run E s F ρ env ow G R _ fun v h1' tk1 F1 ρ1 S1 G1 Rv => ?_)
  have e1 : markedEach [CmpOp.LtE, o2] [r1, r2] (evalEach [r1, r2] env) = [eval r1 env, markedBehindIn o2 r2 (eval r2 env)] := rfl
  rw [e1]
  refine wpAny_bind (wpAny_holding (h2.run E { s with heap := h1', toks := tk1 } F1 ρ1 env ow G1 (R.step G S1) _ fun u h2' tk2 F2 ρ2 S2 G2 Ru => ?_))
  obtain ⟨_, rfl⟩ := Rv.inv
  obtain ⟨_, rfl⟩ := Ru.inv
  refine wpAny_bind (wpAny_standAt (wpAny_bind (wpAny_holding (PySem.P.le_int ?_))))
  exact wpAny_bind (wpAny_release (wpAny_bind (wpAny_holding (wpAny_truthy_bool (k _ h2' tk2 F2 ρ2 (S1.trans S2) G2)))))
theorem tchainF_rule {l r1 r2 : Expr} {o2 : CmpOp} {pos : Pos} {i j : Int} {st1 st2 : Sto} (h1 : SE prog w B P A l cx st (.int i) st1) (h2 : SE prog w B P A r1 cx st1 (.int j) st2) (hle : decide (i ≤ j) = false) : ST prog w B P A (.Compare l [.LtE, o2] [r1, r2] pos) cx st false st2 :=
  fun E s F ρ env ow G R Q k => tchain_run h1 h2 G R fun D0 h' tk F' ρ' S G' => by rw [hle]; exact wpAny_pure (k h' tk F' ρ' S G')
theorem tchainT_rule {l r1 r2 : Expr} {pos : Pos} {i j c : Int} {st1 st2 st3 : Sto} (h1 : SE prog w B P A l cx st (.int i) st1) (h2 : SE prog w B P A r1 cx st1 (.int j) st2) (hle : decide (i ≤ j) = true) (h3 : SE prog w B P A r2 cx st2 (.int c) st3) : ST prog w B P A (.Compare l [.LtE, .Lt] [r1, r2] pos) cx st (decide (j < c)) st3 :=
  fun E s F ρ env ow G R Q k => tchain_run h1 h2 G R fun D0 h' tk F' ρ' S G' => by
    rw [hle]
    refine (?_ : wpAny _ _ (testChain pos _ [CmpOp.Lt] [markedBehindIn .Lt r2 (eval r2 env)]) _ _ _)
    delta testChain
    rw [show markedBehindIn .Lt r2 (eval r2 env) = eval r2 env from by simp only [markedBehindIn, behind_no h3.ns]]
    refine wpAny_bind (wpAny_holding (h3.run E { s with heap := h', toks := tk } F' ρ' env ow G' (R.step G S) _ fun x h3' tk3 F3 ρ3 S3 G3 Rx => ?_))
    obtain ⟨_, rfl⟩ := Rx.inv
    refine wpAny_bind (wpAny_standAt (wpAny_bind (wpAny_operateT (PySem.P.lt_int ?_))))
    exact wpAny_holding (wpAny_truthy_bool (k h3' tk3 F3 ρ3 (S.trans S3) G3))
end
end Og
end
section
set_option maxRecDepth 100000
namespace Og
open PySem PySem.W PyProof.Rows PySem.Calls PySem.Spec
/-- the names that an expression uses up -/
noncomputable def useE : Nat → Bool → Expr → List Str
  | 0, _, _ => []
  | n + 1, all, e => match e with
    | .Name x _ => [x]
    | .Tuple es _ _ => es.flatMap (useE n all)
    | .List es _ => es.flatMap (useE n all)
    | .BinOp l _ r _ => useE n all l ++ useE n all r
    | .BoolOp _ es _ => es.flatMap (useE n all)
    | .UnaryOp _ x _ => useE n all x
    | .Compare l [.In] [.Name x _] _ => useE n all l ++ (if all then [x] else [])
    | .Compare l [.NotIn] [.Name x _] _ => useE n all l ++ (if all then [x] else [])
    | .Compare l _ rs _ => useE n all l ++ rs.flatMap (useE n all)
    | .IfExp t b o _ => useE n all t ++ useE n all b ++ useE n all o
    | .Subscript v (.Slice _ _ _ _) _ => useE n all v
    | .Subscript (.Name x _) i _ => useE n all i ++ (if all then [x] else [])
    | .Subscript v i _ => useE n all v ++ useE n all i
    | .Attribute o _ _ => useE n all o
    | .Call f es _ _ => useE n all f ++ es.flatMap (useE n all)
    | .ListComp elt gens _ _ => useE n true elt ++ gens.flatMap fun g => useE n true g.iter ++ g.ifs.flatMap (useE n true)
    | .JoinedStr es _ => es.flatMap (useE n all)
    | .FormattedValue v _ _ _ => useE n all v
    | .Lambda _ body _ _ => useE n true body
    | _ => []
noncomputable def frz1 (cx : Cx) (x : Str) : Cx := match cx.vars.lookup x with
  | some (.ol l) => { cx with vars := (x, .v (.lst l)) :: cx.vars }
  | some (.od ks vs) => { cx with vars := (x, .v (.dct ks vs)) :: cx.vars }
  | _ => cx
noncomputable def frz (cx : Cx) (xs : List Str) : Cx := xs.foldl frz1 cx
noncomputable def frzE (cx : Cx) (e : Expr) : Cx := frz cx (useE 16 false e)
/-- the kinds of keys that a statement may store -/
noncomputable def keyPlain : AV → Bool
  | .int _ => true
  | .str _ => true
  | _ => false
noncomputable def putAttr (x : Str) (a : AV) : List Str → List AV → List Str × List AV
  | y :: ks, b :: vs => if y == x then (y :: ks, a :: vs) else let p := putAttr x a ks vs; (y :: p.1, b :: p.2)
  | _, _ => ([x], [a])
noncomputable def stSet (st : Sto) (l : Nat) (m : MO) : Sto := st.set l m
noncomputable def setIdx (l : List AV) (i : Int) (a : AV) : Option (List AV) := if decide (0 ≤ i ∧ i < (l.length : Int) ∧ l.length ≤ big) then some (l.set i.toNat a) else none
noncomputable def cloNames (sc : Scope) : List Str := ((sc.names.filter fun p => p.2 == .free).map (·.1)).reverse
noncomputable def cloVals (cx : Cx) : List Str → Option (List AV)
  | [] => some []
  | x :: r => match cx.vars.lookup x, cloVals cx r with
    | some (.v a), some l => if cx.sc.names.lookup x == some .cell then some (a :: l) else none
    | _, _ => none
noncomputable def lamOk (args : Arguments) : Bool := args.posonlyargs.isEmpty && args.vararg.isNone && args.kwonlyargs.isEmpty && args.kwarg.isNone && args.defaults.isEmpty && args.kw_defaults.isEmpty
end Og
end
section
set_option maxRecDepth 100000
namespace Og
open PySem PySem.W PyProof.Rows PySem.Calls PySem.Spec
noncomputable def putArgs : Cx → List Arg → List AV → Option Cx
  | cx, [], [] => some cx
  | cx, p :: ps, a :: as => (cx.put p.arg (.v a)).bind fun cx1 => putArgs cx1 ps as
  | _, _, _ => none
noncomputable def nodupA (ps : List Arg) : Bool := decide ((ps.map (·.arg)).Nodup)
noncomputable def freeNo (sc : Scope) : Bool := sc.names.all fun p => p.2 != .free
noncomputable def bindA : List Arg → List AV → Option (List (Str × LV))
  | [], [] => some []
  | p :: ps, a :: as => (bindA ps as).map ((p.arg, .v a) :: ·)
  | _, _ => none
/-- a dict of pairs, made in order -/
noncomputable def dictOfP : List AV → List AV → List AV → Option (List AV × List AV)
  | [], ks, vs => some (ks, vs)
  | .tup [k, v] :: r, ks, vs => if keyOk k then (putK k v ks vs).bind fun q => dictOfP r q.1 q.2 else none
  | _, _, _ => none
noncomputable def pairsOf : List AV → List AV → List AV
  | k :: ks, v :: vs => .tup [k, v] :: pairsOf ks vs
  | _, _ => []
noncomputable def insA (a : AV) : List AV → Option (List AV)
  | [] => some [a]
  | b :: l => match ltA a b with
    | some true => some (a :: b :: l)
    | some false => (insA a l).map (b :: ·)
    | none => none
noncomputable def sortA : List AV → Option (List AV)
  | [] => some []
  | a :: l => (sortA l).bind (insA a)
noncomputable def boolsA : List AV → Option (List Bool)
  | [] => some []
  | .bool b :: l => (boolsA l).map (b :: ·)
  | _ => none
noncomputable def isStrA : AV → Bool
  | .str _ => true
  | _ => false
noncomputable def lenA (st : Sto) : AV → Option Nat
  | .lst l => some l.length
  | .tup l => some l.length
  | .loc i => match st[i]? with
    | some (.list l) => some l.length
    | some (.dict ks _) => if ks.all isStrA then some ks.length else none
    | _ => none
  | _ => none
noncomputable def isIntA : AV → Bool
  | .int _ => true
  | _ => false
noncomputable def isiA : AV → String → Option Bool
  | .int _, t => if t == "int" then some true else if t == "bool" then some false else none
  | .tup _, t => if t == "tuple" then some true else none
  | _, _ => none
/-- the calls of built-in names -/
noncomputable def lenB (args : List AV) (st : Sto) : Option AV := (vw1 args).bind fun a => (lenA st a).bind fun n => if decide (n ≤ big) then some (.int n) else none
noncomputable def alaB (all : Bool) (args : List AV) : Option AV := ((vw1 args).bind asLst).bind fun l => if decide (l.length ≤ big) then (boolsA l).map fun bs => .bool (if all then bs.all id else bs.any id) else none
noncomputable def isiB (args : List AV) : Option AV := (vw2 args).bind fun q => ((asVal q.2).bind asTy).bind fun t => (isiA q.1 t).map .bool
noncomputable def repB (args : List AV) : Option AV := ((vw1 args).bind asBool).map fun b => .str (if b then "True" else "False")
noncomputable def sorB (args : List AV) : Option AV := ((vw1 args).bind asDct).bind fun q => if decide (q.1.length ≤ 16) && (decide (q.1.length ≤ 2) || q.1.all isIntA) then (sortA q.1).map .lst else none
noncomputable def intB (args : List AV) : Option AV := ((vw1 args).bind asInt).map .int
noncomputable def rngB (args : List AV) : Option AV := match vw2 args with
  | some q => (asInt q.1).bind fun a => (asInt q.2).bind fun b => if smallI a && smallI b then some (.rng a b) else none
  | none => ((vw1 args).bind asInt).bind fun b => if smallI b then some (.rng 0 b) else none
noncomputable def lstB (args : List AV) (st : Sto) : Option AV := (vw1 args).bind fun x => match x with
  | .rng a b => (iterA st (.rng a b)).map .lst
  | .lst l => if decide (l.length ≤ big) then some (.lst l) else none
  | .itm ks vs => if decide (ks.length ≤ big) && ks.all keyPlain then some (.lst (pairsOf ks vs)) else none
  | _ => none
noncomputable def tupB (args : List AV) : Option AV := ((vw1 args).bind asLst).bind fun l => if decide (l.length ≤ big) then some (.tup l) else none
noncomputable def dctB (args : List AV) : Option AV := (vw1 args).bind fun x => match x with
  | .lst l => if decide (l.length ≤ big) then (dictOfP l [] []).map fun q => .dct q.1 q.2 else none
  | .dct ks vs => if decide (ks.length ≤ big) && ks.all keyPlain then some (.dct ks vs) else none
  | _ => none
noncomputable def builtN (n : String) (args : List AV) (st : Sto) : Option AV :=
  if n = "len" then lenB args st else if n = "all" then alaB true args else if n = "any" then alaB false args else if n = "isinstance" then isiB args else if n = "repr" then repB args else if n = "sorted" then sorB args else none
noncomputable def builtT (n : String) (args : List AV) (st : Sto) : Option AV :=
  if n = "int" then intB args else if n = "range" then rngB args else if n = "list" then lstB args st else if n = "tuple" then tupB args else if n = "dict" then dctB args else none
noncomputable def builtinA (f : Value) (args : List AV) (st : Sto) : Option AV := match f with
  | .builtin n => builtN n args st
  | .type n => builtT n args st
  | _ => none
end Og
end
section
set_option maxRecDepth 100000
namespace Og
open PySem PySem.W PyProof.Rows PySem.Calls PySem.Spec
/-! ## runs with open calls: what a body asks, and what it answers -/
inductive T : Type → Type 1 where
  | ret {R : Type} (r : R) : T R
  | fail {R : Type} : T R
  | ask {R : Type} (f : AV) (args : List AV) (st : Sto) (k : AV → Sto → T R) : T R
  | sub {R : Type} (t : T (AV × Sto)) (k : AV → Sto → T R) : T R
noncomputable abbrev Ans := AV × Sto
noncomputable abbrev Orc := AV → List AV → Sto → AV → Sto → Prop
noncomputable def Sat (O : Orc) : {R : Type} → T R → R → Prop
  | _, .ret r, z => r = z
  | _, .fail, _ => False
  | _, .ask f args st k, z => ∃ a s, O f args st a s ∧ Sat O (k a s) z
  | _, .sub t k, z => ∃ a s, Sat O t (a, s) ∧ Sat O (k a s) z
noncomputable abbrev Trc (R : Type) := Option (List (AV × List AV × Sto × Ans) × Nat × R)
/-- what a tree asks for, given answers to its calls (la) and to its parts (ls) -/
noncomputable def tr : {R : Type} → T R → List Ans → List Ans → Trc R
  | _, .ret r, la, ls => match la with
    | [] => (match ls with | [] => some ([], 0, r) | _ :: _ => none)
    | _ :: _ => none
  | _, .fail, _, _ => none
  | _, .ask f args st k, la, ls => match la with
    | [] => none
    | a :: la => (tr (k a.1 a.2) la ls).map fun p => ((f, args, st, a) :: p.1, p.2)
  | _, .sub _ k, la, ls => match ls with
    | [] => none
    | a :: ls => (tr (k a.1 a.2) la ls).map fun p => (p.1, p.2.1 + 1, p.2.2)
/-- the part number i -/
noncomputable def sb : {R : Type} → T R → List Ans → List Ans → Nat → T Ans
  | _, .ret _, _, _, _ => .fail
  | _, .fail, _, _, _ => .fail
  | _, .ask _ _ _ k, la, ls, i => match la with
    | [] => .fail
    | a :: la => sb (k a.1 a.2) la ls i
  | _, .sub t k, la, ls, i => match ls with
    | [] => .fail
    | a :: ls => (match i with
      | 0 => t
      | i + 1 => sb (k a.1 a.2) la ls i)
theorem sat_tr {O : Orc} {R : Type} (t : T R) : ∀ {la ls : List Ans} {cs : List (AV × List AV × Sto × Ans)} {n : Nat} {z : R}, tr t la ls = some (cs, n, z) →
    (∀ c ∈ cs, O c.1 c.2.1 c.2.2.1 c.2.2.2.1 c.2.2.2.2) → (∀ (i : Nat) a, ls[i]? = some a → Sat O (sb t la ls i) a) → Sat O t z := by
  induction t with
  | ret r =>
    intro la ls cs n z e _ _
    cases la with
    | cons a la => exact nos e
    | nil =>
      cases ls with
      | cons a ls => exact nos e
      | nil => exact congrArg (·.2.2) (Option.some.inj e)
  | fail => exact fun e => nos e
  | ask f args st k ih =>
    intro la ls cs n z e hc hs
    cases la with
    | nil => exact nos e
    | cons a la =>
      refine Og.cps fun G kG => ?_
      refine O12 (Option.map_eq_some_iff.mp e) ?_; rintro ⟨p1, p2, p3⟩ e1 e2
      clear e; cases e2
      refine kG ?_
      clear kG
      exact Og.I22 a.1 a.2 (hc _ (.head _)) (ih a.1 a.2 e1 (fun c h => hc c (.tail _ h)) hs)
  | sub t k _ ih =>
    intro la ls cs n z e hc hs
    cases ls with
    | nil => exact nos e
    | cons a ls =>
      refine Og.cps fun G kG => ?_
      refine O12 (Option.map_eq_some_iff.mp e) ?_; rintro ⟨p1, p2, p3⟩ e1 e2
      clear e; cases e2
      refine kG ?_
      clear kG
      exact Og.I22 a.1 a.2 (hs 0 a rfl) (ih a.1 a.2 e1 hc fun i b hb => hs (i + 1) b (by exact hb))
structure Md where
  elt : Bool := false
  comp : Bool := false
  idx : Bool := false
  cmp : Bool := false
structure Tabs where
  gl : List (Str × AV)
  fn : List (Addr × FuncData)
  ini : List (Addr × Addr)
  me : List ((Addr × Str) × Addr)
  ats : List (Addr × Str)
  sto : List (Addr × Str)
/-! ## the combinators -/
noncomputable def opt {α R : Type} : Option α → (α → T R) → T R
  | some a, k => k a
  | none, _ => .fail
noncomputable abbrev C (X R : Type) := (X → Sto → T R) → T R
section
variable {X Y R α : Type}
@[irreducible] noncomputable def retC (a : X) (st : Sto) : C X R := fun k => k a st
@[irreducible] noncomputable def failC : C X R := fun D0 => .fail
@[irreducible] noncomputable def bindC (F : C X R) (G : X → Sto → C Y R) : C Y R := fun k => F fun a s => G a s k
@[irreducible] noncomputable def optC (o : Option α) (G : α → C Y R) : C Y R := fun k => opt o fun a => G a k
@[irreducible] noncomputable def orC (o : Option α) (G : α → C Y R) (F : C Y R) : C Y R := fun k => match o with
  | some a => G a k
  | none => F k
@[irreducible] noncomputable def ifC (b : Bool) (F : C Y R) : C Y R := fun k => if b then F k else .fail
@[irreducible] noncomputable def iteC (b : Bool) (F G : C Y R) : C Y R := fun k => if b then F k else G k
@[irreducible] noncomputable def subC (F : C AV Ans) : C AV R := fun k => .sub (F fun a s => .ret (a, s)) k
end
/-- the evaluators of parts -/
noncomputable abbrev EvT := Md → (R : Type) → Cx → Expr → Sto → C AV R
noncomputable abbrev BrT := Md → (R : Type) → Cx → Expr → Sto → C BR R
noncomputable abbrev TrT := Md → (R : Type) → Cx → Expr → Sto → C Bool R
noncomputable abbrev HdT := (R : Type) → AV → List AV → Sto → C AV R
section
variable {R : Type}
noncomputable def evLT (f : Expr → Sto → C AV R) : List Expr → Sto → C (List AV) R
  | [], st => retC [] st
  | e :: r, st => ifC (notStar e) (bindC (f e st) fun a s1 => bindC (evLT f r s1) fun l s2 => retC (a :: l) s2)
noncomputable def andAllT (f : Expr → Sto → C Bool R) : List Expr → Sto → C Bool R
  | [], st => retC true st
  | e :: r, st => bindC (f e st) fun b s1 => iteC b (andAllT f r s1) (retC false s1)
noncomputable def orAnyT (f : Expr → Sto → C Bool R) : List Expr → Sto → C Bool R
  | [], st => retC false st
  | e :: r, st => bindC (f e st) fun b s1 => iteC b (retC true s1) (orAnyT f r s1)
noncomputable def compT (cx0 : Cx) (t : Expr) (tst : Cx → Sto → C Bool R) (elt : Cx → Sto → C AV R) : List AV → Sto → C (List AV) R
  | [], st => retC [] st
  | a :: l, st => optC (assignT cx0 t a) fun cx1 => bindC (tst cx1 st) fun b s1 => iteC b (bindC (elt cx1 s1) fun v s2 => bindC (compT cx0 t tst elt l s2) fun vs s3 => retC (v :: vs) s3) (compT cx0 t tst elt l s1)
noncomputable def joinT (f : Expr → Sto → C AV R) : List Expr → Sto → C Str R
  | [], st => retC ⟨#[]⟩ st
  | e :: r, st => orC (strC e) (fun x => bindC (joinT f r st) fun y s1 => ifC (decide (x.length ≤ 2 ^ 10 ∧ y.length ≤ 2 ^ 12)) (retC (x ++ y) s1))
    (optC (fmtC e) fun v => bindC (f v st) fun a s1 => bindC (joinT f r s1) fun y s2 => orC (asStr a) (fun x => ifC (decide (x.length ≤ 2 ^ 10 ∧ y.length ≤ 2 ^ 12)) (retC (x ++ y) s2))
      (optC (asInt a) fun i => ifC (decide (0 ≤ i ∧ i < 10 ∧ y.length ≤ 2 ^ 12)) (retC (Str.ofString (toString i) ++ y) s2)))
end
noncomputable def isCall (e : Expr) : Bool := vw e false (call := fun D0 D1 D2 D3 => true)
noncomputable def cutE (md : Md) (e : Expr) : Bool := vw e false (sub := fun D0 i D1 => md.idx && isCall i) (cmp := fun D0 os rs D1 => md.cmp && os.length == 1 && rs.length == 1 && rs.all isCall) (lc := fun D0 D1 D2 D3 => md.comp)
/-- parts that change nothing: names of the block, items of named lists, and/or of such -/
noncomputable def nmP (cx : Cx) (x : Str) : Option AV := if dbgN x then none else cx.get? (fun D0 => none) x
noncomputable def ctX (cx : Cx) (st : Sto) (x : Str) : Option Ct := if dbgN x then none else match ownL cx x with
  | some l => some (.list l)
  | none => (match ownD cx x with
    | some kv => some (.dict kv.1 kv.2)
    | none => (cx.get? (fun D0 => none) x).bind (ctOf st))
noncomputable def evP : Nat → Cx → Expr → Sto → Option AV
  | 0, _, _, _ => none
  | d + 1, cx, e, st => vw e none
    (nm := fun x D0 => nmP cx x)
    (sub := fun v i D0 => (asNm v).bind fun x => (asNm i).bind fun y => (ctX cx st x).bind fun c => (nmP cx y).bind fun q => getItemA c q)
    (bo := fun op es D0 => (vw2 es).bind fun xy => (evP d cx xy.1 st).bind fun p => (asBool p).bind fun b => (evP d cx xy.2 st).bind fun q => (asBool q).bind fun c => some (.bool (bo op b c)))
section
variable (tb : Tabs) (H : HdT)
noncomputable def compC (ev : EvT) (tv : TrT) (md : Md) (R : Type) (cx : Cx) (elt t it : Expr) (ifs : List Expr) (sc : Scope) (st : Sto) : C (List AV) R :=
  ifC (compOk sc && freeOk cx sc && decide (ifs.length ≤ 1)) (bindC (ev md R cx it st) fun p st1 => optC (iterA st1 p) fun l =>
      compT (compVars cx sc) t (fun cx1 => andAllT (tv {} R cx1) ifs) (fun cx1 st => iteC md.elt (subC (ev {} Ans cx1 elt st)) (ev {} R cx1 elt st)) l st1)
noncomputable def unC (op : UnaryOp) (p : AV) (st : Sto) (R : Type) : C AV R := match op with
  | .Not => optC (truthA p) fun b => retC (.bool (!b)) st
  | .USub => optC (asInt p) fun i => ifC (smallI i) (retC (.int (-i)) st)
  | _ => failC
noncomputable def nameC (R : Type) (cx : Cx) (x : Str) (st : Sto) : C AV R := iteC (dbgN x) failC (optC (cx.get? (fun x => tb.gl.lookup x) x) fun a => retC a st)
noncomputable def boolC (pv : Cx → Expr → Sto → Option AV) (ev : EvT) (md : Md) (R : Type) (cx : Cx) (op : BoolOp) (x y : Expr) (st : Sto) : C AV R :=
  bindC (ev md R cx x st) fun p s1 => orC ((asBool p).bind fun b => (pv cx y s1).bind fun q => (asBool q).map fun c => (b, c)) (fun bc => retC (.bool (bo op bc.1 bc.2)) s1)
    (optC (truthA p) fun b => iteC (goOn op b) (ev md R cx y s1) (retC p s1))
noncomputable def cmpC (ev : EvT) (bv : BrT) (md : Md) (R : Type) (cx : Cx) (l : Expr) (op : CmpOp) (r : Expr) (st : Sto) : C AV R :=
  bindC (ev md R cx l st) fun p s1 => orC (inOp op) (fun i => bindC (bv md R cx r s1) fun q s2 => optC (ctB cx s2 q) fun c => optC (inA c p) fun b => retC (.bool (cond i b (!b))) s2)
    (bindC (ev md R cx r s1) fun q s2 => optC (cmpA op p q) fun b => retC (.bool b) s2)
noncomputable def attrC (ev : EvT) (md : Md) (R : Type) (cx : Cx) (o : Expr) (name : Str) (st : Sto) : C AV R :=
  ifC (baseOk o) (bindC (ev md R cx o st) fun p s1 => optC (asInst p) fun cl => optC (atAttrs s1 cl.2) fun kv => ifC (tb.ats.contains (cl.1, name)) (optC ((kv.1.zip kv.2).lookup name) fun a => ifC (notVal a) (retC a s1)))
noncomputable def methC (ev : EvT) (md : Md) (R : Type) (cx : Cx) (o : Expr) (name : Str) (apos : Pos) (es : List Expr) (pos : Pos) (st : Sto) : C AV R :=
  ifC (apos.endLine == pos.line && decide (es.length ≤ 8) && baseOk o) (bindC (ev md R cx o st) fun p s1 => orC (asInst p)
    (fun cl => optC (tb.me.lookup (cl.1, name)) fun f => optC (atAttrs s1 cl.2) fun kv => iteC (kv.1.contains name) failC (bindC (evLT (ev md R cx) es s1) fun q s2 => H R (.val (.ref f)) (.inst cl.1 cl.2 :: q) s2))
    (optC (asDct p) fun kv => ifC (name == ("items" : Str) && es.isEmpty) (retC (.itm kv.1 kv.2) s1)))
noncomputable def evC (pv : Cx → Expr → Sto → Option AV) (ev : EvT) (bv : BrT) (tv : TrT) (md : Md) (R : Type) (cx : Cx) (e : Expr) (st : Sto) : C AV R := vw e (failC)
  (con := fun c D0 D1 => optC (constA c) fun a => retC a st)
  (nm := fun x D0 => nameC tb R cx x st)
  (tu := fun es D0 D1 => bindC (evLT (ev md R cx) es st) fun l s1 => ifC (decide (es.length ≤ 64)) (retC (.tup l) s1))
  (li := fun es D0 => bindC (evLT (ev md R cx) es st) fun l s1 => ifC (decide (es.length ≤ 64)) (retC (.lst l) s1))
  (dic := fun ks vs D0 => ifC (ks.isEmpty && vs.isEmpty) (retC (.dct [] []) st))
  (bin := fun l op r D0 => bindC (ev md R cx l st) fun p s1 => bindC (ev md R cx r s1) fun q s2 => optC (binA op p q) fun a => retC a s2)
  (un := fun op x D0 => bindC (ev md R cx x st) fun p s1 => unC op p s1 R)
  (bo := fun op es D0 => optC (vw2 es) fun xy => boolC pv ev md R cx op xy.1 xy.2 st)
  (cmp := fun l ops rs D0 => optC (vw1 ops) fun op => optC (vw1 rs) fun r => cmpC ev bv md R cx l op r st)
  (ife := fun t b o D0 => bindC (tv md R cx t st) fun p s1 => iteC p (ev md R cx b s1) (ev md R cx o s1))
  (sub := fun v i D0 => orC (asSlice i) (fun lu => bindC (ev md R cx v st) fun p s1 => optC (ctOf s1 p) fun c => optC (sliceA c lu.1 lu.2) fun a => retC a s1)
    (bindC (bv md R cx v st) fun p s1 => bindC (ev md R cx i s1) fun q s2 => optC (ctB cx s2 p) fun c => optC (getItemA c q) fun a => retC a s2))
  (att := fun o name D0 => attrC tb ev md R cx o name st)
  (call := fun f es kw pos => ifC kw.isEmpty (orC (asAttr f) (fun a => methC tb H ev md R cx a.1 a.2.1 a.2.2 es pos st)
    (optC (asNm f) fun D0 => bindC (ev md R cx f st) fun p s1 => bindC (evLT (ev md R cx) es s1) fun q s2 => H R p q s2)))
  (lc := fun elt gens sc D0 => optC (gen1 gens) fun g => bindC (compC ev tv md R cx elt g.1 g.2.1 g.2.2 sc st) fun vs s => retC (.lst vs) s)
  (js := fun es D0 => ifC (decide (2 ≤ es.length)) (bindC (joinT (ev md R cx) es st) fun y s1 => retC (.str y) s1))
noncomputable def brC (ev : EvT) (md : Md) (R : Type) (cx : Cx) (e : Expr) (st : Sto) : C BR R := orC (asNm e)
  (fun x => iteC (dbgN x) failC (iteC ((ownL cx x).isSome || (ownD cx x).isSome) (retC (.own x) st) (optC (cx.get? (fun x => tb.gl.lookup x) x) fun a => retC (.av a) st)))
  (bindC (ev md R cx e st) fun p s1 => retC (.av p) s1)
noncomputable def truC (ev : EvT) (md : Md) (R : Type) (cx : Cx) (e : Expr) (st : Sto) : C Bool R := bindC (ev md R cx e st) fun a s1 => optC (truthA a) fun b => retC b s1
noncomputable def isNot : UnaryOp → Bool
  | .Not => true
  | _ => false
noncomputable def trC (ev : EvT) (tv : TrT) (md : Md) (R : Type) (cx : Cx) (e : Expr) (st : Sto) : C Bool R := vw e (failC)
  (un := fun op x D0 => ifC (isNot op) (bindC (tv md R cx x st) fun p s1 => retC (!p) s1))
  (bo := fun op es D0 => (match op with
    | .And => andAllT (tv md R cx) es st
    | .Or => orAnyT (tv md R cx) es st))
  (ife := fun t b o D0 => bindC (tv md R cx t st) fun p s1 => iteC p (tv md R cx b s1) (tv md R cx o s1))
  (cmp := fun l ops rs p => orC (vw1 ops) (fun op => optC (vw1 rs) fun r => truC ev md R cx (.Compare l [op] [r] p) st)
    (optC (leC ops) fun o2 => optC (vw2 rs) fun r => bindC (ev md R cx l st) fun p s1 => bindC (ev md R cx r.1 s1) fun q s2 => optC (asInt p) fun a => optC (asInt q) fun b =>
      iteC (decide (a ≤ b)) (ifC (isLt o2) (bindC (ev md R cx r.2 s2) fun x s3 => optC (asInt x) fun c => retC (decide (b < c)) s3)) (retC false s2)))
  (nm := fun x p => truC ev md R cx (.Name x p) st)
  (call := fun f es kw p => truC ev md R cx (.Call f es kw p) st)
mutual
noncomputable def evT : Nat → EvT
  | 0, _, _, _, _, _ => failC
  | d + 1, md, R, cx, e, st => iteC (cutE md e) (subC (evC tb H (evP d) (evT d) (brT d) (trT d) {} Ans cx e st)) (evC tb H (evP d) (evT d) (brT d) (trT d) md R cx e st)
noncomputable def brT : Nat → BrT
  | 0, _, _, _, _, _ => failC
  | d + 1, md, R, cx, e, st => brC tb (evT d) md R cx e st
noncomputable def trT : Nat → TrT
  | 0, _, _, _, _, _ => failC
  | d + 1, md, R, cx, e, st => trC (evT d) (trT d) md R cx e st
end
end
end Og
end
section
set_option maxRecDepth 100000
namespace Og
open PySem PySem.W PyProof.Rows PySem.Calls PySem.Spec PySem.SeqAt
theorem bind2 {α β γ : Type} {o : Option (α × β)} {f : α × β → Option γ} {r : γ} (h : o.bind f = some r) : ∃ a b, o = some (a, b) ∧ f (a, b) = some r := by
  refine O12 (Option.bind_eq_some_iff.mp h) ?_; rintro ⟨a, b⟩ h1 h2
  exact Og.I22 a b h1 h2
theorem map2 {α β γ : Type} {o : Option α} {f : α → β × γ} {a : β} {b : γ} (h : o.map f = some (a, b)) : ∃ x, o = some x ∧ f x = (a, b) := Option.map_eq_some_iff.mp h
/-- what a part of a run must let alone, and what it may only add to -/
structure Bk where
  pr : Fro
  fb : Fro
  rb : List Addr
/-- where a function's run stands: what it has done since it began (hz), its frame -/
structure In0 (prog : Program) (w : World) (B : Heap) (P : Addr) (Fz : Fro) (ρz : List Addr) (hz : Heap) (Pr : Bk) (F : Fro) (ρ : List Addr) (st : Sto) (h : Heap) (env : Env) (cx : Cx) (ow : Str → List Addr) : Prop where
  S : Step P NoX Fz ρz hz F ρ h
  G : GR prog w B P F ρ st h
  R : FR prog w P F ρ h env cx ow
  T : ∀ a, Touch env cx a → hz.get? a = none
  O : ∀ x, ∀ a ∈ ow x, hz.get? a = none
  K : ∀ b o, Pr.pr b = some o → h.get? b = some o ∧ F b = none ∧ b ∉ ρ ∧ b ≠ P ∧ ¬ Touch env cx b ∧ ∀ y, b ∉ ow y
  M : (∀ a o, Pr.fb a = some o → F a = some o) ∧ ∀ (i : Nat) (a : Addr), Pr.rb[i]? = some a → ρ[i]? = some a
section
variable {prog : Program} {w : World} {B : Heap} {P : Addr} {F F' Fz : Fro} {Pr : Bk} {ρ ρ' ρz : List Addr} {st st' : Sto} {A : Around} {E : Value → Shared → Prop} {s : Shared} {h h' hz : Heap} {env : Env} {cx : Cx} {ow : Str → List Addr}
theorem In0.step (I : In0 prog w B P Fz ρz hz Pr F ρ st h env cx ow) (S : Step P NoX F ρ h F' ρ' h') (G : GR prog w B P F' ρ' st' h') : In0 prog w B P Fz ρz hz Pr F' ρ' st' h' env cx ow :=
  ⟨I.S.trans S, G, I.R.step I.G S, I.T, I.O, fun b o e => by
    refine O06 (I.K b o e) ?_; rintro k1 k2 k3 k4 k5 k6
    obtain ⟨z1, z2⟩ := S.stays ⟨o, k1⟩ k2 k3
    exact Og.I06 (S.keep b o k1 k3 k4 id) z1 z2 k4 k5 k6, fun a o e => S.sub a o (I.M.1 a o e), fun i a e => S.refs i a (I.M.2 i a e)⟩
theorem IsCell.notList {a : Addr} {v : Option Value} {vs : List Value} {n : Nat} (C : h.IsCell a v) (e : h.get? a = some (lstO vs n)) : False := by
  refine O12 C ?_; clear C; rintro o ho hd; (replace e := Option.some.inj (ho.symm.trans e); clear ho; subst e); cases hd
set_option tactic.hygienic true in
/-- an owned object is fixed from here on -/
theorem In0.frz1 (I : In0 prog w B P Fz ρz hz Pr F ρ st h env cx ow) (x : Str) : ∃ F' ow', In0 prog w B P Fz ρz hz Pr F' ρ st h env (frz1 cx x) ow' ∧ (∀ b o, F b = some o → F' b = some o) := by
  have main : ∀ (a : Addr) (o : Obj) (lv : LV) (av : AV), cx.vars.lookup x = some lv → ow x = [a] → h.get? a = some o → (∀ (F' : Fro), (∀ b o, F b = some o → F' b = some o) → F' a = some o → Rel prog w F' ρ (.ref a) av) →
      (∀ v, LvR prog w F ρ h (ow x) v lv → v = .ref a) →
      ∃ F' ow', In0 prog w B P Fz ρz hz Pr F' ρ st h env { cx with vars := (x, .v av) :: cx.vars } ow' ∧ (∀ b o, F b = some o → F' b = some o) := by
    intro a o lv av hx hox ho hr hv
    have own := I.R.own x a (by rw [hox]; exact .head _)
    refine O14 (I.G.freeze ho own.1 own.2.1 own.2.2.1) ?_; rintro F' G' hs hin hn
    have fre : ∀ b, F b = none → b ≠ a → F' b = none := fun b hb hne => by
      cases q : F' b with
      | none => rfl
      | some o' => rcases hn b o' q with z | z
                   · rw [hb] at z; exact nos z
                   · exact absurd z hne
    have old : ∀ y b, b ∈ (if y = x then [] else ow y) → b ∈ ow y := fun y b hb => by
      by_cases z : y = x
      · rw [if_pos z] at hb; cases hb
      · rw [if_neg z] at hb; exact hb
    have ne : ∀ y b, b ∈ (if y = x then [] else ow y) → b ≠ a := fun y b hb z => by
      by_cases q : y = x
      · rw [if_pos q] at hb; cases hb
      · rw [if_neg q] at hb
        exact q (I.R.oinj y x b hb (by rw [z, hox]; exact .head _))
    refine ⟨F', fun y => if y = x then [] else ow y, ⟨I.S.froze hs hn (I.O x a (by rw [hox]; exact .head _)), G', ?_, I.T, fun y b hb => I.O y b (old y b hb), fun b ob e => by
      refine O06 (I.K b ob e) ?_; rintro k1 k2 k3 k4 k5 k6
      exact ⟨k1, fre b k2 (fun z => k6 x (by rw [hox, z]; exact .head _)), k3, k4, k5, fun y hy => k6 y (old y b hy)⟩, fun b o e => hs b o (I.M.1 b o e), I.M.2⟩, hs⟩
    refine ⟨I.R.kind, I.R.glob, I.R.ks, I.R.free, I.R.lns, fun y lvy hy => ?_, ⟨I.R.lok.1, fre _ I.R.lok.2.1 own.2.2.2.1.symm, I.R.lok.2.2⟩, fun y hy => ?_, I.R.capart, I.R.clt, fun y b hb => ?_, fun y z b hb hc => ?_, fun y b hb => I.R.below y b (old y b hb), I.R.lamc.mono hs id⟩
    · by_cases q : y = x
      · subst q
        rw [List.lookup_cons] at hy
        simp only [beq_self_eq_true] at hy
        (replace hy := Option.some.inj hy; subst hy)
        refine O12 (I.R.var y lv hx) ?_; rintro v V L
        have := hv v L
        subst this
        exact ⟨_, V, hr F' hs hin⟩
      · rw [List.lookup_cons, show (y == x) = false from by simpa using q] at hy
        refine O12 (I.R.var y lvy hy) ?_; rintro v V L
        refine ⟨v, V, ?_⟩
        show LvR prog w F' ρ h (if y = x then [] else ow y) v lvy
        rw [if_neg q]
        exact L.keep hs (fun _ _ z => z) fun _ _ _ z => z
    · refine O23 (I.R.cell y hy) ?_; rintro c v0 e1 e2 e3
      exact ⟨c, v0, e1, e2, fre c e3 (own.2.2.2.2 y c e1).symm⟩
    · have := I.R.own y b (old y b hb)
      exact ⟨fre b this.1 (ne y b hb), this.2⟩
    · exact I.R.oinj y z b (old y b hb) (old z b hc)
  unfold Og.frz1
  split
  · rename_i l hl
    refine O12 (I.R.var x _ hl) ?_; rintro v V L
    refine O34 L ?_; clear L; rintro a vs n ho rfl e r
    exact main a _ _ _ hl ho e (fun F' hs hin => .lst hin (r.mono hs fun _ _ z => z)) fun v' L' => by
      refine O33 L' ?_; clear L'; rintro a' vs' n' ho' rfl _
      rw [ho] at ho'; cases ho'; rfl
  · rename_i ks vs hl
    refine O12 (I.R.var x _ hl) ?_; rintro v V L
    refine O3_6 L ?_; clear L; rintro a es n ho rfl e m kr r
    exact main a _ _ _ hl ho e (fun F' hs hin => .dct hin m (kr.mono hs) rfl (r.mono hs fun _ _ z => z)) fun v' L' => by
      refine O33 L' ?_; clear L'; rintro a' vs' n' ho' rfl _
      rw [ho] at ho'; cases ho'; rfl
  · exact ⟨F, ow, I, fun _ _ e => e⟩
theorem frz1_sc (cx : Cx) (x : Str) : (frz1 cx x).sc = cx.sc := by
  unfold frz1; split <;> rfl
theorem frz_sc : ∀ (xs : List Str) (cx : Cx), (frz cx xs).sc = cx.sc
  | [], _ => rfl
  | x :: xs, cx => (frz_sc xs (frz1 cx x)).trans (frz1_sc cx x)
theorem In0.frz : ∀ (xs : List Str) {F : Fro} {cx : Cx} {ow : Str → List Addr}, In0 prog w B P Fz ρz hz Pr F ρ st h env cx ow → ∃ F' ow', In0 prog w B P Fz ρz hz Pr F' ρ st h env (frz cx xs) ow'
  | [], F, _, ow, I => ⟨F, ow, I⟩
  | x :: xs, _, _, _, I => by
    refine O22 (I.frz1 x) ?_; rintro F' ow' I' _
    exact In0.frz xs I'
set_option tactic.hygienic true in
/-- what a statement does -/
noncomputable def FlQ (prog : Program) (w : World) (B : Heap) (P : Addr) (Fz : Fro) (ρz : List Addr) (hz : Heap) (Pr : Bk) (sc : Scope) (s : Shared) (st' : Sto) (env : Env) (fl : Fl) (Q : Flow → Shared → Prop) : Prop := match fl with
  | .next cx' => ∀ h' tk F' ρ' ow', In0 prog w B P Fz ρz hz Pr F' ρ' st' h' env cx' ow' → cx'.sc = sc → Q .next { s with heap := h', toks := tk }
  | .ret a => ∀ v h' tk F' ρ', Step P NoX Fz ρz hz F' ρ' h' → GR prog w B P F' ρ' st' h' → Rel prog w F' ρ' v a → Q (.ret v) { s with heap := h', toks := tk }
/-- what a statement does, and a block -/
noncomputable def XS (prog : Program) (w : World) (B : Heap) (P : Addr) (A : Around) (x : Stmt) (cx : Cx) (st : Sto) (fl : Fl) (st' : Sto) : Prop :=
  ∀ (E : Value → Shared → Prop) (s : Shared) F ρ env ow Fz ρz hz Pr, In0 prog w B P Fz ρz hz Pr F ρ st s.heap env cx ow → ∀ Q, FlQ prog w B P Fz ρz hz Pr cx.sc s st' env fl Q → wpAny (model prog w) A (exec x env) Q E s
noncomputable def SL (prog : Program) (w : World) (B : Heap) (P : Addr) (A : Around) (x : List Stmt) (cx : Cx) (st : Sto) (fl : Fl) (st' : Sto) : Prop :=
  ∀ (E : Value → Shared → Prop) (s : Shared) F ρ env ow Fz ρz hz Pr, In0 prog w B P Fz ρz hz Pr F ρ st s.heap env cx ow → ∀ Q, FlQ prog w B P Fz ρz hz Pr cx.sc s st' env fl Q → wpAny (model prog w) A (execs x env) Q E s
/-- what a statement uses up is fixed ahead of it -/
theorem XS.frz {x : Stmt} {xs : List Str} {fl : Fl} (h : XS prog w B P A x (frz cx xs) st fl st') : XS prog w B P A x cx st fl st' := fun E s D0 ρ env D1 Fz ρz hz Pr I Q k =>
  let ⟨F0, ow0, I0⟩ := I.frz xs
  h E s F0 ρ env ow0 Fz ρz hz Pr I0 Q (frz_sc xs cx ▸ k)
theorem swaps_no {v : Expr} {t : Option Expr} {l : Nat} (h : ∀ a b c d, v ≠ .ListComp a b c d) (h2 : ∀ a b c d, v ≠ .SetComp a b c d) (h3 : ∀ a b c d e, v ≠ .DictComp a b c d e) : swapsWith v t l env = pure false := by
  cases v <;> first | rfl | exact absurd rfl (h _ _ _ _) | exact absurd rfl (h2 _ _ _ _) | exact absurd rfl (h3 _ _ _ _ _)
/-- a store of what nobody else has -/
theorem In0.put {M : Model} (I : In0 prog w B P Fz ρz hz Pr F ρ st s.heap env cx ow) {x : Str} {lv : LV} {cx' : Cx} {v : Value} {o : List Addr} (e : cx.put x lv = some cx') (L : LvR prog w F ρ s.heap o v lv)
    (ho : ∀ a ∈ o, F a = none ∧ a ∉ ρ ∧ a ≠ P ∧ a ≠ env.locals ∧ (∀ y c, env.cells.lookup y = some c → a ≠ c) ∧ (∃ ob, s.heap.get? a = some ob) ∧ (∀ y, y ≠ x → a ∉ ow y) ∧ hz.get? a = none ∧ Pr.pr a = none)
    {Q : Unit → Shared → Prop} (k : ∀ h' tk ow', In0 prog w B P Fz ρz hz Pr F ρ st h' env cx' ow' → cx'.sc = cx.sc → (∀ a ob, ¬ Touch env cx a → s.heap.get? a = some ob → h'.get? a = some ob) → (∀ y a, a ∈ ow' y → a ∈ o ∨ a ∈ ow y) → Q () { s with heap := h', toks := tk }) :
    wpAny M A (storeName env x v) Q E s := by
  refine put_sound I.G I.R e L (fun a ha => Og.O08 (ho a ha) fun q1 q2 q3 q4 q5 q6 q7 D0 => ⟨q1, q2, q3, q4, q5, q6, q7⟩) fun h' tk kk R' => ?_
  refine Og.cps fun G kG => ?_
  obtain ⟨_, rfl⟩ := put_ok e
  have sub : ∀ y a, a ∈ (fun y => if y = x then o else ow y) y → a ∈ o ∨ a ∈ ow y := fun y a ha => by
    by_cases z : y = x
    · exact .inl (by simpa [z] using ha)
    · exact .inr (by simpa [z] using ha)
  refine kG ?_
  clear kG
  refine k h' tk _ ⟨I.S.touch (Touch env cx) I.T kk, I.G.touched I.R kk, R', I.T, fun y a ha => ?_, fun b ob e => ?_, I.M⟩ rfl kk fun y a ha => ?_
  · rcases sub y a ha with z | z
    · exact (ho a z).2.2.2.2.2.2.2.1
    · exact I.O y a z
  · refine O06 (I.K b ob e) ?_; rintro k1 k2 k3 k4 k5 k6
    refine Og.I06 (kk b ob k5 k1) k2 k3 k4 k5 (fun y hy => ?_)
    rcases sub y b hy with z | z
    · have := (ho b z).2.2.2.2.2.2.2.2
      exact Og.nos (this.symm.trans e)
    · exact k6 y z
  · exact sub y a ha
theorem In0.putV {M : Model} (I : In0 prog w B P Fz ρz hz Pr F ρ st s.heap env cx ow) {x : Str} {a : AV} {cx' : Cx} {v : Value} (e : cx.put x (.v a) = some cx') (L : Rel prog w F ρ v a)
    {Q : Unit → Shared → Prop} (k : ∀ h' tk ow', In0 prog w B P Fz ρz hz Pr F ρ st h' env cx' ow' → cx'.sc = cx.sc → (∀ a ob, ¬ Touch env cx a → s.heap.get? a = some ob → h'.get? a = some ob) → (∀ y a, a ∈ ow' y → a ∈ ow y) → Q () { s with heap := h', toks := tk }) :
    wpAny M A (storeName env x v) Q E s := by
  refine Og.cps fun G kG => ?_
  obtain ⟨_, rfl⟩ := put_ok e
  refine kG ?_
  clear kG
  refine put_v I.G I.R e L fun h' tk ow' kk R' hw => ?_
  exact k h' tk ow' ⟨I.S.touch (Touch env cx) I.T kk, I.G.touched I.R kk, R', I.T, fun y a ha => I.O y a (hw y a ha), fun b ob e => by
    refine O06 (I.K b ob e) ?_; rintro k1 k2 k3 k4 k5 k6
    exact Og.I06 (kk b ob k5 k1) k2 k3 k4 k5 (fun y hy => k6 y (hw y b hy)), I.M⟩ rfl kk hw
theorem In0.assign (hh : A.handled = none) (I : In0 prog w B P Fz ρz hz Pr F ρ st s.heap env cx ow) {t : Expr} {a : AV} {cx' : Cx} {v : Value} (e : assignT cx t a = some cx') (L : ItemR prog w t F ρ s.heap v a)
    {Q : Unit → Shared → Prop} (k : ∀ h' tk ow', In0 prog w B P Fz ρz hz Pr F ρ st h' env cx' ow' → cx'.sc = cx.sc → (∀ a ob, ¬ Touch env cx a → s.heap.get? a = some ob → h'.get? a = some ob) → Q () { s with heap := h', toks := tk }) :
    wpAny (model prog w) A (PySem.assign t env v) Q E s := by
  refine assign_item hh I.G I.R e L fun h' tk ow' k1 k2 k3 k4 => ?_
  exact k h' tk ow' ⟨I.S.touch (Touch env cx) I.T k1, I.G.touched I.R k1, k2, fun a z => I.T a (by unfold Touch at z ⊢; exact k4 ▸ z), fun y a ha => I.O y a (k3 y a ha), fun b ob e => by
    refine O06 (I.K b ob e) ?_; rintro q1 q2 q3 q4 q5 q6
    exact Og.I06 (k1 b ob q5 q1) q2 q3 q4 (by unfold Touch at q5 ⊢; exact k4 ▸ q5) (fun y hy => q6 y (k3 y b hy)), I.M⟩ k4 k1
end
end Og
end
section
set_option maxRecDepth 100000
namespace Og
open PySem PySem.W PyProof.Rows PySem.Calls PySem.Spec PySem.SeqAt
section
variable {prog : Program} {w : World} {K : Frag} {p : Program} {loose : List Str} {mg mb : Str → Option Value} {B : Heap} {cL P : Addr} {F F' Fz : Fro} {Pr : Bk} {ρ ρ' ρz : List Addr} {st st' : Sto} {A : Around} {E : Value → Shared → Prop} {s : Shared} {h h' hz : Heap} {env : Env} {cx : Cx} {ow : Str → List Addr}
set_option tactic.hygienic true in
theorem FlQ.after {sc : Scope} {fl : Fl} {Q : Flow → Shared → Prop} {h1 : Heap} {tk1 : Nat} (k : FlQ prog w B P Fz ρz hz Pr sc s st' env fl Q) : FlQ prog w B P Fz ρz hz Pr sc { s with heap := h1, toks := tk1 } st' env fl Q := by
  cases fl with
  | next cx' => exact fun h' tk F' ρ' ow' I e => k h' tk F' ρ' ow' I e
  | ret a => exact fun v h' tk F' ρ' S G R => k v h' tk F' ρ' S G R
set_option tactic.hygienic true in
theorem nil_rule : SL prog w B P A [] cx st (.next cx) st := fun _ s F ρ _ ow _ _ _ _ I _ k => wpAny_execs_nil (k s.heap s.toks F ρ ow I rfl)
theorem ret_end {x : Stmt} {r : List Stmt} {a : AV} (hx : XS prog w B P A x cx st (.ret a) st') : SL prog w B P A (x :: r) cx st (.ret a) st' := fun E s F ρ env ow Fz ρz hz Pr I D0 k =>
  wpAny_execs_cons (hx E s F ρ env ow Fz ρz hz Pr I _ fun v h' tk F' ρ' S' G' R' => k v h' tk F' ρ' S' G' R')
set_option tactic.hygienic true in
theorem cons_rule {x : Stmt} {r : List Stmt} {cx1 : Cx} {st1 : Sto} {fl : Fl} (hx : XS prog w B P A x cx st (.next cx1) st1) (hr : SL prog w B P A r cx1 st1 fl st') : SL prog w B P A (x :: r) cx st fl st' := fun E s F ρ env ow Fz ρz hz Pr I Q k =>
  wpAny_execs_cons (hx E s F ρ env ow Fz ρz hz Pr I _ fun h' tk F' ρ' ow' I' hsc => hr E { s with heap := h', toks := tk } F' ρ' env ow' Fz ρz hz Pr I' Q (hsc ▸ k.after))
theorem if_rule {t : Expr} {b o : List Stmt} {pos : Pos} {c : Bool} {st1 : Sto} {fl : Fl} (hT : ST prog w B P A t cx st c st1) (hb : SL prog w B P A (if c then b else o) cx st1 fl st') : XS prog w B P A (.If t b o pos) cx st fl st' := fun E s F ρ env ow Fz ρz hz Pr I Q k =>
  wpAny_If (hT E s F ρ env ow I.G I.R _ fun h' tk F' ρ' S G => by
    have := hb E { s with heap := h', toks := tk } F' ρ' env ow Fz ρz hz Pr (I.step S G) Q k.after
    clear hT hb; cases c <;> exact this)
noncomputable def noComp (e : Expr) : Bool := vw e true (lc := fun D0 D1 D2 D3 => false) (sc := fun D0 D1 D2 D3 => false) (dc := fun D0 D1 D2 D3 D4 => false)
theorem swaps_plain {v : Expr} {t : Option Expr} {l : Nat} (h : noComp v = true) : swapsWith v t l env = pure false := by
  cases v <;> first | rfl | rcases h
noncomputable def quiet : AV → Bool
  | .none => true
  | .int _ => true
  | _ => false
set_option tactic.hygienic true in
/-- an expression that stands alone -/
theorem expr_rule {e : Expr} {pos : Pos} {a : AV} {st1 : Sto} (h1 : SE prog w B P A e cx st a st1) (ha : quiet a = true) (hn : noComp e = true) : XS prog w B P A (.Expr e pos) cx st (.next cx) st1 := fun E s F ρ env ow Fz ρz hz Pr I Q k => by
  refine wpAny_Expr (h1.run E s F ρ env ow I.G I.R _ fun v h' tk F' ρ' S G R => ?_) ?_ (swaps_plain hn)
  · have := k h' tk F' ρ' ow (I.step S G) rfl
    clear h1; cases a <;> first | (rcases ha; done) | skip
    · obtain rfl := R.inv; exact this
    · obtain ⟨_, rfl⟩ := R.inv; exact this
  · unfold interactive
    refine (I.R.kind) ▸ ?_; rfl
end
end Og
end
section
set_option maxRecDepth 100000
namespace Og
open PySem PySem.W PyProof.Rows PySem.Calls PySem.Spec PySem.SeqAt
section
variable {prog : Program} {w : World} {K : Frag} {p : Program} {loose : List Str} {mg mb : Str → Option Value} {B : Heap} {cL P : Addr} {F F' Fz : Fro} {Pr : Bk} {ρ ρ' ρz : List Addr} {st st' : Sto} {A : Around} {E : Value → Shared → Prop} {s : Shared} {h h' hz : Heap} {env : Env} {cx : Cx} {ow : Str → List Addr} {H : Hd} {D n : Nat}
theorem zip_fst {α β : Type} : ∀ (l : List α) (m : List β), l.length = m.length → (l.zip m).map (·.1) = l
  | [], _, _ => by simp
  | _ :: _, [], h => by simp at h
  | a :: l, b :: m, h => by rw [List.zip_cons_cons, List.map_cons, zip_fst l m (by simpa using h)]
theorem zip_snd {α β : Type} : ∀ (l : List α) (m : List β), l.length = m.length → (l.zip m).map (·.2) = m
  | [], [], _ => rfl
  | [], _ :: _, h => by simp at h
  | _ :: _, [], h => by simp at h
  | a :: l, b :: m, h => by rw [List.zip_cons_cons, List.map_cons, zip_snd l m (by simpa using h)]
theorem nodup_of_map {α β : Type} (f : α → β) : ∀ {l : List α}, (l.map f).Nodup → l.Nodup
  | [], _ => List.nodup_nil
  | a :: l, h => by
    rw [List.map_cons, List.nodup_cons] at h
    exact List.nodup_cons.mpr ⟨fun hm => h.1 (List.mem_map.mpr (Og.I12 a hm rfl)), nodup_of_map f h.2⟩
/-- a kind of keys that are values -/
structure DKind {κ : Type} [DecidableEq κ] (knd : KeyKind prog w κ) (enc : κ → AV) : Prop where
  inj : ∀ a b, enc a = enc b → a = b
  keyR : ∀ (F : Fro) k e, KeyR prog w F (enc k) e ↔ (knd.is k e.key = true ∧ e.hash = knd.hash k)
  keq : ∀ a b, keyEq (enc a) (enc b) = some (decide (a = b))
  kind : ∃ κ' : KKind, ∀ k, κ'.has (enc k)
  rel : ∀ (F : Fro) (ρ : List Addr) k v, knd.is k v = true → Rel prog w F ρ v (enc k)
theorem dkInt : DKind (intKind prog w) AV.int where
  inj := fun a b e => by cases e; rfl
  keyR := fun F k e => ⟨fun ⟨⟨t, q⟩, hh⟩ => ⟨by exact q ▸ intKind_is prog w k t, hh⟩, fun zz => And.elim (fun q hh => ⟨Value.isInt_shape q, hh⟩) zz⟩
  keq := fun a b => by refine (?_ : some (a == b) = _); exact (show (a == b) = decide (a = b) from Bool.eq_iff_iff.mpr (.refl _)) ▸ rfl
  kind := ⟨.int, fun k => ⟨k, rfl⟩⟩
  rel := fun F ρ k v h => by obtain ⟨t, rfl⟩ := Value.isInt_shape h; exact .int _ _
theorem dkStr : DKind (strKind prog w) AV.str where
  inj := fun a b e => by cases e; rfl
  keyR := fun F k e => ⟨fun ⟨⟨t, q⟩, hh⟩ => ⟨by rw [q]; exact strKind_is prog w k t, hh⟩, fun zz => And.elim (fun q hh => ⟨Value.isStrOf_shape q, hh⟩) zz⟩
  keq := fun a b => by refine (?_ : some (a == b) = _); exact (show (a == b) = decide (a = b) from Bool.eq_iff_iff.mpr (.refl _)) ▸ rfl
  kind := ⟨.str, fun k => ⟨k, rfl⟩⟩
  rel := fun F ρ k v h => by obtain ⟨t, rfl⟩ := Value.isStrOf_shape h; exact .str _ _
section
variable {κ : Type} [DecidableEq κ] {knd : KeyKind prog w κ} {enc : κ → AV}
theorem toDict (dk : DKind knd enc) {a : Addr} {es : List DictEntry} {n : Nat} {l : List κ} (ho : h.get? a = some (dctO es n)) (R : KeysR prog w F es (l.map enc)) : h.DictOf knd a (l.zip (es.map (·.val))) := by
  have hp := R.pairs
  have hn := R.nodup
  have ho' := ho
  clear R ho
  have len : es.length = l.length := by have := Paired.length hp; simpa using this
  have main : ∀ {es : List DictEntry} {l : List κ}, Paired (fun e k => KeyR prog w F k e) es (l.map enc) → PySem.KeysOf knd es.toArray ∧ Pairs knd es (l.zip (es.map (·.val))) := by
    intro es
    induction es with
    | nil => intro l hp; cases l with
      | nil => exact ⟨fun e he => by simp at he, .nil⟩
      | cons x l => cases hp
    | cons e es ih => intro l hp; cases l with
      | nil => cases hp
      | cons x l =>
        cases hp with
        | cons hk ht =>
          obtain ⟨q1, q2⟩ := (dk.keyR F x e).mp hk
          obtain ⟨i1, i2⟩ := ih ht
          refine ⟨fun e' he' => ?_, .cons q1 rfl i2⟩
          have : e' ∈ e :: es := by simpa using he'
          rcases List.mem_cons.mp this with rfl | hm
          · exact Og.I12 x q1 q2
          · exact i1 e' (by simpa using hm)
  obtain ⟨m1, m2⟩ := main hp
  refine ⟨_, es.toArray, n, ho', Og.I03 rfl rfl rfl, rfl, m1, by exact m2, ?_⟩
  rw [(zip_fst _ _ (by simp [len]) : (l.zip (es.map (·.val))).map (·.1) = l)]
  exact nodup_of_map enc hn
theorem ofDict (dk : DKind knd enc) {a : Addr} {kvs : List (κ × Value)} (hd : h.DictOf knd a kvs) : ∃ es n, h.get? a = some (dctO es n) ∧ KeysR prog w F es (kvs.map fun kv => enc kv.1) ∧ es.map (·.val) = kvs.map (·.2) := by
  refine Og.cps fun G kG => ?_
  refine O3_6 hd ?_; clear hd; rintro o es n ho ⟨h1, h2, h3⟩ hd hk hp hn
  obtain ⟨c, d, dt, sl⟩ := o
  dsimp only at h1 h2 h3 hd
  subst h1 h2 h3 hd
  have main : ∀ {l : List DictEntry} {kvs : List (κ × Value)}, (∀ e ∈ l, ∃ k, knd.is k e.key = true ∧ e.hash = knd.hash k) → Pairs knd l kvs → Paired (fun e k => KeyR prog w F k e) l (kvs.map fun kv => enc kv.1) ∧ l.map (·.val) = kvs.map (·.2) := by
    intro l kvs hk hp
    induction hp with
    | nil => exact ⟨.nil, rfl⟩
    | @cons e kv l kvs q1 q2 _ ih =>
      obtain ⟨i1, i2⟩ := ih fun e' he' => hk e' (.tail _ he')
      refine O12 (hk e (.head _)) ?_; rintro k q3 q4
      have : k = kv.1 := knd.inj e.key k kv.1 q3 q1
      clear q3; subst this
      exact ⟨.cons ((dk.keyR F _ e).mpr ⟨q1, q4⟩) i1, by rw [List.map_cons, List.map_cons, q2, i2]⟩
  obtain ⟨m1, m2⟩ := main (l := es.toList) (fun e he => hk e (by simpa using he)) hp
  obtain ⟨κ', hκ⟩ := dk.kind
  refine kG ?_
  clear kG
  refine Og.I23 es.toList n (by exact ho) ⟨m1, ?_, ⟨κ', fun k hk => ?_⟩⟩ m2
  · have : (kvs.map fun kv => enc kv.1) = (kvs.map (·.1)).map enc := by rw [List.map_map]; rfl
    rw [this]
    exact List.Pairwise.map enc (fun a b hab z => hab (dk.inj a b z)) hn
  · refine O12 (List.mem_map.mp hk) ?_; clear hk; rintro kv _ rfl
    exact hκ kv.1
set_option tactic.hygienic true in
theorem putK_stored (dk : DKind knd enc) {k : κ} {v : Value} {av : AV} (Rv : Rel prog w F ρ v av) : ∀ {kvs : List (κ × Value)} {vs ks' vs' : List AV}, (kvs.map (·.1)).Nodup → RelL prog w F ρ (kvs.map (·.2)) vs → putK (enc k) av (kvs.map fun kv => enc kv.1) vs = some (ks', vs') →
    ks' = (stored kvs k v).map (fun kv => enc kv.1) ∧ RelL prog w F ρ ((stored kvs k v).map (·.2)) vs' := by
  intro kvs
  induction kvs with
  | nil =>
    intro vs ks' vs' _ L e
    cases L
    (replace e := Option.some.inj e; obtain ⟨h1, h2⟩ := Prod.mk.inj e; clear e; subst h1; subst h2)
    exact ⟨rfl, .cons Rv .nil⟩
  | cons kv kvs ih =>
    intro vs ks' vs' hn L e
    replace L := List.map_cons ▸ L
    cases L with
    | cons hb hr =>
      rename_i b vs
      rw [List.map_cons] at e hn
      have nd := List.nodup_cons.mp hn
      unfold putK at e
      rw [dk.keq] at e
      by_cases q : kv.1 = k
      · replace e := (decide_eq_true q) ▸ e
        (replace e := Option.some.inj e; obtain ⟨h1, h2⟩ := Prod.mk.inj e; clear e; subst h1; subst h2)
        have hst : stored (kv :: kvs) k v = (kv.1, v) :: kvs := by
          unfold stored
          rw [if_pos (by simp [q]), List.map_cons, if_pos q, map_store_of_not_mem kvs k v (q ▸ nd.1)]
        exact hst ▸ ⟨rfl, .cons Rv hr⟩
      · replace e := (decide_eq_false q) ▸ e
        refine O12 (map2 e) ?_; rintro ⟨k2, v2⟩ h1 h2
        clear e; obtain ⟨rfl, rfl⟩ := Prod.mk.inj h2
        obtain ⟨i1, i2⟩ := ih nd.2 hr h1
        have hst : stored (kv :: kvs) k v = kv :: stored kvs k v := by
          unfold stored
          by_cases z : (kvs.any fun kv => decide (kv.1 = k)) = true
          · rw [if_pos z, if_pos (by rw [List.any_cons, z, Bool.or_true]), List.map_cons, if_neg q]
          · rw [if_neg z, if_neg (by rw [List.any_cons, decide_eq_false q, Bool.false_or]; exact z)]
            rfl
        refine hst ▸ ?_
        exact ⟨by exact List.map_cons ▸ i1 ▸ rfl, .cons hb i2⟩
/-- a key of one kind is stored -/
theorem dict_put (dk : DKind knd enc) {a : Addr} {es : List DictEntry} {n : Nat} {l : List κ} {k : κ} {u v : Value} {av : AV} {vs ks' vs' : List AV} (ho : s.heap.get? a = some (dctO es n)) (R : KeysR prog w F es (l.map enc)) (L : RelL prog w F ρ (es.map (·.val)) vs)
    (hu : knd.is k u = true) (Rv : Rel prog w F ρ v av) (e : putK (enc k) av (l.map enc) vs = some (ks', vs')) (hsz : es.length ≤ sizeLine) {Q : Unit → Shared → Prop}
    (q : ∀ h' es' n' tk, (∀ b o, b ≠ a → s.heap.get? b = some o → h'.get? b = some o) → h'.get? a = some (dctO es' n') → KeysR prog w F es' ks' → RelL prog w F ρ (es'.map (·.val)) vs' → Q () { s with heap := h', toks := tk }) :
    wpAny (model prog w) A (setItem (.ref a) u v) Q E s := by
  have len : es.length = l.length := by have := Paired.length R.pairs; simpa using this
  have e1 : (l.zip (es.map (·.val))).map (·.1) = l := zip_fst _ _ (by simp [len])
  have e2 : (l.zip (es.map (·.val))).map (·.2) = es.map (·.val) := zip_snd _ _ (by simp [len])
  refine wpAny_setItem_pairs hu (toDict dk ho R) (fun h' hd' hs => ?_) (by simp [len] at hsz ⊢; assumption)
  refine Og.cps fun G kG => ?_
  refine O23 (ofDict (F := F) dk hd') ?_; rintro es' n' ho' hk' hv'
  have e3 : (l.zip (es.map (·.val))).map (fun kv => enc kv.1) = l.map enc := by
    rw [show (fun kv : κ × Value => enc kv.1) = enc ∘ (·.1) from rfl, ← List.map_map, e1]
  obtain ⟨p1, p2⟩ := putK_stored (F := F) (ρ := ρ) dk Rv (kvs := l.zip (es.map (·.val))) (by rw [e1]; exact nodup_of_map enc R.nodup) (by exact e2 ▸ L) (by exact e3 ▸ e)
  refine kG ?_
  clear kG
  exact q h' es' n' _ (fun b o hb z => hs.extBut b o hb z) ho' (p1 ▸ hk') (hv' ▸ p2)
end
theorem dict_set {a : Addr} {es : List DictEntry} {n : Nat} {k av : AV} {u v : Value} {ks vs ks' vs' : List AV} (ho : s.heap.get? a = some (dctO es n)) (R : KeysR prog w F es ks) (L : RelL prog w F ρ (es.map (·.val)) vs)
    (hk : keyPlain k = true) (Ru : Rel prog w F ρ u k) (Rv : Rel prog w F ρ v av) (e : putK k av ks vs = some (ks', vs')) (hsz : es.length ≤ sizeLine) {Q : Unit → Shared → Prop}
    (q : ∀ h' es' n' tk, (∀ b o, b ≠ a → s.heap.get? b = some o → h'.get? b = some o) → h'.get? a = some (dctO es' n') → KeysR prog w F es' ks' → RelL prog w F ρ (es'.map (·.val)) vs' → Q () { s with heap := h', toks := tk }) :
    wpAny (model prog w) A (setItem (.ref a) u v) Q E s := by
  refine Og.cps fun G kG => ?_
  have hl : ks.length = vs.length := by rw [← Paired.length R.pairs, ← L.length, List.length_map]
  have first : ks ≠ [] → ∃ x ∈ ks, ∃ b, keyEq x k = some b := fun hne => by
    cases ks with
    | nil => exact absurd rfl hne
    | cons x ks => cases vs with
      | nil => cases hl
      | cons y vs =>
        unfold putK at e
        cases z : keyEq x k with
        | some b => exact ⟨x, .head _, b, z⟩
        | none => rw [z] at e; exact nos e
  obtain ⟨κ, hκ⟩ := R.kind
  refine kG ?_
  clear kG
  cases k with
  | int i =>
    cases Ru with
    | int _ t =>
    have : ∃ l : List Int, ks = l.map AV.int := by
      by_cases hne : ks = []
      · exact ⟨[], hne⟩
      · obtain ⟨x, hx, b, z⟩ := first hne
        rcases kind_of (hκ x hx) z with ⟨_, q1, _⟩ | ⟨_, _, rfl⟩ | ⟨_, q1, _⟩
        · cases q1
        · have : ∀ (l : List AV), (∀ k ∈ l, KKind.int.has k) → ∃ m : List Int, l = m.map AV.int := by
            intro l
            induction l with
            | nil => exact fun D0 => ⟨[], rfl⟩
            | cons y l ih => intro hy; obtain ⟨m, rfl⟩ := ih fun k hk => hy k (.tail _ hk)
                             obtain ⟨i, rfl⟩ := hy y (.head _); exact ⟨i :: m, rfl⟩
          exact this ks hκ
        · cases q1
    obtain ⟨l, rfl⟩ := this
    exact dict_put dkInt ho R L (intKind_is prog w i t) Rv e hsz q
  | str x =>
    cases Ru with
    | str _ t =>
    have : ∃ l : List Str, ks = l.map AV.str := by
      by_cases hne : ks = []
      · exact ⟨[], hne⟩
      · obtain ⟨x, hx, b, z⟩ := first hne
        rcases kind_of (hκ x hx) z with ⟨_, _, rfl⟩ | ⟨_, q1, _⟩ | ⟨_, q1, _⟩
        · have : ∀ (l : List AV), (∀ k ∈ l, KKind.str.has k) → ∃ m : List Str, l = m.map AV.str := by
            intro l
            induction l with
            | nil => exact fun D0 => ⟨[], rfl⟩
            | cons y l ih => intro hy; obtain ⟨m, rfl⟩ := ih fun k hk => hy k (.tail _ hk)
                             obtain ⟨i, rfl⟩ := hy y (.head _); exact ⟨i :: m, rfl⟩
          exact this ks hκ
        · cases q1
        · cases q1
    clear hl hκ first; obtain ⟨l, rfl⟩ := this
    exact dict_put dkStr ho R L (strKind_is prog w x t) Rv e hsz q
  | _ => rcases hk
theorem keys_plain {es : List DictEntry} {ks : List AV} (R : KeysR prog w F es ks) (h : ks.all keyPlain = true) : (∃ l : List Int, ks = l.map AV.int) ∨ ∃ l : List Str, ks = l.map AV.str := by
  obtain ⟨κ, hκ⟩ := R.kind
  cases ks with
  | nil => exact .inl ⟨[], rfl⟩
  | cons k ks =>
    have hk := hκ k (.head _)
    rw [List.all_cons, Bool.and_eq_true] at h
    have mk : ∀ {κ' : KKind}, κ = κ' → ∀ x ∈ k :: ks, κ'.has x := fun e x hx => e ▸ hκ x hx
    cases κ with
    | int =>
      have : ∀ (l : List AV), (∀ k ∈ l, KKind.int.has k) → ∃ m : List Int, l = m.map AV.int := by
        intro l
        induction l with
        | nil => exact fun D0 => ⟨[], rfl⟩
        | cons y l ih => intro hy; obtain ⟨m, rfl⟩ := ih fun k hk => hy k (.tail _ hk)
                         obtain ⟨i, rfl⟩ := hy y (.head _); exact ⟨i :: m, rfl⟩
      exact .inl (this _ hκ)
    | str =>
      have : ∀ (l : List AV), (∀ k ∈ l, KKind.str.has k) → ∃ m : List Str, l = m.map AV.str := by
        intro l
        induction l with
        | nil => exact fun D0 => ⟨[], rfl⟩
        | cons y l ih => intro hy; obtain ⟨m, rfl⟩ := ih fun k hk => hy k (.tail _ hk)
                         obtain ⟨i, rfl⟩ := hy y (.head _); exact ⟨i :: m, rfl⟩
      exact .inr (this _ hκ)
    | tup =>
      clear R hκ mk; obtain ⟨is, rfl⟩ := hk
      exact absurd h.1 (by simp [keyPlain])
theorem dict_copy {κ : Type} [DecidableEq κ] {knd : KeyKind prog w κ} {enc : κ → AV} (dk : DKind knd enc) (G : GR prog w B P F ρ st s.heap) {a : Addr} {es : List DictEntry} {n : Nat} {l : List κ} {vs : List AV} (ho : s.heap.get? a = some (dctO es n)) (hm : (a == sysModules) = false)
    (R : KeysR prog w F es (l.map enc)) (L : RelL prog w F ρ (es.map (·.val)) vs) (hsz : es.length ≤ sizeLine) {Q : Value → Shared → Prop}
    (k : ∀ h' es n tk, h'.get? s.heap.objs.size = some (dctO es n) → KeysR prog w F es (l.map enc) → RelL prog w F ρ (es.map (·.val)) vs → (∀ b o, s.heap.get? b = some o → h'.get? b = some o) → Q (.ref s.heap.objs.size) { s with heap := h', toks := tk }) :
    wpAny (model prog w) A (call (.type "dict") [.ref a]) Q E s := by
  have len : es.length = l.length := by have := Paired.length R.pairs; simpa using this
  refine kt_call_dict hm (toDict dk ho R) (by simp [len] at hsz ⊢; assumption) fun h' hd hs => ?_
  refine O23 (ofDict (F := F) dk hd) ?_; rintro es' n' ho' hk' hv'
  have e3 : (l.zip (es.map (·.val))).map (fun kv => enc kv.1) = l.map enc := by
    rw [show (fun kv : κ × Value => enc kv.1) = enc ∘ (·.1) from rfl, ← List.map_map, (zip_fst _ _ (by simp [len]) : (l.zip (es.map (·.val))).map (·.1) = l)]
  refine k h' es' n' s.toks ho' (e3 ▸ hk') (by rw [hv', (zip_snd _ _ (by simp [len]) : (l.zip (es.map (·.val))).map (·.2) = es.map (·.val))]; exact L) fun b o q => hs.extBut b o (Nat.ne_of_lt (Heap.lt_size q)) (Heap.get?_push_of_some _ q)
/-- a copy of a dict, that nobody else has -/
theorem dict_own (G : GR prog w B P F ρ st s.heap) {v : Value} {ks vs : List AV} (R : Rel prog w F ρ v (.dct ks vs)) (hsz : ks.length ≤ big) (hp : ks.all keyPlain = true) {Q : Value → Shared → Prop}
    (k : ∀ h' es n tk, h'.get? s.heap.objs.size = some (dctO es n) → KeysR prog w F es ks → RelL prog w F ρ (es.map (·.val)) vs → (∀ b o, s.heap.get? b = some o → h'.get? b = some o) → Q (.ref s.heap.objs.size) { s with heap := h', toks := tk }) :
    wpAny (model prog w) A (call (.type "dict") [v]) Q E s := by
  refine O4_6 R.inv ?_; clear R; rintro ad es n us rfl Fa hm kr hu L
  ·
    subst hu
    have hes : es.length ≤ sizeLine := by exact (Paired.length kr.pairs) ▸ Nat.le_trans hsz bigLine
    rcases keys_plain kr hp with ⟨l, rfl⟩ | ⟨l, rfl⟩
    · exact dict_copy dkInt G (G.fz' _ _ Fa) hm kr L hes k
    · exact dict_copy dkStr G (G.fz' _ _ Fa) hm kr L hes k
end
end Og
end
section
set_option maxRecDepth 100000
namespace Og
open PySem PySem.W PyProof.Rows PySem.Calls PySem.Spec PySem.SeqAt
section
variable {prog : Program} {w : World} {K : Frag} {p : Program} {loose : List Str} {mg mb : Str → Option Value} {B : Heap} {cL P : Addr} {F F' Fz : Fro} {Pr : Bk} {ρ ρ' ρz : List Addr} {st st' : Sto} {A : Around} {E : Value → Shared → Prop} {s : Shared} {h h' hz : Heap} {env : Env} {cx : Cx} {ow : Str → List Addr} {H : Hd} {D n : Nat}
/-- what was not there is no one's -/
theorem In0.fresh (I : In0 prog w B P Fz ρz hz Pr F ρ st h env cx ow) {a : Addr} (ha : h.get? a = none) :
    F a = none ∧ a ∉ ρ ∧ a ≠ P ∧ a ≠ env.locals ∧ (∀ y c, env.cells.lookup y = some c → a ≠ c) ∧ (∀ y, a ∉ ow y) ∧ hz.get? a = none ∧ Pr.pr a = none := by
  refine O03 (I.G.newOff ha) ?_; rintro h1 h2 h3
  refine Og.I08 h1 h2 h3 (fun z => ?_) (fun y c e z => ?_) (fun y hy => ?_) (I.S.dead ha) ?_
  · obtain ⟨m, hm⟩ := I.R.lns
    refine O32 hm ?_; clear hm; rintro o _ _ q _
    replace q := ha ▸ z ▸ q; exact nos q
  · obtain ⟨o, q⟩ := I.R.clt y c e
    replace q := ha ▸ z ▸ q; exact nos q
  · obtain ⟨o, q⟩ := I.R.below y a hy
    exact Og.nos (ha.symm.trans q)
  · cases q : Pr.pr a with
    | none => rfl
    | some o => rw [(I.K a o q).1] at ha; exact son ha
theorem In0.keeps (I : In0 prog w B P Fz ρz hz Pr F ρ st h env cx ow) (k : ∀ a o, h.get? a = some o → h'.get? a = some o) : In0 prog w B P Fz ρz hz Pr F ρ st h' env cx ow :=
  I.step (Step.keeps k) (I.G.keeps k)
/-- the store of an owned object that was not there -/
theorem In0.putNew {M : Model} (I : In0 prog w B P Fz ρz hz Pr F ρ st h env cx ow) {x : Str} {lv : LV} {cx' : Cx} {v : Value} {o : List Addr} {tk : Nat} (k0 : ∀ a ob, h.get? a = some ob → h'.get? a = some ob) (hd : ∀ a ∈ o, h.get? a = none ∧ ∃ ob, h'.get? a = some ob)
    (e : cx.put x lv = some cx') (L : LvR prog w F ρ h' o v lv)
    {Q : Unit → Shared → Prop} (k : ∀ h'' tk ow', In0 prog w B P Fz ρz hz Pr F ρ st h'' env cx' ow' → cx'.sc = cx.sc → (∀ a ob, ¬ Touch env cx a → h'.get? a = some ob → h''.get? a = some ob) → (∀ y a, a ∈ ow' y → a ∈ o ∨ a ∈ ow y) → Q () { s with heap := h'', toks := tk }) :
    wpAny M A (storeName env x v) Q E { s with heap := h', toks := tk } := by
  refine (In0.keeps (h' := h') I k0).put (s := { s with heap := h', toks := tk }) e L (fun a ha => ?_) k
  obtain ⟨q1, q2⟩ := hd a ha
  refine O07 (I.fresh q1) ?_; rintro f1 f2 f3 f4 f5 f6 f7
  exact Og.I08 f1 f2 f3 f4 f5 q2 (fun y D0 => f6 y) f7
/-- a new store place -/
theorem GR.place (G : GR prog w B P F ρ st h) {o : Obj} {m : MO} (hf : o.isFreed = false) (hm : MoR prog w F ρ (h.push o) h.objs.size m) :
    GR prog w B P F (ρ ++ [h.objs.size]) (st ++ [m]) (h.push o) ∧ Step P NoX F ρ h F (ρ ++ [h.objs.size]) (h.push o) := by
  have hd := dead_size h (Nat.le_refl _)
  refine O03 (G.newOff hd) ?_; rintro n1 n2 n3
  have kk : ∀ a ob, h.get? a = some ob → (h.push o).get? a = some ob := fun a ob q => Heap.get?_push_of_some _ q
  have G' := G.keeps kk
  have hr : ∀ (i : Nat) (a : Addr), ρ[i]? = some a → (ρ ++ [h.objs.size])[i]? = some a := fun i a e => by
    rw [List.getElem?_append_left (List.getElem?_eq_some_iff.mp e).1]; exact e
  have up : ∀ a m', MoR prog w F ρ (h.push o) a m' → MoR prog w F (ρ ++ [h.objs.size]) (h.push o) a m' := fun a m' M => by
    cases m' with
    | list l => refine O22 M ?_; clear M; rintro vs n q r; exact Og.I22 vs n q (r.mono (fun D0 D1 z => z) hr)
    | dict ks vs => refine O23 M ?_; clear M; rintro es n q k r; exact Og.I23 es n q k (r.mono (fun D0 D1 z => z) hr)
    | attrs ks vs => refine O24 M ?_; clear M; rintro es n q k d r; exact Og.I24 es n q k d (r.mono (fun D0 D1 z => z) hr)
  refine ⟨⟨G'.base, G'.mods, G'.fz, by simp [G.len], ?_, fun a ha => ?_, fun i a m' e1 e2 => ?_, G'.tab⟩, ⟨fun D0 D1 e => e, fun D0 D1 e => .inl e, Og.I12 ([h.objs.size]) rfl (fun a ha => ?_), fun a ob e D0 D1 D2 => kk a ob e, fun a ob e => ⟨ob, kk a ob e⟩⟩⟩
  · rw [List.nodup_append]
    refine Og.I03 G.nd (by simp) (fun a ha b hb z => ?_)
    simp only [List.mem_cons, List.not_mem_nil, or_false] at hb
    replace ha := hb ▸ z ▸ ha
    exact n2 ha
  · rcases List.mem_append.mp ha with q | q
    · exact G.off a q
    · simp only [List.mem_cons, List.not_mem_nil, or_false] at q
      subst q; exact ⟨n1, n3⟩
  · by_cases hi : i < ρ.length
    · rw [List.getElem?_append_left hi] at e1
      rw [List.getElem?_append_left (G.len ▸ hi)] at e2
      exact up a m' (G'.objs i a m' e1 e2)
    · have h1 := (List.getElem?_eq_some_iff.mp e1).1
      rw [List.length_append, List.length_cons, List.length_nil] at h1
      have h2 : i = ρ.length := by omega
      clear hi h1; subst h2
      rw [List.getElem?_append_right (Nat.le_refl _), Nat.sub_self] at e1
      rw [G.len, List.getElem?_append_right (Nat.le_refl _), Nat.sub_self] at e2
      (replace e1 := Option.some.inj e1; subst e1); (replace e2 := Option.some.inj e2; subst e2)
      exact up _ _ hm
  · simp only [List.mem_cons, List.not_mem_nil, or_false] at ha
    subst ha; exact hd
theorem place_last (G : GR prog w B P F ρ st h) (a : Addr) : (ρ ++ [a])[st.length]? = some a := by
  rw [← G.len, List.getElem?_append_right (Nat.le_refl _), Nat.sub_self]; rfl
set_option tactic.hygienic true in
theorem zip_own (G : GR prog w B P F ρ st s.heap) {v u : Value} {xs ys : List AV} (R1 : Rel prog w F ρ v (.lst xs)) (R2 : Rel prog w F ρ u (.lst ys)) {Q : Value → Shared → Prop}
    (k : ∀ h' z o tk, LvR prog w F ρ h' o z (.oz xs ys) → (∀ a ∈ o, s.heap.get? a = none ∧ ∃ ob, h'.get? a = some ob) → (∀ b o, s.heap.get? b = some o → h'.get? b = some o) → Q z { s with heap := h', toks := tk }) :
    wpAny (model prog w) A (call (.type "zip") [v, u]) Q E s := by
  cases R1 with
  | lst Fa La => cases R2 with
    | lst Fb Lb =>
      rename_i a us n b ws m
      refine call_zip_2 (isList_of G.fz' Fa) (isList_of G.fz' Fb) fun h' hz hTI hTO h1 h2 hsz hk => ?_
      have la : LT.lt (α := Nat) a s.heap.objs.size := Heap.lt_size (G.fz' _ _ Fa)
      have lb : LT.lt (α := Nat) b s.heap.objs.size := Heap.lt_size (G.fz' _ _ Fb)
      refine k h' _ [s.heap.objs.size + 4, s.heap.objs.size + 2, s.heap.objs.size + 3, s.heap.objs.size, s.heap.objs.size + 1] s.toks ⟨_, _, _, _, _, a, b, us, ws, n, m, rfl, rfl, Og.I06 hz hTI hTO h1 h2 ?_, Fa, Fb, La, Lb⟩ (fun c hc => ?_) hk
      · constructor <;> (show (_ : Nat) ≠ _) <;> omega
      · simp only [List.mem_cons, List.not_mem_nil, or_false] at hc
        rcases hc with rfl | rfl | rfl | rfl | rfl
        · exact ⟨dead_size _ (by exact Nat.le_add_right _ _), _, hz⟩
        · exact ⟨dead_size _ (by exact Nat.le_add_right _ _), _, hTI⟩
        · exact ⟨dead_size _ (by exact Nat.le_add_right _ _), _, hTO⟩
        · refine O12 h1 ?_; clear h1; rintro o q _; exact ⟨dead_size _ (by exact Nat.le_refl _), o, q⟩
        · refine O12 h2 ?_; clear h2; rintro o q _; exact ⟨dead_size _ (by exact Nat.le_add_right _ _), o, q⟩
end
end Og
end
section
set_option maxRecDepth 100000
namespace Og
open PySem PySem.W PyProof.Rows PySem.Calls PySem.Spec PySem.SeqAt
section
variable {prog : Program} {w : World} {K : Frag} {p : Program} {loose : List Str} {mg mb : Str → Option Value} {B : Heap} {cL P : Addr} {F F' Fz : Fro} {Pr : Bk} {ρ ρ' ρz : List Addr} {st st' : Sto} {A : Around} {E : Value → Shared → Prop} {s : Shared} {h h' hz : Heap} {env : Env} {cx : Cx} {ow : Str → List Addr}
theorem callT1 {f : Str} {fp pos : Pos} {e : Expr} {T : String} {a : AV} {st1 st2 : Sto} (hs : notStar e = true) (h1 : SE prog w B P A (.Name f fp) cx st (.val (.type T)) st1) (h2 : SE prog w B P A e cx st1 (a) st2)
    (G : GR prog w B P F ρ st s.heap) (R : FR prog w P F ρ s.heap env cx ow) {Q : Value → Shared → Prop}
    (k : ∀ u h' tk F' ρ', Step P NoX F ρ s.heap F' ρ' h' → GR prog w B P F' ρ' st2 h' → Rel prog w F' ρ' u a → wpAny (model prog w) A (call (.type T) [u]) Q E { s with heap := h', toks := tk }) :
    wpAny (model prog w) A (eval (.Call (.Name f fp) [e] [] pos) env) Q E s := by
  refine Call_ (h1.run E s F ρ env ow G R _ fun v h1' tk1 F1 ρ1 S1 G1 Rv => ?_) rfl
  obtain rfl := Rv.inv
  refine (starEach_cons hs) ▸ ?_
  refine PySem.callWith_type rfl (evalArgs_plain (spliced_cons (h2.run E { s with heap := h1', toks := tk1 } F1 ρ1 env ow G1 (R.step G S1) _ fun u h2' tk2 F2 ρ2 S2 G2 Ru => ?_)))
  exact spliced_nil (k u h2' tk2 F2 ρ2 (S1.trans S2) G2 Ru)
theorem callT2 {f : Str} {fp pos : Pos} {e1 e2 : Expr} {T : String} {a1 a2 : AV} {st1 st2 st3 : Sto} (hs1 : notStar e1 = true) (hs2 : notStar e2 = true) (h1 : SE prog w B P A (.Name f fp) cx st (.val (.type T)) st1) (h2 : SE prog w B P A e1 cx st1 (a1) st2)
    (h3 : SE prog w B P A e2 cx st2 (a2) st3) (G : GR prog w B P F ρ st s.heap) (R : FR prog w P F ρ s.heap env cx ow) {Q : Value → Shared → Prop}
    (k : ∀ u1 u2 h' tk F' ρ', Step P NoX F ρ s.heap F' ρ' h' → GR prog w B P F' ρ' st3 h' → Rel prog w F' ρ' u1 a1 → Rel prog w F' ρ' u2 a2 → wpAny (model prog w) A (call (.type T) [u1, u2]) Q E { s with heap := h', toks := tk }) :
    wpAny (model prog w) A (eval (.Call (.Name f fp) [e1, e2] [] pos) env) Q E s := by
  refine Call_ (h1.run E s F ρ env ow G R _ fun v h1' tk1 F1 ρ1 S1 G1 Rv => ?_) rfl
  obtain rfl := Rv.inv
  refine (starEach_cons hs1) ▸ (starEach_cons hs2) ▸ ?_
  refine PySem.callWith_type rfl (evalArgs_plain (spliced_cons (h2.run E { s with heap := h1', toks := tk1 } F1 ρ1 env ow G1 (R.step G S1) _ fun u h2' tk2 F2 ρ2 S2 G2 Ru => ?_)))
  refine spliced_cons (h3.run E { s with heap := h2', toks := tk2 } F2 ρ2 env ow G2 ((R.step G S1).step G1 S2) _ fun u2 h3' tk3 F3 ρ3 S3 G3 Ru2 => ?_)
  exact spliced_nil (k u u2 h3' tk3 F3 ρ3 ((S1.trans S2).trans S3) G3 (S3.rel Ru) Ru2)
set_option tactic.hygienic true in
theorem asg_plain {x : Str} {px pos : Pos} {v : Expr} {a : AV} {cx' : Cx} (hn : noComp v = true) (h1 : SE prog w B P A v cx st a st') (h2 : cx.put x (.v a) = some cx') : XS prog w B P A (.Assign [.Name x px] v pos) cx st (.next cx') st' :=
  fun E s F ρ env ow Fz ρz hz Pr I Q k => wpAny_Assign_Name (h1.run E s F ρ env ow I.G I.R _ fun u h' tk F' ρ' S G R => (I.step S G).putV (s := { s with heap := h', toks := tk }) h2 R fun h'' tk' ow' I' e _ _ => k h'' tk' F' ρ' ow' I' e) (swaps_plain hn)
set_option tactic.hygienic true in
theorem asg_comp (hh : A.handled = none) {x : Str} {px pos cpos : Pos} {elt t it : Expr} {ifs : List Expr} {sc : Scope} {out : List AV} {cx' : Cx}
    (h1 : CpR prog w B P A elt t it ifs sc cx st out st') (h2 : cx.put x (.v (.lst out)) = some cx') : XS prog w B P A (.Assign [.Name x px] (.ListComp elt [⟨t, it, ifs, 0⟩] sc cpos) pos) cx st (.next cx') st' := fun E s F ρ env ow Fz ρz hz Pr I Q k => by
  have hsw : swapsWith (.ListComp elt [⟨t, it, ifs, 0⟩] sc cpos) (some (.Name x px)) pos.line env = pure (env.blockKind == .function && env.kindOf x == some .local && px.line == (Expr.ListComp elt [⟨t, it, ifs, 0⟩] sc cpos).pos.line
      && !(sc.names.any fun (n, k) => n == x && (k == .local || k == .cell))) := rfl
  cases hb : (env.blockKind == .function && env.kindOf x == some .local && px.line == (Expr.ListComp elt [⟨t, it, ifs, 0⟩] sc cpos).pos.line
      && !(sc.names.any fun (n, k) => n == x && (k == .local || k == .cell))) with
  | false =>
    rw [hb] at hsw
    exact wpAny_Assign_Name ((comp_eval hh h1).run E s F ρ env ow I.G I.R _ fun u h' tk F' ρ' S G R => (I.step S G).putV (s := { s with heap := h', toks := tk }) h2 R fun h'' tk' ow' I' e _ _ => k h'' tk' F' ρ' ow' I' e) hsw
  | true =>
    rw [hb] at hsw
    refine (exec_Assign_Name_used _ _ _ _ hsw) ▸ ?_
    refine wpAny_bind (wpAny_standAt ?_)
    refine (?_ : wpAny _ _ ((comprehension (.ListComp elt [⟨t, it, ifs, 0⟩] sc cpos) sc env (firstIterPos [⟨t, it, ifs, 0⟩] cpos) (newList []) false (firstIter [⟨t, it, ifs, 0⟩] env) (some (assign (.Name x px) env)) >>= fun _ => pure ()) >>= fun _ => pure Flow.next) _ _ _)
    refine wpAny_bind (wpAny_bind (wpAny_mono (comp_sound (use := some (assign (.Name x px) env)) (Q := fun _ s' => Q .next s') hh h1 I.G I.R fun Da C h' tk F' ρ' S' G' R' hm hC => ?_) (fun _ s' q => wpAny_pure (wpAny_pure q)) fun _ _ q => q))
    refine (?_ : wpAny _ _ (assign (.Name x px) env (.ref Da)) _ _ _)
    refine wpAny_assign_Name ((I.step S' G').putV (s := { s with heap := h', toks := tk }) h2 R' fun h'' tk' ow' I' e kk hw => ?_)
    have nT : ¬ Touch env cx C := fun z => by
      rcases z with z | ⟨y, _, z⟩
      · obtain ⟨m, hm⟩ := I.R.lns
        refine O32 hm ?_; clear hm; rintro o _ _ q _
        replace q := hC.2.2.2 ▸ z ▸ q; exact nos q
      · obtain ⟨o, q⟩ := I.R.clt y C z
        rw [hC.2.2.2] at q; exact nos q
    obtain ⟨m, hm⟩ := hm
    refine Og.I12 m (Ns.keep hm fun o q => kk C o nT q) (fun h3 hs => ?_)
    have kC : ∀ b o, ¬ (b = C) → h''.get? b = some o → h3.get? b = some o := fun b o n q => hs.extBut b o n q
    refine k h3 tk' F' ρ' ow' ⟨I'.S.touch (· = C) (fun b q => q ▸ I.S.dead hC.2.2.2) kC, I'.G.touch (· = C) (fun b q => q ▸ Og.I03 hC.1 hC.2.1 hC.2.2.1) kC, I'.R.touch (· = C) kC (fun z => ?_) (fun y c q z => ?_) (fun y b hb z => ?_), I'.T, I'.O, fun b ob eb => ?_, I'.M⟩ e
    · exact nT (.inl z.symm)
    · obtain ⟨o, q'⟩ := I.R.clt y c q
      replace q' := hC.2.2.2 ▸ z ▸ q'; exact nos q'
    · obtain ⟨o, q'⟩ := I.R.below y b (hw y b hb)
      replace q' := hC.2.2.2 ▸ z ▸ q'; exact nos q'
    · obtain ⟨k1, k2⟩ := I'.K b ob eb
      exact ⟨kC b ob (fun z => by have := (I.K b ob eb).1; replace this := hC.2.2.2 ▸ z ▸ this; exact nos this) k1, k2⟩
end
end Og
end
section
set_option maxRecDepth 100000
namespace Og
open PySem PySem.W PyProof.Rows PySem.Calls PySem.Spec PySem.SeqAt
section
variable {prog : Program} {w : World} {K : Frag} {p : Program} {loose : List Str} {mg mb : Str → Option Value} {B : Heap} {cL P : Addr} {F F' Fz : Fro} {Pr : Bk} {ρ ρ' ρz : List Addr} {st st' : Sto} {A : Around} {E : Value → Shared → Prop} {s : Shared} {h h' hz : Heap} {env : Env} {cx : Cx} {ow : Str → List Addr}
theorem one_mem {a : Addr} {C : Prop} {b : Addr} (hb : b ∈ [a]) (h : b = a → C) : C := h (by simpa using hb)
theorem new_own {h : Heap} {o : Obj} (hf : o.isFreed = false) : ∀ a ∈ [h.objs.size], h.get? a = none ∧ ∃ ob, (h.push o).get? a = some ob := fun a ha => one_mem ha fun e => e ▸ ⟨dead_size _ (Nat.le_refl _), _, Heap.get?_push_size _ hf⟩
set_option tactic.hygienic true in
theorem asgL_rule {x : Str} {px pos ep : Pos} {es : List Expr} {l : List AV} {cx' : Cx} (h1 : LsR (fun e => SE prog w B P A e cx) es st l st') (hlen : es.length ≤ 64) (h2 : cx.put x (.ol l) = some cx') : XS prog w B P A (.Assign [.Name x px] (.List es ep) pos) cx st (.next cx') st' :=
  fun E s F ρ env ow Fz ρz hz Pr I Q k => wpAny_Assign_Name (wpAny_List_spliced (evL_sound h1 I.G I.R fun vs h' tk F' ρ' S G L => ⟨by refine L.length ▸ h1.len ▸ ?_; exact Nat.le_trans hlen (by decide),
    (I.step S G).putNew (s := s) (tk := tk) (o := [h'.objs.size]) (fun a ob q => Heap.get?_push_of_some _ q) (new_own rfl) h2 (Og.I34 _ vs 0 rfl rfl (Heap.get?_push_size _ rfl) L) fun h'' tk' ow' I' e _ _ => k h'' tk' F' ρ' ow' I' e⟩)) rfl
set_option tactic.hygienic true in
theorem asgD_rule {x : Str} {px pos ep : Pos} {cx' : Cx} (h2 : cx.put x (.od [] []) = some cx') : XS prog w B P A (.Assign [.Name x px] (.Dict [] [] ep) pos) cx st (.next cx') st :=
  fun E s F ρ env ow Fz ρz hz Pr I Q k => wpAny_Assign_Name (wpAny_Dict_empty (I.putNew (s := s) (tk := s.toks) (o := [s.heap.objs.size]) (fun a ob q => Heap.get?_push_of_some _ q) (new_own rfl) h2
        ⟨_, [], 0, rfl, rfl, Heap.get?_push_size _ rfl, I.G.ne_modules (I.fresh (dead_size _ (Nat.le_refl _))).1, ⟨.nil, List.nodup_nil, ⟨.int, fun _ hx => nomatch hx⟩⟩, .nil⟩ fun h'' tk' ow' I' e _ _ => k h'' tk' F ρ ow' I' e)) rfl
theorem placeL {p : Pos} : SE prog w B P A (.List [] p) cx st (.loc st.length) (st ++ [.list []]) := ⟨rfl, fun E s F ρ env ow G R Q k => by
  refine wpAny_List_spliced (spliced_nil ⟨by decide, ?_⟩)
  obtain ⟨G2, S2⟩ := G.place (o := lstO [] 0) (m := .list []) rfl (Og.I22 ([]) 0 (Heap.get?_push_size _ rfl) .nil)
  exact k _ _ s.toks F _ S2 G2 (.loc (place_last G _))⟩
theorem placeD {p : Pos} : SE prog w B P A (.Dict [] [] p) cx st (.loc st.length) (st ++ [.dict [] []]) := ⟨rfl, fun E s F ρ env ow G R Q k => by
  refine wpAny_Dict_empty ?_
  obtain ⟨G2, S2⟩ := G.place (o := dctO [] 0) (m := .dict [] []) rfl (Og.I23 ([]) 0 (Heap.get?_push_size _ rfl) ⟨.nil, List.nodup_nil, ⟨.int, fun D0 hx => nomatch hx⟩⟩ .nil)
  exact k _ _ s.toks F _ S2 G2 (.loc (place_last G _))⟩
set_option tactic.hygienic true in
theorem asgDC_rule {x f : Str} {px pos fp cp : Pos} {e1 : Expr} {ks vs : List AV} {st1 st2 : Sto} {cx' : Cx} (hs : notStar e1 = true) (h1 : SE prog w B P A (.Name f fp) cx st (.val (.type "dict")) st1) (h2 : SE prog w B P A e1 cx st1 (.dct ks vs) st2) (hsz : ks.length ≤ big) (hp : ks.all keyPlain = true)
    (h4 : cx.put x (.od ks vs) = some cx') : XS prog w B P A (.Assign [.Name x px] (.Call (.Name f fp) [e1] [] cp) pos) cx st (.next cx') st2 :=
  fun E s F ρ env ow Fz ρz hz Pr I Q k => wpAny_Assign_Name (callT1 hs h1 h2 I.G I.R fun u h' tk F' ρ' S G R => dict_own (s := { s with heap := h', toks := tk }) G R hsz hp fun h2' es m tk2 ho hk hl kk =>
    (I.step S G).putNew (s := s) (tk := tk2) (o := [h'.objs.size]) kk (fun a ha => one_mem ha fun e => e ▸ ⟨dead_size _ (Nat.le_refl _), _, ho⟩) h4 ⟨_, es, m, rfl, rfl, ho, G.ne_modules (G.newOff (dead_size _ (Nat.le_refl _))).1, hk, hl⟩ fun h'' tk' ow' I' e _ _ => k h'' tk' F' ρ' ow' I' e) rfl
set_option tactic.hygienic true in
theorem asgZ_rule {x f : Str} {px pos fp cp : Pos} {e1 e2 : Expr} {xs ys : List AV} {st1 st2 st3 : Sto} {cx' : Cx} (hs1 : notStar e1 = true) (hs2 : notStar e2 = true) (h1 : SE prog w B P A (.Name f fp) cx st (.val (.type "zip")) st1) (h2 : SE prog w B P A e1 cx st1 (.lst xs) st2) (h3 : SE prog w B P A e2 cx st2 (.lst ys) st3)
    (h4 : cx.put x (.oz xs ys) = some cx') : XS prog w B P A (.Assign [.Name x px] (.Call (.Name f fp) [e1, e2] [] cp) pos) cx st (.next cx') st3 :=
  fun E s F ρ env ow Fz ρz hz Pr I Q k => wpAny_Assign_Name (callT2 hs1 hs2 h1 h2 h3 I.G I.R fun u1 u2 h' tk F' ρ' S G R1 R2 => zip_own (s := { s with heap := h', toks := tk }) G R1 R2 fun h2' z o tk2 L hd kk =>
    (I.step S G).putNew (s := s) (tk := tk2) kk hd h4 L fun h'' tk' ow' I' e _ _ => k h'' tk' F' ρ' ow' I' e) rfl
end
end Og
end
section
set_option maxRecDepth 100000
namespace Og
open PySem PySem.W PyProof.Rows PySem.Calls PySem.Spec PySem.SeqAt
section
variable {prog : Program} {w : World} {K : Frag} {p : Program} {loose : List Str} {mg mb : Str → Option Value} {B : Heap} {cL P : Addr} {F F' Fz : Fro} {Pr : Bk} {ρ ρ' ρz : List Addr} {st st' : Sto} {A : Around} {E : Value → Shared → Prop} {s : Shared} {h h' hz : Heap} {env : Env} {cx : Cx} {ow : Str → List Addr}
theorem blockKind_fn (hk : env.scope.kind = .function) : env.blockKind = .function := by
  unfold Env.blockKind
  rw [hk]; rfl
theorem star_no {v : Expr} : notStar v = true → (match v with
    | .Starred _ _ => true
    | _ => false) = false := by
  intro h
  cases v <;> first | rfl | exact ftN h
theorem swapped_none {x y : Str} {px py cp vp : Pos} {c vc : Nat} {v1 v2 : Expr} (hk : env.scope.kind = .function) (h1 : notStar v1 = true) (h2 : notStar v2 = true) (hx : env.kindOf x ≠ some .local ∨ env.kindOf y ≠ some .local) :
    swappedStores [.Tuple [.Name x px, .Name y py] c cp] (.Tuple [v1, v2] vc vp) env = pure none := by
  unfold swappedStores
  dsimp only
  have e1 : ([v1, v2].any fun x => match x with
    | .Starred _ _ => true
    | _ => false) = false := by
    rw [List.any_cons, List.any_cons, List.any_nil, star_no h1, star_no h2]; rfl
  rw [blockKind_fn hk, if_neg (by simp)]
  refine (if_neg fun z => Bool.noConfusion (e1.symm.trans z)).trans ?_
  rw [if_pos]
  rcases hx with q | q
  · have : (env.kindOf x == some .local) = false := by simpa using q
    simp only [List.filterMap_cons, this, Bool.false_and, Bool.false_eq_true, if_false, List.filterMap_nil]
    split <;> rfl
  · have : (env.kindOf y == some .local) = false := by simpa using q
    simp only [List.filterMap_cons, this, Bool.false_and, Bool.false_eq_true, if_false, List.filterMap_nil]
    split <;> rfl
theorem swapped_some {x y : Str} {px py cp vp : Pos} {c vc : Nat} {v1 v2 : Expr} (hk : env.scope.kind = .function) (h1 : notStar v1 = true) (h2 : notStar v2 = true) (hx : env.kindOf x = some .local) (hy : env.kindOf y = some .local)
    (hl : (py.line == px.line) = true) (hne : (x != y) = true) (hf : (foldedForSure 8 v1 && foldedForSure 8 v2) = false) (hc : (constantsAlone 8 v1 && constantsAlone 8 v2) = false) :
    swappedStores [.Tuple [.Name x px, .Name y py] c cp] (.Tuple [v1, v2] vc vp) env = pure (some [x, y]) := by
  unfold swappedStores
  dsimp only
  have e1 : ([v1, v2].any fun x => match x with
    | .Starred _ _ => true
    | _ => false) = false := by
    rw [List.any_cons, List.any_cons, List.any_nil, star_no h1, star_no h2]; rfl
  rw [blockKind_fn hk, if_neg (by simp)]
  refine (if_neg fun z => Bool.noConfusion (e1.symm.trans z)).trans ?_
  have e2 : (py.line == (Expr.Name x px).pos.line) = true := hl
  have hne2 : (y == x) = false := by
    have : x ≠ y := by simpa using (by simpa using hne)
    simpa using fun z : y = x => this z.symm
  have e3 : (px.line == (Expr.Name x px).pos.line) = true := by refine (?_ : (px.line == px.line) = true); simp
  simp only [List.filterMap_cons, hx, hy, List.head?_cons, Option.map_some, Option.getD_some, e2, e3, beq_self_eq_true, Bool.true_and, if_true, List.filterMap_nil]
  rw [if_neg (by simp [List.eraseDups_cons, hne2]), if_neg (by simp only [List.all_cons, List.all_nil, Bool.and_true]; refine hf ▸ ?_; simp), if_neg (by simp only [List.all_cons, List.all_nil, Bool.and_true]; refine hc ▸ ?_; simp)]
theorem assign_stores_none {t v : Expr} {pos : Pos} {Q : Flow → Shared → Prop} {M : Model}
    (h : wpAny M A (eval v env) (fun u s₁ => wpAny M A (assign t env u) (fun D0 => Q .next) E s₁) E s)
    (hst : notStar t = true) (hs : swapsWithSole [t] v pos.line env = pure false) (hw : swappedStores [t] v env = pure none) :
    wpAny M A (exec (.Assign [t] v pos) env) Q E s := by
  refine wpAny_Assign_stores (wpAny_mono h (fun u s₁ h₁ => ?_) fun D0 D1 e => e) hs hw
  have : (assignEach [t] env).map (·.2) = [assign t env] := by clear h hs hw h₁; cases t <;> first | rfl | (exact Og.ftN hst)
  exact this ▸ h₁
theorem swaps_tuple {v : Expr} {ts : List Expr} {c : Nat} {cp : Pos} {l : Nat} : swapsWithSole [.Tuple ts c cp] v l env = pure false := by
  refine (?_ : swapsWith v (some (.Tuple ts c cp)) l env = pure false)
  cases v <;> rfl
/-- a part of a display that is stored by itself -/
noncomputable def LV1 (prog : Program) (w : World) (B : Heap) (P : Addr) (A : Around) (e : Expr) (cx : Cx) (st : Sto) (lv : LV) (st' : Sto) : Prop :=
  ∀ (E : Value → Shared → Prop) (s : Shared) F ρ env ow, GR prog w B P F ρ st s.heap → FR prog w P F ρ s.heap env cx ow → ∀ Q : Value → Shared → Prop,
    (∀ u o h' tk F' ρ', Step P NoX F ρ s.heap F' ρ' h' → GR prog w B P F' ρ' st' h' → LvR prog w F' ρ' h' o u lv → (∀ a ∈ o, s.heap.get? a = none ∧ (∃ ob, h'.get? a = some ob) ∧ F' a = none ∧ a ∉ ρ' ∧ a ≠ P) → Q u { s with heap := h', toks := tk }) →
    wpAny (model prog w) A (eval e env) Q E s
theorem lvL_rule {p : Pos} : LV1 prog w B P A (.List [] p) cx st (.ol []) st := fun E s F ρ env ow G R Q k => by
  refine wpAny_List_spliced (spliced_nil ⟨by decide, ?_⟩)
  have kk : ∀ a ob, s.heap.get? a = some ob → (s.heap.push (lstO [] 0)).get? a = some ob := fun a ob q => Heap.get?_push_of_some _ q
  have dd := dead_size s.heap (Nat.le_refl _)
  exact k _ [s.heap.objs.size] _ s.toks F ρ (Step.keeps kk) (G.keeps kk) (Og.I34 _ ([]) 0 rfl rfl (Heap.get?_push_size _ rfl) .nil) fun a ha => one_mem ha fun e => e ▸ Og.I03 dd ⟨_, Heap.get?_push_size _ rfl⟩ (G.newOff dd)
theorem lvV_rule {e : Expr} {a : AV} (h : SE prog w B P A e cx st a st') : LV1 prog w B P A e cx st (.v a) st' :=
  fun E s F ρ env ow G R D0 k => h.run E s F ρ env ow G R _ fun u h' tk F' ρ' S G' R' => k u [] h' tk F' ρ' S G' R' fun D0 ha => nomatch ha
set_option tactic.hygienic true in
theorem swap_tail {x y : Str} {T : Addr} {u1 u2 : Value} {stores : List (Value → Sem Unit)} {Q : Flow → Shared → Prop} (hh : A.handled = none) (hT : s.heap.IsTuple T #[u1, u2])
    (k : ∀ h4, Heap.ExtBut s.heap.objs.size s.heap h4 → wpAny (model prog w) A (assignInOrder [bindName env y, bindName env x] [u2, u1]) (fun _ s' => Q .next s') E { s with heap := h4 }) :
    wpAny (model prog w) A (assignStores env (.ref T) (some [x, y]) stores) Q E s := by
  refine (?_ : wpAny _ _ (rule "assign.swapped-stores" >>= fun _ => unpackItems (.ref T) 2 none >>= fun items => assignInOrder ([x, y].reverse.map fun n => bindName env n) items.reverse >>= fun _ => pure Flow.next) _ _ _)
  have := wpAny_unpackItems_tuple (prog := prog) (w := w) (A := A) (E := E) hh hT (Q := fun items s' => wpAny (model prog w) A (assignInOrder ([x, y].reverse.map fun n => bindName env n) items.reverse >>= fun _ => pure Flow.next) Q E s') fun h4 he =>
    wpAny_bind (wpAny_mono (k h4 he) (fun _ _ q => wpAny_pure q) fun _ _ q => q)
  exact wpAny_bind (wpAny_rule (wpAny_bind this))
set_option tactic.hygienic true in
theorem asgU_of {v : Expr} {ts : List Expr} {c : Nat} {cp pos : Pos} {a : AV} {st1 : Sto} {cx' : Cx} (hh : A.handled = none) (h1 : SE prog w B P A v cx st a st1) (h2 : assignT cx (.Tuple ts c cp) a = some cx')
    (hw : ∀ (F : Fro) ρ (h : Heap) env ow, FR prog w P F ρ h env cx ow → swappedStores [.Tuple ts c cp] v env = pure none) : XS prog w B P A (.Assign [.Tuple ts c cp] v pos) cx st (.next cx') st1 :=
  fun E s F ρ env ow Fz ρz hz Pr I Q k => assign_stores_none (h1.run E s F ρ env ow I.G I.R _ fun u h' tk F' ρ' S G R =>
    (I.step S G).assign (s := { s with heap := h', toks := tk }) hh h2 (.inl R) fun h'' tk' ow' I' e _ => k h'' tk' F' ρ' ow' I' e) rfl swaps_tuple (hw _ _ _ _ _ I.R)
noncomputable def notTup (e : Expr) : Bool := vw e true (tu := fun D0 D1 D2 => false)
set_option tactic.hygienic true in
theorem asgU_rule {v : Expr} {ts : List Expr} {c : Nat} {cp pos : Pos} {a : AV} {st1 : Sto} {cx' : Cx} (hh : A.handled = none) (hv : notTup v = true) (h1 : SE prog w B P A v cx st a st1) (h2 : assignT cx (.Tuple ts c cp) a = some cx') : XS prog w B P A (.Assign [.Tuple ts c cp] v pos) cx st (.next cx') st1 :=
  asgU_of hh h1 h2 fun _ _ _ _ _ _ => by clear h1; cases v <;> first | rfl | exact ftN hv
set_option tactic.hygienic true in
theorem asgC_rule {x y : Str} {px py cp vp pos : Pos} {c vc : Nat} {v1 v2 : Expr} {a : AV} {st1 : Sto} {cx' : Cx} (hh : A.handled = none) (hn1 : notStar v1 = true) (hn2 : notStar v2 = true) (hk : cx.sc.names.lookup x = some .cell ∨ cx.sc.names.lookup y = some .cell)
    (h1 : SE prog w B P A (.Tuple [v1, v2] vc vp) cx st a st1) (h2 : assignT cx (.Tuple [.Name x px, .Name y py] c cp) a = some cx') : XS prog w B P A (.Assign [.Tuple [.Name x px, .Name y py] c cp] (.Tuple [v1, v2] vc vp) pos) cx st (.next cx') st1 :=
  asgU_of hh h1 h2 fun _ _ _ env _ R => swapped_none R.kind hn1 hn2 (hk.imp (fun q => by refine (R.ks _ _ q (.inr (.inr rfl))) ▸ ?_; decide) fun q => by refine (R.ks _ _ q (.inr (.inr rfl))) ▸ ?_; decide)
set_option tactic.hygienic true in
theorem asgS_rule {x y : Str} {px py cp vp pos : Pos} {c vc : Nat} {v1 v2 : Expr} {lv1 lv2 : LV} {st1 st2 : Sto} {cx1 cx2 : Cx} (hh : A.handled = none) (hn1 : notStar v1 = true) (hn2 : notStar v2 = true) (hkx : cx.sc.names.lookup x = some .local) (hky : cx.sc.names.lookup y = some .local)
    (hl : (py.line == px.line) = true) (hne : (x != y) = true) (hf : (foldedForSure 8 v1 && foldedForSure 8 v2) = false) (hcc : (constantsAlone 8 v1 && constantsAlone 8 v2) = false)
    (h1 : LV1 prog w B P A v1 cx st lv1 st1) (h2 : LV1 prog w B P A v2 cx st1 lv2 st2) (h3 : cx.put y lv2 = some cx1) (h4 : cx1.put x lv1 = some cx2) : XS prog w B P A (.Assign [.Tuple [.Name x px, .Name y py] c cp] (.Tuple [v1, v2] vc vp) pos) cx st (.next cx2) st2 := fun E s F ρ env ow Fz ρz hz Pr I Q k => by
  rw [exec_Assign_arm]
  refine wpAny_bind (wpAny_standAt ?_)
  refine swaps_tuple ▸ ?_
  refine wpAny_bind (wpAny_pure ?_)
  rw [if_neg (by decide)]
  refine wpAny_bind (wpAny_Tuple_spliced ?_)
  refine (starEach_cons hn1) ▸ (starEach_cons hn2) ▸ ?_
  refine spliced_cons (h1 E s F ρ env ow I.G I.R _ fun u1 o1 h1' tk1 F1 ρ1 S1 G1 L1 d1 => ?_)
  have I1 := I.step S1 G1
  refine spliced_cons (h2 E { s with heap := h1', toks := tk1 } F1 ρ1 env ow I1.G I1.R _ fun u2 o2 h2' tk2 F2 ρ2 S2 G2 L2 d2 => ?_)
  have I2 := I1.step S2 G2
  refine spliced_nil ⟨(show 2 ≤ sizeLine by decide), ?_⟩
  rw [swapped_some I.R.kind hn1 hn2 (I.R.ks _ _ hkx (.inr (.inl rfl))) (I.R.ks _ _ hky (.inr (.inl rfl))) hl hne hf hcc]
  refine wpAny_bind (wpAny_pure ?_)
  generalize hH : h2'.push (tupO [u1, u2] 0) = h3'
  have kp : ∀ a ob, h2'.get? a = some ob → h3'.get? a = some ob := fun a ob q => hH ▸ Heap.get?_push_of_some _ q
  refine swap_tail (s := { s with heap := h3', toks := tk2 }) hh (⟨_, hH ▸ Heap.get?_push_size _ rfl, rfl, 0, rfl⟩) fun h4' he => ?_
  have kk : ∀ a ob, h2'.get? a = some ob → h4'.get? a = some ob := fun a ob q => he a ob (Nat.ne_of_lt (Heap.lt_size (kp a ob q))) (kp a ob q)
  -- what the two parts own, at h4'
  have own1 : ∀ a ∈ o1, F2 a = none ∧ a ∉ ρ2 ∧ a ≠ P ∧ a ≠ env.locals ∧ (∀ y c, env.cells.lookup y = some c → a ≠ c) ∧ (∃ ob, h2'.get? a = some ob) ∧ (∀ y, a ∉ ow y) ∧ hz.get? a = none ∧ Pr.pr a = none := fun a ha => by
    refine O05 (d1 a ha) ?_; rintro q1 q2 q3 q4 q5
    refine O07 (I.fresh q1) ?_; rintro f1 f2 f3 f4 f5 f6 f7
    obtain ⟨z1, z2⟩ := S2.stays q2 q3 q4
    obtain ⟨ob, q6⟩ := q2
    exact Og.I08 z1 z2 q5 f4 f5 (S2.live a ob q6) f6 f7
  have own2 : ∀ a ∈ o2, F2 a = none ∧ a ∉ ρ2 ∧ a ≠ P ∧ a ≠ env.locals ∧ (∀ y c, env.cells.lookup y = some c → a ≠ c) ∧ (∃ ob, h2'.get? a = some ob) ∧ (∀ y, a ∉ ow y) ∧ hz.get? a = none ∧ Pr.pr a = none := fun a ha => by
    refine O05 (d2 a ha) ?_; rintro q1 q2 q3 q4 q5
    refine O07 (I1.fresh q1) ?_; rintro f1 f2 f3 f4 f5 f6 f7
    exact Og.I08 q3 q4 q5 f4 f5 q2 f6 f7
  have dis : ∀ a ∈ o1, a ∉ o2 := fun a ha hb => by
    refine O03 (d1 a ha) ?_; rintro q1 ⟨ob, q2⟩ _
    rw [(d2 a hb).1] at q2; exact nos q2
  have L1' : LvR prog w F2 ρ2 h4' o1 u1 lv1 := L1.keep S2.sub S2.refs fun a ha ob q => kk a ob (S2.keep a ob q (d1 a ha).2.2.2.1 (d1 a ha).2.2.2.2 id)
  refine wpAny_assignInOrder_more (wpAny_bindName (In0.put (s := { s with heap := h4', toks := tk2 }) (In0.keeps (h' := h4') I2 kk) h3 (L2.keep (fun _ _ z => z) (fun _ _ z => z) fun a ha ob q => kk a ob q) (fun a ha => ?_) fun h5 tk5 ow5 I5 e5 kk5 hw5 => ?_))
  · refine O08 (own2 a ha) ?_; rintro q1 q2 q3 q4 q5 ⟨ob, q6⟩ q7 q8
    exact Og.I08 q1 q2 q3 q4 q5 ⟨ob, kk a ob q6⟩ (fun z _ => q7 z) q8
  refine wpAny_assignInOrder_more (wpAny_bindName (In0.put (s := { s with heap := h5, toks := tk5 }) I5 h4 (o := o1) ?_ (fun a ha => ?_) fun h6 tk6 ow6 I6 e6 kk6 hw6 => ?_))
  · refine L1'.keep (fun _ _ z => z) (fun _ _ z => z) fun a ha ob q => kk5 a ob (fun z => ?_) q
    refine O06 (own1 a ha) ?_; rintro _ _ _ q4 q5 _
    rcases z with z | ⟨y', _, z⟩
    · exact q4 z
    · exact q5 y' a z rfl
  · refine O08 (own1 a ha) ?_; rintro q1 q2 q3 q4 q5 ⟨ob, q6⟩ q7 q8
    refine Og.I08 q1 q2 q3 q4 q5 ⟨ob, kk5 a ob (fun z => ?_) (kk a ob q6)⟩ (fun z _ hz => ?_) q8
    · rcases z with z | ⟨y', _, z⟩
      · exact q4 z
      · exact q5 y' a z rfl
    · rcases hw5 z a hz with z' | z'
      · exact dis a ha z'
      · exact q7 z z'
  exact wpAny_assignInOrder_none (k h6 tk6 F2 ρ2 ow6 I6 (e6.trans e5))
end
end Og
end
section
set_option maxRecDepth 100000
namespace Og
open PySem PySem.W PyProof.Rows PySem.Calls PySem.Spec PySem.SeqAt
section
variable {prog : Program} {w : World} {K : Frag} {p : Program} {loose : List Str} {mg mb : Str → Option Value} {B : Heap} {cL P : Addr} {F F' Fz : Fro} {Pr : Bk} {ρ ρ' ρz : List Addr} {st st' : Sto} {A : Around} {E : Value → Shared → Prop} {s : Shared} {h h' hz : Heap} {env : Env} {cx : Cx} {ow : Str → List Addr}
theorem GR.setPlace (G : GR prog w B P F ρ st h) {l : Nat} {a : Addr} {m : MO} (hl : ρ[l]? = some a) (hs : ∀ b o, b ≠ a → h.get? b = some o → h'.get? b = some o) (hm : MoR prog w F ρ h' a m) (lv : ∃ o, h'.get? a = some o) :
    GR prog w B P F ρ (st.set l m) h' ∧ Step P NoX F ρ h F ρ h' := by
  have ha := List.mem_of_getElem? hl
  obtain ⟨o1, o2⟩ := G.off a ha
  refine ⟨⟨G.base, G.mods, fun b o e => ⟨(fun b o e => hs b o (fun z => by replace e := o1 ▸ z ▸ e; exact nos e) (G.fz' b o e) : ∀ b o, F b = some o → h'.get? b = some o) b o e, (G.fz b o e).2⟩, by rw [List.length_set]; exact G.len, G.nd, G.off, fun i b m' e1 e2 => ?_, ?_⟩, ⟨fun D0 D1 e => e, fun D0 D1 e => .inl e, ⟨[], by simp⟩, fun b o e hb D0 D1 => hs b o (fun z => hb (z ▸ ha)) e, fun b o e => ?_⟩⟩
  · by_cases q : i = l
    · subst q
      (replace e1 := Option.some.inj (hl.symm.trans e1); subst e1)
      rw [List.getElem?_set_self (by exact G.len ▸ (List.getElem?_eq_some_iff.mp hl).1 : i < st.length)] at e2; (replace e2 := Option.some.inj e2; subst e2)
      exact hm
    · replace e2 := (List.getElem?_set_ne (fun z => q z.symm)) ▸ e2
      have hne : b ≠ a := fun z => by
        clear hs hm lv ha o1 o2; subst z
        obtain ⟨i1, j1⟩ := List.getElem?_eq_some_iff.mp e1
        obtain ⟨i2, j2⟩ := List.getElem?_eq_some_iff.mp hl
        exact q ((List.getElem_inj G.nd).mp (j1.trans j2.symm))
      have M := G.objs i b m' e1 e2
      cases m' with
      | list l => refine O22 M ?_; clear M; rintro vs n q r; exact Og.I22 vs n (hs b _ hne q) r
      | dict ks vs => refine O22 M ?_; clear M; rintro es n q r; exact Og.I22 es n (hs b _ hne q) r
      | attrs ks vs => refine O22 M ?_; clear M; rintro es n q r; exact Og.I22 es n (hs b _ hne q) r
  · refine O13 G.tab ?_; rintro ps q t z
    exact Og.I13 ps (hs P _ (fun y => o2 y.symm) q) t z
  · by_cases z : b = a
    · subst z; exact lv
    · exact ⟨o, hs b o z e⟩
noncomputable abbrev AttrK (w : World) (es : List DictEntry) (ks : List Str) : Prop := Paired (fun e x => (∃ t, e.key = Value.str x t) ∧ e.hash = PyData.keyHash w.params x) es ks
theorem putL_rel {name : Str} {tk : Tok} {v : Value} {a : AV} (Rv : Rel prog w F ρ v a) {es : List DictEntry} {ks : List Str} (hp : Paired (fun e x => (∃ t, e.key = Value.str x t) ∧ e.hash = PyData.keyHash w.params x) es ks) :
    ∀ {vs : List AV}, ks.Nodup → RelL prog w F ρ (es.map (·.val)) vs →
    AttrK w (putL name (PyData.keyHash w.params name) (.str name tk) v es) (putAttr name a ks vs).1 ∧ (putAttr name a ks vs).1.Nodup ∧ (∀ x ∈ (putAttr name a ks vs).1, x ∈ ks ∨ x = name) ∧
      RelL prog w F ρ ((putL name (PyData.keyHash w.params name) (.str name tk) v es).map (·.val)) (putAttr name a ks vs).2 := by
  induction hp with
  | nil =>
    intro vs _ h
    refine (RelL.nilL h) ▸ ?_
    exact Og.I04 (.cons ⟨⟨tk, rfl⟩, rfl⟩ .nil) (by simp [putAttr]) (by simp [putAttr]) (.cons Rv .nil)
  | @cons e x es ks hk hp ih =>
    intro vs hnd h
    refine O23 (RelL.consL h) ?_; clear h; rintro b us rfl hb hr
    obtain ⟨⟨t, hkey⟩, hh⟩ := hk
    have hstr : e.key.isStr name = (x == name) := by refine hkey ▸ ?_; rfl
    have nd := List.nodup_cons.mp hnd
    unfold putL putAttr
    rw [hstr]
    cases q : (x == name) with
    | true =>
      exact (if_pos rfl) ▸ (if_pos rfl) ▸ Og.I04 (.cons ⟨⟨t, hkey⟩, hh⟩ hp) hnd (fun y hy => .inl hy) (.cons Rv hr)
    | false =>
      rw [if_neg Bool.false_ne_true, if_neg Bool.false_ne_true]
      refine O04 (ih nd.2 hr) ?_; rintro i1 i2 i3 i4
      refine Og.I04 (.cons ⟨⟨t, hkey⟩, hh⟩ i1) (List.nodup_cons.mpr ⟨fun hm => ?_, i2⟩) (fun y hy => ?_) (.cons hb i4)
      · rcases i3 x hm with z | z
        · exact nd.1 z
        · exact (by simpa using q : x ≠ name) z
      · rcases List.mem_cons.mp hy with rfl | hy
        · exact .inl (.head _)
        · rcases i3 y hy with z | z
          · exact .inl (.tail _ z)
          · exact .inr z
theorem putL_len {name : Str} {hsh : Int} {key v : Value} : ∀ {es : List DictEntry}, (putL name hsh key v es).length ≤ es.length + 1
  | [] => Nat.le_refl _
  | e :: es => by
    unfold putL
    split
    · simp
    · simp only [List.length_cons]; exact Nat.succ_le_succ putL_len
/-- an attribute is stored -/
theorem osa_raw {x dx C : Addr} {es : List DictEntry} {n : Nat} {name : Str} {tk : Tok} {v : Value} {R : Result → Shared → Prop} (X : K.In s.heap) (I : InstAt s.heap x (instObj C dx) C (some (dctO es n))) (hp : plainOver K C = true) (ht : takerIn K C name = some none)
    (hh : (clsIn K C).any (·.hasDict) = true) (hl : es.any (·.refKey) = false) (hz : es.length ≤ 900)
    (h : R (.ok (.ret .none)) { s with heap := s.heap.update dx (Obj.putName name (PyData.keyHash w.params name) (.str name s.toks) v), toks := s.toks + 1 }) :
    codeAny (model prog w) A (.call (.builtin "object.__setattr__") ⟨[.ref x, .str name tk, v], []⟩) R s := by
  refine osa_open X I hp ht fun b => ?_
  refine O12 (any_some hh) ?_; rintro cd hc hd'
  obtain ⟨hx, -, -, D⟩ := I
  have D : s.heap.get? dx = some (dctO es n) := D
  have e := putName_dict name (PyData.keyHash w.params name) (.str name s.toks) v es n
  have D' : (s.heap.update dx (Obj.putName name (PyData.keyHash w.params name) (.str name s.toks) v)).get? dx = some (dctO (putL name (PyData.keyHash w.params name) (.str name s.toks) v es) (putN name es n)) := by
    have := Heap.get?_update_self (Obj.putName name (PyData.keyHash w.params name) (.str name s.toks) v) D (by refine (show dctO es n = dictOf es n from rfl) ▸ e ▸ ?_; rfl)
    rw [this]
    exact congrArg some e
  refine wpAny_bind (wpAny_pure (wpAny_bind (wpAny_bind (wpAny_loadPart hx (wpAny_bind ((looks_clsIn X hc).here ?_))))))
  rw [hd']
  refine wpAny_pure (a := some dx) (wpAny_bind (wpAny_pure (wpAny_bind ?_)))
  unfold nsSet
  refine wpAny_bind (wpAny_bind (wpAny_askSetting (wpAny_pure (wpAny_bind (wpAny_mkText (wpAny_bind (wpAny_loadPart D ?_)))))))
  dsimp only
  have c : (!es.toArray.any (·.key.isStr name) && es.toArray.any (·.refKey)) = false := by
    refine Array.any_toList ▸ Array.any_toList ▸ ?_
    refine (?_ : (!es.any _ && es.any _) = false)
    rw [hl, Bool.and_false]
  rw [aRefKeyMayBeTheName_at, c]
  refine wpAny_updatePart D ?_
  refine wpAny_bind (wpAny_lookBehind D' (pastItsLine_dict (by rw [List.size_toArray, sizeLine_eq]; have := @putL_len name (PyData.keyHash w.params name) (.str name s.toks) v es; omega)) ?_)
  exact wpAny_pure h
theorem swaps_attr {v o : Expr} {name : Str} {pos : Pos} {l : Nat} : swapsWith v (some (.Attribute o name pos)) l env = pure false := by cases v <;> rfl
theorem swaps_sub {v o i : Expr} {pos : Pos} {l : Nat} : swapsWith v (some (.Subscript o i pos)) l env = pure false := by cases v <;> rfl
theorem storK_ok {c : Addr} {name : Str} (hk : storK K c name = true) : plainOver K c = true ∧ takerIn K c name = some none ∧ (clsIn K c).any (·.hasDict) = true ∧ findIn K (.ref c) "__setattr__" = some (some (.builtin "object.__setattr__")) := by
  unfold storK at hk
  simp only [Bool.and_eq_true, beq_iff_eq] at hk
  exact Og.I04 hk.1.1.1 hk.1.1.2 hk.1.2 hk.2
set_option tactic.hygienic true in
theorem asgAttr_rule (hB : Base prog w K p loose mg mb B cL P) {o v : Expr} {name : Str} {ap pos : Pos} {a : AV} {c : Addr} {l : Nat} {ks : List Str} {vs : List AV} {st1 st2 : Sto} (h1 : SE prog w B P A v cx st a st1) (h2 : SE prog w B P A o cx st1 (.inst c l) st2)
    (hst : st2[l]? = some (.attrs ks vs)) (hk : storK K c name = true) (hlen : ks.length ≤ 64) : XS prog w B P A (.Assign [.Attribute o name ap] v pos) cx st (.next cx) (stSet st2 l (.attrs (putAttr name a ks vs).1 (putAttr name a ks vs).2)) := fun E s F ρ env ow Fz ρz hz Pr I Q k => by
  refine plainObj_wpAny_Assign_Attribute (h1.run E s F ρ env ow I.G I.R _ fun u h1' tk1 F1 ρ1 S1 G1 Ru => ?_) swaps_attr
  have I1 := I.step S1 G1
  refine h2.run E { s with heap := h1', toks := tk1 } F1 ρ1 env ow G1 I1.R _ fun x h2' tk2 F2 ρ2 S2 G2 Rx => ?_
  refine O04 (storK_ok hk) ?_; rintro k1 k2 k3 k4
  refine O23 Rx.inv ?_; clear Rx; rintro ad dx rfl Fa hr
  refine O24 (G2.objs l dx _ hr hst) ?_; rintro es n ho hp hnd L
  have II : InstAt h2' ad (instObj c dx) c (some (dctO es n)) := ⟨G2.fz' _ _ Fa, rfl, rfl, ho⟩
  have hes : es.length ≤ 900 := by refine (Paired.len hp) ▸ ?_; omega
  have X := G2.inK hB
  refine set_plain (s := { s with heap := h2', toks := tk2 }) X II k4 (osa_raw (s := { s with heap := h2', toks := tk2 + 1 }) X II k1 k2 k3 (noRefs hp) hes ?_)
  have e' := putName_dict name (PyData.keyHash w.params name) (.str name (tk2 + 1)) u es n
  have D' : (h2'.update dx (Obj.putName name (PyData.keyHash w.params name) (.str name (tk2 + 1)) u)).get? dx = some (dctO (putL name (PyData.keyHash w.params name) (.str name (tk2 + 1)) u es) (putN name es n)) := by
    have := Heap.get?_update_self (Obj.putName name (PyData.keyHash w.params name) (.str name (tk2 + 1)) u) ho (by exact (rfl : dctO es n = dictOf es n) ▸ e' ▸ rfl)
    rw [this]
    exact congrArg some e'
  refine O04 (putL_rel (name := name) (tk := tk2 + 1) (S2.rel Ru) hp hnd L) ?_; rintro p1 p2 p3 p4
  obtain ⟨G3, S3⟩ := G2.setPlace (h' := h2'.update dx (Obj.putName name (PyData.keyHash w.params name) (.str name (tk2 + 1)) u)) (m := .attrs (putAttr name a ks vs).1 (putAttr name a ks vs).2) hr (fun b ob hb q => (Heap.SameBut.update h2' dx _).extBut b ob hb q) (Og.I24 _ _ D' p1 p2 p4) ⟨_, D'⟩
  exact k _ _ F2 ρ2 ow ((I1.step S2 G2).step S3 G3) rfl
end
end Og
end
section
set_option maxRecDepth 100000
namespace Og
open PySem PySem.W PyProof.Rows PySem.Calls PySem.Spec PySem.SeqAt
section
variable {prog : Program} {w : World} {K : Frag} {p : Program} {loose : List Str} {mg mb : Str → Option Value} {B : Heap} {cL P : Addr} {F F' Fz : Fro} {Pr : Bk} {ρ ρ' ρz : List Addr} {st st' : Sto} {A : Around} {E : Value → Shared → Prop} {s : Shared} {h h' hz : Heap} {env : Env} {cx : Cx} {ow : Str → List Addr}
/-- an owned object changes -/
theorem In0.setOwn (I : In0 prog w B P Fz ρz hz Pr F ρ st h env cx ow) {x : Str} {lv lv' : LV} {a : Addr} (hl : cx.vars.lookup x = some lv) (hx : ow x = [a]) (hv : ∀ v, LvR prog w F ρ h (ow x) v lv → v = .ref a)
    (kk : ∀ b o, b ≠ a → h.get? b = some o → h'.get? b = some o) (hl' : LvR prog w F ρ h' [a] (.ref a) lv') (live : ∃ o, h'.get? a = some o) : In0 prog w B P Fz ρz hz Pr F ρ st h' env { cx with vars := (x, lv') :: cx.vars } ow := by
  refine Og.cps fun G kG => ?_
  refine O05 (I.R.own x a (by exact hx ▸ .head _)) ?_; rintro q1 q2 q3 q4 q5
  have kT : ∀ b o, ¬ (b = a) → h.get? b = some o → h'.get? b = some o := kk
  refine kG ?_
  clear kG
  refine ⟨I.S.touch (· = a) (fun b z => z ▸ I.O x a (by exact hx ▸ .head _)) kT, I.G.touch (· = a) (fun b z => z ▸ Og.I03 q1 q2 q3) kT, ?_, I.T, I.O, fun b ob e => by
    refine O06 (I.K b ob e) ?_; rintro k1 k2 k3 k4 k5 k6
    exact Og.I06 (kk b ob (fun z => k6 x (by exact hx ▸ z ▸ .head _)) k1) k2 k3 k4 k5 k6, I.M⟩
  have kL : ∀ o, h.get? env.locals = some o → h'.get? env.locals = some o := fun o e => kk _ o q4.symm e
  have kC : ∀ y c, env.cells.lookup y = some c → ∀ o, h.get? c = some o → h'.get? c = some o := fun y c hc o e => kk c o (q5 y c hc).symm e
  obtain ⟨m0, hn0⟩ := I.R.lns
  have vk : ∀ y v, VarAt h env y v → VarAt h' env y v := fun y v V => by
    rcases V with ⟨z, m, qn, qv⟩ | ⟨z, c, qc, qv⟩
    · exact .inl ⟨z, m, Ns.keep qn kL, qv⟩
    · exact .inr ⟨z, c, qc, IsCell.keep qv (kC y c qc)⟩
  have lv0 : ∀ b, (∃ o, h.get? b = some o) → ∃ o, h'.get? b = some o := fun b zz => zz.elim fun o e => by
    by_cases z : b = a
    · clear hx hv kk hl' q1 q2 q3 q4 q5 kT; subst z; exact live
    · exact ⟨o, kk b o z e⟩
  refine ⟨I.R.kind, I.R.glob, I.R.ks, I.R.free, ⟨m0, Ns.keep hn0 kL⟩, fun y lvy hy => ?_, I.R.lok, fun y hy => ?_, I.R.capart, fun y c hc => lv0 c (I.R.clt y c hc), I.R.own, I.R.oinj, fun y b hb => lv0 b (I.R.below y b hb), I.R.lamc⟩
  · by_cases z : y = x
    · subst z
      rw [List.lookup_cons] at hy
      rw [beq_self_eq_true] at hy
      (replace hy := Option.some.inj hy; subst hy)
      refine O12 (I.R.var y lv hl) ?_; rintro v V L
      have := hv v L
      subst this
      exact Og.I12 _ (vk y _ V) (hx ▸ hl')
    · rw [List.lookup_cons, show (y == x) = false from by simpa using z] at hy
      refine O12 (I.R.var y lvy hy) ?_; rintro v V L
      exact Og.I12 v (vk y v V) (L.keep (fun D0 D1 z => z) (fun D0 D1 z => z) fun b hb o e => kk b o (fun zz => z (I.R.oinj y x b hb (by exact zz ▸ hx ▸ .head _))) e)
  · refine O23 (I.R.cell y hy) ?_; rintro c v0 e1 e2 e3
    exact Og.I23 c v0 e1 (IsCell.keep e2 (kC y c e1)) e3
theorem setAt_obj {a : Addr} {vs : List Value} {n k : Nat} {v : Value} (ho : h.get? a = some (lstO vs n)) : ∃ n', (h.update a (Obj.mapSeq (·.setIfInBounds k v))).get? a = some (lstO (vs.set k v) n') := by
  have := PySem.IsL.update (n := n) ho (·.setIfInBounds k v)
  rw [show vs.toArray.setIfInBounds k v = (vs.set k v).toArray from by simp] at this
  exact ⟨_, this⟩
theorem RelL.set {v : Value} {a : AV} (Rv : Rel prog w F ρ v a) : ∀ {vs : List Value} {l : List AV} (i : Nat), RelL prog w F ρ vs l → RelL prog w F ρ (vs.set i v) (l.set i a)
  | _, _, _, .nil => by simp; exact .nil
  | _, _, 0, .cons h r => .cons Rv r
  | _, _, i + 1, .cons h r => .cons h (RelL.set Rv i r)
theorem lvOl {o : List Addr} {v : Value} {l : List AV} (L : LvR prog w F ρ h o v (.ol l)) : ∃ a vs n, o = [a] ∧ v = .ref a ∧ h.get? a = some (lstO vs n) ∧ RelL prog w F ρ vs l := L
theorem sub_run {b i v : Expr} {sp pos : Pos} {a q : AV} {r : BR} {st1 st2 st3 : Sto} (h1 : SE prog w B P A v cx st a st1) (h2 : SB prog w B P A b cx st1 r st2) (h3 : SE prog w B P A i cx st2 q st3) (I : In0 prog w B P Fz ρz hz Pr F ρ st s.heap env cx ow) {Q : Flow → Shared → Prop}
    (k : ∀ u x j h' tk F' ρ', In0 prog w B P Fz ρz hz Pr F' ρ' st3 h' env cx ow → Rel prog w F' ρ' u a → BRel prog w F' ρ' h' cx ow x r → Rel prog w F' ρ' j q → wpAny (model prog w) A (setItem x j u) (fun D0 => Q .next) E { s with heap := h', toks := tk }) : wpAny (model prog w) A (exec (.Assign [.Subscript b i sp] v pos) env) Q E s := by
  refine wpAny_Assign_Subscript (h1.run E s F ρ env ow I.G I.R _ fun u h1' tk1 F1 ρ1 S1 G1 Ru => ?_) swaps_sub
  have I1 := I.step S1 G1
  refine h2.run E { s with heap := h1', toks := tk1 } F1 ρ1 env ow G1 I1.R _ fun x h2' tk2 F2 ρ2 S2 G2 Rx => ?_
  have I2 := I1.step S2 G2
  refine h3.run E { s with heap := h2', toks := tk2 } F2 ρ2 env ow G2 I2.R _ fun j h3' tk3 F3 ρ3 S3 G3 Rj => ?_
  exact k u x j h3' tk3 F3 ρ3 (I2.step S3 G3) (S3.rel (S2.rel Ru)) (BRel.step Rx I2.R S3) Rj
theorem own_ref {x : Str} {lv : LV} {v : Value} (hl : cx.vars.lookup x = some lv) (B : BRel prog w F ρ h cx ow v (.own x)) : LvR prog w F ρ h (ow x) v lv := by
  refine O12 B ?_; clear B; rintro lv' e L
  exact Option.some.inj (hl.symm.trans e) ▸ L
theorem ol_ref {o : List Addr} {a : Addr} {l : List AV} (ho : o = [a]) {v : Value} (L : LvR prog w F ρ h o v (.ol l)) : v = .ref a := by
  refine O33 L ?_; clear L; rintro a' _ _ e rfl _
  exact (List.head_eq_of_cons_eq (ho.symm.trans e)) ▸ rfl
theorem od_ref {o : List Addr} {a : Addr} {ks vs : List AV} (ho : o = [a]) {v : Value} (L : LvR prog w F ρ h o v (.od ks vs)) : v = .ref a := by
  refine O33 L ?_; clear L; rintro a' _ _ e rfl _
  exact (List.head_eq_of_cons_eq (ho.symm.trans e)) ▸ rfl
theorem setIdx_ok {l l' : List AV} {i : Int} {a : AV} (h : setIdx l i a = some l') : l' = l.set i.toNat a ∧ 0 ≤ i ∧ i < (l.length : Int) ∧ l.length ≤ big := by
  unfold setIdx at h
  by_cases q : 0 ≤ i ∧ i < (l.length : Int) ∧ l.length ≤ big
  · rw [if_pos (decide_eq_true q)] at h; exact ⟨(Option.some.inj h).symm, q⟩
  · rw [if_neg (by simpa using q)] at h; exact nos h
theorem subL_rule {b i v : Expr} {y : Str} {sp pos : Pos} {a : AV} {m : Int} {l l' : List AV} {st1 st2 st3 : Sto} (h1 : SE prog w B P A v cx st a st1) (h2 : SB prog w B P A b cx st1 (.own y) st2) (h3 : SE prog w B P A i cx st2 (.int m) st3) (hl : cx.vars.lookup y = some (.ol l)) (h4 : setIdx l m a = some l') :
    XS prog w B P A (.Assign [.Subscript b i sp] v pos) cx st (.next { cx with vars := (y, .ol l') :: cx.vars }) st3 := fun E s F ρ env ow Fz ρz hz Pr I Q k => by
  refine O04 (setIdx_ok h4) ?_; clear h4; rintro rfl b1 b2 b3
  refine sub_run h1 h2 h3 I fun u x j h' tk F' ρ' I' Ru Rx Rj => ?_
  refine O34 (lvOl (own_ref hl Rx)) ?_; clear Rx; rintro ad vs nn hox rfl ho L
  have hlen := L.length
  obtain ⟨t, rfl⟩ := Rj.inv
  refine ki_setAt (s := { s with heap := h', toks := tk }) (items := vs.toArray) (n := nn) ho b1 (by have : big = 2 ^ 20 := rfl; omega) (by refine List.size_toArray ▸ ?_; (clear b1 b3; omega)) ?_
  obtain ⟨n', ho'⟩ := setAt_obj (k := m.toNat) (v := u) ho
  exact k _ _ F' ρ' ow (I'.setOwn (h' := h'.update ad (Obj.mapSeq (·.setIfInBounds m.toNat u))) hl hox (fun v' L' => ol_ref hox L') (fun c o hc q => (Heap.SameBut.update h' ad _).extBut c o hc q) (Og.I34 ad _ n' rfl rfl ho' (RelL.set Ru m.toNat L)) ⟨_, ho'⟩) rfl
theorem subD_rule {b i v : Expr} {y : Str} {sp pos : Pos} {a q : AV} {ks vs : List AV} {r : List AV × List AV} {st1 st2 st3 : Sto} (h1 : SE prog w B P A v cx st a st1) (h2 : SB prog w B P A b cx st1 (.own y) st2) (h3 : SE prog w B P A i cx st2 q st3) (hl : cx.vars.lookup y = some (.od ks vs))
    (hk : keyPlain q = true) (hsz : ks.length ≤ big) (h4 : putK q a ks vs = some r) : XS prog w B P A (.Assign [.Subscript b i sp] v pos) cx st (.next { cx with vars := (y, .od r.1 r.2) :: cx.vars }) st3 := fun E s F ρ env ow Fz ρz hz Pr I Q k =>
  sub_run h1 h2 h3 I fun u x j h' tk F' ρ' I' Ru Rx Rj => by
    refine O3_6 (own_ref hl Rx) ?_; clear Rx; rintro ad es nn hox rfl ho hm kr L
    refine dict_set (s := { s with heap := h', toks := tk }) ho kr L hk Rj Ru h4 (by exact (Paired.length kr.pairs) ▸ Nat.le_trans hsz bigLine) fun h4' es' n' tk4 kk ho' kr' L' => ?_
    exact k _ _ F' ρ' ow (I'.setOwn hl hox (fun v' L'' => od_ref hox L'') kk ⟨ad, es', n', rfl, rfl, ho', hm, kr', L'⟩ ⟨_, ho'⟩) rfl
set_option tactic.hygienic true in
theorem subS_rule {b i v : Expr} {sp pos : Pos} {a q : AV} {l : Nat} {ks vs : List AV} {r : List AV × List AV} {st1 st2 st3 : Sto} (h1 : SE prog w B P A v cx st a st1) (h2 : SB prog w B P A b cx st1 (.av (.loc l)) st2) (h3 : SE prog w B P A i cx st2 q st3) (hst : st3[l]? = some (.dict ks vs))
    (hk : keyPlain q = true) (hsz : ks.length ≤ big) (h4 : putK q a ks vs = some r) : XS prog w B P A (.Assign [.Subscript b i sp] v pos) cx st (.next cx) (stSet st3 l (.dict r.1 r.2)) := fun E s F ρ env ow Fz ρz hz Pr I Q k =>
  sub_run h1 h2 h3 I fun u x j h' tk F' ρ' I' Ru Rx Rj => by
    refine O12 (Rel.inv Rx) ?_; clear Rx; rintro ad rfl hr
    refine O23 (I'.G.objs l ad _ hr hst) ?_; rintro es nn ho kr L
    refine dict_set (s := { s with heap := h', toks := tk }) ho kr L hk Rj Ru h4 (by exact (Paired.length kr.pairs) ▸ Nat.le_trans hsz bigLine) fun h4' es' n' tk4 kk ho' kr' L' => ?_
    obtain ⟨G4, S4⟩ := I'.G.setPlace (h' := h4') (m := .dict r.1 r.2) hr kk (Og.I23 es' n' ho' kr' L') ⟨_, ho'⟩
    exact k _ _ F' ρ' ow (I'.step S4 G4) rfl
set_option tactic.hygienic true in
theorem app_run {b e1 : Expr} {apos cpos pos : Pos} {r : BR} {a : AV} {st1 st2 : Sto} (hline : (apos.endLine == cpos.line) = true) (hs : notStar e1 = true) (hb : baseOk b = true) (h1 : SB prog w B P A b cx st r st1) (h2 : SE prog w B P A e1 cx st1 a st2)
    (I : In0 prog w B P Fz ρz hz Pr F ρ st s.heap env cx ow) {Q : Flow → Shared → Prop}
    (k : ∀ x h1' F1 ρ1, In0 prog w B P Fz ρz hz Pr F1 ρ1 st1 h1' env cx ow → BRel prog w F1 ρ1 h1' cx ow x r → ∃ ad vs n, x = .ref ad ∧ h1'.get? ad = some (lstO vs n) ∧ ∀ u h2' tk2 F2 ρ2, Step P NoX F1 ρ1 h1' F2 ρ2 h2' → In0 prog w B P Fz ρz hz Pr F2 ρ2 st2 h2' env cx ow → Rel prog w F2 ρ2 u a →
      wpAny (model prog w) A (call (.builtin "list.append") [.ref ad, u]) (fun v s' => match v with | .ref _ => False | _ => Q .next s') E { s with heap := h2', toks := tk2 }) :
    wpAny (model prog w) A (exec (.Expr (.Call (.Attribute b "append" apos) [e1] [] cpos) pos) env) Q E s := by
  refine wpAny_Expr (wpAny_Call_append (baseOk_eq hb _ _) ?_ hline ?_ ?_) (by unfold interactive; refine I.R.kind ▸ ?_; rfl) rfl
  · rw [backTo_all (by simp [hs])]; rfl
  · refine (starEach_cons hs) ▸ ?_; rfl
  refine h1.run E s F ρ env ow I.G I.R _ fun x h1' tk1 F1 ρ1 S1 G1 Rx => ?_
  have I1 := I.step S1 G1
  refine O33 (k x h1' F1 ρ1 I1 Rx) ?_; rintro ad vs n hx ho kk
  exact Og.I23 ad vs.toArray hx ⟨_, n, ho, rfl, rfl, rfl⟩ (h2.run E { s with heap := h1', toks := tk1 } F1 ρ1 env ow G1 I1.R _ fun u h2' tk2 F2 ρ2 S2 G2 Ru => kk u h2' tk2 F2 ρ2 S2 (I1.step S2 G2) Ru)
theorem snoc_obj {h : Heap} {ad : Addr} {vs : List Value} {u : Value} (hp : ∃ n, h.get? ad = some { cls := .type "list", data := .seq (vs.toArray.push u) n }) : ∃ n, h.get? ad = some (lstO (vs ++ [u]) n) :=
  hp.elim fun n e => ⟨n, by rw [e]; simp⟩
theorem appO_rule {b e1 : Expr} {apos cpos pos : Pos} {y : Str} {l : List AV} {a : AV} {st1 st2 : Sto} (hline : (apos.endLine == cpos.line) = true) (hs : notStar e1 = true) (hb : baseOk b = true) (h1 : SB prog w B P A b cx st (.own y) st1) (h2 : SE prog w B P A e1 cx st1 a st2)
    (hl : cx.vars.lookup y = some (.ol l)) (hsz : l.length ≤ big) : XS prog w B P A (.Expr (.Call (.Attribute b "append" apos) [e1] [] cpos) pos) cx st (.next { cx with vars := (y, .ol (l ++ [a])) :: cx.vars }) st2 := fun E s F ρ env ow Fz ρz hz Pr I Q k =>
  app_run hline hs hb h1 h2 I fun x h1' F1 ρ1 I1 Rx => by
    refine O34 (lvOl (own_ref hl Rx)) ?_; clear Rx; rintro ad vs nn hox rfl ho L
    refine Og.I33 ad vs nn rfl ho (fun u h2' tk2 F2 ρ2 S2 I2 Ru => ?_)
    have own := I1.R.own y ad (by exact hox ▸ .head _)
    refine wpAny_list_append_plain (s := { s with heap := h2', toks := tk2 }) ⟨nn, (S2.keep ad _ ho own.2.1 own.2.2.1 id)⟩ (fun h3' hp hs3 => ?_) (by exact List.size_toArray ▸ L.length ▸ Nat.le_trans hsz bigLine)
    obtain ⟨n3, hp⟩ := snoc_obj hp
    exact k h3' tk2 F2 ρ2 ow (I2.setOwn hl hox (fun v' L' => ol_ref hox L') (fun c o hcc q => hs3.extBut c o hcc q) (Og.I34 ad _ n3 rfl rfl hp ((S2.relL L).append (.cons Ru .nil))) ⟨_, hp⟩) rfl
set_option tactic.hygienic true in
theorem appS_rule {b e1 : Expr} {apos cpos pos : Pos} {l : Nat} {l0 l' : List AV} {a : AV} {st1 st2 : Sto} (hline : (apos.endLine == cpos.line) = true) (hs : notStar e1 = true) (hb : baseOk b = true) (h1 : SB prog w B P A b cx st (.av (.loc l)) st1) (h2 : SE prog w B P A e1 cx st1 a st2)
    (hst0 : st1[l]? = some (.list l0)) (hst : st2[l]? = some (.list l')) (hsz : l'.length ≤ big) : XS prog w B P A (.Expr (.Call (.Attribute b "append" apos) [e1] [] cpos) pos) cx st (.next cx) (stSet st2 l (.list (l' ++ [a]))) := fun E s F ρ env ow Fz ρz hz Pr I Q k =>
  app_run hline hs hb h1 h2 I fun x h1' F1 ρ1 I1 Rx => by
    refine O12 (Rel.inv Rx) ?_; clear Rx; rintro ad rfl hr
    refine O22 (I1.G.objs l ad _ hr hst0) ?_; rintro vs0 n0 ho0 _
    refine Og.I33 ad vs0 n0 rfl ho0 (fun u h2' tk2 F2 ρ2 S2 I2 Ru => ?_)
    have hr2 := S2.refs l ad hr
    refine O22 (I2.G.objs l ad _ hr2 hst) ?_; rintro vs nn ho L
    refine wpAny_list_append_plain (s := { s with heap := h2', toks := tk2 }) ⟨nn, ho⟩ (fun h3' hp hs3 => ?_) (by exact List.size_toArray ▸ L.length ▸ Nat.le_trans hsz bigLine)
    obtain ⟨n3, hp⟩ := snoc_obj hp
    obtain ⟨G3, S3⟩ := I2.G.setPlace (h' := h3') (m := .list (l' ++ [a])) hr2 (fun c o hcc q => hs3.extBut c o hcc q) (Og.I22 _ n3 hp (L.append (.cons Ru .nil))) ⟨_, hp⟩
    exact k h3' tk2 F2 ρ2 ow (I2.step S3 G3) rfl
end
end Og
end
section
set_option maxRecDepth 100000
namespace Og
open PySem PySem.W PyProof.Rows PySem.Calls PySem.Spec PySem.SeqAt
section
variable {prog : Program} {w : World} {K : Frag} {p : Program} {loose : List Str} {mg mb : Str → Option Value} {B : Heap} {cL P : Addr} {F F' Fz : Fro} {Pr : Bk} {ρ ρ' ρz : List Addr} {st st' : Sto} {A : Around} {E : Value → Shared → Prop} {s : Shared} {h h' hz : Heap} {env : Env} {cx : Cx} {ow : Str → List Addr}
theorem zipA_len (xs ys : List AV) : (zipA xs ys).length ≤ xs.length := by unfold zipA; rw [List.length_map, List.length_zip]; exact Nat.min_le_left _ _
theorem zip_fp {z TI TO i1 i2 l1 l2 : Addr} {o1 o2 : Obj} (Fa : F l1 = some o1) (Fb : F l2 = some o2) : ∀ b ∈ [z, TI, TO, i1, i2, l1, l2], b ∈ [z, TI, TO, i1, i2] ∨ ∃ o, F b = some o := fun b hb => by
  have hb : b ∈ [z, TI, TO, i1, i2] ++ [l1, l2] := hb
  rcases List.mem_append.mp hb with q | q
  · exact .inl q
  · rcases List.mem_cons.mp q with q | q
    · exact .inr ⟨_, q ▸ Fa⟩
    · exact .inr ⟨_, List.mem_singleton.mp q ▸ Fb⟩
/-- an expression at the end of a frame -/
noncomputable def RS (prog : Program) (w : World) (B : Heap) (P : Addr) (A : Around) (e : Expr) (cx : Cx) (st : Sto) (a : AV) (st' : Sto) : Prop :=
  ∀ (E : Value → Shared → Prop) (s : Shared) F ρ env ow Fz ρz hz Pr, In0 prog w B P Fz ρz hz Pr F ρ st s.heap env cx ow → ∀ Q : Value → Shared → Prop,
    (∀ v h' tk F' ρ', Step P NoX Fz ρz hz F' ρ' h' → GR prog w B P F' ρ' st' h' → Rel prog w F' ρ' v a → Q v { s with heap := h', toks := tk }) → wpAny (model prog w) A (eval e env) Q E s
/-- a comprehension over a zip that is a name's own -/
theorem ret_zip (hh : A.handled = none) {elt : Expr} {ts : List Expr} {tc : Nat} {tp px pos : Pos} {x : Str} {ifs : List Expr} {sc : Scope} {xs ys out : List AV}
    (hl : cx.vars.lookup x = some (.oz xs ys)) (hok : compOk sc = true) (hf : freeOk cx sc = true) (hifs : ifs.length ≤ 1) (hsz : xs.length ≤ big) (hx : (x == ("__debug__" : Str) || x == ("__classdict__" : Str)) = false)
    (e : CompR (compVars cx sc) (.Tuple ts tc tp) (fun cx => AndR (fun c => ST prog w B P A c cx) ifs) (SE prog w B P A elt) (zipA xs ys) st out st') :
    RS prog w B P A (.ListComp elt [⟨.Tuple ts tc tp, .Name x px, ifs, 0⟩] sc pos) cx st (.lst out) st' := fun E s F ρ env ow Fz ρz hz Pr I Q k => by
  rw [Bool.or_eq_false_iff] at hx
  rw [arm_eval_ListComp]
  refine wpAny_comprehension_free (g := ⟨.Tuple ts tc tp, .Name x px, ifs, 0⟩) (gs := []) (cl := closL env.cells sc.names []) rfl (fun D0 => rfl) (closureFor_eq fun y hy hk => (clos_ok I.R hf y hy hk).2) (compOk_kind hok) (fun y hy hyl => ?_) ?_
  · obtain ⟨y, kk⟩ := y
    subst hyl
    exact compOk_at hok hy
  refine (?_ : wpAny _ _ (eval (.Name x px) env) _ _ _)
  refine wpAny_Name (var_sound I.R hl hx.2 fun v L => ?_) hx.1
  refine Og.cps fun G kG => ?_
  obtain ⟨z, TI, TO, i1, i2, l1, l2, us, vs, n, m, hox, rfl, Z, Fa, Fb, La, Lb⟩ := L
  refine O06 Z ?_; clear Z; rintro z1 z2 z3 z4 z5 z6
  have W := Src.zip (prog := prog) (w := w) (A := A) hh (elts := ts) (k := tc) (pos := tp) z6 La Lb
  have hSt : (fun i h => IsZip h z TI TO .none ∧ IsPair h TI (.ref i1) (.ref i2) ∧ (∃ a b, IsPair h TO a b) ∧ h.IsListIter i1 l1 i ∧ h.IsListIter i2 l2 i ∧ h.IsList l1 us.toArray ∧ h.IsList l2 vs.toArray) 0 s.heap :=
    Og.I07 z1 z2 ⟨_, _, z3⟩ z4 z5 (isList_of I.G.fz' Fa) (isList_of I.G.fz' Fb)
  refine kG ?_
  clear kG
  refine W.self 0 s _ _ hSt ?_
  refine comp_core (Fz := Fz) (ρz := ρz) (hz := hz) hh hifs hok hf I.G I.R W hSt I.S (fun b hb => ?_) (zip_fp Fa Fb) (Nat.le_trans (zipA_len _ _) hsz) e ?_
  · have hb' : b ∈ ow x := by exact hox ▸ hb
    refine O05 (I.R.own x b hb') ?_; rintro q1 q2 q3 _ q5
    exact Og.I05 (I.O x b hb') q1 q2 q3 (fun y c hc zz => q5 y c hc zz.symm)
  · intro Da C h' tk F' ρ' S' G' R' hm hC
    obtain ⟨m', hm⟩ := hm
    refine Og.I12 m' hm (fun h'' hs => ?_)
    have kC : ∀ b o, ¬ (b = C) → h'.get? b = some o → h''.get? b = some o := fun b o nn q => hs.extBut b o nn q
    exact k _ h'' tk F' ρ' (S'.touch (· = C) (fun b q => q ▸ I.S.dead hC.2.2.2) kC) (G'.touch (· = C) (fun b q => q ▸ Og.I03 hC.1 hC.2.1 hC.2.2.1) kC) R'
set_option tactic.hygienic true in
inductive ForR (t : Expr) (p : Cx → Sto → Fl → Sto → Prop) : List AV → Cx → Sto → Fl → Sto → Prop
  | nil {cx : Cx} {st : Sto} : ForR t p [] cx st (.next cx) st
  | ret {a v : AV} {l : List AV} {cx cx1 : Cx} {st st1 : Sto} : assignT cx t a = some cx1 → p cx1 st (.ret v) st1 → ForR t p (a :: l) cx st (.ret v) st1
  | next {a : AV} {l : List AV} {cx cx1 cx2 : Cx} {st st1 st' : Sto} {fl : Fl} : assignT cx t a = some cx1 → p cx1 st (.next cx2) st1 → ForR t p l cx2 st1 fl st' → ForR t p (a :: l) cx st fl st'
set_option tactic.hygienic true in
theorem ForR.imp {t : Expr} {p q : Cx → Sto → Fl → Sto → Prop} (f : ∀ cx st fl st', p cx st fl st' → q cx st fl st') {l : List AV} {cx : Cx} {st : Sto} {fl : Fl} {st' : Sto} (h : ForR t p l cx st fl st') : ForR t q l cx st fl st' := by
  induction h with
  | nil => exact .nil
  | ret h1 h2 => exact .ret h1 (f _ _ _ _ h2)
  | next h1 h2 _ ih => exact .next h1 (f _ _ _ _ h2) ih
set_option tactic.hygienic true in
noncomputable def ForN (t : Expr) (p : Cx → Sto → Fl → Sto → Prop) (l : List AV) (st1 : Sto) (fl : Fl) (st' : Sto) : Fl → Prop
  | .next cx2 => ForR t p l cx2 st1 fl st'
  | .ret v => fl = .ret v ∧ st' = st1
set_option tactic.hygienic true in
theorem ForR.inv {t : Expr} {p : Cx → Sto → Fl → Sto → Prop} {a : AV} {l : List AV} {cx : Cx} {st : Sto} {fl : Fl} {st' : Sto} (h : ForR t p (a :: l) cx st fl st') :
    ∃ cx1 f1 st1, assignT cx t a = some cx1 ∧ p cx1 st f1 st1 ∧ ForN t p l st1 fl st' f1 := by
  cases h with
  | ret h1 h2 => exact ⟨_, _, _, h1, h2, rfl, rfl⟩
  | next h1 h2 h3 => exact Og.I33 _ _ _ h1 h2 h3
set_option tactic.hygienic true in
/-- a loop's turns -/
theorem for_loop {t : Expr} {body : List Stmt} {I : Addr} {fp wr : List Addr} {lz : List AV} {Fs : Fro} {ρs : List Addr} {St : Nat → Heap → Prop} {R : Result → Shared → Prop} {Q : Flow → Shared → Prop} {sc : Scope} {s0 : Shared}
    (hh : A.handled = none) (W : Src prog w A t I fp wr lz Fs ρs St) (hR : ∀ f s', Q f s' → R (.ok f) s') (hPr : ∀ b ∈ wr, Pr.pr b = none) (fl : Fl) (st' : Sto) (kQ : FlQ prog w B P Fz ρz hz Pr sc s0 st' env fl Q) :
    ∀ (l : List AV) (i : Nat), lz.drop i = l → i + l.length = lz.length → ∀ (cx : Cx) (st : Sto), ForR t (SL prog w B P A body) l cx st fl st' → cx.sc = sc →
      ∀ (h : Heap) (tk : Nat) (F : Fro) (ρ : List Addr) (ow : Str → List Addr), In0 prog w B P Fz ρz hz Pr F ρ st h env cx ow → (∀ a o, Fs a = some o → F a = some o) → (∀ (i : Nat) (a : Addr), ρs[i]? = some a → ρ[i]? = some a) →
        St i h → (∀ b ∈ wr, F b = none ∧ b ∉ ρ ∧ b ≠ P ∧ ¬ Touch env cx b ∧ (∀ y, b ∉ ow y) ∧ hz.get? b = none ∧ b ≠ env.locals ∧ ∀ x c, env.cells.lookup x = some c → c ≠ b) → (∀ b ∈ fp, b ∈ wr ∨ ∃ o, F b = some o) →
        codeAny (model prog w) A (.forLoop t (.ref I) body [] env) R { s0 with heap := h, toks := tk } := by
  intro l
  induction l with
  | nil =>
    intro i hi hlen cx st e hsc h tk F ρ ow I0 hs hr hSt fw ffp
    refine codeAny_of_tree ?_
    refine (?_ : wpAny _ _ ((forTurn t (.ref I) body [] env).onRaise (fun x => do noteFrame x env; theTreesLotGoes x)) _ _ _)
    refine wpAny_noted ?_
    delta forTurn
    have hlen' : i = lz.length := by simpa using hlen
    subst hlen'
    refine wpAny_bind (wpAny_standAt (wpAny_bind (wpAny_onRaise (wpAny_mono (W.done _ _ (fun e s' => notedBy (model prog w) A env (fun e s' => R (.error e) s') e s') hSt fun h1 tk1 kk => ?_) (fun _ _ q => q) fun _ _ h' => wpAny_standAt h'))))
    refine wpAny_pure ⟨rfl, codeAny_block (wpAny_execs_nil (hR _ _ ?_))⟩
    refine Og.cps fun G kG => ?_
    cases e
    refine kG ?_
    clear kG
    refine kQ h1 tk1 F ρ ow ⟨I0.S.touch (· ∈ wr) (fun b q => (fw b q).2.2.2.2.2.1) kk, I0.G.touch (· ∈ wr) (fun b q => Og.I03 ((fw b q).1) ((fw b q).2.1) ((fw b q).2.2.1)) kk, I0.R.touch (· ∈ wr) kk (fun q => (fw _ q).2.2.2.2.2.2.1 rfl) (fun x c q z => (fw c z).2.2.2.2.2.2.2 x c q rfl) (fun x a ha q => (fw a q).2.2.2.2.1 x ha), I0.T, I0.O, fun b o e => ?_, I0.M⟩ hsc
    obtain ⟨k1, k2⟩ := I0.K b o e
    exact ⟨kk b o (fun q => by rw [hPr b q] at e; exact nos e) k1, k2⟩
  | cons a l ih =>
    intro i hi hlen cx st e hsc h tk F ρ ow I0 hs hr hSt fw ffp
    refine codeAny_of_tree ?_
    refine (?_ : wpAny _ _ ((forTurn t (.ref I) body [] env).onRaise (fun x => do noteFrame x env; theTreesLotGoes x)) _ _ _)
    refine wpAny_noted ?_
    delta forTurn
    refine Og.cps fun G kG => ?_
    have hia : lz[i]? = some a := by refine (List.head?_drop) ▸ hi ▸ ?_; rfl
    have hdrop : lz.drop (i + 1) = l := by
      have : (lz.drop i).drop 1 = l := by refine hi ▸ ?_; rfl
      rw [List.drop_drop] at this; exact this
    have hlen' : i + 1 + l.length = lz.length := by rw [List.length_cons] at hlen; omega
    refine O33 e.inv ?_; rintro cx1 f1 st1 e1 e2 g2
    clear e
    refine kG ?_
    clear kG
    refine wpAny_bind (wpAny_standAt (wpAny_bind (wpAny_onRaise (wpAny_mono (W.item i a _ (fun v s₂ => wpAny (model prog w) A (assign t env v >>= fun _ => execs body env >>= fun f => match f with
        | .next | .cont => again (.forLoop t (.ref I) body [] env)
        | .brk => pure (.done .next)
        | .ret v => pure (.done (.ret v))) (fun fin s' => match fin with
          | .done f => R (.ok f) s'
          | .again c' => c'.quiet = true ∧ codeAny (model prog w) A c' R s') (notedBy (model prog w) A env fun e s' => R (.error e) s') s₂) (notedBy (model prog w) A env fun e s' => R (.error e) s') hia hSt fun v h1 tk1 hv hSt1 kk => ?_) (fun r s₁ h₁ => ?_) fun _ _ h' => wpAny_standAt h'))))
    · have I1 : In0 prog w B P Fz ρz hz Pr F ρ st h1 env cx ow := ⟨I0.S.touch (· ∈ wr) (fun b q => (fw b q).2.2.2.2.2.1) kk, I0.G.touch (· ∈ wr) (fun b q => Og.I03 ((fw b q).1) ((fw b q).2.1) ((fw b q).2.2.1)) kk, I0.R.touch (· ∈ wr) kk (fun q => (fw _ q).2.2.2.2.2.2.1 rfl) (fun x c q z => (fw c z).2.2.2.2.2.2.2 x c q rfl) (fun x a ha q => (fw a q).2.2.2.2.1 x ha), I0.T, I0.O, fun b o e => by
          obtain ⟨k1, k2⟩ := I0.K b o e
          exact ⟨kk b o (fun q => by rw [hPr b q] at e; exact nos e) k1, k2⟩, I0.M⟩
      -- the iterator's objects, as they stand now, are let alone by the body
      have I2 : In0 prog w B P Fz ρz hz ⟨fun b => if b ∈ wr then h1.get? b else Pr.pr b, F, ρ⟩ F ρ st h1 env cx ow := ⟨I1.S, I1.G, I1.R, I1.T, I1.O, fun b o e => by
        by_cases q : b ∈ wr
        · have e : (if b ∈ wr then h1.get? b else Pr.pr b) = some o := e
          rw [if_pos q] at e
          refine O06 (fw b q) ?_; rintro f1 f2 f3 f4 f5 _
          exact Og.I06 e f1 f2 f3 f4 f5
        · have e : (if b ∈ wr then h1.get? b else Pr.pr b) = some o := e
          rw [if_neg q] at e
          exact I1.K b o e, fun _ _ z => z, fun _ _ z => z⟩
      have hv' : ItemR prog w t F ρ h1 v a := by
        rcases hv with q | ⟨T, vs, l, q1, q2, q3, q4, q5⟩
        · exact .inl (q.mono hs hr)
        · exact .inr (Og.I35 T vs l q1 q2 q3 (q4.mono hs hr) q5)
      refine wpAny_bind (I2.assign (s := { s0 with heap := h1, toks := tk1 }) hh e1 hv' fun h2 tk2 ow2 I3 hsc2 k2 => ?_)
      have back : ∀ {F' ρ' st' h' cx' ow'}, In0 prog w B P Fz ρz hz ⟨fun b => if b ∈ wr then h1.get? b else Pr.pr b, F, ρ⟩ F' ρ' st' h' env cx' ow' → In0 prog w B P Fz ρz hz Pr F' ρ' st' h' env cx' ow' := fun J =>
        ⟨J.S, J.G, J.R, J.T, J.O, fun b o e => J.K b o (by
          refine (?_ : (if b ∈ wr then h1.get? b else Pr.pr b) = some o)
          refine (if_neg (fun q => by rw [hPr b q] at e; exact nos e)) ▸ ?_; exact e), fun a o e => J.M.1 a o (I1.M.1 a o e), fun i a e => J.M.2 i a (I1.M.2 i a e)⟩
      refine wpAny_bind (e2 _ { s0 with heap := h2, toks := tk2 } F ρ env ow2 Fz ρz hz _ I3 _ ?_)
      cases f1 with
      | next cx2 =>
        intro h3 tk3 F3 ρ3 ow3 I4 hsc3
        refine wpAny_pure ⟨rfl, ?_⟩
        -- what stays of the loop's own ground
        have at3 : ∀ b ∈ wr, ∀ o, h1.get? b = some o → h3.get? b = some o ∧ F3 b = none ∧ b ∉ ρ3 ∧ b ≠ P ∧ ¬ Touch env cx2 b ∧ ∀ y, b ∉ ow3 y := fun b hb o e => I4.K b o (by
          refine (?_ : (if b ∈ wr then h1.get? b else Pr.pr b) = some o)
          refine (if_pos hb) ▸ ?_; exact e)
        have Fm : ∀ a o, F a = some o → F3 a = some o := I4.M.1
        have Rm : ∀ (i : Nat) (a : Addr), ρ[i]? = some a → ρ3[i]? = some a := I4.M.2
        have hsc' : cx2.sc = cx.sc := hsc3.trans hsc2
        refine ih (i + 1) hdrop hlen' cx2 st1 g2 (hsc'.trans hsc) h3 tk3 F3 ρ3 ow3 (back I4) (fun b o q => Fm b o (hs b o q)) (fun j b q => Rm j b (hr j b q)) (W.frame _ _ _ hSt1 fun b hb o q => ?_) (fun b hb => ?_) fun b hb => (ffp b hb).imp id fun zz => zz.elim fun o q => ⟨o, Fm b o q⟩
        · rcases ffp b hb with z | ⟨o', z⟩
          · exact (at3 b z o q).1
          · have := I1.G.fz' b o' z
            (replace this := Option.some.inj (q.symm.trans this); subst this)
            exact I4.G.fz' b _ (Fm b _ z)
        · obtain ⟨o, q⟩ := (fun b hb => W.live _ _ hSt1 b (W.sub b hb) : ∀ b ∈ wr, ∃ o, h1.get? b = some o) b hb
          refine O06 (at3 b hb o q) ?_; rintro _ q2 q3 q4 q5 q6
          refine O08 (fw b hb) ?_; rintro _ _ _ _ _ f6 f7 f8
          exact Og.I08 q2 q3 q4 q5 q6 f6 f7 f8
      | ret v1 =>
        intro v2 h3 tk3 F3 ρ3 S3 G3 R3
        refine Og.cps fun G kG => ?_
        clear ih e2; obtain ⟨rfl, rfl⟩ := g2
        refine kG ?_
        clear kG
        exact wpAny_pure (hR _ _ (kQ v2 h3 tk3 F3 ρ3 S3 G3 R3))
    · refine O12 h₁ ?_; clear h₁; rintro v rfl hv
      exact wpAny_bind hv
end
end Og
end
section
set_option maxRecDepth 100000
namespace Og
open PySem PySem.W PyProof.Rows PySem.Calls PySem.Spec PySem.SeqAt
section
variable {prog : Program} {w : World} {K : Frag} {p : Program} {loose : List Str} {mg mb : Str → Option Value} {B : Heap} {cL P : Addr} {F F' Fz : Fro} {Pr : Bk} {ρ ρ' ρz : List Addr} {st st' : Sto} {A : Around} {E : Value → Shared → Prop} {s : Shared} {h h' hz : Heap} {env : Env} {cx : Cx} {ow : Str → List Addr}
theorem forI_rule (hh : A.handled = none) {t it : Expr} {body : List Stmt} {pos : Pos} {a : AV} {l : List AV} {st2 : Sto} {fl : Fl} (h1 : SE prog w B P A it cx st a st2) (h2 : iterA st2 a = some l) (h3 : ForR t (SL prog w B P A body) l cx st2 fl st') :
    XS prog w B P A (.For t it body [] pos) cx st fl st' := fun E s F ρ env ow Fz ρz hz Pr I Q k => by
  refine wpAny_For (h1.run E s F ρ env ow I.G I.R _ fun v h' tk F1 ρ1 S G R => ?_) (fold_pure h1.ns)
  have I1 := I.step S G
  refine iter_sound (s := { s with heap := h', toks := tk }) (t := t) hh G h2 R fun Ia fp wr St h2' tk2 W hSt hwr hfp kk hsz => ?_
  refine for_loop (s0 := s) (sc := cx.sc) hh W (fun f s' q => q) (fun b hb => (I1.fresh (hwr b hb)).2.2.2.2.2.2.2) fl st' k l 0 rfl (by simp) cx st2 h3 rfl h2' tk2 F1 ρ1 ow (In0.keeps (h' := h2') I1 kk) (fun D0 D1 z => z) (fun D0 D1 z => z) hSt (fun b hb => ?_) hfp
  refine O08 (I1.fresh (hwr b hb)) ?_; rintro f1 f2 f3 f4 f5 f6 f7 f8
  exact Og.I08 f1 f2 f3 (fun z => z.elim f4 fun ⟨y, _, z⟩ => f5 y b z rfl) f6 f7 f4 (fun x c q z => f5 x c q z.symm)
theorem forZ_rule (hh : A.handled = none) {f : Str} {fp cp tp pos : Pos} {e1 e2 : Expr} {ts : List Expr} {tc : Nat} {body : List Stmt} {xs ys : List AV} {st2 st3 st4 : Sto} {fl : Fl} (hs1 : notStar e1 = true) (hs2 : notStar e2 = true)
    (h1 : SE prog w B P A (.Name f fp) cx st (.val (.type "zip")) st2) (h2 : SE prog w B P A e1 cx st2 (.lst xs) st3) (h3 : SE prog w B P A e2 cx st3 (.lst ys) st4) (h4 : ForR (.Tuple ts tc tp) (SL prog w B P A body) (zipA xs ys) cx st4 fl st') :
    XS prog w B P A (.For (.Tuple ts tc tp) (.Call (.Name f fp) [e1, e2] [] cp) body [] pos) cx st fl st' := fun E s F ρ env ow Fz ρz hz Pr I Q k => by
  refine wpAny_For (callT2 hs1 hs2 h1 h2 h3 I.G I.R fun u1 u2 h' tk F1 ρ1 S G R1 R2 => ?_) (fun D0 => rfl)
  have I1 := I.step S G
  refine zip_own (s := { s with heap := h', toks := tk }) G R1 R2 fun h2' z o tk2 L hd kk => ?_
  have I2 := In0.keeps (h' := h2') I1 kk
  obtain ⟨z, TI, TO, i1, i2, l1, l2, us, vs, n', m, hox, rfl, Z, Fa, Fb, La, Lb⟩ := L
  refine O06 Z ?_; clear Z; rintro z1 z2 z3 z4 z5 z6
  have W := Src.zip (prog := prog) (w := w) (A := A) hh (elts := ts) (k := tc) (pos := tp) z6 La Lb
  have hSt : (fun i h => IsZip h z TI TO .none ∧ IsPair h TI (.ref i1) (.ref i2) ∧ (∃ a b, IsPair h TO a b) ∧ h.IsListIter i1 l1 i ∧ h.IsListIter i2 l2 i ∧ h.IsList l1 us.toArray ∧ h.IsList l2 vs.toArray) 0 h2' :=
    Og.I07 z1 z2 ⟨_, _, z3⟩ z4 z5 (isList_of I2.G.fz' Fa) (isList_of I2.G.fz' Fb)
  refine W.self 0 _ _ _ hSt ?_
  have dead : ∀ b ∈ [z, TI, TO, i1, i2], h'.get? b = none := fun b hb => (hd b (by rw [hox]; exact hb)).1
  refine for_loop (s0 := s) (sc := cx.sc) hh W (fun f s' q => q) (fun b hb => (I1.fresh (dead b hb)).2.2.2.2.2.2.2) fl st' k (zipA xs ys) 0 rfl (by simp) cx st4 h4 rfl h2' tk2 F1 ρ1 ow I2 (fun D0 D1 z => z) (fun D0 D1 z => z) hSt (fun b hb => ?_) (zip_fp Fa Fb)
  refine O08 (I1.fresh (dead b hb)) ?_; rintro f1 f2 f3 f4 f5 f6 f7 f8
  exact Og.I08 f1 f2 f3 (fun z => z.elim f4 fun ⟨y, _, z⟩ => f5 y b z rfl) f6 f7 f4 (fun x c q z => f5 x c q z.symm)
end
end Og
end
section
set_option maxRecDepth 100000
namespace Og
open PySem PySem.W PyProof.Rows PySem.Calls PySem.Spec PySem.SeqAt
section
variable {prog : Program} {w : World} {K : Frag} {p : Program} {loose : List Str} {mg mb : Str → Option Value} {B : Heap} {cL P : Addr} {F F' Fz : Fro} {Pr : Bk} {ρ ρ' ρz : List Addr} {st st' : Sto} {A : Around} {E : Value → Shared → Prop} {s : Shared} {h h' hz : Heap} {env : Env} {cx : Cx} {ow : Str → List Addr}
/-- what stands, and is no one's, is fixed at one stroke -/
theorem GR.freezeL (G : GR prog w B P F ρ st h) (l : List Addr) (hl : ∀ a ∈ l, a ∉ ρ ∧ a ≠ P ∧ ∃ o, h.get? a = some o) :
    GR prog w B P (fun b => if b ∈ l then h.get? b else F b) ρ st h ∧ ∀ b o, F b = some o → (if b ∈ l then h.get? b else F b) = some o := by
  have hs : ∀ b o, F b = some o → (if b ∈ l then h.get? b else F b) = some o := fun b o e => by
    by_cases q : b ∈ l
    · exact (if_pos q) ▸ G.fz' b o e
    · exact (if_neg q) ▸ e
  refine ⟨⟨fun b o e => hs b o (G.base b o e), G.mods.elim fun om em => ⟨om, hs _ _ em⟩, fun b o e => ?_, G.len, G.nd, fun a ha => ⟨?_, (G.off a ha).2⟩, fun i a m e1 e2 => ?_, ?_⟩, hs⟩
  · have e : (if b ∈ l then h.get? b else F b) = some o := e
    by_cases q : b ∈ l
    · replace e := (if_pos q) ▸ e; exact ⟨e, (hl b q).2.1⟩
    · replace e := (if_neg q) ▸ e; exact G.fz b o e
  · show (if a ∈ l then h.get? a else F a) = none
    exact (if_neg (fun q => (hl a q).1 ha)) ▸ (G.off a ha).1
  · have M := G.objs i a m e1 e2
    cases m with
    | list l => refine O22 M ?_; clear M; rintro vs n e r; exact Og.I22 vs n e (r.mono hs fun D0 D1 z => z)
    | dict ks vs => refine O23 M ?_; clear M; rintro es n e k r; exact Og.I23 es n e (k.mono hs) (r.mono hs fun D0 D1 z => z)
    | attrs ks vs => refine O24 M ?_; clear M; rintro es n e k d r; exact Og.I24 es n e k d (r.mono hs fun D0 D1 z => z)
  · refine O13 G.tab ?_; rintro ps e t q
    refine Og.I13 ps e t (fun pos cv z => ?_)
    refine O43 (q pos cv z) ?_; rintro c o vs tt z1 z2 z3
    exact Og.I43 c o vs tt z1 (hs _ _ z2) z3
theorem GR.build (G : GR prog w B P F ρ st h) {h2 : Heap} (hx : ∀ a o, a ≠ P → h.get? a = some o → h2.get? a = some o) (l : List Addr) (hl : ∀ a ∈ l, a ∉ ρ ∧ a ≠ P ∧ ∃ o, h2.get? a = some o)
    (htab : ∃ ps, h2.get? P = some (tabObj ps) ∧ TriplesOk ps.toList ∧ ∀ pos cv, codeAmong pos ps.toList = some cv → ∃ c o vs t, cv = .ref c ∧ (if c ∈ l then h2.get? c else F c) = some o ∧ o.data = .fields vs ∧ vs[1]? = some (.str lamQ t)) :
    GR prog w B P (fun b => if b ∈ l then h2.get? b else F b) ρ st h2 ∧ ∀ b o, F b = some o → (if b ∈ l then h2.get? b else F b) = some o := by
  have hs : ∀ b o, F b = some o → (if b ∈ l then h2.get? b else F b) = some o := fun b o e => by
    by_cases q : b ∈ l
    · exact (if_pos q) ▸ hx b o (G.fz b o e).2 (G.fz' b o e)
    · exact (if_neg q) ▸ e
  refine ⟨⟨fun b o e => hs b o (G.base b o e), G.mods.elim fun om em => ⟨om, hs _ _ em⟩, fun b o e => ?_, G.len, G.nd, fun a ha => ⟨?_, (G.off a ha).2⟩, fun i a m e1 e2 => ?_, htab⟩, hs⟩
  · have e : (if b ∈ l then h2.get? b else F b) = some o := e
    by_cases q : b ∈ l
    · rw [if_pos q] at e; exact ⟨e, (hl b q).2.1⟩
    · rw [if_neg q] at e; exact ⟨hx b o (G.fz b o e).2 (G.fz' b o e), (G.fz b o e).2⟩
  · show (if a ∈ l then h2.get? a else F a) = none
    exact (if_neg (fun q => (hl a q).1 ha)) ▸ (G.off a ha).1
  · have hne := (G.off a (List.mem_of_getElem? e1)).2
    have M := G.objs i a m e1 e2
    cases m with
    | list l => refine O22 M ?_; clear M; rintro vs n e r; exact Og.I22 vs n (hx _ _ hne e) (r.mono hs fun D0 D1 z => z)
    | dict ks vs => refine O23 M ?_; clear M; rintro es n e k r; exact Og.I23 es n (hx _ _ hne e) (k.mono hs) (r.mono hs fun D0 D1 z => z)
    | attrs ks vs => refine O24 M ?_; clear M; rintro es n e k d r; exact Og.I24 es n (hx _ _ hne e) k d (r.mono hs fun D0 D1 z => z)
theorem Paired.imp_mem' {α β : Type} {R S : α → β → Prop} {l : List α} {m : List β} (f : ∀ a b, a ∈ l → R a b → S a b) (h : Paired R l m) : Paired S l m := by
  induction h with
  | nil => exact .nil
  | cons h _ ih => exact .cons (f _ _ (.head _) h) (ih fun a b ha => f a b (.tail _ ha))
theorem Step.freezeL {X : Addr → Prop} (S : Step P X F ρ h F' ρ' h') (l : List Addr) (hs : ∀ b o, F' b = some o → (if b ∈ l then h'.get? b else F' b) = some o) (hl : ∀ a ∈ l, h.get? a = none) :
    Step P X F ρ h (fun b => if b ∈ l then h'.get? b else F' b) ρ' h' :=
  ⟨fun b o e => hs b o (S.sub b o e), fun b o e => by
    have e : (if b ∈ l then h'.get? b else F' b) = some o := e
    by_cases q : b ∈ l
    · exact .inr (.inl (hl b q))
    · rw [if_neg q] at e; exact S.new b o e, S.pre, S.keep, S.live⟩
set_option tactic.hygienic true in
theorem codeAmong_app {pos : Pos} {a b : Int} {c cv : Value} (l : List Value) (h : TriplesOk l) (e : codeAmong pos (l ++ [rawInt a, rawInt b, c]) = some cv) : codeAmong pos l = some cv ∨ cv = c := by
  fun_induction TriplesOk l with
  | case1 =>
    simp only [List.nil_append, codeAmong, rawInt] at e
    split at e
    · (replace e := Option.some.inj e; subst e); exact .inr rfl
    · exact nos e
  | case2 a' t b' u x rest ih =>
    simp only [List.cons_append, codeAmong] at e ⊢
    split at e
    · rename_i q; exact (if_pos q) ▸ .inl e
    · rename_i q; exact (if_neg q) ▸ ih h e
  | case3 l h1 h2 => exact h.elim
theorem closL_eq (cells : List (Str × Addr)) : ∀ (names : List (Str × NameKind)) (acc : List (Str × Addr)), closL cells names acc = ((names.filter fun p => p.2 == .free).map fun p => (p.1, (cells.lookup p.1).getD 0)).reverse ++ acc
  | [], acc => rfl
  | (x, k) :: r, acc => by
    unfold closL
    cases q : (k == NameKind.free) with
    | true =>
      rw [if_pos rfl, closL_eq cells r, List.filter_cons, if_pos (by exact q), List.map_cons, List.reverse_cons]
      simp
    | false =>
      rw [if_neg (by simp), closL_eq cells r, List.filter_cons, if_neg (by simp [q])]
theorem closL_zip (cells : List (Str × Addr)) (sc : Scope) : closL cells sc.names [] = (cloNames sc).zip ((cloNames sc).map fun x => (cells.lookup x).getD 0) := by
  rw [closL_eq, List.append_nil]
  have : ∀ l : List Str, l.zip (l.map fun x => (cells.lookup x).getD 0) = l.map fun x => (x, (cells.lookup x).getD 0) := by
    intro l
    induction l with
    | nil => rfl
    | cons a l ih => rw [List.map_cons, List.zip_cons_cons, ih]; rfl
  rw [this]
  unfold cloNames
  rw [List.map_reverse, List.map_map]; rfl
set_option tactic.hygienic true in
theorem cloVals_sound (R : FR prog w P F ρ h env cx ow) : ∀ {ns : List Str} {fvs : List AV}, cloVals cx ns = some fvs →
    (∀ x ∈ ns, cx.sc.names.lookup x = some .cell ∧ ∃ c, env.cells.lookup x = some c) ∧ ∃ vs : List Value, Paired (fun c v => ∃ o, h.get? c = some o ∧ o.data = .cell (some v)) (ns.map fun x => (env.cells.lookup x).getD 0) vs ∧ RelL prog w F ρ vs fvs
  | [], _, e => by (replace e := Option.some.inj e; subst e); exact ⟨fun x hx => (nomatch hx), [], .nil, .nil⟩
  | x :: ns, fvs, e => by
    unfold cloVals at e
    split at e
    · rename_i a l e1 e2
      split at e
      · rename_i hk
        (replace e := Option.some.inj e; subst e)
        have hk : cx.sc.names.lookup x = some .cell := by simpa using hk
        obtain ⟨i1, vs, i2, i3⟩ := cloVals_sound R e2
        refine O12 (R.var x _ e1) ?_; rintro v V L
        rcases V with ⟨q, _⟩ | ⟨_, c, hc, ⟨o, ho, hd⟩⟩
        · replace q := (R.ks _ _ hk (.inr (.inr rfl))) ▸ q; exact absurd q (by decide)
        · refine ⟨fun y hy => ?_, v :: vs, .cons (by show ∃ o, h.get? ((env.cells.lookup x).getD 0) = some o ∧ _; exact hc ▸ Og.I12 o ho hd) i2, .cons L i3⟩
          rcases List.mem_cons.mp hy with rfl | hy
          · exact ⟨hk, c, hc⟩
          · exact i1 y hy
      · exact nos e
    · exact nos e
/-- a function is made, at the end of a function that does nothing after -/
theorem lam_sound (hB : Base prog w K p loose mg mb B cL P) {args : Arguments} {body : Expr} {sc : Scope} {lp : Pos} {fvs : List AV} (I : In0 prog w B P Fz ρz hz Pr F ρ st s.heap env cx ow) (hlam : cx.lam = true) (hok : lamOk args = true) (hcv : cloVals cx (cloNames sc) = some fvs) {Q : Value → Shared → Prop}
    (k : ∀ v h' tk F', (∀ a o, F a = some o → F' a = some o) → Step P NoX Fz ρz hz F' ρ h' → GR prog w B P F' ρ st h' → Rel prog w F' ρ v (.clo args sc body (cloNames sc) fvs) → Q v { s with heap := h', toks := tk }) :
    wpAny (model prog w) A (eval (.Lambda args body sc lp) env) Q E s := by
  obtain ⟨cn, vs, hpair, hrel⟩ := cloVals_sound I.R hcv
  refine O13 (I.R.lamc hlam) ?_; rintro c hcode hq hhd
  refine O13 I.G.tab ?_; rintro ps hP ht htab
  have T := hB.T.keeps I.G.keepB
  have C := hhd s.heap I.G.fz'
  have hdef : defaultsOf args env = ([], []) := by
    unfold lamOk at hok
    simp only [Bool.and_eq_true, List.isEmpty_iff] at hok
    obtain ⟨a1, a2, a3, a4, a5, a6, a7⟩ := args
    have h1 := hok.1.2
    have h2 := hok.2
    dsimp only at h1 h2
    subst h1 h2
    rfl
  have hcl : closureFor sc env = pure (closL env.cells sc.names []) := closureFor_eq fun x hx hk => by
    obtain ⟨x, kd⟩ := x
    dsimp only at hk
    subst hk
    have : x ∈ cloNames sc := by
      unfold cloNames
      rw [List.mem_reverse, List.mem_map]
      exact Og.I12 (x, .free) (List.mem_filter.mpr ⟨hx, rfl⟩) rfl
    exact (cn x this).2
  have hgP : mainGlobals ≠ P := fun q => by
    refine O33 T.g ?_; rintro o es ep e hd _
    replace e := hP ▸ q ▸ e; (replace e := Option.some.inj e; subst e); cases hd
  have hb : s.heap.BuiltinsAt mg P := by
    refine O26 hB.bl ?_; rintro bm o b1 b2 b3 b4 b5 b6
    exact Og.I26 bm o b1 b2 b3 b4 (I.G.keepB _ _ b5) b6
  have cells : ∀ a ∈ (cloNames sc).map (fun x => (env.cells.lookup x).getD 0), a ∉ ρ ∧ a ≠ P ∧ (∃ o, s.heap.get? a = some o) ∧ hz.get? a = none := fun a ha => by
    refine O12 (List.mem_map.mp ha) ?_; rintro x hx rfl
    obtain ⟨hk, c1, hc1⟩ := cn x hx
    refine hc1 ▸ ?_
    refine O23 (I.R.cell x hk) ?_; rintro c2 v0 q1 q2 q3
    (replace q1 := Option.some.inj (hc1.symm.trans q1); subst q1)
    exact ⟨(I.G.cell_off q2).1, (I.G.cell_off q2).2, Og.O12 q2 fun o e D0 => ⟨o, e⟩, I.T _ (.inr (Og.I12 x hk hc1))⟩
  refine kla_eval hdef ?_
  refine hq ▸ ?_
  cases hf : codeAmong lp ps.toList with
  | some cv =>
    refine Og.cps fun G kG => ?_
    refine O44 (htab lp cv hf) ?_; rintro c1 oc us tt rfl z2 z3 z4
    refine kG ?_
    clear kG
    refine kla_makeFunctionHit hcl I.R.glob.1 T.g hcode C hP ht hf hb fun ctv h' tk kk hsz => ?_
    generalize hob : ({ cls := .type "function", data := .func (kla_fn "<lambda>" lamQ args body sc (closL env.cells sc.names []) ((mg "__name__").getD .none) (.ref c1) ctv) } : Obj) = ob
    have hf' : ob.isFreed = false := by rw [← hob]; rfl
    have up : ∀ a o, s.heap.get? a = some o → (h'.push ob).get? a = some o := fun a o e => Heap.get?_push_of_some _ (kk a o e)
    have hself : (h'.push ob).get? h'.objs.size = some ob := Heap.get?_push_size _ hf'
    have hdead : s.heap.get? h'.objs.size = none := dead_size _ hsz
    have n1 := I.G.newOff hdead
    have hl : ∀ a ∈ h'.objs.size :: (cloNames sc).map (fun x => (env.cells.lookup x).getD 0), a ∉ ρ ∧ a ≠ P ∧ ∃ o, (h'.push ob).get? a = some o := fun a ha => by
      rcases List.mem_cons.mp ha with rfl | ha
      · exact ⟨n1.2.1, n1.2.2, _, hself⟩
      · refine O04 (cells a ha) ?_; rintro q1 q2 ⟨o, q3⟩ _
        exact ⟨q1, q2, o, up a o q3⟩
    obtain ⟨G2, hs⟩ := (I.G.keeps up).freezeL _ hl
    refine k _ _ tk _ hs ((I.S.trans (Step.keeps up)).freezeL _ hs fun a ha => ?_) G2 ?_
    · rcases List.mem_cons.mp ha with rfl | ha
      · exact I.S.dead hdead
      · exact (cells a ha).2.2.2
    · refine .clo (cs := (cloNames sc).map fun x => (env.cells.lookup x).getD 0) (vs := vs) (pm := (mg "__name__").getD .none) (ctv := ctv) (c' := c1) ?_ (hs _ _ z2) z3 z4 (closL_zip env.cells sc) (by simp) ?_ (hrel.mono hs fun D0 D1 z => z)
      · show (if _ then _ else _) = _
        rw [if_pos (.head _), hself, ← hob]
      · refine Paired.imp_mem' (fun a v ha ⟨o, q1, q2⟩ => ?_) hpair
        exact Og.I12 o (by show (if _ then _ else _) = _; rw [if_pos (.tail _ ha)]; exact up a o q1) q2
  | none =>
    refine kla_makeFunction hcl I.R.glob.1 T.g hcode C hP ht hf hgP hb fun c1 ctv h' tk hx hge hlt hrec htb => ?_
    refine Og.cps fun G kG => ?_
    refine O44 hrec ?_; clear hrec; rintro c1' oc us tt hc1 z2 z3 z4
    cases hc1
    refine kG ?_
    clear kG
    generalize hob : (kla_obj "<lambda>" lamQ args body sc (closL env.cells sc.names []) ((mg "__name__").getD .none) c1 ctv : Obj) = ob
    have hf' : ob.isFreed = false := by refine hob ▸ ?_; rfl
    have up : ∀ a o, a ≠ P → s.heap.get? a = some o → (h'.push ob).get? a = some o := fun a o ne e => Heap.get?_push_of_some _ (hx a o ne e)
    have hself : (h'.push ob).get? h'.objs.size = some ob := Heap.get?_push_size _ hf'
    have hdc : s.heap.get? c1 = none := dead_size _ hge
    have hdead : s.heap.get? h'.objs.size = none := dead_size _ (Nat.le_trans hge (Nat.le_of_lt hlt))
    have n1 := I.G.newOff hdead
    have n2 := I.G.newOff hdc
    have hl : ∀ a ∈ h'.objs.size :: c1 :: (cloNames sc).map (fun x => (env.cells.lookup x).getD 0), a ∉ ρ ∧ a ≠ P ∧ ∃ o, (h'.push ob).get? a = some o := fun a ha => by
      rcases List.mem_cons.mp ha with rfl | ha
      · exact ⟨n1.2.1, n1.2.2, _, hself⟩
      rcases List.mem_cons.mp ha with rfl | ha
      · exact ⟨n2.2.1, n2.2.2, _, Heap.get?_push_of_some _ z2⟩
      · refine O04 (cells a ha) ?_; rintro q1 q2 ⟨o, q3⟩ _
        exact ⟨q1, q2, o, up a o q2 q3⟩
    have hP' : (h'.push ob).get? P = some (tabObj (ps ++ #[rawInt lp.line, rawInt lp.col, .ref c1])) := Heap.get?_push_of_some _ htb
    obtain ⟨G2, hs⟩ := I.G.build (h2 := h'.push ob) up _ hl ⟨_, hP', by simpa using TriplesOk_snoc lp.line lp.col (.ref c1) ps.toList ht, fun pos cv e => by
      rcases codeAmong_app ps.toList ht (by simpa using e) with q | q
      · refine O43 (htab pos cv q) ?_; rintro c2 o2 vs2 t2 y1 y2 y3
        refine Og.I43 c2 o2 vs2 t2 y1 ?_ y3
        split
        · exact up _ _ (I.G.fz _ _ y2).2 (I.G.fz' _ _ y2)
        · exact y2
      · exact Og.I44 c1 oc us tt q (by rw [if_pos (.tail _ (.head _))]; exact Heap.get?_push_of_some _ z2) z3 z4⟩
    have S1 : Step P NoX F ρ s.heap F ρ (h'.push ob) := ⟨fun D0 D1 e => e, fun D0 D1 e => .inl e, ⟨[], by simp⟩, fun a o e D0 ne D1 => up a o ne e, fun a o e => by
      by_cases q : a = P
      · clear hB I k hhd hP C hgP hb cells hx htb up n1 n2 hl G2; subst q; exact ⟨_, hP'⟩
      · exact ⟨o, up a o q e⟩⟩
    refine k _ _ tk _ hs ((I.S.trans S1).freezeL _ hs fun a ha => ?_) G2 ?_
    · rcases List.mem_cons.mp ha with rfl | ha
      · exact I.S.dead hdead
      rcases List.mem_cons.mp ha with rfl | ha
      · exact I.S.dead hdc
      · exact (cells a ha).2.2.2
    · refine .clo (cs := (cloNames sc).map fun x => (env.cells.lookup x).getD 0) (vs := vs) (pm := (mg "__name__").getD .none) (ctv := ctv) (c' := c1) (o := oc) (us := us) ?_ ?_ z3 z4 (closL_zip env.cells sc) (by simp) ?_ (hrel.mono hs fun D0 D1 z => z)
      · show (if _ then _ else _) = _
        rw [if_pos (.head _), hself, ← hob]
      · show (if _ then _ else _) = _
        rw [if_pos (.tail _ (.head _))]; exact Heap.get?_push_of_some _ z2
      · refine Paired.imp_mem' (fun a v ha ⟨o, q1, q2⟩ => ?_) hpair
        exact Og.I12 o (by show (if _ then _ else _) = _; rw [if_pos (.tail _ (.tail _ ha))]; exact up a o (cells a ha).2.1 q1) q2
end
end Og
end
section
set_option maxRecDepth 100000
namespace Og
open PySem PySem.W PyProof.Rows PySem.Calls PySem.Spec PySem.SeqAt
structure Room (A : Around) (n : Nat) : Prop where
  h : A.handled = none
  d : A.depth + 4 * n < recursionLimit
  u : A.units + 12 * n + 60 < cLine
theorem Room.deeper {A : Around} {n : Nat} (r : Room A (n + 1)) (env : Env) : Room (A.deeper env) n :=
  ⟨r.h, by have := r.d; refine (?_ : A.depth + 1 + 4 * n < _); omega, by have := r.u; refine (?_ : A.units + 3 + 12 * n + 60 < _); omega⟩
theorem Room.le {A : Around} {m n : Nat} (r : Room A m) (h : n ≤ m) : Room A n := ⟨r.h, by have := r.d; omega, by have := r.u; omega⟩
theorem Room.u20 {A : Around} {n : Nat} (r : Room A n) : A.units + 20 < cLine := by have := r.u; omega
section
variable {prog : Program} {w : World} {K : Frag} {p : Program} {loose : List Str} {mg mb : Str → Option Value} {B : Heap} {cL P : Addr} {F F' Fz : Fro} {Pr : Bk} {ρ ρ' ρz : List Addr} {st st' : Sto} {A : Around} {E : Value → Shared → Prop} {s : Shared} {h h' hz : Heap} {env : Env} {cx : Cx} {ow : Str → List Addr}
theorem retV_rule {e : Expr} {a : AV} (h : SE prog w B P A e cx st a st') : RS prog w B P A e cx st a st' :=
  fun E s F ρ env ow D0 D1 D2 D3 I D4 k => h.run E s F ρ env ow I.G I.R _ fun v h' tk F' ρ' S G R => k v h' tk F' ρ' (I.S.trans S) G R
theorem retL_rule (hB : Base prog w K p loose mg mb B cL P) {f : Str} {fp lp cp : Pos} {e1 e2 body : Expr} {args : Arguments} {sc : Scope} {q a1 a2 a : AV} {fvs : List AV} {st1 st2 st3 : Sto} (hlam : cx.lam = true) (hok : lamOk args = true) (hs1 : notStar e1 = true) (hs2 : notStar e2 = true)
    (h2 : SE prog w B P A (.Name f fp) cx st q st1) (h3 : SE prog w B P A e1 cx st1 a1 st2) (h4 : SE prog w B P A e2 cx st2 a2 st3) (h5 : cloVals cx (cloNames sc) = some fvs) (g5 : CS prog w K B P A q [a1, a2, .clo args sc body (cloNames sc) fvs] st3 a st') :
    RS prog w B P A (.Call (.Name f fp) [e1, e2, .Lambda args body sc lp] [] cp) cx st a st' := fun E s F ρ env ow Fz ρz hz Pr I Q k => by
  refine Call_ (h2.run E s F ρ env ow I.G I.R _ fun fv h1' tk1 F1 ρ1 S1 G1 Rv => ?_) rfl
  have I1 := I.step S1 G1
  refine callWith_of (P := fun h => (∀ a o, F1 a = some o → h.get? a = some o) ∧ K.In h) (by rw [backTo_any (by rw [List.all_cons, List.all_cons, hs1, hs2]; rfl)]; rfl) (fun h hp => (g5.keeper F1 ρ1 fv Rv) h hp.1 hp.2) ?_
  refine (starEach_cons hs1) ▸ (starEach_cons hs2) ▸ (starEach_cons (e := .Lambda args body sc lp) rfl) ▸ ?_
  refine evalArgs_plain (spliced_cons (h3.run E { s with heap := h1', toks := tk1 } F1 ρ1 env ow G1 I1.R _ fun u1 h2' tk2 F2 ρ2 S2 G2 R1 => ?_))
  have I2 := I1.step S2 G2
  refine spliced_cons (h4.run E { s with heap := h2', toks := tk2 } F2 ρ2 env ow G2 I2.R _ fun u2 h3' tk3 F3 ρ3 S3 G3 R2 => ?_)
  refine spliced_cons (lam_sound (s := { s with heap := h3', toks := tk3 }) hB (I2.step S3 G3) hlam hok h5 fun v h4' tk4 F4 hs S4 G4 R3 => ?_)
  refine spliced_nil ⟨⟨fun b o z => G4.fz' b o (hs b o (S3.sub b o (S2.sub b o z))), G4.inK hB⟩, ?_⟩
  refine g5.run E { s with heap := h4', toks := tk4 } F4 ρ3 fv [u1, u2, v] G4 ((S3.rel (S2.rel Rv)).mono hs fun D0 D1 z => z) (.cons ((S3.rel R1).mono hs fun D0 D1 z => z) (.cons (R2.mono hs fun D0 D1 z => z) (.cons R3 .nil))) Q fun r h5' tk5 F5 ρ5 S5 G5 R5 => ?_
  exact k r h5' tk5 F5 ρ5 (S4.trans S5) G5 R5
theorem return_rule {v : Expr} {pos : Pos} {a : AV} (h : RS prog w B P A v cx st a st') : XS prog w B P A (.Return (some v) pos) cx st (.ret a) st' :=
  fun E s F ρ env ow Fz ρz hz Pr I D0 k => wpAny_Return_some (h E s F ρ env ow Fz ρz hz Pr I _ k)
end
end Og
end
section
set_option maxRecDepth 100000
namespace Og
open PySem PySem.W PyProof.Rows PySem.Calls PySem.Spec PySem.SeqAt
theorem zip_look {names : List Str} {vals : List Value} : names.length = vals.length → ∀ n ∈ names, ((names.zip vals).lookup n).isNone = false := by
  intro hl n hn
  induction names generalizing vals with
  | nil => cases hn
  | cons x names ih =>
    cases vals with
    | nil => cases hl
    | cons v vals =>
      rw [List.zip_cons_cons, List.lookup_cons]
      cases q : (n == x) with
      | true => rfl
      | false =>
        rcases List.mem_cons.mp hn with rfl | hn
        · simp at q
        · exact ih (by simpa using hl) hn
theorem bindArgs_plain {fd : FuncData} {vals : List Value} (h1 : fd.params.posonlyargs = []) (h2 : fd.params.kwonlyargs = []) (h3 : fd.params.vararg = none) (h4 : fd.params.kwarg = none) (h5 : fd.defaults = .none) (h6 : fd.kwdefaults = .none) (hl : vals.length = fd.params.args.length) :
    bindArgs fd ⟨vals, []⟩ = pure ((fd.params.args.map (·.arg)).filterMap fun n => (((fd.params.args.map (·.arg)).zip vals).lookup n).map (n, ·)) := by
  unfold bindArgs
  simp only [h1, h2, h3, h4, h5, h6, List.map_nil, List.nil_append, List.forIn_nil, pure_bind, List.append_nil, List.length_map, Option.isNone_none, Bool.and_true]
  have hm : ∀ k, List.filter (fun n => (List.lookup n ((List.map (fun x => x.arg) fd.params.args).zip vals)).isNone) (List.take k (List.map (fun x => x.arg) fd.params.args)) = [] := fun k => by
    rw [List.filter_eq_nil_iff]
    intro n hn
    have := zip_look (names := fd.params.args.map (·.arg)) (vals := vals) (by simp [hl]) n (List.mem_of_mem_take hn)
    simp [this]
  rw [show seqItems? Value.none = pure none from rfl, pure_bind, if_neg (by simp [hl])]
  simp only [pure_bind, hm, List.isEmpty_nil, Bool.not_true, Bool.false_eq_true, if_false]
  simp only [Option.getD_none, List.drop_nil, List.zip_nil_right, List.forIn_nil, pure_bind]
theorem zip_self {names : List Str} {vals : List Value} : names.Nodup → names.length = vals.length → (names.filterMap fun n => ((names.zip vals).lookup n).map (n, ·)) = names.zip vals := by
  have main : ∀ (ns : List Str) (vs : List Value) (f : Str → Option Value), ns.length = vs.length → (∀ n v, (n, v) ∈ ns.zip vs → f n = some v) → ns.filterMap (fun n => (f n).map (n, ·)) = ns.zip vs := by
    intro ns
    induction ns with
    | nil => intro vs f _ _; rfl
    | cons x ns ih =>
      intro vs f hl hf
      cases vs with
      | nil => cases hl
      | cons v vs =>
        rw [List.filterMap_cons, hf x v (.head _), List.zip_cons_cons]
        refine (?_ : (x, v) :: _ = _)
        exact (ih vs f (by simpa using hl) fun n u hm => hf n u (.tail _ hm)) ▸ rfl
  intro hn hl
  refine main names vals _ hl fun n v hm => ?_
  induction names generalizing vals with
  | nil => simp at hm
  | cons x names ih =>
    cases vals with
    | nil => simp at hm
    | cons u vals =>
      rw [List.zip_cons_cons] at hm ⊢
      rw [List.lookup_cons]
      have nd := List.nodup_cons.mp hn
      rcases List.mem_cons.mp hm with q | q
      · clear hn hl hm nd; cases q; simp
      · refine (by simpa using (fun z => nd.1 (z ▸ (List.of_mem_zip q).1) : n ≠ x) : (n == x) = false) ▸ ?_
        exact ih nd.2 (by simpa using hl) q
section
variable {prog : Program} {w : World} {K : Frag} {p : Program} {loose : List Str} {mg mb : Str → Option Value} {B : Heap} {cL P : Addr} {F F' Fz : Fro} {Pr : Bk} {ρ ρ' ρz : List Addr} {st st' : Sto} {A : Around} {E : Value → Shared → Prop} {s : Shared} {h h' hz : Heap} {env : Env} {cx : Cx} {ow : Str → List Addr} {n : Nat} {sc : Scope}
/-- parameters are bound -/
theorem bind_sound {M : Model} (f : Str × Value → PUnit → Sem (ForInStep PUnit)) (hf : ∀ n v u, f (n, v) u = (do storeName env n v; pure (.yield ⟨⟩))) :
    ∀ (ps : List Arg) (as : List AV) (vals : List Value) (cx cx' : Cx) (s : Shared) (ow : Str → List Addr) (Q : PUnit → Shared → Prop), putArgs cx ps as = some cx' → RelL prog w F ρ vals as → In0 prog w B P Fz ρz hz Pr F ρ st s.heap env cx ow →
      (∀ h' tk ow', In0 prog w B P Fz ρz hz Pr F ρ st h' env cx' ow' → Q ⟨⟩ { s with heap := h', toks := tk }) → wpAny M A (forIn ((ps.map (·.arg)).zip vals) ⟨⟩ f) Q E s := by
  intro ps
  induction ps with
  | nil =>
    intro as vals cx cx' s ow Q e _ I k
    cases as with
    | cons _ _ => exact nos e
    | nil =>
      rw [List.map_nil, List.zip_nil_left, List.forIn_nil]
      exact wpAny_pure (k s.heap s.toks ow (Option.some.inj e ▸ I))
  | cons p ps ih =>
    intro as vals cx cx' s ow Q e h I k
    cases as with
    | nil => exact nos e
    | cons a as =>
      refine O23 h.consR ?_; clear h; rintro v us rfl hv hr
      refine O12 (Option.bind_eq_some_iff.mp (e : Option.bind _ _ = some cx')) ?_; rintro cx1 e1 e2
      rw [List.map_cons, List.zip_cons_cons, List.forIn_cons, hf]
      refine wpAny_bind (wpAny_bind (I.putV e1 hv fun h' tk ow' I' D0 D1 D2 => wpAny_pure ?_))
      exact ih as _ cx1 cx' { s with heap := h', toks := tk } ow' Q e2 hr I' fun h'' tk' ow'' I'' => k h'' tk' ow'' I''
noncomputable abbrev fenv (sc : Scope) (L : Addr) (cells : List (Str × Addr)) (qual : Str) (a : Addr) (code : Value) : Env :=
  { scope := sc, locals := L, globals := mainGlobals, cells, qual, func := some a, code, frame := some L, builtins := builtinsNs }
/-- a function's own frame -/
theorem fun_env {M : Model} (G : GR prog w B P F ρ st s.heap) (hok : compOk sc = true) {cl : List (Str × Addr)} {fvs : List (Str × LV)} {lam : Bool} {qual : Str} {a : Addr} {code : Value} {ps : List Arg} {as : List AV} {vals : List Value} {cx' : Cx}
    (hfree : ∀ x, (x, NameKind.free) ∈ sc.names → ∃ c, cl.lookup x = some c) (hcl : ∀ x c, cl.lookup x = some c → ∃ o, s.heap.get? c = some o)
    (hfv : ∀ x lv, fvs.lookup x = some lv → (x, NameKind.free) ∈ sc.names ∧ ∃ a v c o, lv = .v a ∧ cl.lookup x = some c ∧ F c = some o ∧ o.data = .cell (some v) ∧ Rel prog w F ρ v a)
    (hlam : ∀ L cells, LamC P F (fenv sc L cells qual a code) ⟨sc, fvs, lam⟩) (e : putArgs ⟨sc, fvs, lam⟩ ps as = some cx') (V : RelL prog w F ρ vals as) {Q : Env → Shared → Prop}
    (k : ∀ h' tk env ow', In0 prog w B P F ρ s.heap ⟨fun D0 => none, fun D0 => none, []⟩ F ρ st h' env cx' ow' → env.scope = sc → env.globals = mainGlobals → env.frame = some env.locals → Q env { s with heap := h', toks := tk }) :
    wpAny M A (newFunctionEnv sc mainGlobals cl ((ps.map (·.arg)).zip vals) qual (some a) code none builtinsNs) Q E s := by
  simp only [newFunctionEnv, Option.isSome_none, Bool.false_eq_true, if_false]
  refine wpAny_bind (wpAny_alloc ?_)
  refine wpAny_bind (wpAny_layCells _ (fun name kind cells => by cases hkc : kind == NameKind.cell <;> simp [hkc]) _ _ _ _ ?_)
  generalize hH : s.heap.push { cls := .type "frame", data := .dict #[] } = H1
  have hsz1 : H1.objs.size = s.heap.objs.size + 1 := by rw [← hH, Heap.size_push]
  refine (show ({ s with heap := H1 } : Shared).heap.objs.size = s.heap.objs.size + 1 from hsz1) ▸ ?_
  have k1 : ∀ a o, s.heap.get? a = some o → H1.get? a = some o := fun a o e => hH ▸ Heap.get?_push_of_some _ e
  have k2 : ∀ a o, s.heap.get? a = some o → (pushCells H1 sc.names).get? a = some o := fun a o e => pushCells_keeps _ _ a o (k1 a o e)
  have ok := cellsFrom_ok sc.names H1 (s.heap.objs.size + 1) [] ⟨fun D0 D1 hm => (nomatch hm), List.Pairwise.nil⟩ (by exact hsz1 ▸ Nat.le_refl _)
  replace ok := hsz1 ▸ ok
  have hns : (pushCells H1 sc.names).Ns s.heap.objs.size (fun D0 => none) := by
    refine Heap.Ns.keeps ?_ (fun b o e => pushCells_keeps _ _ b o e)
    exact hH ▸ Heap.Ns.new s.heap (.type "frame")
  have own : ∀ x c, (cellsFrom (s.heap.objs.size + 1) sc.names []).lookup x = some c → (x, NameKind.cell) ∈ sc.names ∧ s.heap.objs.size + 1 ≤ c ∧ (pushCells H1 sc.names).IsCell c none := fun x c e => by
    have hm := mem_of_lookup e
    rcases cellsFrom_names' _ _ _ x c hm with q | q
    · exact Og.I03 q ((ok.empty x c hm).2) ((ok.empty x c hm).1)
    · exact nomatch q
  have cells : ∀ x, (cellsFrom (s.heap.objs.size + 1) sc.names cl).lookup x = ((cellsFrom (s.heap.objs.size + 1) sc.names []).lookup x).or (cl.lookup x) := fun x => by
    have := cellsFrom_app sc.names (s.heap.objs.size + 1) [] cl
    rw [List.nil_append] at this
    rw [this, lookup_append']
  have memOf : ∀ x k, sc.names.lookup x = some k → (x, k) ∈ sc.names := fun x k e => mem_of_lookup e
  have freeAt : ∀ x, (x, NameKind.free) ∈ sc.names → (cellsFrom (s.heap.objs.size + 1) sc.names cl).lookup x = cl.lookup x := fun x hx => by
    rw [cells]
    have hn : (cellsFrom (s.heap.objs.size + 1) sc.names []).lookup x = none := by
      cases q : (cellsFrom (s.heap.objs.size + 1) sc.names []).lookup x with
      | none => rfl
      | some c =>
        have h1 := compOk_at hok (own x c q).1
        have h2 := compOk_at hok hx
        replace h2 := h1 ▸ h2; exact absurd h2 (by decide)
    exact hn ▸ Option.none_or ▸ rfl
  have hL := dead_size s.heap (Nat.le_refl _)
  have offL := G.newOff hL
  have own' : ∀ x, sc.names.lookup x = some .cell → ∃ c, (cellsFrom (s.heap.objs.size + 1) sc.names []).lookup x = some c := fun x e => cellsFrom_has (x := x) sc.names (s.heap.objs.size + 1) [] (.inl (memOf x _ e))
  have I : In0 prog w B P F ρ s.heap ⟨fun D0 => none, fun D0 => none, []⟩ F ρ st (pushCells H1 sc.names) (fenv sc s.heap.objs.size (cellsFrom (s.heap.objs.size + 1) sc.names cl) qual a code) ⟨sc, fvs, lam⟩ (fun D0 => []) := by
    refine ⟨Step.keeps k2, (G.keeps k2 : GR prog w B P F ρ st (pushCells H1 sc.names)), ?_, fun b hb => ?_, fun D0 D1 h => (nomatch h), fun b o e => (nomatch e), fun a o e => (nomatch e), fun i a e => by exact Og.nos e⟩
    · refine ⟨(compOk_kind hok), ⟨rfl, rfl⟩, fun x k e hkk => e, fun x e => ?_, ⟨_, hns⟩, fun x lv e => ?_, Og.I03 offL.2.1 offL.1 offL.2.2, fun x e => ?_, fun x y c hx e1 e2 => ?_, fun x c e => ?_, (fun D0 D1 h => nomatch h), (fun D0 D1 D2 h => nomatch h), (fun D0 D1 h => nomatch h), hlam _ _⟩
      · obtain ⟨c, hc⟩ := hfree x (memOf x _ e)
        exact ⟨.inl e, c, (freeAt x (memOf x _ e)).trans hc⟩
      · obtain ⟨hm, av, v, c, o, rfl, hc, hF, hd, hr⟩ := hfv x lv e
        exact Og.I12 v (.inr ⟨.inr (compOk_at hok hm), c, (freeAt x hm).trans hc, o, k2 c o (G.fz' c o hF), hd⟩) hr
      · obtain ⟨c, hc⟩ := own' x e
        have o := own x c hc
        exact Og.I23 c none (by refine (?_ : (cellsFrom (s.heap.objs.size + 1) sc.names cl).lookup x = _); rw [cells, hc]; rfl) o.2.2 ((G.newOff (dead_size s.heap (Nat.le_of_succ_le o.2.1))).1)
      · have e1 : (cellsFrom (s.heap.objs.size + 1) sc.names cl).lookup x = some c := e1
        have e2 : (cellsFrom (s.heap.objs.size + 1) sc.names cl).lookup y = some c := e2
        rw [cells] at e1 e2
        obtain ⟨c1, hc1⟩ := own' x hx
        rw [hc1] at e1; (replace e1 := Option.some.inj e1; subst e1)
        cases q2 : (cellsFrom (s.heap.objs.size + 1) sc.names []).lookup y with
        | some c2 => replace e2 := q2 ▸ e2; (replace e2 := Option.some.inj e2; clear e1; subst e2); exact name_of_addr ok.apart (mem_of_lookup hc1) (mem_of_lookup q2)
        | none =>
          rw [q2] at e2
          obtain ⟨o, q⟩ := hcl y _ e2
          exact absurd (Heap.lt_size q) (Nat.not_lt.mpr (Nat.le_of_succ_le (own x _ hc1).2.1))
      · have e : (cellsFrom (s.heap.objs.size + 1) sc.names cl).lookup x = some c := e
        rw [cells] at e
        cases q1 : (cellsFrom (s.heap.objs.size + 1) sc.names []).lookup x with
        | some c1 => rw [q1] at e; (replace e := Option.some.inj e; subst e); refine O12 ((own x _ q1).2.2) ?_; rintro o q _; exact ⟨o, q⟩
        | none => rw [q1] at e; obtain ⟨o, q⟩ := hcl x c e; exact ⟨o, k2 c o q⟩
    · rcases hb with rfl | ⟨x, q1, q2⟩
      · exact hL
      · obtain ⟨c1, hc1⟩ := own' x q1
        have q2 : (cellsFrom (s.heap.objs.size + 1) sc.names cl).lookup x = some b := q2
        rw [cells, hc1] at q2; (replace q2 := Option.some.inj q2; subst q2)
        exact dead_size _ (Nat.le_of_succ_le (own x _ hc1).2.1)
  refine wpAny_bind ?_
  refine bind_sound (env := fenv sc s.heap.objs.size (cellsFrom (s.heap.objs.size + 1) sc.names cl) qual a code) _ (fun D0 D1 D2 => rfl) ps as vals _ cx' { s with heap := pushCells H1 sc.names } _ _ e V I fun h' tk ow' I' => ?_
  exact wpAny_pure (k h' tk _ ow' I' rfl rfl rfl)
end
end Og
end
section
set_option maxRecDepth 100000
namespace Og
open PySem PySem.W PyProof.Rows PySem.Calls PySem.Spec PySem.SeqAt
section
variable {prog : Program} {w : World} {K : Frag} {p : Program} {loose : List Str} {mg mb : Str → Option Value} {B : Heap} {cL P : Addr} {F F' Fz : Fro} {Pr : Bk} {ρ ρ' ρz : List Addr} {st st' : Sto} {A : Around} {E : Value → Shared → Prop} {s : Shared} {h h' hz : Heap} {env : Env} {cx : Cx} {ow : Str → List Addr} {n : Nat} {sc : Scope}
theorem putArgs_len : ∀ {ps : List Arg} {as : List AV} {cx cx' : Cx}, putArgs cx ps as = some cx' → ps.length = as.length
  | [], [], _, _, _ => rfl
  | p :: ps, a :: as, cx, cx', e => by
    refine O12 (Option.bind_eq_some_iff.mp e) ?_; rintro cx1 _ e2
    rw [List.length_cons, List.length_cons, putArgs_len e2]
  | [], _ :: _, _, _, e => by exact nos e
  | _ :: _, [], _, _, e => by exact nos e
theorem fnK_ok {a : Addr} {fd : FuncData} (e : fnK K a = some fd) : (∃ oc od sl, K.lookup a = some ⟨oc, od, .func fd, sl⟩) ∧ fd.closure = [] ∧ fd.globals = mainGlobals ∧ fd.builtins = builtinsNs ∧ fd.defaults = .none ∧ fd.kwdefaults = .none ∧ codeIn K fd.code fd.qualname = true ∧
    fd.params.posonlyargs = [] ∧ fd.params.vararg = none ∧ fd.params.kwonlyargs = [] ∧ fd.params.kwarg = none ∧ fd.scope.isGenerator = false ∧ fd.scope.isCoroutine = false ∧ fd.scope.kind = .function := by
  refine O12 (Option.bind_eq_some_iff.mp e) ?_; clear e; rintro ⟨oc, od, dt, sl⟩ hk e
  refine O12 (Option.bind_eq_some_iff.mp e) ?_; clear e; rintro fd' hd e
  cases dFunc_eq hd
  obtain ⟨hc, e⟩ := if_some e
  cases Option.some.inj e
  · · refine Og.cps fun G kG => ?_
      simp only [Bool.and_eq_true, List.isEmpty_iff, beq_iff_eq, Option.isNone_iff_eq_none, Bool.not_eq_true'] at hc
      obtain ⟨⟨⟨⟨⟨⟨⟨⟨⟨⟨⟨⟨h1, h2⟩, h3⟩, h4⟩, h5⟩, h6⟩, h7⟩, h8⟩, h9⟩, h10⟩, h11⟩, h12⟩, h13⟩ := hc
      refine kG ?_
      clear kG
      exact ⟨Og.I31 oc od sl hk, h1, h2, h3, h4, h5, h6, h7, h8, h9, h10, h11, h12, h13⟩
noncomputable def flV : Fl → AV
  | .next _ => .none
  | .ret a => a
/-- a run of a function's body -/
inductive FnR (prog : Program) (w : World) (B : Heap) (P cL : Addr) (n : Nat) (fd : FuncData) (args : List AV) (st : Sto) : AV → Sto → Prop
  | mk {body : List Stmt} {cx' : Cx} {fl : Fl} {st' : Sto} : fd.body = .stmts body → nodupA fd.params.args = true → freeNo fd.scope = true → compOk fd.scope = true →
    putArgs ⟨fd.scope, [], fd.code == .ref cL && (fd.qualname ++ Str.ofString ".<locals>.") ++ Str.ofString "<lambda>" == lamQ⟩ fd.params.args args = some cx' → (∀ A, Room A n → SL prog w B P A body cx' st fl st') → FnR prog w B P cL n fd args st (flV fl) st'
set_option tactic.hygienic true in
theorem call_fn (hB : Base prog w K p loose mg mb B cL P) {a : Addr} {fd : FuncData} {args : List AV} {vals : List Value} {r : AV} (hroom : A.depth < recursionLimit) (hfn : fnK K a = some fd) (hrun : FnR prog w B P cL n fd args st r st')
    (hR : ∀ env, Room (A.deeper env) n) (G : GR prog w B P F ρ st s.heap) (V : RelL prog w F ρ vals args) {R : Result → Shared → Prop}
    (k : ∀ v h' tk F' ρ', Step P NoX F ρ s.heap F' ρ' h' → GR prog w B P F' ρ' st' h' → Rel prog w F' ρ' v r → R (.ok (.ret v)) { s with heap := h', toks := tk }) :
    codeAny (model prog w) A (.call (.ref a) ⟨vals, []⟩) R s := by
  refine O0_14 (fnK_ok hfn) ?_; rintro ⟨oc, od, sl, hk⟩ h1 h2 h3 h4 h5 h6 h7 h8 h9 h10 h11 h12 h13
  obtain ⟨hbody, hnd, hfree, hok, e1, e3⟩ := hrun
  have X := G.inK hB
  refine codeAny_call_function hroom (X _ _ hk) rfl h12 h11 hbody (codeRec_of X h6) ?_
  have hlen : vals.length = fd.params.args.length := by exact V.length ▸ (putArgs_len e1) ▸ rfl
  rw [bindArgs_plain h7 h9 h8 h10 h4 h5 hlen]
  refine wpAny_pure ?_
  rw [zip_self (of_decide_eq_true hnd) (by rw [List.length_map, hlen]), h1, h2, h3]
  refine fun_env G hok (fun x hx => ?_) (fun x c z => by exact nos z) (fun x lv z => by exact nos z) (fun L cells z => ?_) e1 V fun h' tk env ow' I hsc hg _ => ?_
  · unfold freeNo at hfree
    have := List.all_eq_true.mp hfree _ hx
    exact Og.ftN this
  · simp only [Bool.and_eq_true, beq_iff_eq] at z
    exact Og.I13 cL z.1 z.2 (fun h kk => hB.hd.keeps fun b o e => kk b o (G.base b o e))
  · refine ⟨(hB.T.keeps I.G.keepB).nolimit, codeAny_func (e3 _ (hR env) _ { s with heap := h', toks := tk } F ρ env ow' F ρ s.heap _ I _ ?_)⟩
    rename_i fl _
    cases fl with
    | next cx2 => exact fun h'' tk' F' ρ' ow'' I' _ => k _ h'' tk' F' ρ' I'.S I'.G .none
    | ret a2 => exact fun v h'' tk' F' ρ' S' G' R' => k v h'' tk' F' ρ' S' G' R'
/-- a run of a lambda's body -/
inductive LamR (prog : Program) (w : World) (B : Heap) (P : Addr) (n : Nat) (ps : Arguments) (sc : Scope) (body : Expr) (ns : List Str) (vs args : List AV) (st : Sto) (r : AV) (st' : Sto) : Prop
  | mk {cx' : Cx} : nodupA ps.args = true → compOk sc = true → lamOk ps = true → ns = cloNames sc → sc.isGenerator = false → sc.isCoroutine = false →
    putArgs ⟨sc, (ns.zip vs).map (fun p => (p.1, .v p.2)), false⟩ ps.args args = some cx' → (∀ A, Room A n → SE prog w B P A body cx' st r st') → LamR prog w B P n ps sc body ns vs args st r st'
set_option tactic.hygienic true in
theorem call_clo (hB : Base prog w K p loose mg mb B cL P) {ps : Arguments} {sc : Scope} {body : Expr} {ns : List Str} {fvs args : List AV} {f : Value} {vals : List Value} {r : AV} (hroom : A.depth < recursionLimit) (hrun : LamR prog w B P n ps sc body ns fvs args st r st')
    (hR : ∀ env, Room (A.deeper env) n) (G : GR prog w B P F ρ st s.heap) (Rf : Rel prog w F ρ f (.clo ps sc body ns fvs)) (V : RelL prog w F ρ vals args) {R : Result → Shared → Prop}
    (k : ∀ v h' tk F' ρ', Step P NoX F ρ s.heap F' ρ' h' → GR prog w B P F' ρ' st' h' → Rel prog w F' ρ' v r → R (.ok (.ret v)) { s with heap := h', toks := tk }) :
    codeAny (model prog w) A (.call f ⟨vals, []⟩) R s := by
  obtain ⟨hnd, hok, hlo, hns, hg1, hg2, e1, e2⟩ := hrun
  subst hns
  delta lamOk at hlo
  simp only [Bool.and_eq_true, List.isEmpty_iff, Option.isNone_iff_eq_none] at hlo
  obtain ⟨⟨⟨⟨⟨l1, l2⟩, l3⟩, l4⟩, l5⟩, l6⟩ := hlo
  cases Rf with
  | clo q1 q2 q3 q4 q5 q6 q7 q8 =>
    rename_i a cl pm c' ctv oc us t cs vs
    refine kla_callFunE (fd := kla_fn "<lambda>" lamQ ps body sc cl pm (.ref c') ctv) hroom (G.fz' _ _ q1) rfl hg2 hg1 rfl (Og.I44 c' oc us t rfl (G.fz' _ _ q2) q3 q4) ?_
    have hlen : vals.length = ps.args.length := by exact V.length ▸ (putArgs_len e1) ▸ rfl
    rw [bindArgs_plain (fd := kla_fn "<lambda>" lamQ ps body sc cl pm (.ref c') ctv) l1 l3 l2 l4 rfl rfl hlen]
    refine wpAny_pure ?_
    rw [show (kla_fn "<lambda>" lamQ ps body sc cl pm (.ref c') ctv).params = ps from rfl, zip_self (of_decide_eq_true hnd) (by rw [List.length_map, hlen])]
    -- the closure's names and what they hold
    have lenv : vs.length = fvs.length := q8.length
    have lenc : cs.length = vs.length := Paired.length q7
    have look : ∀ (ns : List Str) (cs : List Addr) (vs : List Value) (fvs : List AV) (x : Str) (lv : LV), ns.length = cs.length → Paired (fun c v => ∃ o, F c = some o ∧ o.data = .cell (some v)) cs vs → RelL prog w F ρ vs fvs →
        ((ns.zip fvs).map fun p => (p.1, LV.v p.2)).lookup x = some lv → x ∈ ns ∧ ∃ a v c o, lv = .v a ∧ (ns.zip cs).lookup x = some c ∧ F c = some o ∧ o.data = .cell (some v) ∧ Rel prog w F ρ v a := by
      intro ns
      induction ns with
      | nil => intro cs vs fvs x lv _ _ _ e; exact Og.nos e
      | cons n ns ih =>
        intro cs vs fvs x lv hl hp hr e
        cases hp with
        | nil => simp at hl
        | cons hc ht =>
          cases hr with
          | cons hv hr =>
            rename_i c v cs vs b fvs
            rw [List.zip_cons_cons, List.map_cons, List.lookup_cons] at e
            rw [List.zip_cons_cons, List.lookup_cons]
            cases q : (x == n) with
            | true =>
              rw [q] at e
              (replace e := Option.some.inj e; subst e)
              refine O12 hc ?_; clear hc; rintro o z1 z2
              have : x = n := by simpa using q
              exact ⟨this ▸ .head _, _, v, c, o, rfl, rfl, z1, z2, hv⟩
            | false =>
              rw [q] at e
              obtain ⟨i1, i2⟩ := ih cs vs fvs x lv (by simpa using hl) ht hr e
              exact ⟨.tail _ i1, i2⟩
    have memc : ∀ x, x ∈ cloNames sc ↔ (x, NameKind.free) ∈ sc.names := fun x => by
      unfold cloNames
      rw [List.mem_reverse, List.mem_map]
      constructor
      · rintro ⟨⟨y, kd⟩, hm, rfl⟩
        obtain ⟨z1, z2⟩ := List.mem_filter.mp hm
        have : kd = .free := by simpa using z2
        clear hm z2; subst this; exact z1
      · exact fun hm => Og.I12 (x, .free) (List.mem_filter.mpr ⟨hm, rfl⟩) rfl
    have has : ∀ (ns : List Str) (cs : List Addr) x, ns.length = cs.length → x ∈ ns → ∃ c, (ns.zip cs).lookup x = some c := by
      intro ns
      induction ns with
      | nil => intro cs x _ hm; cases hm
      | cons n ns ih =>
        intro cs x hl hm
        cases cs with
        | nil => simp at hl
        | cons c cs =>
          rw [List.zip_cons_cons, List.lookup_cons]
          cases q : (x == n) with
          | true => exact ⟨c, rfl⟩
          | false =>
            rcases List.mem_cons.mp hm with rfl | hm
            · simp at q
            · exact ih cs x (by simpa using hl) hm
    have liv : ∀ (ns : List Str) (cs : List Addr) (vs : List Value) x c, Paired (fun c v => ∃ o, F c = some o ∧ o.data = .cell (some v)) cs vs → (ns.zip cs).lookup x = some c → ∃ o, s.heap.get? c = some o := fun ns cs vs x c hp e => by
      have : ∀ {cs : List Addr} {vs : List Value}, Paired (fun c v => ∃ o, F c = some o ∧ o.data = .cell (some v)) cs vs → ∀ c ∈ cs, ∃ o, F c = some o := by
        intro cs vs hp
        induction hp with
        | nil => intro c hc; cases hc
        | cons h t ih => intro c hc; rcases List.mem_cons.mp hc with rfl | hc
                         · refine O12 h ?_; clear h; rintro o z _; exact ⟨o, z⟩
                         · exact ih c hc
      obtain ⟨o, z⟩ := this hp c ((List.of_mem_zip (mem_of_lookup e)).2)
      exact ⟨o, G.fz' _ _ z⟩
    refine fun_env (sc := sc) (cl := cl) (lam := false) G hok (fun x hx => ?_) (fun x c z => ?_) (fun x lv z => ?_) (fun L cells z => by exact ftN z) e1 V fun h' tk env ow' I hsc hg _ => ?_
    · exact q5 ▸ has _ _ x q6 ((memc x).mpr hx)
    · rw [q5] at z; exact liv _ _ _ x c q7 z
    · obtain ⟨z1, z2⟩ := look _ _ _ _ x lv q6 q7 q8 z
      exact q5 ▸ ⟨(memc x).mp z1, z2⟩
    · refine ⟨(hB.T.keeps I.G.keepB).nolimit, kla_codeExpr ?_⟩
      exact (e2 _ (hR env)).run _ { s with heap := h', toks := tk } F ρ env ow' I.G I.R _ fun v h'' tk' F' ρ' S' G' R' => k v h'' tk' F' ρ' (I.S.trans S') G' R'
end
end Og
end
section
set_option maxRecDepth 100000
namespace Og
open PySem PySem.W PyProof.Rows PySem.Calls PySem.Spec PySem.SeqAt
section
variable {prog : Program} {w : World} {K : Frag} {p : Program} {loose : List Str} {mg mb : Str → Option Value} {B : Heap} {cL P : Addr} {F F' Fz : Fro} {Pr : Bk} {ρ ρ' ρz : List Addr} {st st' : Sto} {A : Around} {E : Value → Shared → Prop} {s : Shared} {h h' hz : Heap} {env : Env} {cx : Cx} {ow : Str → List Addr} {n : Nat} {sc : Scope}
theorem initK_ok {c f : Addr} (e : initK K c = some f) : findIn K (.ref c) "__init__" = some (some (.ref f)) ∧ makesIn K c = true ∧ isFn K (.ref f) = true := by
  refine O12 (Option.bind_eq_some_iff.mp e) ?_; clear e; rintro f' hf e
  obtain ⟨hc, e⟩ := if_some e
  cases Option.some.inj e
  exact ⟨oRef_eq hf, Bool.and_eq_true_iff.mp hc⟩
theorem call_cls (hB : Base prog w K p loose mg mb B cL P) {c fa : Addr} {fd : FuncData} {args : List AV} {vals : List Value} (hi : initK K c = some fa) (hfn : fnK K fa = some fd)
    (hrun : FnR prog w B P cL n fd (.inst c st.length :: args) (st ++ [.attrs [] []]) .none st')
    (hR : Room A (n + 1)) (G : GR prog w B P F ρ st s.heap) (V : RelL prog w F ρ vals args) {R : Result → Shared → Prop}
    (k : ∀ v h' tk F' ρ', Step P NoX F ρ s.heap F' ρ' h' → GR prog w B P F' ρ' st' h' → Rel prog w F' ρ' v (.inst c st.length) → R (.ok (.ret v)) { s with heap := h', toks := tk }) :
    codeAny (model prog w) A (.call (.ref c) ⟨vals, []⟩) R s := by
  refine O03 (initK_ok hi) ?_; rintro h1 h2 h3
  have X := G.inK hB
  obtain ⟨hh, g, d, t, os⟩ := s
  obtain ⟨G1, S1⟩ := G.place (o := emptyDict) (m := .attrs [] []) rfl (Og.I24 ([]) 0 (Heap.get?_push_size _ rfl) .nil List.nodup_nil .nil)
  refine O13 (G1.alloc (o := instObj c hh.objs.size) rfl) ?_; rintro F2 G2 S2 e2
  rw [(Heap.size_push .. : (hh.push emptyDict).objs.size = hh.objs.size + 1)] at e2
  have Ri : Rel prog w F2 (ρ ++ [hh.objs.size]) (.ref (hh.objs.size + 1)) (.inst c st.length) := .inst e2 (place_last G _)
  have hd : (A.under (.builtin "type.__call__" ⟨.ref c :: vals, []⟩)).depth = A.depth + 1 := by refine (?_ : A.depth + _ = _); exact ((by rfl : (Code.builtin "type.__call__" ⟨.ref c :: vals, []⟩).weight = 1)) ▸ rfl
  have hu : (A.under (.builtin "type.__call__" ⟨.ref c :: vals, []⟩)).units = A.units + 1 := by refine (?_ : A.units + _ = _); rw [(by rfl : (Code.builtin "type.__call__" ⟨.ref c :: vals, []⟩).cUnits = 1)]
  have r1 := hR.d
  have r2 := hR.u
  refine make_core (makes_of X h2) (looks_findIn X h1) (fun self => bind_fn X self (beq_iff_eq.mp h3)) (.inl rfl) ?_
  refine call_fn (A := A.under (.builtin "type.__call__" ⟨.ref c :: vals, []⟩)) (s := ⟨(hh.push emptyDict).push (instObj c hh.objs.size), g, d, t, os⟩) hB (by refine hd ▸ ?_; (clear hd hu r2; omega)) hfn hrun (fun env => ⟨hR.h, ?_, ?_⟩) G2 (.cons Ri (S2.relL (S1.relL V))) fun v h' tk F' ρ' S' G' R' => ?_
  · refine (?_ : (A.under (.builtin "type.__call__" ⟨.ref c :: vals, []⟩)).depth + 1 + 4 * n < _)
    refine hd ▸ ?_; (clear hd hu r2; omega)
  · refine (?_ : (A.under (.builtin "type.__call__" ⟨.ref c :: vals, []⟩)).units + 3 + 12 * n + 60 < _)
    refine hu ▸ ?_; (clear hd hu r1; omega)
  · cases R' with
    | none => exact ⟨rfl, k _ h' tk F' ρ' ((S1.trans S2).trans S') G' (S'.rel Ri)⟩
end
end Og
end
section
set_option maxRecDepth 100000
namespace Og
open PySem PySem.W PyProof.Rows PySem.Calls PySem.Spec PySem.SeqAt
section
variable {prog : Program} {w : World} {K : Frag} {p : Program} {loose : List Str} {mg mb : Str → Option Value} {B : Heap} {cL P : Addr} {F F' Fz : Fro} {Pr : Bk} {ρ ρ' ρz : List Addr} {st st' : Sto} {A : Around} {E : Value → Shared → Prop} {s : Shared} {h h' hz : Heap} {env : Env} {cx : Cx} {ow : Str → List Addr} {n : Nat} {sc : Scope}
theorem big24 : big = 2 ^ 20 := rfl
set_option tactic.hygienic true in
theorem len_sound (G : GR prog w B P F ρ st s.heap) {v : Value} {a : AV} {n : Nat} (R : Rel prog w F ρ v a) (e : lenA st a = some n) (hn : n ≤ big) {Q : Value → Shared → Prop} (k : PQ prog w B P F ρ s st (.int n) Q) :
    wpAny (model prog w) A (call (.builtin "len") [v]) Q E s := by
  unfold lenA at e
  split at e
  · (replace e := Option.some.inj e; subst e)
    refine O33 R.inv ?_; rintro ad vs m rfl Fa L
    ·
      have hl := L.length
      refine call_len_list (isList_of G.fz' Fa) (by refine List.size_toArray ▸ hl ▸ ?_; have := big24; omega) ?_
      exact List.size_toArray ▸ hl ▸ k.now G (.int _ _) _
  · (replace e := Option.some.inj e; subst e)
    refine O33 R.inv ?_; rintro ad vs m rfl Fa L
    ·
      have hl := L.length
      refine len_tuple (isTup_of G.fz' Fa) (by refine List.size_toArray ▸ hl ▸ ?_; have := big24; omega) ?_
      exact List.size_toArray ▸ hl ▸ k.now G (.int _ _) _
  · rename_i i
    refine O12 R.inv ?_; rintro ad rfl hr
    ·
      split at e
      · rename_i l hl
        (replace e := Option.some.inj e; subst e)
        refine O22 (G.objs i ad _ hr hl) ?_; rintro vs m ho L
        have hl := L.length
        refine call_len_list ⟨_, ho, rfl, m, rfl⟩ (by refine List.size_toArray ▸ hl ▸ ?_; have := big24; omega) ?_
        exact List.size_toArray ▸ hl ▸ k.now G (.int _ _) _
      · rename_i ks vs hl
        split at e
        · rename_i hs
          (replace e := Option.some.inj e; subst e)
          refine O23 (G.objs i ad _ hr hl) ?_; rintro es m ho kr L
          have : ∃ l : List Str, ks = l.map AV.str := by
            have : ∀ (l : List AV), l.all isStrA = true → ∃ m : List Str, l = m.map AV.str := by
              intro l
              induction l with
              | nil => exact fun _ => ⟨[], rfl⟩
              | cons y l ih =>
                intro hy
                rw [List.all_cons, Bool.and_eq_true] at hy
                obtain ⟨m, rfl⟩ := ih hy.2
                cases y <;> first | (exact absurd hy.1 (by decide)) | skip
                all_goals first | (rename_i x; exact ⟨x :: m, rfl⟩) | (simp [isStrA] at hy)
            exact this ks hs
          clear hl hs; obtain ⟨l, rfl⟩ := this
          have hz : (l.zip (es.map (·.val))).length = (l.map AV.str).length := by
            have := Paired.length kr.pairs
            simp at this ⊢
            omega
          refine call_len_dict (G.ne_modules (G.off ad (List.mem_of_getElem? hr)).1) (toDict (dkStr (prog := prog) (w := w)) ho kr) (by refine hz ▸ ?_; have := big24; omega) ?_
          exact hz ▸ k.now G (.int _ _) _
        · exact nos e
      · exact nos e
  · exact nos e
theorem bools_at {l : List AV} {bs : List Bool} {vs : List Value} (e : boolsA l = some bs) (h : RelL prog w F ρ vs l) : vs = bs.map Value.bool :=
  RelL.ind (Q := fun vs l => ∀ bs, boolsA l = some bs → vs = bs.map Value.bool) (fun bs e => Option.some.inj e ▸ rfl) (fun {v a vs l} h _ ih bs e => by
    cases a <;> first | exact nos e | skip
    refine O12 (Option.map_eq_some_iff.mp (e : (boolsA l).map _ = some bs)) ?_; rintro bs' h1 h2
    exact h2 ▸ (ih bs' h1) ▸ (h.inv : v = _) ▸ rfl) h bs e
theorem all_range (bs : List Bool) : (List.range bs.length).all (fun i => (bs[i]?).getD true) = bs.all id := by
  rw [Bool.eq_iff_iff, List.all_eq_true, List.all_eq_true]
  constructor
  · intro h b hb
    obtain ⟨i, hi, rfl⟩ := List.getElem_of_mem hb
    have := h i (List.mem_range.mpr hi)
    simpa [List.getElem?_eq_getElem hi] using this
  · intro h i hi
    have hi := List.mem_range.mp hi
    rw [List.getElem?_eq_getElem hi]
    exact h _ (List.getElem_mem hi)
theorem any_range (bs : List Bool) : (List.range bs.length).any (fun i => (bs[i]?).getD true) = bs.any id := by
  rw [Bool.eq_iff_iff, List.any_eq_true, List.any_eq_true]
  constructor
  · rintro ⟨i, hi, h⟩
    have hi := List.mem_range.mp hi
    replace h := (List.getElem?_eq_getElem hi) ▸ h
    exact Og.I12 _ (List.getElem_mem hi) h
  · rintro ⟨b, hb, h⟩
    refine Og.cps fun G kG => ?_
    obtain ⟨i, hi, rfl⟩ := List.getElem_of_mem hb
    refine kG ?_
    clear kG
    exact Og.I12 i (List.mem_range.mpr hi) (by simpa [List.getElem?_eq_getElem hi] using h)
theorem allany_sound (hh : A.handled = none) (G : GR prog w B P F ρ st s.heap) {v : Value} {l : List AV} {bs : List Bool} (R : Rel prog w F ρ v (.lst l)) (e : boolsA l = some bs) {Q : Value → Shared → Prop} :
    (PQ prog w B P F ρ s st (.bool (bs.all id)) Q → wpAny (model prog w) A (call (.builtin "all") [v]) Q E s) ∧ (PQ prog w B P F ρ s st (.bool (bs.any id)) Q → wpAny (model prog w) A (call (.builtin "any") [v]) Q E s) := by
  refine O33 R.inv ?_; rintro ad vs m rfl Fa L
  ·
    have hvs := bools_at e L
    subst hvs
    have hl := isList_of G.fz' Fa
    have W := Walks.list (prog := prog) (w := w) (A := A.in1) hh s.heap.objs.size ad (Nat.ne_of_lt (Heap.lt_size (G.fz' _ _ Fa)) : ad ≠ s.heap.objs.size) (bs.map Value.bool).toArray
    have T : TruthOf prog w A.in1 (fun i v => (bs.map Value.bool).toArray[i]? = some v) (fun i => (bs[i]?).getD true) := fun i v s' Q' E' hv hq => by
      have hv : (bs.map Value.bool)[i]? = some v := by simpa using hv
      replace hv := (List.getElem?_map) ▸ hv
      refine O12 (Option.map_eq_some_iff.mp hv) ?_; clear hv; rintro b hb rfl
      have hq : Q' ((bs[i]?).getD true) s' := hq
      rw [hb] at hq
      exact wpAny_truthy_bool hq
    have St0 : (s.heap.push { cls := .type "list_iterator", data := .fields #[.ref ad, .int 0 0] }).IsListIter s.heap.objs.size ad 0 ∧ (s.heap.push { cls := .type "list_iterator", data := .fields #[.ref ad, .int 0 0] }).IsList ad (bs.map Value.bool).toArray :=
      ⟨Og.I13 _ (Heap.get?_push_size _ rfl) rfl rfl, hl.push _⟩
    have up : ∀ (h' : Heap), (∀ b o, b ∉ [s.heap.objs.size] → (s.heap.push { cls := .type "list_iterator", data := .fields #[.ref ad, .int 0 0] }).get? b = some o → h'.get? b = some o) → ∀ b o, s.heap.get? b = some o → h'.get? b = some o := fun h' kk b o q =>
      kk b o (by simp; exact Nat.ne_of_lt (Heap.lt_size q)) (Heap.get?_push_of_some _ q)
    have hlen : (bs.map Value.bool).toArray.size = bs.length := by simp
    constructor
    · intro k
      refine call_all_walk (wpAny_pyIter_list hl ⟨_, _, _, _, _, _, _, rfl, W, St0, T, fun h' tk kk => ?_⟩)
      rw [hlen, all_range]
      exact k _ h' tk F ρ (Step.keeps (up h' kk)) (G.keeps (up h' kk)) (.bool _)
    · intro k
      refine call_any_walk (wpAny_pyIter_list hl ⟨_, _, _, _, _, _, _, rfl, W, St0, T, fun h' tk kk => ?_⟩)
      rw [hlen, any_range]
      exact k _ h' tk F ρ (Step.keeps (up h' kk)) (G.keeps (up h' kk)) (.bool _)
end
end Og
end
section
set_option maxRecDepth 100000
namespace Og
open PySem PySem.W PyProof.Rows PySem.Calls PySem.Spec PySem.SeqAt
section
variable {prog : Program} {w : World} {K : Frag} {p : Program} {loose : List Str} {mg mb : Str → Option Value} {B : Heap} {cL P : Addr} {F F' Fz : Fro} {Pr : Bk} {ρ ρ' ρz : List Addr} {st st' : Sto} {A : Around} {E : Value → Shared → Prop} {s : Shared} {h h' hz : Heap} {env : Env} {cx : Cx} {ow : Str → List Addr} {n : Nat} {sc : Scope}
/-- a new object, behind others that count for nothing -/
theorem PQ.made {Q : Value → Shared → Prop} {a : AV} {x : Addr} {o : Obj} {h' : Heap} {tk : Nat} (G : GR prog w B P F ρ st s.heap) (k : PQ prog w B P F ρ s st a Q) (kk : ∀ b o, s.heap.get? b = some o → h'.get? b = some o) (hx : s.heap.get? x = none) (ho : h'.get? x = some o)
    (hr : ∀ F' : Fro, (∀ b o, F b = some o → F' b = some o) → F' x = some o → Rel prog w F' ρ (.ref x) a) : Q (.ref x) { s with heap := h', toks := tk } := by
  refine O03 (G.newOff hx) ?_; rintro n1 n2 n3
  refine O14 ((G.keeps kk).freeze ho n1 n2 n3) ?_; rintro F' G' hs hin hn
  exact k _ h' tk F' ρ ((Step.keeps kk).froze hs hn hx) G' (hr F' hs hin)
theorem isi_sound {a : AV} {t : String} {b : Bool} {v : Value} (e : isiA a t = some b) (R : Rel prog w F ρ v a) (G : GR prog w B P F ρ st s.heap) {Q : Value → Shared → Prop} (k : PQ prog w B P F ρ s st (.bool b) Q) :
    wpAny (model prog w) A (call (.builtin "isinstance") [v, .type t]) Q E s := by
  have cs : (∃ i, a = .int i ∧ (t = "int" ∧ some true = some b ∨ t = "bool" ∧ some false = some b)) ∨ ∃ l, a = .tup l ∧ t = "tuple" ∧ some true = some b := by
    clear R; cases a <;> first | exact nos e | skip
    · refine .inl (Og.I12 _ rfl ?_)
      rcases pick e with ⟨q, e⟩ | e
      · exact .inl ⟨eq_of_beq q, e⟩
      · exact .inr ⟨eq_of_beq (if_some e).1, (if_some e).2⟩
    · exact .inr (Og.I13 _ rfl (eq_of_beq (if_some e).1) (if_some e).2)
  clear e
  rcases cs with ⟨i, rfl, ⟨rfl, e⟩ | ⟨rfl, e⟩⟩ | ⟨l, rfl, rfl, e⟩
  · (replace e := Option.some.inj e; subst e)
    cases R with
    | int i tk => exact call_isinstance (isinstance_true (Tx := "int") PyProof.Rows.meta_int isSubtype_int_int) ⟨typeIs_int _ _ _, k.now G (.bool _) s.toks⟩
  · (replace e := Option.some.inj e; subst e)
    cases R with
    | int i tk => exact call_isinstance (isinstance_false_int (by decide) PyProof.Rows.meta_bool PyProof.Rows.sub_int_bool) (k.now G (.bool _) _)
  · (replace e := Option.some.inj e; subst e)
    cases R with
    | tup Fa L => exact call_isinstance (isinstance_true (Tx := "tuple") PyProof.Rows.meta_tuple isSubtype_tuple_tuple) ⟨Og.I12 _ (G.fz' _ _ Fa) rfl, k.now G (.bool _) s.toks⟩
set_option tactic.hygienic true in
theorem range_sound (hh : A.handled = none) (G : GR prog w B P F ρ st s.heap) {v : Value} {a b : Int} {l : List AV} (R : Rel prog w F ρ v (.rng a b)) (e : iterA st (.rng a b) = some l) {Q : Value → Shared → Prop} (k : PQ prog w B P F ρ s st (.lst l) Q) :
    wpAny (model prog w) A (call (.type "list") [v]) Q E s := by
  have e : (if decide (0 ≤ a ∧ a ≤ (big : Int) ∧ 0 ≤ b ∧ b ≤ (big : Int)) then some ((List.range (b - a).toNat).map fun i => AV.int (a + (i : Nat))) else none) = some l := e
  split at e
  · rename_i hab
    have hab := of_decide_eq_true hab
    (replace e := Option.some.inj e; subst e)
    refine O42 R.inv ?_; rintro ad t u x rfl Fa
    ·
      have hbig : (big : Int) = 2 ^ 20 := rfl
      refine call_list_range (n := (b - a).toNat) hh (G.fz' _ _ Fa) (small_one (by omega) (by omega) (by omega) (by omega)) (by rw [rangeSize_one]; split <;> omega) (by omega) fun h' tk acc c' kk ho hit => ?_
      refine k.made G kk (dead_size _ (Nat.le_refl _)) ho fun F' hs hin => ?_
      have e1 : acc = acc.toList.toArray := by rfl
      refine .lst (vs := acc.toList) (n := c') (by exact hin) ?_
      have main : ∀ (m : Nat) (vs : List Value) (off : Nat), vs.length = m → (∀ j v, vs[j]? = some v → ∃ t, v = Value.int (a + ((off + j : Nat) : Int) * 1) t) → RelL prog w F' ρ vs ((List.range' off m).map fun i => AV.int (a + (i : Nat))) := by
        intro m
        induction m with
        | zero => intro vs off hl _; cases vs with
          | nil => exact .nil
          | cons _ _ => simp at hl
        | succ m ih =>
          intro vs off hl hv
          cases vs with
          | nil => simp at hl
          | cons v vs =>
            rw [List.range'_succ, List.map_cons]
            obtain ⟨t, rfl⟩ := hv 0 v rfl
            refine .cons ?_ (ih vs (off + 1) (by simpa using hl) fun j u hu => ?_)
            · rw [Nat.add_zero, Int.mul_one]; exact .int _ _
            · have := hv (j + 1) u (by exact hu)
              rwa [show off + (j + 1) = off + 1 + j by (clear hab hbig ih hl hv hu; omega)] at this
      have := main (b - a).toNat acc.toList 0 (by have := hit.1; exact this) fun j v hv => by
        have := hit.2 j v (by simpa using hv)
        rwa [Nat.zero_add]
      exact List.range_eq_range' ▸ this
  · exact nos e
end
end Og
end
section
set_option maxRecDepth 100000
namespace Og
section
open PySem
open PySem.Sem (wp)
theorem keys_none {prog : Program} {w : World} {A : Around} {E : Value → Shared → Prop} {s : Shared} {a : Addr} {xs : Array Value} {k : Nat} {Q : Option Value → Shared → Prop}
    (hx : s.heap.get? a = some { cls := .type "list", dict := none, data := .seq xs k, slots := #[] }) (hA : A.handled = none)
    (h : ∀ h' tk, (∀ b o, s.heap.get? b = some o → h'.get? b = some o) → Q none { s with heap := h', toks := tk }) :
    wpAny (model prog w) A (getAttr? (.ref a) "keys") Q E s := by
  obtain ⟨hp, g, d, tk, os⟩ := s
  have hT : ∀ tk', (⟨hp, g, d, tk', os⟩ : Shared).TypeIs (.ref a) "list" := fun D0 => Og.I12 _ hx rfl
  have f1 := sub_AttributeError
  have f3 := F.slot_list_getattribute.lookup
  have f4 := F.slot_list_getattribute.bind (.ref a)
  have f5 := am_list_getattr_none
  delta getAttr? getAttrBy? getAttrBy
  refine wpAny_bind (wpAny_mkText ?_)
  refine wpAny_bind (wpAny_attempt ?_)
  have hmiss : typeLookup (.type "list") (Str.ofString "keys") = pure none := by rw [typeLookup_type, builtinLookup_eq_fast]; kernel_rfl
  repeat (any_goals (first | assumption | exact hT _ | ((with_reducible show wpAny _ _ (call (Value.builtin "list.__getattribute__") _ _) _ _ _); refine call_meets F.slot_list_getattribute (hT _) am_entry_list_getattribute (F.args_list_getattribute_2 _ _) (meets_getattribute_miss_list a xs k #[] (Str.ofString "keys") _ hmiss (by decide +kernel : (["__module__", "__name__", "__qualname__", "__doc__", "__annotations__"] : List Str).contains (Str.ofString "keys") = false)) (Og.I03 hx hA (fun h' tk' e hx' => ?_))) | wp_step))
  refine Og.O21 hx'.there ?_; rintro t' u' he
  refine (?_ : wpAny _ _ (getattributeRaised _ _ _ _ _ _ _) _ _ _)
  unfold getattributeRaised
  repeat (any_goals (first | assumption | wp_step))
  exact h _ _ hx'.keeps
end
end Og
namespace Og
open PySem PySem.W PyProof.Rows PySem.Calls PySem.Spec PySem.SeqAt
section
variable {prog : Program} {w : World} {K : Frag} {p : Program} {loose : List Str} {mg mb : Str → Option Value} {B : Heap} {cL P : Addr} {F F' Fz : Fro} {Pr : Bk} {ρ ρ' ρz : List Addr} {st st' : Sto} {A : Around} {E : Value → Shared → Prop} {s : Shared} {h h' hz : Heap} {env : Env} {cx : Cx} {ow : Str → List Addr} {n : Nat} {sc : Scope}
noncomputable abbrev encT (x : List Int) : AV := .tup (x.map AV.int)
theorem encT_inj {a b : List Int} (h : encT a = encT b) : a = b := by
  have := congrArg (fun v => match v with | AV.tup l => intsOf l | _ => none) (h : AV.tup (a.map AV.int) = AV.tup (b.map AV.int))
  simp only [intsOf_map] at this
  exact Option.some.inj this
theorem stored_cons {x : List Int × Addr × Value} {xs : List (List Int × Addr × Value)} {k : List Int} {a : Addr} {v : Value} (hn : k ∉ xs.map (·.1) ∨ x.1 ≠ k) :
    storedH (x :: xs) k a v = if x.1 = k then (x.1, x.2.1, v) :: xs else x :: storedH xs k a v := by
  unfold storedH
  by_cases q : x.1 = k
  · have e1 : (atKey (x :: xs) k).isSome = true := by unfold atKey; rw [List.find?_cons]; simp [q]
    rw [if_pos e1, if_pos q, List.map_cons]
    congr 1
    · unfold putAt; simp [q]
    · rw [List.map_congr_left (g := id)]
      · simp
      · intro y hy
        have : y.1 ≠ k := fun z => (hn.resolve_right fun z => z q : k ∉ xs.map (·.1)) (List.mem_map.mpr (Og.I12 y hy z))
        unfold putAt; simp [this]
  · have e1 : (atKey (x :: xs) k).isSome = (atKey xs k).isSome := by unfold atKey; rw [List.find?_cons]; simp [q]
    rw [e1, if_neg q]
    split
    · rw [List.map_cons]
      congr 1
      unfold putAt; simp [q]
    · rfl
set_option tactic.hygienic true in
theorem put_tup {y : List Int} {a : Addr} {v : Value} {av : AV} (Rk : KeyR prog w F (encT y) (entryOfKey (tupK prog w) (y, a, v))) (Rv : Rel prog w F ρ v av) : ∀ {xs : List (List Int × Addr × Value)} {vs ks' vs' : List AV},
    Paired (fun e k => KeyR prog w F k e) (xs.map (entryOfKey (tupK prog w))) (xs.map fun x => encT x.1) → (xs.map (·.1)).Nodup → RelL prog w F ρ (xs.map (·.2.2)) vs → putK (encT y) av (xs.map fun x => encT x.1) vs = some (ks', vs') →
    ks' = (storedH xs y a v).map (fun x => encT x.1) ∧ Paired (fun e k => KeyR prog w F k e) ((storedH xs y a v).map (entryOfKey (tupK prog w))) ks' ∧ RelL prog w F ρ ((storedH xs y a v).map (·.2.2)) vs' := by
  intro xs
  induction xs with
  | nil =>
    intro vs ks' vs' _ _ L e
    cases L
    (replace e := Option.some.inj e; obtain ⟨h1, h2⟩ := Prod.mk.inj e; clear e; subst h1; subst h2)
    exact Og.I03 rfl (.cons Rk .nil) (.cons Rv .nil)
  | cons x xs ih =>
    intro vs ks' vs' hp hn L e
    replace hp := List.map_cons ▸ List.map_cons ▸ hp
    rw [List.map_cons] at hn L e
    cases hp with
    | cons h1 h2 =>
      cases L with
      | cons hb hr =>
        rename_i b vs
        have nd := List.nodup_cons.mp hn
        unfold putK at e
        rw [(keyEq_tup _ _ : keyEq (encT x.1) (encT y) = some (x.1 == y))] at e
        by_cases q : x.1 = y
        · rw [show (x.1 == y) = true from by simpa using q] at e
          (replace e := Option.some.inj e; obtain ⟨h1, h2⟩ := Prod.mk.inj e; clear e; subst h1; subst h2)
          refine (stored_cons (.inl (q ▸ nd.1))) ▸ (if_pos q) ▸ ?_
          refine Og.I03 rfl (.cons ?_ h2) (.cons Rv hr)
          refine Og.cps fun G kG => ?_
          obtain ⟨a1, vs1, n1, is1, z1, z2, z3, z4, z5⟩ := h1
          refine kG ?_
          clear kG
          exact ⟨a1, vs1, n1, is1, z1, z2, z3, z4, z5⟩
        · replace e := (by simpa using q : (x.1 == y) = false) ▸ e
          obtain ⟨⟨k2, v2⟩, e1, e2⟩ := map2 e
          clear e; obtain ⟨rfl, rfl⟩ := Prod.mk.inj e2
          obtain ⟨i1, i2, i3⟩ := ih h2 nd.2 hr e1
          refine (stored_cons (.inr q)) ▸ (if_neg q) ▸ ?_
          exact Og.I03 (by exact List.map_cons ▸ i1 ▸ rfl) (.cons h1 i2) (.cons hb i3)
/-- which kind of key is stored -/
theorem put_kinds {es : List DictEntry} {k av : AV} {ks vs ks' vs' : List AV} (R : KeysR prog w F es ks) (hl : ks.length = vs.length) (hk : keyOk k = true) (e : putK k av ks vs = some (ks', vs')) :
    (∃ i, ∃ l : List Int, k = .int i ∧ ks = l.map AV.int) ∨ (∃ x, ∃ l : List Str, k = .str x ∧ ks = l.map AV.str) ∨ (∃ y, k = encT y ∧ ∀ x ∈ ks, ∃ z : List Int, x = AV.tup (z.map AV.int)) := by
  have first : ks ≠ [] → ∃ x ∈ ks, ∃ b, keyEq x k = some b := fun hne => by
    cases ks with
    | nil => exact absurd rfl hne
    | cons x ks => cases vs with
      | nil => cases hl
      | cons y vs =>
        unfold putK at e
        cases z : keyEq x k with
        | some b => exact ⟨x, .head _, b, z⟩
        | none => rw [z] at e; exact Og.nos e
  obtain ⟨κ, hκ⟩ := R.kind
  have mkI : ∀ (l : List AV), (∀ k ∈ l, KKind.int.has k) → ∃ m : List Int, l = m.map AV.int := by
    intro l
    induction l with
    | nil => exact fun D0 => ⟨[], rfl⟩
    | cons y l ih => intro hy; obtain ⟨m, rfl⟩ := ih fun k hk => hy k (.tail _ hk)
                     obtain ⟨i, rfl⟩ := hy y (.head _); exact ⟨i :: m, rfl⟩
  have mkS : ∀ (l : List AV), (∀ k ∈ l, KKind.str.has k) → ∃ m : List Str, l = m.map AV.str := by
    intro l
    induction l with
    | nil => exact fun D0 => ⟨[], rfl⟩
    | cons y l ih => intro hy; obtain ⟨m, rfl⟩ := ih fun k hk => hy k (.tail _ hk)
                     obtain ⟨i, rfl⟩ := hy y (.head _); exact ⟨i :: m, rfl⟩
  by_cases hne : ks = []
  · clear R hl e first hκ; subst hne
    cases k with
    | int i => exact .inl (Og.I22 i ([]) rfl rfl)
    | str x => exact .inr (.inl (Og.I22 x ([]) rfl rfl))
    | tup l =>
      unfold keyOk at hk
      obtain ⟨is, h1⟩ := Option.isSome_iff_exists.mp hk
      exact .inr (.inr ⟨is, by exact (intsOf_eq h1) ▸ rfl, fun D0 hx => nomatch hx⟩)
    | _ => rcases hk
  · obtain ⟨x, hx, b, z⟩ := first hne
    rcases kind_of (hκ x hx) z with ⟨y, q1, rfl⟩ | ⟨i, q1, rfl⟩ | ⟨l, q1, rfl⟩
    · obtain ⟨m, rfl⟩ := mkS ks hκ
      exact .inr (.inl (Og.I22 y m q1 rfl))
    · obtain ⟨m, rfl⟩ := mkI ks hκ
      exact .inl (Og.I22 i m q1 rfl)
    · subst q1
      unfold keyOk at hk
      obtain ⟨is, h1⟩ := Option.isSome_iff_exists.mp hk
      exact .inr (.inr ⟨is, by exact (intsOf_eq h1) ▸ rfl, hκ⟩)
theorem dset_val {κ : Type} [DecidableEq κ] {knd : KeyKind prog w κ} {enc : κ → AV} (dk : DKind knd enc) {a : Addr} {es : List DictEntry} {n : Nat} {l : List κ} {k : κ} {u v : Value} {av : AV} {vs ks' vs' : List AV} (ho : s.heap.get? a = some (dctO es n)) (R : KeysR prog w F es (l.map enc)) (L : RelL prog w F ρ (es.map (·.val)) vs)
    (hu : knd.is k u = true) (Rv : Rel prog w F ρ v av) (e : putK (enc k) av (l.map enc) vs = some (ks', vs')) (hsz : es.length ≤ sizeLine) {Q : Unit → Shared → Prop}
    (q : ∀ h' es' n' tk, (∀ b o, b ≠ a → s.heap.get? b = some o → h'.get? b = some o) → h'.get? a = some (dctO es' n') → KeysR prog w F es' ks' → RelL prog w F ρ (es'.map (·.val)) vs' → Q () { s with heap := h', toks := tk }) :
    wpAny (model prog w) A (dictSet a u v) Q E s := by
  have len : es.length = l.length := by have := Paired.length R.pairs; simpa using this
  have e1 : (l.zip (es.map (·.val))).map (·.1) = l := zip_fst _ _ (by simp [len])
  have e2 : (l.zip (es.map (·.val))).map (·.2) = es.map (·.val) := zip_snd _ _ (by simp [len])
  refine wpAny_dictSet_pairs hu (toDict dk ho R) (fun h' hd' hs => ?_) (by simp [len] at hsz ⊢; omega)
  refine Og.cps fun G kG => ?_
  obtain ⟨es', n', ho', hk', hv'⟩ := ofDict (F := F) dk hd'
  have e3 : (l.zip (es.map (·.val))).map (fun kv => enc kv.1) = l.map enc := by
    rw [show (fun kv : κ × Value => enc kv.1) = enc ∘ (·.1) from rfl, ← List.map_map, e1]
  obtain ⟨p1, p2⟩ := putK_stored (F := F) (ρ := ρ) dk Rv (kvs := l.zip (es.map (·.val))) (by rw [e1]; exact nodup_of_map enc R.nodup) (by exact e2 ▸ L) (by exact e3 ▸ e)
  refine kG ?_
  clear kG
  exact q h' es' n' _ (fun b o hb z => hs.extBut b o hb z) ho' (p1 ▸ hk') (hv' ▸ p2)
theorem dset (fz : ∀ a o, F a = some o → s.heap.get? a = some o) (hu : A.units + 20 < cLine) {a : Addr} {es : List DictEntry} {n : Nat} {k av : AV} {u v : Value} {ks vs ks' vs' : List AV} (ho : s.heap.get? a = some (dctO es n)) (R : KeysR prog w F es ks) (L : RelL prog w F ρ (es.map (·.val)) vs)
    (hk : keyOk k = true) (Ru : Rel prog w F ρ u k) (Rv : Rel prog w F ρ v av) (e : putK k av ks vs = some (ks', vs')) (hsz : es.length ≤ sizeLine) {Q : Unit → Shared → Prop}
    (q : ∀ h' es' n' tk, (∀ b o, b ≠ a → s.heap.get? b = some o → h'.get? b = some o) → h'.get? a = some (dctO es' n') → KeysR prog w F es' ks' → RelL prog w F ρ (es'.map (·.val)) vs' → Q () { s with heap := h', toks := tk }) :
    wpAny (model prog w) A (dictSet a u v) Q E s := by
  rcases put_kinds R (by rw [← Paired.length R.pairs, ← L.length, List.length_map] : ks.length = vs.length) hk e with ⟨i, l, rfl, rfl⟩ | ⟨x, l, rfl, rfl⟩ | ⟨y, rfl, hks⟩
  · cases Ru with
    | int _ t => exact dset_val dkInt ho R L (intKind_is prog w i t) Rv e hsz q
  · cases Ru with
    | str _ t => exact dset_val dkStr ho R L (strKind_is prog w x t) Rv e hsz q
  · obtain ⟨ta, us, m, rfl, Fa, La⟩ := Ru.inv
    ·
      refine Og.cps fun G kG => ?_
      obtain ⟨xs, hd, he, hkx⟩ := dictH fz ho R hks
      clear ho; subst he
      clear hks; subst (hkx : ks = xs.map fun x => encT x.1)
      have hit := itemsAre_of La
      have hnd : (xs.map (·.1)).Nodup := by
        have := R.nodup
        rw [show (fun x : List Int × Addr × Value => encT x.1) = encT ∘ (·.1) from rfl, ← List.map_map] at this
        exact nodup_of_map encT this
      have L' : RelL prog w F ρ (xs.map (·.2.2)) vs := by
        rw [List.map_map] at L
        exact L
      have Rk : KeyR prog w F (encT y) (entryOfKey (tupK prog w) (y, ta, v)) := ⟨ta, us, m, y, rfl, Fa, hit, rfl, rfl⟩
      obtain ⟨p1, p2, p3⟩ := put_tup Rk Rv R.pairs hnd L' e
      refine kG ?_
      clear kG
      refine wpAny_dictSet_heap (by refine (?_ : A.units < cLine); (clear hsz; omega)) (Og.I34 _ us.toArray m (fz _ _ Fa) rfl rfl hit : (tupK prog w).is s.heap y ta) hd (fun h' hd' hs => ?_) (by simpa using hsz)
      refine Og.cps fun G kG => ?_
      obtain ⟨o, es', n', ho', ⟨q1, q2, q3⟩, q4, q5, q6, q7⟩ := hd'
      obtain ⟨c, dd, dt, sl⟩ := o
      dsimp only at q1 q2 q3 q4
      subst q1 q2 q3 q4
      refine kG ?_
      clear kG
      refine q h' es'.toList n' _ (fun b o hb z => hs.extBut b o hb z) (by exact ho') ⟨by exact q5 ▸ p2, ?_, ⟨.tup, fun k hk' => ?_⟩⟩ (by rw [q5, List.map_map]; exact p3)
      · rw [p1, show (fun x : List Int × Addr × Value => encT x.1) = encT ∘ (·.1) from rfl, ← List.map_map]
        exact List.Pairwise.map encT (fun a b hab z => hab (encT_inj z)) q7
      · replace hk' := p1 ▸ hk'
        obtain ⟨x, _, rfl⟩ := List.mem_map.mp hk'
        exact ⟨x.1, rfl⟩
end
end Og
end
section
set_option maxRecDepth 100000
namespace Og
open PySem PySem.W PyProof.Rows PySem.Calls PySem.Spec PySem.SeqAt
theorem entry_upd_loop : entryFor table "dict.update.loop" = some Builtin.«dict.update.loop» := entryFor_of_tree (by kernel_rfl)
theorem plain_upd_loop : plainId "dict.update.loop" = true := by decide +kernel
section
variable {prog : Program} {w : World} {K : Frag} {p : Program} {loose : List Str} {mg mb : Str → Option Value} {B : Heap} {cL P : Addr} {F F' Fz : Fro} {Pr : Bk} {ρ ρ' ρz : List Addr} {st st' : Sto} {A : Around} {E : Value → Shared → Prop} {s : Shared} {h h' hz : Heap} {env : Env} {cx : Cx} {ow : Str → List Addr} {n : Nat} {sc : Scope}
theorem putK_len {k v : AV} : ∀ {ks vs ks' vs' : List AV}, putK k v ks vs = some (ks', vs') → ks'.length ≤ ks.length + 1 := by
  intro ks
  induction ks with
  | nil => intro vs ks' vs' e; (replace e := Option.some.inj e; obtain ⟨h1, h2⟩ := Prod.mk.inj e; clear e; subst h1; subst h2); simp
  | cons x ks ih =>
    intro vs ks' vs' e
    cases vs with
    | nil => (replace e := Option.some.inj e; obtain ⟨h1, h2⟩ := Prod.mk.inj e; clear e; subst h1; subst h2); simp
    | cons y vs =>
      unfold putK at e
      split at e
      · (replace e := Option.some.inj e; obtain ⟨h1, h2⟩ := Prod.mk.inj e; clear e; subst h1; subst h2); simp
      · refine O12 (Option.map_eq_some_iff.mp e) ?_; rintro ⟨k2, v2⟩ e1 e2
        clear e; cases e2
        have := ih e1
        simp only [List.length_cons]
        omega
      · exact nos e
set_option tactic.hygienic true in
theorem upd_loop (hh : A.handled = none) (hu : A.units + 25 < cLine) {R : Result → Shared → Prop} {ad d I : Addr} {items : List Value} {m : Nat} {s0 : Shared} (hlist : F ad = some (lstO items m)) (hdI : d ≠ I) (hdF : F d = none) (hIF : F I = none) :
    ∀ (l : List AV) (i : Nat) (h : Heap) (tk : Nat) (es : List DictEntry) (n : Nat) (ks vs ks' vs' : List AV), RelL prog w F ρ (items.drop i) l → i + l.length = items.length → (∀ a o, F a = some o → h.get? a = some o) → h.IsListIter I ad i → h.get? d = some (dctO es n) →
      KeysR prog w F es ks → RelL prog w F ρ (es.map (·.val)) vs → dictOfP l ks vs = some (ks', vs') → es.length + l.length ≤ sizeLine →
      (∀ h' tk es' n', (∀ b o, b ≠ d → b ≠ I → h.get? b = some o → h'.get? b = some o) → h'.get? d = some (dctO es' n') → KeysR prog w F es' ks' → RelL prog w F ρ (es'.map (·.val)) vs' → R (.ok (.ret .none)) { s0 with heap := h', toks := tk }) →
      codeAny (model prog w) A (.builtin "dict.update.loop" ⟨[.ref d, .ref I, rawInt i, .none], []⟩) R { s0 with heap := h, toks := tk } := by
  intro l
  induction l with
  | nil =>
    intro i h tk es n ks vs ks' vs' hr hi fz hit ho kr L e hsz k
    refine Og.cps fun G kG => ?_
    (replace e := Option.some.inj e; obtain ⟨h1, h2⟩ := Prod.mk.inj e; clear e; subst h1; subst h2)
    refine kG ?_
    clear kG
    refine codeAny_builtin entry_upd_loop ?_
    refine (Around.under_plainId plain_upd_loop _) ▸ ?_
    refine (?_ : wpAny _ A.in1 (pyNext (.ref I) >>= _) _ _ _)
    have hi' : i = items.length := by simpa using hi
    refine wpAny_bind (wpAny_pyNext_list_end hh hit (isList_of fz hlist) (by simp [hi']) fun h1 he => ?_)
    refine (?_ : wpAny _ _ (Builtin.Dict.addKeywords d [] >>= fun _ => ret .none) _ _ _)
    refine wpAny_bind (wpAny_pure (wpAny_pure ?_))
    exact k h1 _ es n (fun b o _ hb q => he b o hb q) (he d _ hdI ho) kr L
  | cons a l ih =>
    intro i h tk es n ks vs ks' vs' hr hi fz hit ho kr L e hsz k
    have hlt : i < items.length := by rw [List.length_cons] at hi; omega
    replace hr := (List.drop_eq_getElem_cons hlt : items.drop i = items[i] :: items.drop (i + 1)) ▸ hr
    cases hr with
    | cons hv hr =>
      refine codeAny_builtin entry_upd_loop ?_
      rw [Around.under_plainId plain_upd_loop _]
      refine (?_ : wpAny _ A.in1 (pyNext (.ref I) >>= _) _ _ _)
      have hx : items.toArray[i]? = some items[i] := by simp [hlt]
      refine wpAny_bind (wpAny_pyNext_list_item hit (isList_of fz hlist) hx fun h1 hit1 hs1 => ?_)
      refine Og.cps fun G kG => ?_
      obtain ⟨kk, vv, r, rfl⟩ : ∃ k v, a = .tup [k, v] := by
        cases a <;> first | exact nos e | skip
        next m =>
        match m, e with
        | [], e => exact nos e
        | [_], e => exact nos e
        | [_, _], _ => exact Og.I21 _ _ rfl
        | _ :: _ :: _ :: _, e => exact nos e
      refine kG ?_
      clear kG
      generalize hit0 : items[i] = it0 at hv hx
      refine O33 hv.inv ?_; rintro ta us m1 rfl Fa La
      ·
        cases La with
        | cons hk hr1 => cases hr1 with
          | cons hw hr2 =>
            cases hr2
            rename_i u v
            have hta : h1.get? ta = some (tupO [u, v] m1) := hs1.extBut ta _ (fun q => by subst q; exact Og.nos (hIF.symm.trans Fa)) (fz _ _ Fa)
            obtain ⟨hko, e⟩ := if_some (show (if keyOk kk then (putK kk vv ks vs).bind fun q => dictOfP l q.1 q.2 else none) = some (ks', vs') from e)
            · skip
              refine O12 (Option.bind_eq_some_iff.mp e) ?_; rintro ⟨ks1, vs1⟩ e1 e2
              dsimp only at e2
              refine wpAny_bind (wpAny_holding ?_)
              refine wpAny_bind (wpAny_tryCatch ?_)
              unfold Builtin.Dict.pairItems
              refine wpAny_bind (wpAny_typeOf (T := "tuple") (Og.I12 _ hta rfl) ?_)
              simp only [show (Value.type "tuple" == Value.type "list" || Value.type "tuple" == Value.type "tuple") = true from by decide, if_true]
              refine (rfl : seqItems? (.ref ta) = (load ta >>= fun o => match o.data with | .seq xs _ => pure (some xs) | _ => pure none)) ▸ ?_
              refine wpAny_bind (wpAny_bind (wpAny_load hta ?_))
              refine wpAny_pure ?_
              refine wpAny_pure ?_
              refine (?_ : wpAny _ _ (holding [u, v] (dictSet d u v)) _ _ _)
              have fz1 : ∀ a o, F a = some o → h1.get? a = some o := fun a o q => hs1.extBut a o (fun z => by subst z; rw [hIF] at q; exact nos q) (fz a o q)
              have hl1 : (l.length + 1) = (AV.tup [kk, vv] :: l).length := rfl
              refine wpAny_holding (dset (A := A.in1) fz1 (by have : A.in1.units = A.units + 1 := rfl; omega) (hs1.extBut d _ hdI ho) kr L hko hk hw e1 (Nat.le_trans (Nat.le_add_right _ _) hsz : es.length ≤ sizeLine) fun h2 es2 n2 tk2 hk2 ho2 kr2 L2 => ?_)
              refine wpAny_pure ⟨plainId_quiet plain_upd_loop _, ?_⟩
              have hlen : es2.length ≤ es.length + 1 := by exact (Paired.length kr2.pairs) ▸ (Paired.length kr.pairs) ▸ putK_len e1
              have hi1 : i + 1 + l.length = items.length := by rw [← hi, List.length_cons]; omega
              refine ih (i + 1) h2 tk2 es2 n2 ks1 vs1 ks' vs' hr hi1 (fun a o q => ?_) ?_ ho2 kr2 L2 e2 ?_ fun h' tk' es' n' kk' => ?_
              · exact hk2 a o (fun z => by clear hdI ih ho k hk2 ho2; subst z; rw [hdF] at q; exact nos q) (fz1 a o q)
              · exact Og.O12 hit1 fun o ho r => ⟨o, hk2 I o (Ne.symm hdI) ho, r⟩
              · rw [List.length_cons] at hsz; omega
              · exact k h' tk' es' n' (fun b o q1 q2 q3 => kk' b o q1 q2 (hk2 b o q1 (hs1.extBut b o q2 q3)))
theorem dictOf_sound (hh : A.handled = none) (hu : A.units + 40 < cLine) (G : GR prog w B P F ρ st s.heap) {v : Value} {l ks vs : List AV} (R : Rel prog w F ρ v (.lst l)) (hsz : l.length ≤ big) (e : dictOfP l [] [] = some (ks, vs)) {Q : Value → Shared → Prop} (k : PQ prog w B P F ρ s st (.dct ks vs) Q) :
    wpAny (model prog w) A (call (.type "dict") [v]) Q E s := by
  refine O33 R.inv ?_; rintro ad items m rfl Fa L
  ·
    refine callType_codes (Q₁ := fun obj s₁ => obj = .ref s.heap.objs.size ∧ s₁ = { s with heap := s.heap.push { cls := .type "dict", data := .dict #[] } }) PySem.F.kt_called_dict (PySem.F.kt_typeCall_dict_1 _) PySem.F.entry_dict_init (kt_code_dict_new _ ⟨rfl, rfl⟩) ?_
    rintro obj s₁ ⟨rfl, rfl⟩
    have hnew : (s.heap.push { cls := .type "dict", data := .dict #[] }).get? s.heap.objs.size = some (dctO [] 0) := Heap.get?_push_size _ rfl
    have hold : ∀ b o, s.heap.get? b = some o → (s.heap.push { cls := .type "dict", data := .dict #[] }).get? b = some o := fun b o q => Heap.get?_push_of_some _ q
    have had := hold _ _ (G.fz' _ _ Fa)
    have hT : Shared.TypeIs { s with heap := s.heap.push { cls := .type "dict", data := .dict #[] } } (.ref s.heap.objs.size) "dict" := Og.I12 _ hnew rfl
    refine Og.I03 hT (PySem.F.args_dict_init_2 _ _) ?_
    unfold Builtin.«dict.__init__»
    refine wpAny_bind ?_
    unfold Builtin.Dict.selfAndRest
    refine wpAny_bind (wpAny_notOrdered_dict hT ?_)
    refine (?_ : wpAny _ _ (pure (s.heap.objs.size, [Value.ref ad])) _ _ _)
    refine wpAny_pure ?_
    refine (?_ : wpAny _ _ (Builtin.Dict.updateFrom "dict.__init__" s.heap.objs.size (.ref ad) [] .none) _ _ _)
    unfold Builtin.Dict.updateFrom
    refine wpAny_bind (wpAny_typeOf (T := "list") (Og.I12 _ had rfl) ?_)
    rw [if_pos (by decide)]
    refine wpAny_bind (keys_none had hh fun h1 tk1 k1 => ?_)
    have dI : s.heap.get? h1.objs.size = none := by
      cases z : s.heap.get? h1.objs.size with
      | none => rfl
      | some o => exact absurd (Heap.lt_size (k1 _ o (hold _ o z))) (Nat.lt_irrefl _)
    have hnew1 := k1 _ _ hnew
    have hd : s.heap.objs.size ≠ h1.objs.size := Nat.ne_of_lt (Heap.lt_size hnew1)
    refine (if_pos (rfl : (none : Option Value).isNone = true)) ▸ ?_
    refine wpAny_bind (wpAny_rule ?_)
    refine wpAny_bind (wpAny_pyIter_list (items := items.toArray) ⟨_, (k1 _ _ had), rfl, m, rfl⟩ ?_)
    refine wpAny_bind (wpAny_pure ?_)
    refine wpAny_pure ⟨plainId_quiet plain_upd_loop _, ?_⟩
    have hlen := L.length
    refine upd_loop (A := A.in1) (s0 := s) hh (by have : A.in1.units = A.units + 1 := rfl; (clear hsz hlen; omega)) Fa hd (G.newOff (dead_size _ (Nat.le_refl _))).1 (G.newOff dI).1 l 0 _ tk1 [] 0 [] [] ks vs L (by refine hlen ▸ ?_; simp) (fun a o q => Heap.get?_push_of_some _ (k1 _ _ (hold _ _ (G.fz' _ _ q))))
      (Og.I13 _ (Heap.get?_push_size _ rfl) rfl rfl) (Heap.get?_push_of_some _ hnew1) ⟨.nil, .nil, ⟨.int, fun D0 q => nomatch q⟩⟩ .nil e (by refine hlen ▸ ?_; simpa using (by exact hlen ▸ Nat.le_trans hsz bigLine : items.length ≤ sizeLine)) fun h' tk' es' n' kk ho' kr' L' => ?_
    refine ⟨rfl, ?_⟩
    exact k.made (tk := tk') G (fun b o q => kk b o (fun z => by subst z; rw [dead_size _ (Nat.le_refl _)] at q; exact nos q) (fun z => by subst z; exact Og.nos (dI.symm.trans q)) (Heap.get?_push_of_some _ (k1 _ _ (hold _ _ q)))) (dead_size _ (Nat.le_refl _)) ho' fun F' hs hin => .dct hin (G.ne_modules (G.newOff (dead_size _ (Nat.le_refl _))).1) (kr'.mono hs) rfl (L'.mono hs fun D0 D1 z => z)
end
end Og
end
section
set_option maxRecDepth 100000
namespace Og
section
open PySem
open PySem.Sem (wp)
variable {prog : Program} {w : World} {A : Around} {E : Value → Shared → Prop} {s : Shared}
theorem dk_iter {d : Addr} {es : List DictEntry} {ep : Nat} {Q : Value → Shared → Prop} (hd : (d == sysModules) = false) (ho : s.heap.get? d = some { cls := .type "dict", data := .dict es.toArray ep })
    (hQ : Q (.ref s.heap.objs.size) { s with heap := s.heap.push { cls := .type "dict_keyiterator", data := .fields #[.ref d, .int 0 0, .int es.length 0, .int ep 0] } }) :
    wpAny (model prog w) A (pyIter (.ref d)) Q E s := by
  have hT : s.TypeIs (.ref d) "dict" := Og.I12 _ ho rfl
  refine wpAny_pyIter_slot hT F.slot_dict_iter (wpAny_call_entry F.slot_dict_iter hT F.entry_dict_iter ?_ (F.args_dict_iter_1 _))
  unfold Builtin.«dict.__iter__»
  refine wpAny_bind ?_
  unfold Builtin.Dict.dictSlotNone
  refine wpAny_bind (wpAny_notOrdered_dict hT ?_)
  refine (?_ : wpAny _ _ (pure (Value.ref d)) _ _ s)
  refine wpAny_pure ?_
  refine (?_ : wpAny _ _ (Builtin.Dict.showsAll d >>= _) _ _ s)
  unfold Builtin.Dict.showsAll
  refine (if_neg (by exact hd ▸ Bool.false_ne_true)) ▸ ?_
  refine wpAny_bind (wpAny_pure ?_)
  refine wpAny_bind (wpAny_dictEntries ho rfl ?_)
  refine wpAny_bind (wpAny_dictEpoch ho rfl ?_)
  refine wpAny_bind (wpAny_newObj_type (wpAny_pure ⟨_, rfl, "dict_keyiterator", _, Og.I12 _ (Heap.get?_push_size _ rfl) rfl, F.slot_dict_keyiterator_next.lookup, ?_⟩))
  exact hQ
theorem dk_item {it d : Addr} {i ep : Nat} {es : List DictEntry} {Q : Option Value → Shared → Prop} (hit : s.heap.IsKeyIter it d i es.length ep)
    (hod : s.heap.get? d = some { cls := .type "dict", data := .dict es.toArray ep }) (hlt : i < es.length)
    (hQ : ∀ h', h'.IsKeyIter it d (i + 1) es.length ep → Heap.SameBut it s.heap h' → Q (some es[i].key) { s with heap := h' }) :
    wpAny (model prog w) A (pyNext (.ref it)) Q E s := by
  refine Og.O13 (id hit) ?_; rintro o ho hc hd
  unfold pyNext
  refine wpAny_bind (wpAny_attempt (wpAny_callSpecial?_slot (name := Str.ofString "__next__") hit.typeIs F.slot_dict_keyiterator_next
    (wpAny_call_entry F.slot_dict_keyiterator_next hit.typeIs F.entry_dict_keyiterator_next ?_ (F.args_dict_keyiterator_next_1 _))))
  refine wpAny_bind (wpAny_pure ?_)
  refine wpAny_bind ?_
  refine wpAny_bind ?_
  first | refine wpAny_bind (wpAny_typeNameOfWhole_keyiter hit.typeIs (wpAny_pure ?_)) | refine wpAny_bind (wpAny_typeNameOf_keyiter hit.typeIs (wpAny_pure ?_))
  refine wpAny_bind (wpAny_fieldsOf ho hd ?_)
  refine (?_ : wpAny _ _ (if (Value.ref d == Value.none) = true then _ else _) _ _ s)
  rw [if_neg (show ¬ ((Value.ref d == Value.none) = true) from Bool.false_ne_true)]
  refine wpAny_bind (wpAny_pure ?_)
  refine wpAny_bind (wpAny_dictEntries hod rfl ?_)
  rw [if_neg (by simp)]
  refine wpAny_bind (wpAny_pure ?_)
  refine wpAny_bind (wpAny_dictEpoch hod rfl ?_)
  rw [if_neg (by simp)]
  refine wpAny_pure ?_
  have hlt' : i < es.toArray.size := by simpa using hlt
  simp only [show ¬ ((i : Int) < 0) from by omega, if_false, Int.toNat_natCast, Array.getElem?_eq_getElem hlt']
  refine wpAny_bind ?_
  first | refine wpAny_bind (wpAny_typeNameOfWhole_keyiter hit.typeIs (wpAny_pure ?_)) | refine wpAny_bind (wpAny_typeNameOf_keyiter hit.typeIs (wpAny_pure ?_))
  refine wpAny_bind (wpAny_isOneOf_keyiter hit.typeIs ?_)
  refine (?_ : wpAny _ _ (setField (.ref it) 1 (rawInt ((i : Int) + 1)) >>= _) _ _ s)
  refine wpAny_bind (wpAny_setField ho hd (by simp) ?_)
  have hit' : (s.heap.update it (Obj.mapFields (·.setIfInBounds 1 (rawInt ((i : Int) + 1))))).IsKeyIter it d (i + 1) es.length ep :=
    ⟨_, Heap.get?_update_self _ ho (Obj.isFreed_of_fields (Obj.data_mapFields hd _)), (Obj.cls_mapFields ..).trans hc, by rw [Obj.data_mapFields hd]; simp [rawInt]⟩
  refine wpAny_bind (wpAny_holding ?_)
  refine wpAny_bind (wpAny_isOneOf_keyiter (s := { s with heap := s.heap.update it (Obj.mapFields (·.setIfInBounds 1 (rawInt ((i : Int) + 1)))) }) hit'.typeIs ?_)
  refine (?_ : wpAny _ _ (pure es.toArray[i].key) _ _ _)
  exact wpAny_pure (wpAny_pure ⟨_, rfl, wpAny_pure (hQ _ hit' (Heap.SameBut.update ..))⟩)
theorem dk_end {it d : Addr} {i ep : Nat} {es : List DictEntry} {Q : Option Value → Shared → Prop} (hh : A.handled = none) (hit : s.heap.IsKeyIter it d i es.length ep)
    (hod : s.heap.get? d = some { cls := .type "dict", data := .dict es.toArray ep }) (hx : es.length ≤ i)
    (hQ : ∀ h', Heap.ExtBut it s.heap h' → Q none { s with heap := h' }) : wpAny (model prog w) A (pyNext (.ref it)) Q E s := by
  refine Og.O13 (id hit) ?_; rintro o ho hc hd
  unfold pyNext
  refine wpAny_bind (wpAny_attempt (wpAny_callSpecial?_slot (name := Str.ofString "__next__") hit.typeIs F.slot_dict_keyiterator_next
    (wpAny_call_entry F.slot_dict_keyiterator_next hit.typeIs F.entry_dict_keyiterator_next ?_ (F.args_dict_keyiterator_next_1 _))))
  refine wpAny_bind (wpAny_pure ?_)
  refine wpAny_bind ?_
  refine wpAny_bind ?_
  first | refine wpAny_bind (wpAny_typeNameOfWhole_keyiter hit.typeIs (wpAny_pure ?_)) | refine wpAny_bind (wpAny_typeNameOf_keyiter hit.typeIs (wpAny_pure ?_))
  refine wpAny_bind (wpAny_fieldsOf ho hd ?_)
  refine (?_ : wpAny _ _ (if (Value.ref d == Value.none) = true then _ else _) _ _ s)
  rw [if_neg (show ¬ ((Value.ref d == Value.none) = true) from Bool.false_ne_true)]
  refine wpAny_bind (wpAny_pure ?_)
  refine wpAny_bind (wpAny_dictEntries hod rfl ?_)
  rw [if_neg (by simp)]
  refine wpAny_bind (wpAny_pure ?_)
  refine wpAny_bind (wpAny_dictEpoch hod rfl ?_)
  rw [if_neg (by simp)]
  refine wpAny_pure ?_
  simp only [show ¬ ((i : Int) < 0) from by omega, if_false, Int.toNat_natCast, Array.getElem?_eq_none (by exact hx : es.toArray.size ≤ i)]
  refine wpAny_bind ?_
  first | refine wpAny_bind (wpAny_typeNameOfWhole_keyiter hit.typeIs (wpAny_pure ?_)) | refine wpAny_bind (wpAny_typeNameOf_keyiter hit.typeIs (wpAny_pure ?_))
  refine (?_ : wpAny _ _ (setField (.ref it) 0 .none >>= _) _ _ s)
  refine wpAny_bind (wpAny_setField ho hd (by simp) ?_)
  refine (?_ : wpAny _ _ (newExc (.type "StopIteration") [] >>= _) _ _ _)
  refine wpAny_bind ?_
  simp only [newExc, newTuple]
  refine wpAny_bind (wpAny_newObj_type ?_ (by size_fits))
  refine wpAny_bind (m := firstArgMember _ _) (wpAny_of_eq (a := Value.none) (by first | rfl | (simp only [firstArgMember]; rfl)) ?_)
  refine wpAny_newObj_type ?_ (by size_fits)
  delta raiseNew
  refine wpAny_bind (wpAny_handled ?_)
  rw [show A.in1.handled = none from hh]
  refine wpAny_bind (wpAny_pure (wpAny_throw ?_))
  refine wpAny_bind (wpAny_isInstance (T := "StopIteration") (b := true) (Og.I12 _ (Heap.get?_push_size _ rfl) rfl) isSubtype_stop ?_)
  exact wpAny_pure (hQ _ (((Heap.SameBut.update ..).extBut.push _).push _))
theorem dk_walks (hh : A.handled = none) (I d : Addr) (hne : d ≠ I) (es : List DictEntry) (ep : Nat) :
    Walks prog w A I [I, d] [I] es.length (fun i v => ∃ e, es[i]? = some e ∧ v = e.key) (fun i h => h.IsKeyIter I d i es.length ep ∧ h.get? d = some { cls := .type "dict", data := .dict es.toArray ep }) where
  sub := fun b hb => by simp at hb; simp [hb]
  frame := fun D0 D1 D2 st hk => ⟨st.1.at fun o e => hk I (by simp) o e, hk d (by simp) _ st.2⟩
  item := fun i s Q E hi st hQ => by
    refine dk_item st.1 st.2 hi fun h' hit' hs' => ?_
    exact hQ _ h' s.toks (Og.I12 (es[i]) (by simp [hi]) rfl) ⟨hit', hs'.extBut d _ hne st.2⟩ fun b o hb e => hs'.extBut b o (fun h => hb (by simp [h])) e
  done := fun s Q E st hQ => dk_end hh st.1 st.2 (Nat.le_refl _) fun h' he' => hQ h' s.toks fun b o hb e => he' b o (fun h => hb (by simp [h])) e
  self := fun D0 D1 D2 D3 st hQ => wpAny_pyIter_keyiter st.1 hQ
theorem dk_src {d : Addr} {es : List DictEntry} {ep : Nat} (lo : (d == sysModules) = false) : W.KdlSrc prog w "dict" d d es.length (fun i v => ∃ e, es[i]? = some e ∧ v = e.key) (fun h => h.get? d = some { cls := .type "dict", data := .dict es.toArray ep }) where
  type := fun D0 hm => Og.I12 _ hm rfl
  there := fun D0 hm => ⟨Heap.lt_size hm, Heap.lt_size hm⟩
  keep := fun D0 D1 hm hk => hk d (.inl rfl) _ hm
  notList := by decide
  notTuple := by decide
  hint := fun D0 D1 D2 D3 hm hq => W.kdl_hint_dict (Og.I12 _ hm rfl) hq
  iter := fun D0 D1 hh hm => Og.I23 _ _ (fun D0 D1 hq => dk_iter lo hm hq) (dk_walks hh _ d (Nat.ne_of_lt (Heap.lt_size hm)) es ep) ⟨⟨_, Heap.get?_push_size _ rfl, rfl, rfl⟩, Heap.get?_push_of_some _ hm⟩
end
end Og
namespace Og
section
open PySem PySem.W PySem.Calls PyProof.Rows
variable {prog : Program} {w : World} {A : Around} {E : Value → Shared → Prop} {s : Shared}
theorem kas_sort2 : kas_sort 2 = .ask 1 0 fun c => .ret (if c = true then #[1, 0] else #[0, 1]) := by
  refine (?_ : KasT.ask 1 0 _ = _)
  congr 1
  funext c
  cases c <;> rfl
theorem sort_short {a : Addr} {vs : List Value} {n : Nat} {P : Fin → Shared → Prop} (ho : s.heap.get? a = some (seqObj "list" vs.toArray n)) (h1 : vs.length < 2)
    (h : P (.done (.ret .none)) { s with heap := sortedHeap s.heap a vs vs.toArray }) :
    wpAny (model prog w) A (Builtin.«list.sort» ⟨[.ref a], []⟩) P E s := by
  rw [list_sort_plain]
  have ha : a < s.heap.objs.size := Heap.lt_size ho
  refine wpAny_bind (listItems_at ho rfl ?_)
  refine wpAny_bind (listUpdate_at ho rfl ?_ (by refine List.size_toArray ▸ sizeLine_eq ▸ ?_; (clear ha; omega)) (Nat.zero_le _))
  obtain ⟨e1, ho1⟩ : ∃ e1, (s.heap.update a (Obj.mapSeq fun D0 => #[])).get? a = some (seqObj "list" #[] e1) := ⟨_, get?_update_seq ho (fun D0 => #[])⟩
  refine wpAny_bind (seqEpoch_at ho1 rfl ?_)
  refine wpAny_bind (wpAny_newTuple ?_ (by refine (?_ : vs.length ≤ _); refine sizeLine_eq ▸ ?_; (clear ha; omega)))
  refine wpAny_bind (wpAny_newList ?_ (Nat.zero_le _))
  refine wpAny_holding ?_
  have ho6 : (((s.heap.update a (Obj.mapSeq fun D0 => #[])).push (seqObj "tuple" vs.toArray 0)).push (seqObj "list" #[] 0)).get? a = some (seqObj "list" #[] e1) := by
    rw [Heap.get?_push_ne _ _ _ (by rw [size_push', Heap.size_update]; exact Nat.ne_of_lt (Nat.lt_succ_of_lt ha)), Heap.get?_push_ne _ _ _ (by rw [Heap.size_update]; exact Nat.ne_of_lt ha)]
    exact ho1
  refine (?_ : wpAny (model prog w) A _ P E { s with heap := ((s.heap.update a (Obj.mapSeq fun D0 => #[])).push (seqObj "tuple" vs.toArray 0)).push (seqObj "list" #[] 0) })
  dsimp only
  have h2 : vs.toArray.size < 2 := by exact List.size_toArray ▸ h1
  rw [if_pos h2, if_pos h2]
  refine wpAny_bind (wpAny_pure ?_)
  rw [StateT.run_pure]
  refine wpAny_bind (wpAny_pure ?_)
  dsimp only
  refine wpAny_bind (seqEpoch_at ho6 rfl ?_)
  have hz : (arrOf (SortSt.mk' general' (vs.toArray.zip vs.toArray) #[] 7 none)).map (·.2) = vs.toArray := by
    refine (?_ : (vs.toArray.zip vs.toArray).map (·.2) = _)
    apply Array.ext <;> simp
  rw [hz]
  refine wpAny_bind (listUpdate_at ho6 rfl ?_ (Nat.zero_le _) (by refine List.size_toArray ▸ sizeLine_eq ▸ ?_; (clear ha h2; omega)))
  simp only [bne_self_eq_false, Bool.false_eq_true, if_false]
  exact wpAny_pure h
theorem sort_two {a x y : Addr} {i j : Int} {ti tj : Tok} {n n1 n2 : Nat} {P : Fin → Shared → Prop} (ho : s.heap.get? a = some (seqObj "list" #[.ref x, .ref y] n))
    (hx : s.heap.get? x = some (seqObj "tuple" #[.int i ti] n1)) (hy : s.heap.get? y = some (seqObj "tuple" #[.int j tj] n2)) (hxa : x ≠ a) (hya : y ≠ a)
    (h : P (.done (.ret .none)) { s with heap := sortedHeap s.heap a [.ref x, .ref y] (if j < i then #[.ref y, .ref x] else #[.ref x, .ref y]) }) :
    wpAny (model prog w) A (Builtin.«list.sort» ⟨[.ref a], []⟩) P E s := by
  rw [list_sort_plain]
  have ha : a < s.heap.objs.size := Heap.lt_size ho
  refine wpAny_bind (listItems_at ho rfl ?_)
  refine wpAny_bind (listUpdate_at ho rfl ?_ (by refine (?_ : 2 ≤ _); rw [sizeLine_eq]; omega) (Nat.zero_le _))
  obtain ⟨e1, ho1⟩ : ∃ e1, (s.heap.update a (Obj.mapSeq fun D0 => #[])).get? a = some (seqObj "list" #[] e1) := ⟨_, get?_update_seq ho (fun D0 => #[])⟩
  refine wpAny_bind (seqEpoch_at ho1 rfl ?_)
  refine wpAny_bind (wpAny_newTuple ?_ (by refine (?_ : 2 ≤ _); rw [sizeLine_eq]; omega))
  refine wpAny_bind (wpAny_newList ?_ (Nat.zero_le _))
  refine wpAny_holding ?_
  have ho6 : (((s.heap.update a (Obj.mapSeq fun D0 => #[])).push (seqObj "tuple" [Value.ref x, .ref y].toArray 0)).push (seqObj "list" #[] 0)).get? a = some (seqObj "list" #[] e1) := by
    rw [Heap.get?_push_ne _ _ _ (by rw [size_push', Heap.size_update]; exact Nat.ne_of_lt (Nat.lt_succ_of_lt ha)), Heap.get?_push_ne _ _ _ (by rw [Heap.size_update]; exact Nat.ne_of_lt ha)]
    exact ho1
  have keep : ∀ b o, b ≠ a → s.heap.get? b = some o → (((s.heap.update a (Obj.mapSeq fun D0 => #[])).push (seqObj "tuple" [Value.ref x, .ref y].toArray 0)).push (seqObj "list" #[] 0)).get? b = some o := fun b o hb q =>
    Heap.get?_push_of_some _ (Heap.get?_push_of_some _ ((Heap.get?_update_other _ _ (Ne.symm hb)).trans q))
  have hx6 := keep _ _ hxa hx
  have hy6 := keep _ _ hya hy
  refine (?_ : wpAny (model prog w) A _ P E { s with heap := ((s.heap.update a (Obj.mapSeq fun D0 => #[])).push (seqObj "tuple" [Value.ref x, .ref y].toArray 0)).push (seqObj "list" #[] 0) })
  skip
  have h2 : ¬ (#[Value.ref x, .ref y] : Array Value).size < 2 := Nat.lt_irrefl 2
  refine (if_neg h2) ▸ (if_neg h2) ▸ ?_
  refine wpAny_bind (kat_kind (vs := [.ref x, .ref y]) (fs := [.int i ti, .int j tj]) (T := .type "int") (.cons hx6 rfl rfl rfl (.cons hy6 rfl rfl rfl .nil)) (Nat.succ_pos _) (fun v hv => ?_) (by decide) ?_)
  · rcases List.mem_cons.mp hv with rfl | hv
    · exact Looks.of_pure rfl
    · exact (List.mem_singleton.mp hv) ▸ Looks.of_pure rfl
  refine wpAny_bind (wpAny_mono (kat_run (vs := [.ref x, .ref y]) (ks := [.ref x, .ref y]) (G := fun p s' => p = (if j < i then #[1, 0] else #[0, 1]) ∧ s' = { s with heap := ((s.heap.update a (Obj.mapSeq fun D0 => #[])).push (seqObj "tuple" [Value.ref x, .ref y].toArray 0)).push (seqObj "list" #[] 0) })
    (Q := fun st' s' => ∃ p : Array Nat, p.size = 2 ∧ arrOf st' = p.map (kas_item ([Value.ref x, .ref y].toArray.zip [Value.ref x, .ref y].toArray)) ∧ failedOf st' = none ∧ p = (if j < i then #[1, 0] else #[0, 1]) ∧ s' = { s with heap := ((s.heap.update a (Obj.mapSeq fun D0 => #[])).push (seqObj "tuple" [Value.ref x, .ref y].toArray 0)).push (seqObj "list" #[] 0) })
    rfl (Nat.le_refl 2) (show 2 < 64 by decide) (fun p' st' s' a1 a2 a3 a4 => Og.I14 p' a1 a2 a3 a4) ?_) ?_ fun D0 D1 e => e)
  · refine (?_ : (kas_sort 2).kasWp _ _ _)
    refine kas_sort2 ▸ ?_
    refine (?_ : wpAny _ _ (keyLt' (tuples' true) (.ref y) (.ref x)) _ _ _)
    refine kat_lt hy6 rfl hx6 rfl ?_
    refine (?_ : KatLex _ _ _ _ _ _ [(.int j tj, .int i ti)] 0 _)
    refine kat_cons (wpAny_eqBool_int (kat_go (fun e => ?_) fun e => ?_))
    · refine kat_yes (kat_nil ?_)
      have : j = i := by simpa using e
      clear hx h hx6 e; subst this
      refine ⟨?_, rfl⟩
      rw [if_neg (Int.lt_irrefl _)]; rfl
    · refine kat_no (oneLt_int ?_)
      refine ⟨?_, rfl⟩
      by_cases hji : j < i
      · simp [hji]
      · simp [hji]
  rintro ⟨⟨⟩, st'⟩ s' ⟨p, hp, har, hf, hpe, rfl⟩
  skip
  refine wpAny_bind (seqEpoch_at ho6 rfl ?_)
  have ho2 : (arrOf st').map (·.2) = if j < i then #[.ref y, .ref x] else #[.ref x, .ref y] := by
    rw [(kat_snds (vs := [.ref x, .ref y]) (ks := [.ref x, .ref y]) rfl har), hpe]; split <;> rfl
  rw [ho2]
  refine wpAny_bind (listUpdate_at ho6 rfl ?_ (Nat.zero_le _) (by split <;> (show 2 ≤ _; refine sizeLine_eq ▸ ?_; omega)))
  rw [hf]
  simp only [bne_self_eq_false, Bool.false_eq_true, if_false]
  exact wpAny_pure h
theorem sorted_shell {d : Addr} {es : List DictEntry} {ep : Nat} {Q : Value → Shared → Prop} (hh : A.handled = none) (lo : (d == sysModules) = false) (ho : s.heap.get? d = some { cls := .type "dict", data := .dict es.toArray ep }) (hn : es.length ≤ sizeLine)
    (h : ∀ h' tk D, (∀ b o, s.heap.get? b = some o → h'.get? b = some o) → s.heap.get? D = none → h'.get? D = some (seqObj "list" (es.map (·.key)).toArray 0) →
      wpAny (model prog w) A.in1.in1 (Builtin.«list.sort» ⟨[.ref D], []⟩) (fun f s' => f = .done (.ret .none) ∧ Q (.ref D) s') (fun D0 D1 => False) { s with heap := h', toks := tk }) :
    wpAny (model prog w) A (call (.builtin "sorted") [.ref d]) Q E s := by
  refine call_function_entry kind_sorted plain_sorted entry_sorted (args_sorted1 _) ?_
  unfold Builtin.«sorted»
  refine wpAny_bind (m := checkCount "sorted" 1 1 _) (wpAny_pure ?_)
  refine wpAny_bind (kdu_collect (A := A.in1) (dk_src lo) hh ho hn fun h' tk acc hk hacc => ?_)
  have he : acc.toList = es.map (·.key) := by
    apply List.ext_getElem (by simp [hacc.1])
    intro i h1 h2
    obtain ⟨e, q1, q2⟩ := hacc.2 i acc[i] (by simp at h1; simp [h1])
    simp only [Array.getElem_toList, List.getElem_map]
    refine q2 ▸ ?_
    have hi : i < es.length := by simpa using h2
    replace q1 := (List.getElem?_eq_getElem hi) ▸ q1
    (replace q1 := Option.some.inj q1; clear q2; subst q1); rfl
  refine wpAny_bind (wpAny_newList ?_ (by exact (by exact Array.length_toList ▸ hacc.1 : acc.toList.length = es.length) ▸ hn))
  have hD : s.heap.get? h'.objs.size = none := by
    cases z : s.heap.get? h'.objs.size with
    | none => rfl
    | some o => exact absurd (Heap.lt_size (hk _ o z)) (Nat.lt_irrefl _)
  have hoD : (h'.push { cls := .type "list", data := .seq acc.toList.toArray }).get? h'.objs.size = some (seqObj "list" (es.map (·.key)).toArray 0) := by
    exact he ▸ Heap.get?_push_size _ rfl
  refine wpAny_bind (wpAny_holding (wpAny_call_entry slot_list_sort (Og.I12 _ hoD rfl) entry_list_sort ?_ (args_list_sort _)))
  refine wpAny_mono (h (h'.push { cls := .type "list", data := .seq acc.toList.toArray }) tk h'.objs.size (fun b o q => Heap.get?_push_of_some _ (hk _ _ q)) hD hoD) (fun f s' x => ?_) fun D0 D1 x => x.elim
  obtain ⟨rfl, x⟩ := x
  exact ⟨_, rfl, wpAny_pure (Og.I12 _ rfl x)⟩
end
end Og
end
section
set_option maxRecDepth 100000
namespace Og
open PySem PySem.W PyProof.Rows PySem.Calls PySem.Spec PySem.SeqAt
noncomputable def insI (a : Int) : List Int → List Int
  | [] => [a]
  | b :: l => if a < b then a :: b :: l else b :: insI a l
noncomputable def sortI : List Int → List Int
  | [] => []
  | a :: l => insI a (sortI l)
theorem insI_perm (a : Int) : ∀ l : List Int, (insI a l).Perm (a :: l)
  | [] => .refl _
  | b :: l => by
    unfold insI
    split
    · exact .refl _
    · exact ((insI_perm a l).cons b).trans (.swap _ _ _)
theorem sortI_perm : ∀ l : List Int, (sortI l).Perm l
  | [] => .refl _
  | a :: l => (insI_perm a _).trans ((sortI_perm l).cons a)
set_option tactic.hygienic true in
theorem insI_asc (a : Int) : ∀ {l : List Int}, l.Pairwise (· ≤ ·) → (insI a l).Pairwise (· ≤ ·)
  | [], _ => by delta insI; simp
  | b :: l, h => by
    unfold insI
    split
    · rename_i q
      refine .cons (fun x hx => ?_) h
      rcases List.mem_cons.mp hx with rfl | hx
      · exact Int.le_of_lt q
      · exact Int.le_trans (Int.le_of_lt q) ((List.pairwise_cons.mp h).1 x hx)
    · rename_i q
      refine .cons (fun x hx => ?_) (insI_asc a (List.pairwise_cons.mp h).2)
      rcases List.mem_cons.mp ((insI_perm a l).mem_iff.mp hx) with rfl | hx
      · exact Int.not_lt.mp q
      · exact (List.pairwise_cons.mp h).1 x hx
theorem sortI_asc : ∀ l : List Int, (sortI l).Pairwise (· ≤ ·)
  | [] => .nil
  | a :: l => insI_asc a (sortI_asc l)
theorem insA_ints (a : Int) : ∀ l : List Int, insA (.int a) (l.map AV.int) = some ((insI a l).map AV.int)
  | [] => rfl
  | b :: l => by
    refine (?_ : insA (.int a) (.int b :: l.map AV.int) = _)
    unfold insA
    have hl : ltA (.int a) (.int b) = some (decide (a < b)) := rfl
    refine hl ▸ ?_
    unfold insI
    by_cases h : a < b
    · simp [h]
    · simp [h, insA_ints a l]
theorem sortA_ints : ∀ l : List Int, sortA (l.map AV.int) = some ((sortI l).map AV.int)
  | [] => rfl
  | a :: l => by
    refine (?_ : (sortA (l.map AV.int)).bind (insA (.int a)) = _)
    exact (sortA_ints l) ▸ insA_ints a _
theorem allInt : ∀ {ks : List AV}, ks.all isIntA = true → ∃ l : List Int, ks = l.map AV.int
  | [], _ => ⟨[], rfl⟩
  | k :: ks, h => by
    rw [List.all_cons, Bool.and_eq_true] at h
    obtain ⟨l, rfl⟩ := allInt h.2
    cases k with
    | int i => exact ⟨i :: l, rfl⟩
    | _ => cases h.1
section
variable {prog : Program} {w : World} {B : Heap} {P : Addr} {F : Fro} {ρ : List Addr} {st : Sto} {A : Around} {E : Value → Shared → Prop} {s : Shared}
theorem rel_ints : ∀ {vs : List Value} {ns : List Int}, IntsAre vs ns → RelL prog w F ρ vs (ns.map AV.int)
  | _, _, .nil => .nil
  | _, _, .cons n t r => .cons (.int n t) (rel_ints r)
theorem keys_ints : ∀ {es : List DictEntry} {ns : List Int}, Paired (fun e k => KeyR prog w F k e) es (ns.map AV.int) → IntsAre (es.map (·.key)) ns
  | [], [], _ => .nil
  | e :: es, n :: ns, .cons h r => by
    obtain ⟨⟨t, q⟩, _⟩ := h
    refine (?_ : IntsAre (e.key :: es.map (·.key)) (n :: ns))
    exact q ▸ .cons n t (keys_ints r)
theorem items_rel : ∀ {vs : List Value} {is : List Int}, ItemsAre (intKind prog w) is vs → RelL prog w F ρ vs (is.map AV.int)
  | _, _, .nil => .nil
  | v :: vs, i :: is, .cons h r => by
    obtain ⟨t, q⟩ := Value.isInt_shape h
    exact q ▸ .cons (.int i t) (items_rel r)
theorem key_rel {k : AV} {e : DictEntry} (h : KeyR prog w F k e) : Rel prog w F ρ e.key k := by
  cases k <;> try exact h.elim
  · obtain ⟨⟨t, q⟩, _⟩ := h
    exact q ▸ .int _ t
  · obtain ⟨⟨t, q⟩, _⟩ := h
    exact q ▸ .str _ t
  · refine O4_5 h ?_; clear h; rintro a vs n is q Fa hi rfl _
    exact q ▸ .tup Fa (items_rel hi)
theorem keys_rel {es : List DictEntry} {ks : List AV} (h : Paired (fun e k => KeyR prog w F k e) es ks) : RelL prog w F ρ (es.map (·.key)) ks := by
  induction h with
  | nil => exact .nil
  | cons h _ ih => exact .cons (key_rel h) ih
theorem len2 {α : Type} : ∀ {l : List α}, l.length = 2 → ∃ a b, l = [a, b]
  | [_, _], _ => ⟨_, _, rfl⟩
theorem one_int {l : List Int} {i : Int} (h : [AV.int i] = l.map AV.int) : l = [i] := by
  match l, h with
  | [_], h => cases h; rfl
theorem sortA_short {ks l : List AV} (h : ks.length < 2) (e : sortA ks = some l) : l = ks := by
  match ks, h, e with
  | [], _, e => (replace e := Option.some.inj e; subst e); rfl
  | [x], _, e => (replace e := Option.some.inj e; subst e); rfl
  | _ :: _ :: _, h, _ => exact absurd h (by simp only [List.length_cons]; (clear h; omega))
theorem keyPair {i : Int} {e : DictEntry} (p : KeyR prog w F (.tup [.int i]) e) : ∃ x t m, e.key = .ref x ∧ F x = some (tupO [.int i t] m) := by
  refine Og.cps fun G kG => ?_
  refine O4_5 p ?_; clear p; rintro x us m is q Fx hi hl _
  replace hi := (one_int hl) ▸ hi
  obtain ⟨t, rfl⟩ := rel_one_int (F := F) (ρ := []) (items_rel hi)
  refine kG ?_
  clear kG
  exact Og.I32 x t m q Fx
theorem insA_two {k1 k2 : AV} {l : List AV} (e : insA k1 [k2] = some l) : ∃ b, ltA k1 k2 = some b ∧ l = if b then [k1, k2] else [k2, k1] := by
  unfold insA at e
  cases q : ltA k1 k2 with
  | none => replace e := q ▸ e; exact nos e
  | some b =>
    rw [q] at e
    cases b with
    | true => exact Og.I12 true rfl ((Option.some.inj e).symm)
    | false => exact Og.I12 false rfl ((Option.some.inj e).symm)
theorem pair_of {P' : DictEntry → AV → Prop} {e1 e2 : DictEntry} {k1 k2 : AV} (h : Paired P' [e1, e2] [k1, k2]) : P' e1 k1 ∧ P' e2 k2 := by
  cases h with
  | cons h1 h2 => cases h2 with
    | cons h2 _ => exact ⟨h1, h2⟩
theorem sorted_sound (hh : A.handled = none) (G : GR prog w B P F ρ st s.heap) {v : Value} {l ks vs : List AV} (R : Rel prog w F ρ v (.dct ks vs)) (hsz : ks.length ≤ 16) (hcase : (decide (ks.length ≤ 2) || ks.all isIntA) = true) (e : sortA ks = some l) {Q : Value → Shared → Prop} (k : PQ prog w B P F ρ s st (.lst l) Q) :
    wpAny (model prog w) A (call (.builtin "sorted") [v]) Q E s := by
  refine O4_6 R.inv ?_; clear R; rintro d es n us rfl Fa lo kr hu L
  ·
    have hlen := Paired.length kr.pairs
    refine sorted_shell hh lo (G.fz' _ _ Fa) (by refine hlen ▸ sizeLine_eq ▸ ?_; omega) fun h' tk D hk hD ho => ?_
    have G' := G.keeps (h' := h') hk
    have hnF : F D = none := (G.newOff hD).1
    have fin : ∀ out : List Value, RelL prog w F ρ out l → Q (.ref D) { s with heap := sortedHeap h' D (es.map (·.key)) out.toArray, toks := tk } := fun out hr => by
      obtain ⟨ep, he⟩ := sortedHeap_at (vs := es.map (·.key)) (out := out.toArray) ho
      exact k.made (tk := tk) G (fun b o q => (sortedHeap_old (fun z => by subst z; exact Og.nos (hD.symm.trans q)) (Heap.lt_size (hk _ _ q))).trans (hk _ _ q)) hD he fun F' hs hin => .lst hin (hr.mono hs fun D0 D1 z => z)
    by_cases hs1 : ks.length < 2
    · refine sort_short ho (by rw [List.length_map, hlen]; exact hs1) ⟨rfl, fin _ ?_⟩
      have : l = ks := sortA_short hs1 e
      exact this ▸ keys_rel kr.pairs
    by_cases hi : ks.all isIntA = true
    · obtain ⟨ns, rfl⟩ := allInt hi
      rw [sortA_ints] at e
      (replace e := Option.some.inj e; subst e)
      have hI := keys_ints kr.pairs
      refine list_sort_tree ho hI (by rw [List.length_map, hlen]; omega) fun out ns' h1 h2 h3 => ⟨rfl, ?_⟩
      have : ns' = sortI ns := lks_uniq (h2.trans (sortI_perm ns).symm) h3 (sortI_asc ns)
      subst this
      have := fin out.toList (rel_ints h1)
      exact this
    · have h2 : ks.length = 2 := by
        rw [Bool.or_eq_true] at hcase
        have := of_decide_eq_true (hcase.resolve_right hi)
        omega
      clear hcase hsz hs1
      refine O21 (len2 h2) ?_; rintro k1 k2 rfl
      refine O21 (len2 hlen) ?_; rintro e1 e2 rfl
      refine O12 (insA_two e) ?_; rintro b hb hl
      refine O22 (ltA_inv hb) ?_; rintro i j h hlt
      clear e hb h2 hlen
      rcases h with h | ⟨rfl, rfl⟩
      · exact absurd (by refine h.1 ▸ h.2 ▸ ?_; rfl) hi
      have kp := pair_of kr.pairs
      have hne : i ≠ j := fun z => (List.nodup_cons.mp kr.nodup).1 (z ▸ List.mem_singleton.mpr rfl)
      refine O32 (keyPair kp.1) ?_; rintro x ti m1 q1 Fx
      refine O32 (keyPair kp.2) ?_; rintro y tj m2 q2 Fy
      have he : [e1, e2].map (·.key) = [Value.ref x, .ref y] := by refine (?_ : [e1.key, e2.key] = _); exact q1 ▸ q2 ▸ rfl
      rw [he] at ho fin
      clear kp kr he q1 q2 L hu lo hi
      refine sort_two ho (hk _ _ (G.fz' _ _ Fx)) (hk _ _ (G.fz' _ _ Fy)) (fun z => by replace Fx := hnF ▸ z ▸ Fx; exact nos Fx) (fun z => by replace Fy := hnF ▸ z ▸ Fy; exact nos Fy) ⟨rfl, ?_⟩
      by_cases hij : i < j
      · replace hl := (decide_eq_true hij) ▸ hlt ▸ hl
        rw [if_neg (by omega)]
        exact fin [.ref x, .ref y] (hl ▸ .cons (.tup Fx (.cons (.int i ti) .nil)) (.cons (.tup Fy (.cons (.int j tj) .nil)) .nil))
      · replace hl := (decide_eq_false hij) ▸ hlt ▸ hl
        rw [if_pos (by omega)]
        exact fin [.ref y, .ref x] (hl ▸ .cons (.tup Fy (.cons (.int j tj) .nil)) (.cons (.tup Fx (.cons (.int i ti) .nil)) .nil))
end
end Og
end
section
set_option maxRecDepth 100000
namespace Og
open PySem PySem.W PyProof.Rows PySem.Calls PySem.Spec PySem.SeqAt
section
variable {prog : Program} {w : World} {K : Frag} {p : Program} {loose : List Str} {mg mb : Str → Option Value} {B : Heap} {cL P : Addr} {F F' Fz : Fro} {Pr : Bk} {ρ ρ' ρz : List Addr} {st st' : Sto} {A : Around} {E : Value → Shared → Prop} {s : Shared} {h h' hz : Heap} {env : Env} {cx : Cx} {ow : Str → List Addr} {n : Nat} {sc : Scope}
theorem pairs_rel {κ : Type} [DecidableEq κ] {knd : KeyKind prog w κ} {enc : κ → AV} (dk : DKind knd enc) : ∀ (as : List Addr) (kvs : List (κ × Value)) (vs : List AV), as.length = kvs.length →
    (∀ (j : Nat) (a : Addr), as[j]? = some a → ∃ key k x, kvs[j]? = some (k, x) ∧ knd.is k key = true ∧ F a = some (tupO [key, x] 0)) → RelL prog w F ρ (kvs.map (·.2)) vs → RelL prog w F ρ (as.map Value.ref) (pairsOf (kvs.map fun kv => enc kv.1) vs) := by
  intro as
  induction as with
  | nil =>
    intro kvs vs hl _ h
    rw [List.eq_nil_of_length_eq_zero hl.symm] at h ⊢
    exact (RelL.nilL h) ▸ .nil
  | cons a as ih =>
    intro kvs vs hl hp h
    cases kvs with
    | nil => exact nomatch hl
    | cons kv kvs =>
      refine O23 (RelL.consL h) ?_; rintro v us rfl hv hr
      refine O33 (hp 0 a rfl) ?_; rintro key k x e1 e2 e3
      rw [Option.some.inj e1] at hv ⊢
      exact .cons (.tup e3 (.cons (dk.rel F ρ _ _ e2) (.cons hv .nil))) (ih kvs us (Nat.succ.inj hl) (fun j b hb => hp (j + 1) b hb) hr)
theorem items_kind {κ : Type} [DecidableEq κ] {knd : KeyKind prog w κ} {enc : κ → AV} (dk : DKind knd enc) (hh : A.handled = none) (G : GR prog w B P F ρ st s.heap) {r d : Addr} {es : List DictEntry} {n : Nat} {l : List κ} {vs : List AV} (hv : s.heap.get? r = some (itmO d))
    (ho : s.heap.get? d = some (dctO es n)) (R : KeysR prog w F es (l.map enc)) (L : RelL prog w F ρ (es.map (·.val)) vs) (hsz : es.length ≤ sizeLine) {Q : Value → Shared → Prop} (k : PQ prog w B P F ρ s st (.lst (pairsOf (l.map enc) vs)) Q) :
    wpAny (model prog w) A (call (.type "list") [.ref r]) Q E s := by
  have len : es.length = l.length := by have := Paired.length R.pairs; simpa using this
  have e2 : (l.zip (es.map (·.val))).map (·.2) = es.map (·.val) := zip_snd _ _ (by simp [len])
  have e3 : (l.zip (es.map (·.val))).map (fun kv => enc kv.1) = l.map enc := by
    rw [show (fun kv : κ × Value => enc kv.1) = enc ∘ (·.1) from rfl, ← List.map_map, (zip_fst _ _ (by simp [len]) : (l.zip (es.map (·.val))).map (·.1) = l)]
  have hat : s.heap.DictAt knd d (l.zip (es.map (·.val))) n := by
    refine O34 (toDict dk ho R) ?_; rintro o es' n' q1 q2 q3 q4
    (replace q1 := Option.some.inj (ho.symm.trans q1); subst q1); cases q3
    exact Og.I24 _ _ ho q2 rfl q4
  refine kdx_call hh (Og.I13 _ hv rfl rfl) hat (by simp [len] at hsz ⊢; assumption) fun h' tk acc c as kk hL hlen hG hacc => ?_
  have dL := dead_size s.heap (Nat.le_refl _)
  have das : ∀ a ∈ as, s.heap.get? a = none := fun a ha => dead_size _ (Nat.le_of_lt (hG.above a ha))
  have hl : ∀ a ∈ s.heap.objs.size :: as, a ∉ ρ ∧ a ≠ P ∧ ∃ o, h'.get? a = some o := fun a ha => by
    rcases List.mem_cons.mp ha with rfl | ha
    · exact ⟨(G.newOff dL).2.1, (G.newOff dL).2.2, _, hL⟩
    · refine Og.I03 ((G.newOff (das a ha)).2.1) ((G.newOff (das a ha)).2.2) ?_
      obtain ⟨j, hj⟩ := List.mem_iff_getElem?.mp ha
      refine O33 (hG.pairs j a hj) ?_; rintro _ _ _ _ _ e
      exact ⟨_, e⟩
  obtain ⟨G2, hs⟩ := (G.keeps kk).freezeL _ hl
  refine k _ h' tk _ ρ ((Step.keeps kk).freezeL _ hs fun a ha => ?_) G2 ?_
  · rcases List.mem_cons.mp ha with rfl | ha
    · exact dL
    · exact das a ha
  · refine .lst (vs := as.map Value.ref) (n := c) ?_ ?_
    · show (if _ then _ else _) = _
      rw [if_pos (.head _), hL, ← hacc]
    · have := pairs_rel (F := fun b => if b ∈ s.heap.objs.size :: as then h'.get? b else F b) (ρ := ρ) dk as (l.zip (es.map (·.val))) vs hlen (fun j a hj => by
        refine O33 (hG.pairs j a hj) ?_; rintro key k1 x q1 q2 q3
        exact Og.I33 key k1 x q1 q2 (by show (if _ then _ else _) = _; rw [if_pos (.tail _ (List.mem_of_getElem? hj))]; exact q3)) (by rw [e2]; exact L.mono hs fun D0 D1 z => z)
      replace this := e3 ▸ this
      exact this
theorem items_sound (hh : A.handled = none) (G : GR prog w B P F ρ st s.heap) {v : Value} {ks vs : List AV} (R : Rel prog w F ρ v (.itm ks vs)) (hsz : ks.length ≤ big) (hp : ks.all keyPlain = true) {Q : Value → Shared → Prop} (k : PQ prog w B P F ρ s st (.lst (pairsOf ks vs)) Q) :
    wpAny (model prog w) A (call (.type "list") [v]) Q E s := by
  refine O5_7 R.inv ?_; clear R; rintro ad d es n us rfl Fa Fd hm kr hu L
  ·
    subst hu
    have hes : es.length ≤ sizeLine := by exact (Paired.length kr.pairs) ▸ Nat.le_trans hsz bigLine
    rcases keys_plain kr hp with ⟨l, rfl⟩ | ⟨l, rfl⟩
    · exact items_kind dkInt hh G (G.fz' _ _ Fa) (G.fz' _ _ Fd) kr L hes k
    · exact items_kind dkStr hh G (G.fz' _ _ Fa) (G.fz' _ _ Fd) kr L hes k
theorem relL1 {vs : List Value} {a : AV} (V : RelL prog w F ρ vs [a]) : ∃ v, vs = [v] ∧ Rel prog w F ρ v a := by
  cases V with
  | cons h r => cases r; exact Og.I12 _ rfl h
theorem vals1 {vs : List Value} {args : List AV} {a : AV} (e : vw1 args = some a) (V : RelL prog w F ρ vs args) : ∃ v, vs = [v] ∧ Rel prog w F ρ v a := relL1 (vw1_eq e ▸ V)
theorem vals2 {vs : List Value} {args : List AV} {q : AV × AV} (e : vw2 args = some q) (V : RelL prog w F ρ vs args) : ∃ v u, vs = [v, u] ∧ Rel prog w F ρ v q.1 ∧ Rel prog w F ρ u q.2 := by
  replace V := (vw2_eq e) ▸ V
  cases V with
  | cons h r =>
    refine O12 (relL1 r) ?_; clear r; rintro u rfl h2
    exact Og.I23 _ u rfl h h2
theorem if_ok {α : Type} {p : Prop} [Decidable p] {x : Option α} {a : α} (h : (if decide p then x else none) = some a) : p ∧ x = some a := (if_some h).imp of_decide_eq_true id
/-- the built-in names -/
theorem lenB_ok {args : List AV} {vals : List Value} {a : AV} (e : lenB args st = some a) (G : GR prog w B P F ρ st s.heap) (V : RelL prog w F ρ vals args) {Q : Value → Shared → Prop} (k : PQ prog w B P F ρ s st a Q) : wpAny (model prog w) A (call (.builtin "len") vals) Q E s := by
  refine O12 (Option.bind_eq_some_iff.mp e) ?_; rintro x e1 e
  refine O12 (Option.bind_eq_some_iff.mp e) ?_; rintro n e2 e
  obtain ⟨hn, e⟩ := if_ok e
  refine O12 (vals1 e1 V) ?_; rintro v rfl R
  exact len_sound G R e2 hn (Option.some.inj e ▸ k)
theorem alaB_ok {args : List AV} {vals : List Value} {a : AV} {al : Bool} (hh : A.handled = none) (e : alaB al args = some a) (G : GR prog w B P F ρ st s.heap) (V : RelL prog w F ρ vals args) {Q : Value → Shared → Prop} (k : PQ prog w B P F ρ s st a Q) : wpAny (model prog w) A (call (.builtin (if al then "all" else "any")) vals) Q E s := by
  refine O12 (Option.bind_eq_some_iff.mp e) ?_; rintro l e1 e
  refine O12 (Option.bind_eq_some_iff.mp e1) ?_; rintro x e1 e2
  obtain ⟨_, e⟩ := if_ok e
  refine O12 (Option.map_eq_some_iff.mp e) ?_; rintro bs e3 e4
  refine O12 (vals1 e1 V) ?_; rintro v rfl R
  have := allany_sound (Q := Q) (E := E) hh G (asLst_eq e2 ▸ R) e3
  replace k := e4 ▸ k
  cases al with
  | true => exact this.1 k
  | false => exact this.2 k
theorem isiB_ok {args : List AV} {vals : List Value} {a : AV} (e : isiB args = some a) (G : GR prog w B P F ρ st s.heap) (V : RelL prog w F ρ vals args) {Q : Value → Shared → Prop} (k : PQ prog w B P F ρ s st a Q) : wpAny (model prog w) A (call (.builtin "isinstance") vals) Q E s := by
  refine O12 (Option.bind_eq_some_iff.mp e) ?_; rintro q e1 e
  refine O12 (Option.bind_eq_some_iff.mp e) ?_; rintro t e2 e
  refine O12 (Option.map_eq_some_iff.mp e) ?_; rintro b e3 e4
  refine O12 (Option.bind_eq_some_iff.mp e2) ?_; rintro x e5 e6
  refine O23 (vals2 e1 V) ?_; clear V; rintro v u rfl R1 R2
  replace R2 := (asTy_eq e6) ▸ (asVal_eq e5) ▸ R2
  obtain rfl := R2.inv
  exact isi_sound e3 R1 G (e4 ▸ k)
theorem repB_ok {args : List AV} {vals : List Value} {a : AV} (e : repB args = some a) (G : GR prog w B P F ρ st s.heap) (V : RelL prog w F ρ vals args) {Q : Value → Shared → Prop} (k : PQ prog w B P F ρ s st a Q) : wpAny (model prog w) A (call (.builtin "repr") vals) Q E s := by
  refine O12 (Option.map_eq_some_iff.mp e) ?_; rintro b e1 e
  refine O12 (Option.bind_eq_some_iff.mp e1) ?_; rintro x e1 e2
  refine O12 (vals1 e1 V) ?_; clear V; rintro v rfl R
  rw [asBool_eq e2] at R
  obtain rfl := R.inv
  replace k := e ▸ k
  exact call_repr_gives (PySem.typeIs_bool s _) PySem.F.slot_bool_repr PySem.F.entry_bool_repr (PySem.F.args_bool_repr_1 _) (gives_bool_repr _) (k.now G (.str _ _) _) rfl (by split <;> decide)
theorem sorB_ok {args : List AV} {vals : List Value} {a : AV} (hh : A.handled = none) (e : sorB args = some a) (G : GR prog w B P F ρ st s.heap) (V : RelL prog w F ρ vals args) {Q : Value → Shared → Prop} (k : PQ prog w B P F ρ s st a Q) : wpAny (model prog w) A (call (.builtin "sorted") vals) Q E s := by
  refine O12 (Option.bind_eq_some_iff.mp e) ?_; rintro q e1 e
  refine O12 (Option.bind_eq_some_iff.mp e1) ?_; rintro x e1 e2
  obtain ⟨hn, e⟩ := if_some e
  refine O12 (Option.map_eq_some_iff.mp e) ?_; rintro l e3 e4
  refine O12 (vals1 e1 V) ?_; clear V; rintro v rfl R
  exact sorted_sound hh G (asDct_eq e2 ▸ R) (of_decide_eq_true (and2 hn).1) (and2 hn).2 e3 (e4 ▸ k)
theorem intB_ok {args : List AV} {vals : List Value} {a : AV} (e : intB args = some a) (G : GR prog w B P F ρ st s.heap) (V : RelL prog w F ρ vals args) {Q : Value → Shared → Prop} (k : PQ prog w B P F ρ s st a Q) : wpAny (model prog w) A (call (.type "int") vals) Q E s := by
  refine O12 (Option.map_eq_some_iff.mp e) ?_; rintro i e1 e
  refine O12 (Option.bind_eq_some_iff.mp e1) ?_; rintro x e1 e2
  refine O12 (vals1 e1 V) ?_; clear V; rintro v rfl R
  replace R := (asInt_eq e2) ▸ R
  obtain ⟨t, rfl⟩ := R.inv
  exact call_int_int ((e ▸ k).now G (.int _ _) s.toks)
theorem rngB_ok {args : List AV} {vals : List Value} {a : AV} (e : rngB args = some a) (G : GR prog w B P F ρ st s.heap) (V : RelL prog w F ρ vals args) {Q : Value → Shared → Prop} (k : PQ prog w B P F ρ s st a Q) : wpAny (model prog w) A (call (.type "range") vals) Q E s := by
  unfold rngB at e
  cases h : vw2 args with
  | some q =>
    replace e := h ▸ e
    refine O12 (Option.bind_eq_some_iff.mp e) ?_; rintro i e1 e
    refine O12 (Option.bind_eq_some_iff.mp e) ?_; rintro j e2 e
    obtain ⟨_, e⟩ := if_some e
    refine O23 (vals2 h V) ?_; clear V; rintro v u rfl R1 R2
    replace R1 := (asInt_eq e1) ▸ R1
    replace R2 := (asInt_eq e2) ▸ R2
    obtain ⟨t1, rfl⟩ := R1.inv
    obtain ⟨t2, rfl⟩ := R2.inv
    refine call_range_2 ?_
    obtain ⟨F', G', S, e'⟩ := G.alloc (o := rngO _ _ _ _ s.toks) rfl
    exact (Option.some.inj e ▸ k) _ _ _ F' ρ S G' (.rng e')
  | none =>
    replace e := h ▸ e
    refine O12 (Option.bind_eq_some_iff.mp e) ?_; rintro i e1 e
    refine O12 (Option.bind_eq_some_iff.mp e1) ?_; rintro x e1 e2
    obtain ⟨_, e⟩ := if_some e
    refine O12 (vals1 e1 V) ?_; rintro v rfl R
    replace R := (asInt_eq e2) ▸ R
    obtain ⟨t, rfl⟩ := R.inv
    refine call_range_1 ?_
    obtain ⟨F', G', S, e'⟩ := G.alloc (o := rngO 0 _ s.toks _ (s.toks + 1)) rfl
    exact (Option.some.inj e ▸ k) _ _ _ F' ρ S G' (.rng e')
theorem lstB_ok {args : List AV} {vals : List Value} {a : AV} (hh : A.handled = none) (e : lstB args st = some a) (G : GR prog w B P F ρ st s.heap) (V : RelL prog w F ρ vals args) {Q : Value → Shared → Prop} (k : PQ prog w B P F ρ s st a Q) : wpAny (model prog w) A (call (.type "list") vals) Q E s := by
  refine O12 (Option.bind_eq_some_iff.mp e) ?_; rintro x e1 e
  refine O12 (vals1 e1 V) ?_; rintro v rfl R
  clear V e1
  cases x <;> try exact nos e
  · obtain ⟨hn, e⟩ := if_ok e
    refine O33 R.inv ?_; clear R; rintro ad vs m rfl Fa L
    refine call_list_seq ad (.inl rfl) (G.fz' _ _ Fa) rfl rfl (fun h' c kk ho => ?_) (by exact List.size_toArray ▸ L.length ▸ Nat.le_trans hn bigLine)
    exact (Option.some.inj e ▸ k).made (tk := s.toks) G kk (dead_size _ (Nat.le_refl _)) ho fun F' hs hin => .lst hin (L.mono hs fun D0 D1 z => z)
  · obtain ⟨hn, e⟩ := if_some e
    exact items_sound hh G R (of_decide_eq_true (and2 hn).1) (and2 hn).2 (Option.some.inj e ▸ k)
  · refine O12 (Option.map_eq_some_iff.mp e) ?_; rintro l e3 e4
    exact range_sound hh G R e3 (e4 ▸ k)
theorem tupB_ok {args : List AV} {vals : List Value} {a : AV} (e : tupB args = some a) (G : GR prog w B P F ρ st s.heap) (V : RelL prog w F ρ vals args) {Q : Value → Shared → Prop} (k : PQ prog w B P F ρ s st a Q) : wpAny (model prog w) A (call (.type "tuple") vals) Q E s := by
  refine O12 (Option.bind_eq_some_iff.mp e) ?_; rintro l e1 e
  refine O12 (Option.bind_eq_some_iff.mp e1) ?_; rintro x e1 e2
  obtain ⟨hn, e⟩ := if_ok e
  refine O12 (vals1 e1 V) ?_; rintro v rfl R
  replace R := (asLst_eq e2) ▸ R
  refine O33 R.inv ?_; clear V; rintro ad vs m rfl Fa L
  refine call_tuple_list (isList_of G.fz' Fa) (fun h' kk => ?_) (by exact List.size_toArray ▸ L.length ▸ Nat.le_trans hn bigLine)
  refine (Option.some.inj e ▸ k).made (tk := s.toks) G (fun b o q => Heap.get?_push_of_some _ (kk b o q)) ?_ (Heap.get?_push_size _ rfl) fun F' hs hin => .tup hin (L.mono hs fun D0 D1 z => z)
  cases z : s.heap.get? h'.objs.size with
  | none => rfl
  | some o => exact absurd (Heap.lt_size (kk _ o z)) (Nat.lt_irrefl _)
theorem dctB_ok {args : List AV} {vals : List Value} {a : AV} (hh : A.handled = none) (hu : A.units + 40 < cLine) (e : dctB args = some a) (G : GR prog w B P F ρ st s.heap) (V : RelL prog w F ρ vals args) {Q : Value → Shared → Prop} (k : PQ prog w B P F ρ s st a Q) : wpAny (model prog w) A (call (.type "dict") vals) Q E s := by
  refine O12 (Option.bind_eq_some_iff.mp e) ?_; rintro x e1 e
  refine O12 (vals1 e1 V) ?_; rintro v rfl R
  clear V e1
  cases x <;> try exact nos e
  · obtain ⟨hn, e⟩ := if_ok e
    refine O12 (Option.map_eq_some_iff.mp e) ?_; rintro q e3 e4
    exact dictOf_sound hh hu G R hn e3 (e4 ▸ k)
  · obtain ⟨hn, e⟩ := if_some e
    refine dict_own G R (of_decide_eq_true (and2 hn).1) (and2 hn).2 fun h' es n tk ho hk hl kk => ?_
    exact (Option.some.inj e ▸ k).made (tk := tk) G kk (dead_size _ (Nat.le_refl _)) ho fun F' hs hin => .dct hin (G.ne_modules (G.newOff (dead_size _ (Nat.le_refl _))).1) (hk.mono hs) rfl (hl.mono hs fun D0 D1 z => z)
set_option tactic.hygienic true in
theorem builtin_sound (hh : A.handled = none) (hu : A.units + 40 < cLine) {f : Value} {args : List AV} {vals : List Value} {a : AV} (e : builtinA f args st = some a) (G : GR prog w B P F ρ st s.heap) (V : RelL prog w F ρ vals args) {Q : Value → Shared → Prop} (k : PQ prog w B P F ρ s st a Q) :
    wpAny (model prog w) A (call f vals) Q E s := by
  cases f <;> try exact nos e
  case builtin n =>
    have e : builtN n args st = some a := e
    rcases pick e with ⟨rfl, e⟩ | e
    · exact lenB_ok e G V k
    rcases pick e with ⟨rfl, e⟩ | e
    · exact alaB_ok (al := true) hh e G V k
    rcases pick e with ⟨rfl, e⟩ | e
    · exact alaB_ok (al := false) hh e G V k
    rcases pick e with ⟨rfl, e⟩ | e
    · exact isiB_ok e G V k
    rcases pick e with ⟨rfl, e⟩ | e
    · exact repB_ok e G V k
    rcases pick e with ⟨rfl, e⟩ | e
    · exact sorB_ok hh e G V k
    · exact nos e
  case type n =>
    have e : builtT n args st = some a := e
    rcases pick e with ⟨rfl, e⟩ | e
    · exact intB_ok e G V k
    rcases pick e with ⟨rfl, e⟩ | e
    · exact rngB_ok e G V k
    rcases pick e with ⟨rfl, e⟩ | e
    · exact lstB_ok hh e G V k
    rcases pick e with ⟨rfl, e⟩ | e
    · exact tupB_ok e G V k
    rcases pick e with ⟨rfl, e⟩ | e
    · exact dctB_ok hh hu e G V k
    · exact nos e
end
end Og
end
section
set_option maxRecDepth 100000
namespace Og
open PySem PySem.W PyProof.Rows PySem.Calls PySem.Spec PySem.SeqAt
section
variable {prog : Program} {w : World} {K : Frag} {p : Program} {loose : List Str} {mg mb : Str → Option Value} {B : Heap} {cL P : Addr} {F F' Fz : Fro} {Pr : Bk} {ρ ρ' ρz : List Addr} {st st' : Sto} {A : Around} {E : Value → Shared → Prop} {s : Shared} {h h' hz : Heap} {env : Env} {cx : Cx} {ow : Str → List Addr} {n : Nat} {sc : Scope}
theorem keep_fn {a : Addr} {fd : FuncData} (e : fnK K a = some fd) : KeepOk prog w K F (.ref a) := fun h D0 X => by
  obtain ⟨⟨oc, od, sl, hk⟩, _⟩ := fnK_ok e
  exact keeps_K (by simp only [keepIn, hk]) h X
set_option tactic.hygienic true in
theorem keep_cls {c fa : Addr} (e : initK K c = some fa) : KeepOk prog w K F (.ref c) := fun h _ X => by
  refine keeps_K ?_ h X
  refine O03 (initK_ok e) ?_; rintro _ hm _
  unfold makesIn at hm
  split at hm
  · rename_i oc od cd sl hk
    simp only [Bool.and_eq_true] at hm
    simp only [keepIn, hk]
    exact hm.1.2
  · exact ftN hm
theorem val_keep {v : Value} (h : KeepOk prog w K F v) {fv : Value} (R : Rel prog w F ρ fv (.val v)) : KeepOk prog w K F fv := by
  obtain rfl := R.inv
  exact h
theorem fn_rule (hB : Base prog w K p loose mg mb B cL P) {a : Addr} {fd : FuncData} {args : List AV} {r : AV} (hfn : fnK K a = some fd) (hr : FnR prog w B P cL n fd args st r st') (hR : Room A (n + 1)) : CS prog w K B P A (.val (.ref a)) args st r st' :=
  ⟨fun D0 D1 D2 R => val_keep (keep_fn hfn) R, fun E s F ρ fv avs G R V Q k => by
    obtain rfl := R.inv
    exact wpAny_call (call_fn hB (by have := hR.d; (apply k3; assumption)) hfn hr hR.deeper G V k)⟩
theorem cls_rule (hB : Base prog w K p loose mg mb B cL P) {c fa : Addr} {fd : FuncData} {args : List AV} (hi : initK K c = some fa) (hfn : fnK K fa = some fd) (hr : FnR prog w B P cL n fd (.inst c st.length :: args) (st ++ [.attrs [] []]) .none st') (hR : Room A (n + 1)) :
    CS prog w K B P A (.val (.ref c)) args st (.inst c st.length) st' :=
  ⟨fun D0 D1 D2 R => val_keep (keep_cls hi) R, fun E s F ρ fv avs G R V Q k => by
    obtain rfl := R.inv
    exact wpAny_call (call_cls hB hi hfn hr hR G V k)⟩
noncomputable def notRef : Value → Bool
  | .ref _ => false
  | _ => true
theorem builtin_rule {v : Value} {args : List AV} {a : AV} (hv : notRef v = true) (e : builtinA v args st = some a) (hR : Room A n) : CS prog w K B P A (.val v) args st a st :=
  ⟨fun D0 D1 D2 R => val_keep (fun D0 D1 D2 => by clear e R; cases v <;> first | exact Og.I12 .machine (.inr (.inl rfl)) (Looks.of_pure rfl) | exact ftN hv) R, fun E s F ρ fv avs G R V Q k => by
    obtain rfl := R.inv
    exact builtin_sound hR.h (by have := hR.u; omega) e G V k⟩
theorem clo_rule (hB : Base prog w K p loose mg mb B cL P) {ps : Arguments} {sc : Scope} {body : Expr} {ns : List Str} {vs args : List AV} {r : AV} (hr : LamR prog w B P n ps sc body ns vs args st r st') (hR : Room A (n + 1)) : CS prog w K B P A (.clo ps sc body ns vs) args st r st' :=
  ⟨fun F ρ fv R h hF X => by
    cases R with
    | clo q1 _ _ _ _ _ _ _ => exact Og.I12 .frame (.inl rfl) ((Looks.ld (part := none) (hF _ _ q1)).andThen .now), fun E s F ρ fv avs G R V Q k => wpAny_call (call_clo hB (by have := hR.d; (apply k3; assumption)) hr hR.deeper G R V k)⟩
end
/-! ## judgements at a level of calls -/
structure Vu where
  prog : Program
  w : World
  K : Frag
  p : Program
  loose : List Str
  mg : Str → Option Value
  mb : Str → Option Value
  B : Heap
  cL : Addr
  P : Addr
  base : Base prog w K p loose mg mb B cL P
section
variable (V : Vu) (n : Nat)
noncomputable def Em (e : Expr) (cx : Cx) (st : Sto) (a : AV) (st' : Sto) : Prop := ∀ A, Room A n → SE V.prog V.w V.B V.P A e cx st a st'
noncomputable def Tm' (e : Expr) (cx : Cx) (st : Sto) (b : Bool) (st' : Sto) : Prop := ∀ A, Room A n → ST V.prog V.w V.B V.P A e cx st b st'
noncomputable def Bm (e : Expr) (cx : Cx) (st : Sto) (r : BR) (st' : Sto) : Prop := ∀ A, Room A n → SB V.prog V.w V.B V.P A e cx st r st'
noncomputable def Rm (e : Expr) (cx : Cx) (st : Sto) (a : AV) (st' : Sto) : Prop := ∀ A, Room A n → RS V.prog V.w V.B V.P A e cx st a st'
noncomputable def Xm (x : Stmt) (cx : Cx) (st : Sto) (fl : Fl) (st' : Sto) : Prop := ∀ A, Room A n → XS V.prog V.w V.B V.P A x cx st fl st'
noncomputable def Lm (l : List Stmt) (cx : Cx) (st : Sto) (fl : Fl) (st' : Sto) : Prop := ∀ A, Room A n → SL V.prog V.w V.B V.P A l cx st fl st'
noncomputable def Cm (f : AV) (args : List AV) (st : Sto) (a : AV) (st' : Sto) : Prop := ∀ A, Room A n → CS V.prog V.w V.K V.B V.P A f args st a st'
end
end Og
end
section
set_option maxRecDepth 100000
namespace Og
open PySem PySem.W PyProof.Rows PySem.Calls PySem.Spec
noncomputable def Md.flat (md : Md) : Md := { md with elt := false }
noncomputable def asList (e : Expr) : Option (List Expr) := vw e none (li := fun es D0 => some es)
noncomputable def isNil (e : Expr) : Bool := (asList e).any List.isEmpty
noncomputable def asDictE (e : Expr) : Option (List (Option Expr) × List Expr) := vw e none (dic := fun ks vs D0 => some (ks, vs))
noncomputable def isD0 (e : Expr) : Bool := (asDictE e).any fun q => q.1.isEmpty && q.2.isEmpty
noncomputable def asTup3 (e : Expr) : Option (List Expr × Nat × Pos) := vw e none (tu := fun vs c p => some (vs, c, p))
noncomputable def asTupE (e : Expr) : Option (List Expr) := (asTup3 e).map (·.1)
noncomputable def asNmP (e : Expr) : Option (Str × Pos) := vw e none (nm := fun x p => some (x, p))
noncomputable def asCall (e : Expr) : Option (Expr × List Expr × List Keyword × Pos) := vw e none (call := fun f es kw p => some (f, es, kw, p))
noncomputable def asLam (e : Expr) : Option (Arguments × Expr × Scope × Pos) := vw e none (lam := fun a b sc p => some (a, b, sc, p))
noncomputable def vw3 {α : Type} : List α → Option (α × α × α)
  | [a, b, c] => some (a, b, c)
  | _ => none
noncomputable def nm2 (l : List Expr) : Option ((Str × Pos) × (Str × Pos)) := (vw2 l).bind fun q => (asNmP q.1).bind fun a => (asNmP q.2).map fun b => (a, b)
noncomputable def asOwn : BR → Option Str
  | .own x => some x
  | _ => none
noncomputable def brLoc : BR → Option Nat
  | .av a => asLoc a
  | _ => none
/-- the vw1 argument of a call of a name, the vw2 -/
noncomputable def call1 (f : Str) (e : Expr) : Option (Expr × Expr) := (asCall e).bind fun c => (asNmP c.1).bind fun x => (vw1 c.2.1).bind fun a =>
  if c.2.2.1.isEmpty && x.1 == f && notStar a then some (c.1, a) else none
noncomputable def call2 (f : Str) (e : Expr) : Option (Expr × Expr × Expr) := (asCall e).bind fun c => (asNmP c.1).bind fun x => (vw2 c.2.1).bind fun a =>
  if c.2.2.1.isEmpty && x.1 == f && notStar a.1 && notStar a.2 then some (c.1, a.1, a.2) else none
noncomputable def lamCall (e : Expr) : Option (Expr × Expr × Expr × Arguments × Expr × Scope) := (asCall e).bind fun c => (asNmP c.1).bind fun D0 => (vw3 c.2.1).bind fun a => (asLam a.2.2).bind fun m =>
  if c.2.2.1.isEmpty then some (c.1, a.1, a.2.1, m.1, m.2.1, m.2.2.1) else none
noncomputable def appCall (e : Expr) : Option (Expr × Expr) := (asCall e).bind fun c => (asAttr c.1).bind fun t => (vw1 c.2.1).bind fun a =>
  if c.2.2.1.isEmpty && t.2.1 == ("append" : Str) && t.2.2.endLine == c.2.2.2.line && (notStar a && baseOk t.1) then some (t.1, a) else none
/-- a comprehension over a zip of vw1's own -/
noncomputable def ozGen (cx : Cx) (l : List Comprehension) : Option (Expr × Str × List Expr × List AV × List AV) := (gen1 l).bind fun g => (asTup3 g.1).bind fun t => (asNmP g.2.1).bind fun x =>
  (ownZ cx x.1).map fun q => (.Tuple t.1 t.2.1 t.2.2, x.1, g.2.2, q.1, q.2)
section
variable (tb : Tabs) (H : HdT) (D : Nat) (md : Md) (R : Type)
noncomputable abbrev ev0 (cx : Cx) (e : Expr) (st : Sto) : C AV R := evT tb H D md R cx e st
noncomputable abbrev br0 (cx : Cx) (e : Expr) (st : Sto) : C BR R := brT tb H D md R cx e st
noncomputable abbrev tr0 (cx : Cx) (e : Expr) (st : Sto) : C Bool R := trT tb H D md R cx e st
noncomputable def putC (cx : Cx) (x : Str) (lv : LV) (s : Sto) : C Cx R := optC (cx.put x lv) fun cx1 => retC cx1 s
noncomputable def asgNameD (cx : Cx) (x : Str) (v : Expr) (st : Sto) : C Cx R := bindC (ev0 tb H D md R cx v st) fun a s => putC R cx x (.v a) s
noncomputable def asgNameT (cx : Cx) (x : Str) (v : Expr) (st : Sto) : C Cx R := vw v (asgNameD tb H D md R cx x v st)
  (li := fun es D0 => bindC (evLT (ev0 tb H D md R cx) es st) fun l s => ifC (decide (es.length ≤ 64)) (putC R cx x (.ol l) s))
  (dic := fun ks vs D0 => ifC (ks.isEmpty && vs.isEmpty) (putC R cx x (.od [] []) st))
  (tu := fun es c p => orC ((vw2 es).bind fun q => if notStar q.1 && isNil q.2 then some q.1 else none) (fun e => bindC (ev0 tb H D md R cx e st) fun a s => putC R cx x (.v (.tup [a, .loc s.length])) (s ++ [.list []]))
    (asgNameD tb H D md R cx x (.Tuple es c p) st))
  (call := fun f es kw p => orC (call1 "dict" (.Call f es kw p))
    (fun fe => bindC (ev0 tb H D md R cx fe.1 st) fun q s1 => bindC (ev0 tb H D md R cx fe.2 s1) fun p1 s2 => orC (asDct p1) (fun kv => ifC (isTy "dict" q && decide (kv.1.length ≤ big) && kv.1.all keyPlain) (putC R cx x (.od kv.1 kv.2) s2))
      (asgNameD tb H D md R cx x (.Call f es kw p) st))
    (orC (call2 "zip" (.Call f es kw p)) (fun fe => bindC (ev0 tb H D md R cx fe.1 st) fun q s1 => bindC (ev0 tb H D md R cx fe.2.1 s1) fun p1 s2 => bindC (ev0 tb H D md R cx fe.2.2 s2) fun p2 s3 => ifC (isTy "zip" q) (optC (asLst p1) fun xs => optC (asLst p2) fun ys => putC R cx x (.oz xs ys) s3))
      (asgNameD tb H D md R cx x (.Call f es kw p) st)))
noncomputable def evLV1T (cx : Cx) (e : Expr) (st : Sto) : C LV R := iteC (isNil e) (retC (.ol []) st) (bindC (ev0 tb H D md R cx e st) fun a s => retC (.v a) s)
noncomputable def asgTupD (cx : Cx) (t v : Expr) (st : Sto) : C Cx R := bindC (ev0 tb H D md R cx v st) fun a s => optC (assignT cx t a) fun cx1 => retC cx1 s
noncomputable def asgTupT (cx : Cx) (ts : List Expr) (t v : Expr) (st : Sto) : C Cx R := orC (asTupE v)
  (fun vs => optC (nm2 ts) fun n => optC (vw2 vs) fun q => ifC (notStar q.1 && notStar q.2)
    (iteC (cx.sc.names.lookup n.1.1 == some .local && cx.sc.names.lookup n.2.1 == some .local)
      (ifC (n.2.2.line == n.1.2.line && n.1.1 != n.2.1 && !(foldedForSure 8 q.1 && foldedForSure 8 q.2) && !(constantsAlone 8 q.1 && constantsAlone 8 q.2))
        (bindC (evLV1T tb H D md R cx q.1 st) fun a s1 => bindC (evLV1T tb H D md R cx q.2 s1) fun b s2 => optC (cx.put n.2.1 b) fun cx1 => putC R cx1 n.1.1 a s2))
      (ifC (cx.sc.names.lookup n.1.1 == some .cell || cx.sc.names.lookup n.2.1 == some .cell) (asgTupD tb H D md R cx t v st))))
  (asgTupD tb H D md R cx t v st)
noncomputable def asgValT (cx : Cx) (v : Expr) (st : Sto) : C AV R := iteC (isNil v) (retC (.loc st.length) (st ++ [.list []])) (iteC (isD0 v) (retC (.loc st.length) (st ++ [.dict [] []])) (ev0 tb H D md R cx v st))
noncomputable def asgAttrT (cx : Cx) (o : Expr) (name : Str) (v : Expr) (st : Sto) : C Cx R :=
  bindC (asgValT tb H D md R cx v st) fun p s1 => bindC (ev0 tb H D md R cx o s1) fun q s2 => optC (asInst q) fun cl => optC (atAttrs s2 cl.2) fun kv =>
    ifC (tb.sto.contains (cl.1, name) && decide (kv.1.length ≤ 64)) (retC cx (stSet s2 cl.2 (.attrs (putAttr name p kv.1 kv.2).1 (putAttr name p kv.1 kv.2).2)))
noncomputable def asgSubT (cx : Cx) (b i v : Expr) (st : Sto) : C Cx R :=
  bindC (ev0 tb H D md R cx v st) fun p s1 => bindC (br0 tb H D md R cx b s1) fun r s2 => bindC (ev0 tb H D md R cx i s2) fun q s3 => orC (asOwn r)
    (fun x => orC (ownL cx x) (fun l => optC (asInt q) fun n => optC (setIdx l n p) fun l' => retC { cx with vars := (x, .ol l') :: cx.vars } s3)
      (optC (ownD cx x) fun kv => ifC (keyPlain q && decide (kv.1.length ≤ big)) (optC (putK q p kv.1 kv.2) fun r => retC { cx with vars := (x, .od r.1 r.2) :: cx.vars } s3)))
    (optC (brLoc r) fun l => optC (atDict s3 l) fun kv => ifC (keyPlain q && decide (kv.1.length ≤ big)) (optC (putK q p kv.1 kv.2) fun r => retC cx (stSet s3 l (.dict r.1 r.2))))
noncomputable def appToT (cx : Cx) (b e : Expr) (st : Sto) : C Cx R :=
  bindC (br0 tb H D md R cx b st) fun r s1 => bindC (ev0 tb H D md R cx e s1) fun q s2 => orC (asOwn r)
    (fun x => optC (ownL cx x) fun l => ifC (decide (l.length ≤ big)) (retC { cx with vars := (x, .ol (l ++ [q])) :: cx.vars } s2))
    (optC (brLoc r) fun l => optC (atList s1 l) fun D0 => optC (atList s2 l) fun l' => ifC (decide (l'.length ≤ big)) (retC cx (stSet s2 l (.list (l' ++ [q])))))
noncomputable def retT (cx : Cx) (e : Expr) (st : Sto) : C AV R := vw e (ev0 tb H D md R cx e st)
  (lc := fun elt gens sc p => orC (ozGen cx gens) (fun g => ifC (compOk sc && freeOk cx sc && decide (g.2.2.1.length ≤ 1) && decide (g.2.2.2.1.length ≤ big) && !dbgN g.2.1)
      (bindC (compT (compVars cx sc) g.1 (fun cx1 => andAllT (trT tb H D {} R cx1) g.2.2.1) (fun cx1 st => iteC md.elt (subC (evT tb H D {} Ans cx1 elt st)) (evT tb H D {} R cx1 elt st)) (zipA g.2.2.2.1 g.2.2.2.2) st) fun vs s => retC (.lst vs) s))
    (ev0 tb H D md R cx (.ListComp elt gens sc p) st))
  (call := fun f es kw p => orC (lamCall (.Call f es kw p)) (fun l => ifC (cx.lam && lamOk l.2.2.2.1 && notStar l.2.1 && notStar l.2.2.1 && compOk l.2.2.2.2.2)
      (bindC (ev0 tb H D md R cx l.1 st) fun q s1 => bindC (ev0 tb H D md R cx l.2.1 s1) fun p1 s2 => bindC (ev0 tb H D md R cx l.2.2.1 s2) fun p2 s3 => optC (cloVals cx (cloNames l.2.2.2.2.2)) fun vs =>
        H R q [p1, p2, .clo l.2.2.2.1 l.2.2.2.2.2 l.2.2.2.2.1 (cloNames l.2.2.2.2.2) vs] s3))
    (ev0 tb H D md R cx (.Call f es kw p) st))
noncomputable def forSrcT (cx : Cx) (t it : Expr) (st : Sto) : C (List AV) R := orC ((asTupE t).bind fun D0 => call2 "zip" it)
  (fun fe => bindC (ev0 tb H D md R cx fe.1 st) fun q s1 => bindC (ev0 tb H D md R cx fe.2.1 s1) fun p1 s2 => bindC (ev0 tb H D md R cx fe.2.2 s2) fun p2 s3 => ifC (isTy "zip" q) (optC (asLst p1) fun xs => optC (asLst p2) fun ys => retC (zipA xs ys) s3))
  (bindC (ev0 tb H D md R cx it st) fun p s => optC (iterA s p) fun l => retC l s)
set_option tactic.hygienic true in
noncomputable def flC (G : Cx → Sto → C Fl R) (q : Fl) (s : Sto) : C Fl R := match q with
  | .next cx' => G cx' s
  | .ret a => retC (.ret a) s
set_option tactic.hygienic true in
noncomputable def forT (t : Expr) (body : Cx → Sto → C Fl R) : List AV → Cx → Sto → C Fl R
  | [], cx, st => retC (.next cx) st
  | a :: l, cx, st => optC (assignT cx t a) fun cx1 => bindC (body cx1 st) fun q s => flC R (fun cx2 s => forT t body l cx2 s) q s
set_option tactic.hygienic true in
noncomputable def nextC (F : C Cx R) : C Fl R := bindC F fun cx s => retC (.next cx) s
noncomputable def asgT (cx : Cx) (t v : Expr) (st : Sto) : C Cx R := vw t (failC)
  (nm := fun x D0 => asgNameT tb H D md R (frzE cx v) x v st)
  (tu := fun ts c p => asgTupT tb H D md R (frzE cx v) ts (.Tuple ts c p) v st)
  (att := fun o name D0 => asgAttrT tb H D md R (frzE (frzE cx v) o) o name v st)
  (sub := fun b i D0 => asgSubT tb H D md R (frzE (frzE cx v) i) b i v st)
noncomputable def expT (cx : Cx) (e : Expr) (st : Sto) : C Cx R := orC (appCall e) (fun be => appToT tb H D md R (frzE cx be.2) be.1 be.2 st)
  (ifC (noComp e) (bindC (ev0 tb H D md R (frzE cx e) e st) fun p s1 => ifC (quiet p) (retC (frzE cx e) s1)))
set_option tactic.hygienic true in
mutual
noncomputable def exST : Nat → Cx → Stmt → Sto → C Fl R
  | 0, _, _, _ => failC
  | n + 1, cx, s, st => match s with
    | .Assign ts v _ => optC (vw1 ts) fun t => nextC R (asgT tb H D md.flat R cx t v st)
    | .Expr e _ => nextC R (expT tb H D md.flat R cx e st)
    | .Return v _ => optC v fun e => bindC (retT tb H D md R (frzE cx e) e st) fun a s1 => retC (.ret a) s1
    | .If t b o _ => bindC (tr0 tb H D md.flat R (frzE cx t) t st) fun p s1 => iteC p (exLT n (frzE cx t) b s1) (exLT n (frzE cx t) o s1)
    | .For t it body orelse _ => ifC orelse.isEmpty (bindC (forSrcT tb H D md.flat R (frzE cx it) t it st) fun l s1 => forT R t (fun cx st => exLT n cx body st) l (frzE cx it) s1)
    | _ => failC
noncomputable def exLT : Nat → Cx → List Stmt → Sto → C Fl R
  | 0, _, _, _ => failC
  | n + 1, cx, l, st => match l with
    | [] => retC (.next cx) st
    | s :: r => bindC (exST n cx s st) fun q s1 => flC R (fun cx' s1 => exLT n cx' r s1) q s1
end
noncomputable def asBody : FuncBody → Option (List Stmt)
  | .stmts b => some b
  | _ => none
variable (cL : Addr) (N : Nat)
noncomputable def runT (fd : FuncData) (args : List AV) (st : Sto) : C AV R := optC (asBody fd.body) fun body => ifC (nodupA fd.params.args && freeNo fd.scope && compOk fd.scope)
  (optC (putArgs ⟨fd.scope, [], fd.code == .ref cL && (fd.qualname ++ Str.ofString ".<locals>.") ++ Str.ofString "<lambda>" == lamQ⟩ fd.params.args args) fun cx => bindC (exLT tb H D md R N cx body st) fun q s => retC (flV q) s)
noncomputable def runLamT (ps : Arguments) (sc : Scope) (body : Expr) (ns : List Str) (vs : List AV) (args : List AV) (st : Sto) : C AV R :=
  ifC (nodupA ps.args && compOk sc && lamOk ps && (ns == cloNames sc) && !sc.isGenerator && !sc.isCoroutine) (optC (putArgs ⟨sc, (ns.zip vs).map (fun p => (p.1, .v p.2)), false⟩ ps.args args) fun cx => evT tb H D md R cx body st)
end
section
variable (tb : Tabs) (D N : Nat) (cL : Addr) (md : Md)
/-- vw1 call by its body -/
noncomputable def callV (H : HdT) (R : Type) (v : Value) (args : List AV) (st : Sto) : C AV R := orC (asRef v)
  (fun a => orC (tb.fn.lookup a) (fun fd => runT tb H D md R cL N fd args st)
    (optC (tb.ini.lookup a) fun fa => optC (tb.fn.lookup fa) fun fd => bindC (runT tb H D md R cL N fd (.inst a st.length :: args) (st ++ [.attrs [] []])) fun r s => ifC (isNoneA r) (retC (.inst a st.length) s)))
  (optC (builtinA v args st) fun a => retC a st)
noncomputable def callB (H : HdT) (R : Type) (f : AV) (args : List AV) (st : Sto) : C AV R := match f with
  | .val v => callV tb D N cL md H R v args st
  | .clo ps sc body ns vs => runLamT tb H D md R ps sc body ns vs args st
  | _ => failC
noncomputable def askC (R : Type) (f : AV) (args : List AV) (st : Sto) : C AV R := fun k => .ask f args st k
/-- calls: those that q names are asked -/
noncomputable def callT (q : AV → List AV → Bool) : Nat → HdT
  | 0, R, f, args, st => askC R f args st
  | j + 1, R, f, args, st => iteC (q f args) (askC R f args st) (callB tb D N cL {} (callT q j) R f args st)
noncomputable def callTop (q : AV → List AV → Bool) (j : Nat) (f : AV) (args : List AV) (st : Sto) : T Ans :=
  callB tb D N cL md (callT tb D N cL q j) Ans f args st fun a s => .ret (a, s)
end
end Og
end
section
set_option maxRecDepth 100000
namespace Og
open PySem PySem.W PyProof.Rows PySem.Calls PySem.Spec
structure TabsOk (K : Frag) (tb : Tabs) : Prop where
  gl : ∀ x a, tb.gl.lookup x = some a → glK K x = some a
  fn : ∀ a fd, tb.fn.lookup a = some fd → fnK K a = some fd
  ini : ∀ a f, tb.ini.lookup a = some f → initK K a = some f
  me : ∀ c x f, tb.me.lookup (c, x) = some f → methK K c x = some f
  ats : ∀ c x, tb.ats.contains (c, x) = true → attrK K c x = true
  sto : ∀ c x, tb.sto.contains (c, x) = true → storK K c x = true
/-- what an open run tells holds of the model -/
noncomputable def Sm {X R : Type} (O : Orc) (F : C X R) (r : X → Sto → Prop) : Prop := ∀ k z, Sat O (F k) z → ∃ a s, r a s ∧ Sat O (k a s) z
section
variable {O : Orc} {X Y R α : Type} {r : X → Sto → Prop} {r' : Y → Sto → Prop}
theorem Sm.ret {a : X} {s : Sto} (h : r a s) : Sm O (retC a s : C X R) r := by unfold retC; exact fun D0 D1 hs => Og.I22 _ _ h hs
theorem Sm.fail : Sm O (failC : C X R) r := by unfold failC; exact fun D0 D1 h => h.elim
theorem Sm.bind {F : C X R} {G : X → Sto → C Y R} (hF : Sm O F r) (hG : ∀ a s, r a s → Sm O (G a s) r') : Sm O (bindC F G) r' := by
  unfold bindC
  exact fun k z h => Og.O22 (hF _ z h) fun a s h1 h2 => hG a s h1 k z h2
theorem Sm.opt {o : Option α} {G : α → C X R} (h : ∀ a, o = some a → Sm O (G a) r) : Sm O (optC o G) r := by
  unfold optC
  cases o with
  | none => exact fun D0 D1 h => h.elim
  | some a => exact h a rfl
theorem Sm.or {o : Option α} {G : α → C X R} {F : C X R} (h : ∀ a, o = some a → Sm O (G a) r) (hF : o = none → Sm O F r) : Sm O (orC o G F) r := by
  unfold orC
  cases o with
  | none => exact hF rfl
  | some a => exact h a rfl
theorem Sm.if {b : Bool} {F : C X R} (h : b = true → Sm O F r) : Sm O (ifC b F) r := by
  unfold ifC
  cases b with
  | false => exact fun D0 D1 h => h.elim
  | true => exact h rfl
theorem Sm.ite {b : Bool} {F G : C X R} (h : b = true → Sm O F r) (h' : b = false → Sm O G r) : Sm O (iteC b F G) r := by
  unfold iteC
  cases b with
  | false => exact h' rfl
  | true => exact h rfl
theorem Sm.imp {F : C X R} {r2 : X → Sto → Prop} (h : Sm O F r) (f : ∀ a s, r a s → r2 a s) : Sm O F r2 := fun k z hs =>
  let ⟨a, s, h1, h2⟩ := h k z hs
  (Og.I22 a s (f a s h1) h2)
theorem Sm.sub {F : C AV Ans} {r : AV → Sto → Prop} (h : Sm O F r) : Sm O (subC F : C AV R) r := by
  unfold subC
  intro k z hs
  refine Og.cps fun G kG => ?_
  refine O22 hs ?_; clear hs; rintro a s h1 h2
  refine O22 (h _ _ h1) ?_; rintro b s' e h3
  cases h3
  refine kG ?_
  clear kG
  exact Og.I22 _ _ e h2
end
theorem asRef_no {a : Value} (h : asRef a = none) : notRef a = true := by cases a <;> first | rfl | exact son h
theorem isNot_eq {o : UnaryOp} (h : isNot o = true) : o = .Not := by cases o <;> first | rfl | rcases h
theorem asList_eq {e : Expr} {l : List Expr} (h : asList e = some l) : ∃ p, e = .List l p := by cases e <;> first | exact nos h | exact ⟨_, by rw [← Option.some.inj h]⟩
theorem asDictE_eq {e : Expr} {q : List (Option Expr) × List Expr} (h : asDictE e = some q) : ∃ p, e = .Dict q.1 q.2 p := by cases e <;> first | exact nos h | exact ⟨_, by rw [← Option.some.inj h]⟩
theorem asTup3_eq {e : Expr} {q : List Expr × Nat × Pos} (h : asTup3 e = some q) : e = .Tuple q.1 q.2.1 q.2.2 := by cases e <;> first | exact nos h | exact Option.some.inj h ▸ rfl
theorem asNmP_eq {e : Expr} {q : Str × Pos} (h : asNmP e = some q) : e = .Name q.1 q.2 := by cases e <;> first | exact nos h | exact Option.some.inj h ▸ rfl
theorem asCall_eq {e : Expr} {q : Expr × List Expr × List Keyword × Pos} (h : asCall e = some q) : e = .Call q.1 q.2.1 q.2.2.1 q.2.2.2 := by cases e <;> first | exact nos h | exact Option.some.inj h ▸ rfl
theorem asLam_eq {e : Expr} {q : Arguments × Expr × Scope × Pos} (h : asLam e = some q) : e = .Lambda q.1 q.2.1 q.2.2.1 q.2.2.2 := by cases e <;> first | exact nos h | exact Option.some.inj h ▸ rfl
theorem vw3_eq {α : Type} {l : List α} {a : α × α × α} (h : vw3 l = some a) : l = [a.1, a.2.1, a.2.2] := by
  rcases l with _ | ⟨x, _ | ⟨y, _ | ⟨z, _ | ⟨u, l⟩⟩⟩⟩ <;> first | exact nos h | exact Option.some.inj h ▸ rfl
theorem anyS {α : Type} {o : Option α} {p : α → Bool} (h : o.any p = true) : ∃ a, o = some a ∧ p a = true := by
  cases o with
  | none => exact ftN h
  | some a => exact Og.I12 a rfl h
theorem isNil_eq {e : Expr} (h : isNil e = true) : ∃ p, e = .List [] p := by
  refine O12 (anyS h) ?_; rintro l h1 h2
  replace h1 := (List.isEmpty_iff.mp h2) ▸ h1
  exact asList_eq h1
theorem isD0_eq {e : Expr} (h : isD0 e = true) : ∃ p, e = .Dict [] [] p := by
  refine O12 (anyS h) ?_; rintro q h1 h2
  obtain ⟨p, h3⟩ := asDictE_eq h1
  have h2 : q.1.isEmpty = true ∧ q.2.isEmpty = true := and2 h2
  exact ⟨p, by exact h3 ▸ (List.isEmpty_iff.mp h2.1) ▸ (List.isEmpty_iff.mp h2.2) ▸ rfl⟩
theorem asTupE_eq {e : Expr} {l : List Expr} (h : asTupE e = some l) : ∃ c p, e = .Tuple l c p := by
  refine O12 (Option.map_eq_some_iff.mp h) ?_; rintro q h1 h2
  exact Og.I21 _ _ (h2 ▸ asTup3_eq h1)
theorem asTupE_no {e : Expr} (h : asTupE e = none) : notTup e = true := by cases e <;> first | rfl | exact son h
theorem nm2_eq {l : List Expr} {q : (Str × Pos) × (Str × Pos)} (h : nm2 l = some q) : l = [.Name q.1.1 q.1.2, .Name q.2.1 q.2.2] := by
  refine Og.cps fun G kG => ?_
  refine O12 (Option.bind_eq_some_iff.mp h) ?_; rintro v h1 h
  refine O12 (Option.bind_eq_some_iff.mp h) ?_; rintro a h2 h
  refine O12 (Option.map_eq_some_iff.mp h) ?_; rintro b h3 h
  refine kG ?_
  clear kG
  exact (vw2_eq h1) ▸ (asNmP_eq h2) ▸ (asNmP_eq h3) ▸ h ▸ rfl
theorem asOwn_eq {r : BR} {x : Str} (h : asOwn r = some x) : r = .own x := by cases r <;> first | exact nos h | exact congrArg BR.own (Option.some.inj h)
theorem brLoc_eq {r : BR} {l : Nat} (h : brLoc r = some l) : r = .av (.loc l) := by cases r <;> first | exact nos h | exact congrArg BR.av (asLoc_eq h)
end Og
end
section
set_option maxRecDepth 100000
namespace Og
open PySem PySem.W PyProof.Rows PySem.Calls PySem.Spec
section
variable {V : Vu} {n : Nat} {O : Orc} {tb : Tabs} {Ht : HdT}
noncomputable abbrev LsM (V : Vu) (n : Nat) (cx : Cx) (es : List Expr) (st : Sto) (l : List AV) (s : Sto) : Prop := ∀ A, Room A n → LsR (fun e => SE V.prog V.w V.B V.P A e cx) es st l s
noncomputable abbrev AndM (V : Vu) (n : Nat) (cx : Cx) (es : List Expr) (st : Sto) (b : Bool) (s : Sto) : Prop := ∀ A, Room A n → AndR (fun e => ST V.prog V.w V.B V.P A e cx) es st b s
noncomputable abbrev OrM (V : Vu) (n : Nat) (cx : Cx) (es : List Expr) (st : Sto) (b : Bool) (s : Sto) : Prop := ∀ A, Room A n → OrR (fun e => ST V.prog V.w V.B V.P A e cx) es st b s
noncomputable abbrev JoinM (V : Vu) (n : Nat) (cx : Cx) (es : List Expr) (st : Sto) (y : Str) (s : Sto) : Prop := ∀ A, Room A n → JoinR (fun e => SE V.prog V.w V.B V.P A e cx) es st y s
noncomputable abbrev CompM (V : Vu) (n : Nat) (cx0 : Cx) (t : Expr) (ifs : List Expr) (elt : Expr) (l : List AV) (st : Sto) (out : List AV) (s : Sto) : Prop := ∀ A, Room A n → CompR cx0 t (fun cx => AndR (fun c => ST V.prog V.w V.B V.P A c cx) ifs) (SE V.prog V.w V.B V.P A elt) l st out s
noncomputable abbrev CpM (V : Vu) (n : Nat) (elt t it : Expr) (ifs : List Expr) (sc : Scope) (cx : Cx) (st : Sto) (out : List AV) (s : Sto) : Prop := ∀ A, Room A n → CpR V.prog V.w V.B V.P A elt t it ifs sc cx st out s
noncomputable def SmE (V : Vu) (n : Nat) (O : Orc) (ev : EvT) : Prop := ∀ md R cx e st, Sm O (ev md R cx e st) (Em V n e cx st)
noncomputable def SmB (V : Vu) (n : Nat) (O : Orc) (ev : BrT) : Prop := ∀ md R cx e st, Sm O (ev md R cx e st) (Bm V n e cx st)
noncomputable def SmT (V : Vu) (n : Nat) (O : Orc) (ev : TrT) : Prop := ∀ md R cx e st, Sm O (ev md R cx e st) (Tm' V n e cx st)
noncomputable def SmH (V : Vu) (n : Nat) (O : Orc) (Ht : HdT) : Prop := ∀ R f args st, Sm O (Ht R f args st) (Cm V n f args st)
theorem evL_sm {R : Type} {cx : Cx} {f : Expr → Sto → C AV R} (hf : ∀ e st, Sm O (f e st) (Em V n e cx st)) : ∀ es st, Sm O (evLT f es st) (LsM V n cx es st)
  | [], _ => Sm.ret fun D0 D1 => .nil
  | e :: r, st => Sm.if fun hn => Sm.bind (hf e st) fun D0 s1 h1 => Sm.bind (evL_sm hf r s1) fun D0 D1 h2 => Sm.ret fun A hR => .cons hn (h1 A hR) (h2 A hR)
theorem andAll_sm {R : Type} {cx : Cx} {f : Expr → Sto → C Bool R} (hf : ∀ e st, Sm O (f e st) (Tm' V n e cx st)) : ∀ es st, Sm O (andAllT f es st) (AndM V n cx es st)
  | [], _ => Sm.ret fun D0 D1 => .nil
  | e :: r, st => Sm.bind (hf e st) fun D0 s1 h1 => Sm.ite (fun hb => Sm.imp (andAll_sm hf r s1) fun D0 D1 h2 A hR => .go (hb ▸ h1 A hR) (h2 A hR)) fun hb => Sm.ret fun A hR => .stop (hb ▸ h1 A hR)
theorem orAny_sm {R : Type} {cx : Cx} {f : Expr → Sto → C Bool R} (hf : ∀ e st, Sm O (f e st) (Tm' V n e cx st)) : ∀ es st, Sm O (orAnyT f es st) (OrM V n cx es st)
  | [], _ => Sm.ret fun D0 D1 => .nil
  | e :: r, st => Sm.bind (hf e st) fun D0 s1 h1 => Sm.ite (fun hb => Sm.ret fun A hR => .stop (hb ▸ h1 A hR)) fun hb => Sm.imp (orAny_sm hf r s1) fun D0 D1 h2 A hR => .go (hb ▸ h1 A hR) (h2 A hR)
theorem compT_sm {R : Type} {cx0 : Cx} {t elt : Expr} {ifs : List Expr} {tst : Cx → Sto → C Bool R} {el : Cx → Sto → C AV R} (ht : ∀ cx st, Sm O (tst cx st) (AndM V n cx ifs st)) (he : ∀ cx st, Sm O (el cx st) (Em V n elt cx st)) : ∀ l st, Sm O (compT cx0 t tst el l st) (CompM V n cx0 t ifs elt l st)
  | [], _ => Sm.ret fun D0 D1 => .nil
  | a :: l, st => Sm.opt fun cx1 e1 => Sm.bind (ht cx1 st) fun D0 s1 h1 => Sm.ite
      (fun hb => Sm.bind (he cx1 s1) fun D0 s2 h2 => Sm.bind (compT_sm ht he l s2) fun D0 D1 h3 => Sm.ret fun A hR => .yes e1 (hb ▸ h1 A hR) (h2 A hR) (h3 A hR))
      fun hb => Sm.imp (compT_sm ht he l s1) fun D0 D1 h3 A hR => .no e1 (hb ▸ h1 A hR) (h3 A hR)
theorem join_sm {R : Type} {cx : Cx} {f : Expr → Sto → C AV R} (hf : ∀ e st, Sm O (f e st) (Em V n e cx st)) : ∀ es st, Sm O (joinT f es st) (JoinM V n cx es st)
  | [], _ => Sm.ret fun D0 D1 => .nil
  | e :: r, st => Sm.or (fun x hx => Sm.bind (join_sm hf r st) fun y s1 h1 => Sm.if fun hb => Sm.ret fun A hR => by
        refine O21 (strC_eq hx) ?_; clear hx; rintro k p rfl
        exact .con (h1 A hR) (of_decide_eq_true hb))
      fun D0 => Sm.opt fun v hv => Sm.bind (hf v st) fun a s1 h1 => Sm.bind (join_sm hf r s1) fun y s2 h2 => Sm.or
        (fun x hx => Sm.if fun hb => Sm.ret fun A hR => by
          obtain ⟨p, rfl⟩ := fmtC_eq hv
          exact .str (asStr_eq hx ▸ h1 A hR) (h2 A hR) (of_decide_eq_true hb))
        fun D0 => Sm.opt fun i hi => Sm.if fun hb => Sm.ret fun A hR => by
          obtain ⟨p, rfl⟩ := fmtC_eq hv
          exact .int (asInt_eq hi ▸ h1 A hR) (h2 A hR) (of_decide_eq_true hb)
theorem get_glK (hT : TabsOk V.K tb) {cx : Cx} {x : Str} {a : AV} (h : cx.get? (fun x => tb.gl.lookup x) x = some a) : cx.get? (glK V.K) x = some a := by
  unfold Cx.get? at h ⊢
  cases e : cx.vars.lookup x with
  | some lv => replace h := e ▸ h; clear e; cases lv <;> first | exact h | exact nos h
  | none =>
    replace h := e ▸ h
    cases e2 : cx.sc.names.lookup x with
    | none => replace h := e2 ▸ h; exact nos h
    | some k => replace h := e2 ▸ h; clear e2; cases k <;> first | exact nos h | exact hT.gl _ _ h
theorem get_none {G : Gl} {cx : Cx} {x : Str} {a : AV} (h : cx.get? (fun D0 => none) x = some a) : cx.get? G x = some a := by
  unfold Cx.get? at h ⊢
  cases e : cx.vars.lookup x with
  | some lv => rw [e] at h; clear e; cases lv <;> first | exact h | exact nos h
  | none =>
    rw [e] at h
    cases e2 : cx.sc.names.lookup x with
    | none => rw [e2] at h; exact nos h
    | some k => rw [e2] at h; clear e2; cases k <;> exact nos h
theorem comp_sm {ev : EvT} {tv : TrT} (hE : SmE V n O ev) (hV : SmT V n O tv) (md : Md) (R : Type) (cx : Cx) (elt t it : Expr) (ifs : List Expr) (sc : Scope) (st : Sto) : Sm O (compC ev tv md R cx elt t it ifs sc st) (CpM V n elt t it ifs sc cx st) :=
  Sm.if fun hb => Sm.bind (hE md R cx it st) fun D0 s1 h1 => Sm.opt fun l e1 => Sm.imp
    (compT_sm (fun cx st => andAll_sm (hV {} R cx) ifs st) (fun cx st => Sm.ite (fun D0 => Sm.sub (hE {} Ans cx elt st)) fun D0 => hE {} R cx elt st) l s1) fun D0 D1 h2 A hR =>
      have q := and3 hb
      .mk q.1 q.2.1 (of_decide_eq_true q.2.2) (h1 A hR) e1 (h2 A hR)
theorem name_sm (hT : TabsOk V.K tb) (R : Type) (cx : Cx) (x : Str) (p : Pos) (st : Sto) : Sm O (nameC tb R cx x st) (Em V n (.Name x p) cx st) :=
  Sm.ite (fun D0 => Sm.fail) fun hd => Sm.opt fun D0 e1 => Sm.ret fun D0 D1 => name_rule V.base (get_glK hT e1) hd
theorem boGo {op : BoolOp} {b c : Bool} (h : goOn op b = true) : bo op b c = c := by cases op <;> cases b <;> first | rfl | rcases h
theorem boStop {op : BoolOp} {b c : Bool} (h : goOn op b = false) : bo op b c = b := by cases op <;> cases b <;> first | rfl | rcases h
theorem bool_sm {pv : Cx → Expr → Sto → Option AV} {ev : EvT} (hP : ∀ cx e st a, pv cx e st = some a → Em V n e cx st a st) (hE : SmE V n O ev) (md : Md) (R : Type) (cx : Cx) (op : BoolOp) (x y : Expr) (p : Pos) (st : Sto) :
    Sm O (boolC pv ev md R cx op x y st) (Em V n (.BoolOp op [x, y] p) cx st) :=
  Sm.bind (hE md R cx x st) fun D0 s1 h1 => Sm.or (fun bc e => Sm.ret fun A hR => by
      refine O12 (Option.bind_eq_some_iff.mp e) ?_; rintro b e1 e
      refine O12 (Option.bind_eq_some_iff.mp e) ?_; rintro q e2 e
      refine O12 (Option.map_eq_some_iff.mp e) ?_; clear e; rintro c e3 rfl
      have h1 := asBool_eq e1 ▸ h1 A hR
      cases hg : goOn op b with
      | true => exact (boGo (c := c) hg).symm ▸ bool_go h1 rfl hg (hP _ _ _ _ (asBool_eq e3 ▸ e2) A hR)
      | false => exact (boStop (c := c) hg).symm ▸ bool_stop h1 rfl hg)
    fun D0 => Sm.opt fun b e => Sm.ite (fun hg => Sm.imp (hE md R cx y s1) fun D0 D1 h2 A hR => bool_go (h1 A hR) e hg (h2 A hR)) fun hg => Sm.ret fun A hR => bool_stop (h1 A hR) e hg
theorem cmp_sm {ev : EvT} {bv : BrT} (hE : SmE V n O ev) (hB : SmB V n O bv) (md : Md) (R : Type) (cx : Cx) (l : Expr) (op : CmpOp) (r : Expr) (p : Pos) (st : Sto) : Sm O (cmpC ev bv md R cx l op r st) (Em V n (.Compare l [op] [r] p) cx st) :=
  Sm.bind (hE md R cx l st) fun D0 s1 h1 => Sm.or (fun i e => Sm.bind (hB md R cx r s1) fun D0 s2 h2 => Sm.opt fun D0 e2 => Sm.opt fun D0 e3 => Sm.ret fun A hR => by
      refine (inOp_eq e) ▸ ?_
      cases i with
      | true => exact in_rule hR.u20 (h1 A hR) (h2 A hR) e2 e3
      | false => exact notin_rule hR.u20 (h1 A hR) (h2 A hR) e2 e3)
    fun D0 => Sm.bind (hE md R cx r s1) fun D0 s2 h2 => Sm.opt fun D0 e2 => Sm.ret fun A hR => cmp_rule hR.u20 (h1 A hR) (h2 A hR) e2
theorem attr_sm (hT : TabsOk V.K tb) {ev : EvT} (hE : SmE V n O ev) (md : Md) (R : Type) (cx : Cx) (o : Expr) (name : Str) (p : Pos) (st : Sto) : Sm O (attrC tb ev md R cx o name st) (Em V n (.Attribute o name p) cx st) :=
  Sm.if fun hb => Sm.bind (hE md R cx o st) fun D0 s1 h1 => Sm.opt fun D0 e1 => Sm.opt fun D0 e2 => Sm.if fun hk => Sm.opt fun D0 e3 => Sm.if fun hv => Sm.ret fun A hR =>
    attr_rule V.base hb (asInst_eq e1 ▸ h1 A hR) (atAttrs_eq e2) (hT.ats _ _ hk) e3 hv
theorem meth_sm (hT : TabsOk V.K tb) (hH : SmH V n O Ht) {ev : EvT} (hE : SmE V n O ev) (md : Md) (R : Type) (cx : Cx) (o : Expr) (name : Str) (apos : Pos) (es : List Expr) (pos : Pos) (st : Sto) :
    Sm O (methC tb Ht ev md R cx o name apos es pos st) (Em V n (.Call (.Attribute o name apos) es [] pos) cx st) :=
  Sm.if fun hb => have q := and3 hb
    Sm.bind (hE md R cx o st) fun D0 s1 h1 => Sm.or
      (fun D0 e1 => Sm.opt fun D0 e2 => Sm.opt fun D0 e3 => Sm.ite (fun D0 => Sm.fail) fun hc => Sm.bind (evL_sm (hE md R cx) es s1) fun D0 s2 h2 => Sm.imp (hH R _ _ s2) fun D0 D1 h3 A hR =>
        meth_rule V.base q.1 (of_decide_eq_true q.2.1) q.2.2 (asInst_eq e1 ▸ h1 A hR) (hT.me _ _ _ e2) (atAttrs_eq e3) hc (h2 A hR) (h3 A hR))
      fun D0 => Sm.opt fun D0 e1 => Sm.if fun hn => Sm.ret fun A hR => by
        have z := and2 hn
        exact (List.isEmpty_iff.mp z.2) ▸ (eq_of_beq z.1) ▸ items_rule q.1 q.2.2 (asDct_eq e1 ▸ h1 A hR)
set_option tactic.hygienic true in
theorem evC_sm (hT : TabsOk V.K tb) (hH : SmH V n O Ht) {pv : Cx → Expr → Sto → Option AV} {ev : EvT} {bv : BrT} {tv : TrT} (hP : ∀ cx e st a, pv cx e st = some a → Em V n e cx st a st) (hE : SmE V n O ev) (hB : SmB V n O bv) (hV : SmT V n O tv)
    (md : Md) (R : Type) (cx : Cx) (e : Expr) (st : Sto) : Sm O (evC tb Ht pv ev bv tv md R cx e st) (Em V n e cx st) := by
  cases e <;> try exact Sm.fail
  case Constant c k p =>
    exact Sm.opt fun _ e => Sm.ret fun _ _ => const_rule e
  case Name x p =>
    exact name_sm hT R cx x p st
  case Tuple es c p =>
    exact Sm.bind (evL_sm (hE md R cx) es st) fun _ _ h => Sm.if fun hb => Sm.ret fun A hR => tup_rule (h A hR) (of_decide_eq_true hb)
  case List es p =>
    exact Sm.bind (evL_sm (hE md R cx) es st) fun _ _ h => Sm.if fun hb => Sm.ret fun A hR => lst_rule (h A hR) (of_decide_eq_true hb)
  case Dict ks vs p =>
    exact Sm.if fun hb => Sm.ret fun _ _ => by
      have q := and2 hb
      exact (List.isEmpty_iff.mp q.1) ▸ (List.isEmpty_iff.mp q.2) ▸ dict_rule
  case BinOp l op r p =>
    exact Sm.bind (hE md R cx l st) fun _ s1 h1 => Sm.bind (hE md R cx r s1) fun _ _ h2 => Sm.opt fun _ e => Sm.ret fun A hR => bin_rule (h1 A hR) (h2 A hR) e
  case UnaryOp op x p =>
    refine Sm.bind (hE md R cx x st) fun _ s1 h1 => ?_
    cases op <;> try exact Sm.fail
    · exact Sm.opt fun _ e => Sm.ret fun A hR => not_rule (h1 A hR) e
    · exact Sm.opt fun _ e => Sm.if fun _ => Sm.ret fun A hR => neg_rule (asInt_eq e ▸ h1 A hR)
  case BoolOp op es p =>
    exact Sm.opt fun _ e => vw2_eq e ▸ bool_sm hP hE md R cx op _ _ p st
  case Compare l ops rs p =>
    exact Sm.opt fun _ e1 => Sm.opt fun _ e2 => vw1_eq e1 ▸ vw1_eq e2 ▸ cmp_sm hE hB md R cx l _ _ p st
  case IfExp t b o p =>
    exact Sm.bind (hV md R cx t st) fun _ s1 h1 => Sm.ite
      (fun hb => Sm.imp (hE md R cx b s1) fun _ _ h2 A hR => ifx_rule (c := true) (hb ▸ h1 A hR) (h2 A hR))
      fun hb => Sm.imp (hE md R cx o s1) fun _ _ h2 A hR => ifx_rule (c := false) (hb ▸ h1 A hR) (h2 A hR)
  case Subscript v i p =>
    exact Sm.or
      (fun lu e => Sm.bind (hE md R cx v st) fun _ s1 h1 => Sm.opt fun _ e2 => Sm.opt fun _ e3 => Sm.ret fun A hR => by
        obtain ⟨n, k, q, s, rfl, rfl⟩ | ⟨n, k, q, s, rfl, rfl⟩ := asSlice_eq e
        · exact sliceU_rule (h1 A hR) e2 e3
        · exact sliceL_rule (h1 A hR) e2 e3)
      fun _ => Sm.bind (hB md R cx v st) fun _ s1 h1 => Sm.bind (hE md R cx i s1) fun _ s2 h2 => Sm.opt fun _ e2 => Sm.opt fun _ e3 => Sm.ret fun A hR => sub_rule (h1 A hR) (h2 A hR) e2 e3
  case Attribute o name p =>
    exact attr_sm hT hE md R cx o name p st
  case Call f es kw pos =>
    exact Sm.if fun hk => List.isEmpty_iff.mp hk ▸ Sm.or (fun _ e => asAttr_eq e ▸ meth_sm hT hH hE md R cx _ _ _ es pos st)
      fun _ => Sm.opt fun x e => Sm.bind (hE md R cx f st) fun _ s1 h1 => Sm.bind (evL_sm (hE md R cx) es s1) fun _ s2 h2 => Sm.imp (hH R _ _ s2) fun _ _ h3 A hR => by
        obtain ⟨p, rfl⟩ := asNm_eq e
        exact call_rule V.base (h1 A hR) (h2 A hR) (h3 A hR)
  case ListComp elt gens sc p =>
    exact Sm.opt fun _ e => Sm.bind (comp_sm hE hV md R cx elt _ _ _ sc st) fun _ _ h => Sm.ret fun A hR => gen1_eq e ▸ comp_eval hR.h (h A hR)
  case JoinedStr es p =>
    exact Sm.if fun hb => Sm.bind (join_sm (hE md R cx) es st) fun _ _ h => Sm.ret fun A hR => by
      match es, of_decide_eq_true hb, h with
      | _ :: _ :: _, _, h => exact joined_rule (h A hR)
theorem brC_sm (hT : TabsOk V.K tb) {ev : EvT} (hE : SmE V n O ev) (md : Md) (R : Type) (cx : Cx) (e : Expr) (st : Sto) : Sm O (brC tb ev md R cx e st) (Bm V n e cx st) :=
  Sm.or (fun x hx => Sm.ite (fun D0 => Sm.fail) fun hd => Sm.ite
      (fun ho => Sm.ret fun D0 D1 => by
        obtain ⟨p, rfl⟩ := asNm_eq hx
        obtain ⟨lv, e⟩ := own_is ho
        exact own_rule e hd)
      fun D0 => Sm.opt fun D0 e1 => Sm.ret fun D0 D1 => by
        obtain ⟨p, rfl⟩ := asNm_eq hx
        exact av_rule (name_rule V.base (get_glK hT e1) hd))
    fun D0 => Sm.bind (hE md R cx e st) fun D0 D1 h => Sm.ret fun A hR => av_rule (h A hR)
theorem tru_sm {ev : EvT} (hE : SmE V n O ev) (md : Md) (R : Type) (cx : Cx) (e : Expr) (hp : plainTest e = true) (st : Sto) : Sm O (truC ev md R cx e st) (Tm' V n e cx st) :=
  Sm.bind (hE md R cx e st) fun D0 D1 h1 => Sm.opt fun D0 e1 => Sm.ret fun A hR => tplain_rule hp (h1 A hR) e1
set_option tactic.hygienic true in
theorem trC_sm {ev : EvT} {tv : TrT} (hE : SmE V n O ev) (hV : SmT V n O tv) (md : Md) (R : Type) (cx : Cx) (e : Expr) (st : Sto) : Sm O (trC ev tv md R cx e st) (Tm' V n e cx st) := by
  cases e <;> try exact Sm.fail
  case UnaryOp op x p =>
    exact Sm.if fun ho => Sm.bind (hV md R cx x st) fun _ _ h => Sm.ret fun A hR => isNot_eq ho ▸ tnot_rule (h A hR)
  case BoolOp op es p =>
    cases op with
    | And => exact Sm.imp (andAll_sm (hV md R cx) es st) fun _ _ h A hR E s F ρ env ow G R Q k => tand_rule (h A hR) G R k
    | Or => exact Sm.imp (orAny_sm (hV md R cx) es st) fun _ _ h A hR E s F ρ env ow G R Q k => tor_rule (h A hR) G R k
  case IfExp t b o p =>
    exact Sm.bind (hV md R cx t st) fun _ s1 h1 => Sm.ite
      (fun hb => Sm.imp (hV md R cx b s1) fun _ _ h2 A hR => tif_rule (c := true) (hb ▸ h1 A hR) (h2 A hR))
      fun hb => Sm.imp (hV md R cx o s1) fun _ _ h2 A hR => tif_rule (c := false) (hb ▸ h1 A hR) (h2 A hR)
  case Compare l ops rs p =>
    exact Sm.or
      (fun _ e1 => Sm.opt fun _ e2 => Sm.bind (hE md R cx _ st) fun _ _ h1 => Sm.opt fun _ e3 => Sm.ret fun A hR => vw1_eq e1 ▸ vw1_eq e2 ▸ tcmp_rule (h1 A hR) e3)
      fun _ => Sm.opt fun _ e1 => Sm.opt fun _ e2 => Sm.bind (hE md R cx l st) fun _ s1 h1 => Sm.bind (hE md R cx _ s1) fun _ s2 h2 => Sm.opt fun _ e3 => Sm.opt fun _ e4 => Sm.ite
        (fun hb => Sm.if fun hl => Sm.bind (hE md R cx _ s2) fun _ _ h3 => Sm.opt fun _ e5 => Sm.ret fun A hR => leC_eq e1 ▸ vw2_eq e2 ▸ isLt_eq hl ▸ tchainT_rule (asInt_eq e3 ▸ h1 A hR) (asInt_eq e4 ▸ h2 A hR) hb (asInt_eq e5 ▸ h3 A hR))
        fun hb => Sm.ret fun A hR => leC_eq e1 ▸ vw2_eq e2 ▸ tchainF_rule (asInt_eq e3 ▸ h1 A hR) (asInt_eq e4 ▸ h2 A hR) hb
  case Name x p =>
    exact tru_sm hE md R cx _ rfl st
  case Call f es kw p =>
    exact tru_sm hE md R cx _ rfl st
end
end Og
end
section
set_option maxRecDepth 100000
namespace Og
open PySem PySem.W PyProof.Rows PySem.Calls PySem.Spec
section
variable {V : Vu} {n : Nat} {O : Orc} {tb : Tabs} {Ht : HdT}
theorem nmP_ok {cx : Cx} {x : Str} {p : Pos} {st : Sto} {a : AV} (h : nmP cx x = some a) : Em V n (.Name x p) cx st a st := fun D0 D1 =>
  have q := ifn_some h
  name_rule V.base (get_none q.2) q.1
theorem ctX_ok {cx : Cx} {x : Str} {p : Pos} {st : Sto} {c : Ct} (h : ctX cx st x = some c) : ∃ r, Bm V n (.Name x p) cx st r st ∧ ctB cx st r = some c := by
  refine Og.cps fun G kG => ?_
  obtain ⟨hd, h⟩ := ifn_some h
  refine kG ?_
  clear kG
  cases e1 : ownL cx x with
  | some l =>
    refine Og.cps fun G kG => ?_
    rw [e1] at h
    have e := ownL_eq e1
    refine kG ?_
    clear kG
    exact ⟨.own x, fun D0 D1 => own_rule e hd, by refine h ▸ ?_; refine (?_ : (match cx.vars.lookup x with | some (.ol l) => some (Ct.list l) | some (.od ks vs) => some (.dict ks vs) | _ => none) = _); rw [e]⟩
  | none =>
    rw [e1] at h
    cases e2 : ownD cx x with
    | some kv =>
      rw [e2] at h
      have e := ownD_eq e2
      exact ⟨.own x, fun D0 D1 => own_rule e hd, by refine h ▸ ?_; refine (?_ : (match cx.vars.lookup x with | some (.ol l) => some (Ct.list l) | some (.od ks vs) => some (.dict ks vs) | _ => none) = _); rw [e]⟩
    | none =>
      refine Og.cps fun G kG => ?_
      rw [e2] at h
      refine O12 (Option.bind_eq_some_iff.mp h) ?_; rintro a h1 h2
      refine kG ?_
      clear kG
      exact Og.I12 (.av a) (fun D0 D1 => av_rule (name_rule V.base (get_none h1) hd)) h2
set_option tactic.hygienic true in
theorem evP_ok : ∀ (d : Nat) (cx : Cx) (e : Expr) (st : Sto) (a : AV), evP d cx e st = some a → Em V n e cx st a st
  | 0, _, _, _, _, h => nos h
  | d + 1, cx, e, st, a, h => by
    cases e <;> try exact nos h
    case Name x p => exact nmP_ok h
    case Subscript v i p =>
      refine O12 (Option.bind_eq_some_iff.mp h) ?_; rintro x h1 h
      refine O12 (Option.bind_eq_some_iff.mp h) ?_; rintro y h2 h
      refine O12 (Option.bind_eq_some_iff.mp h) ?_; rintro c h3 h
      refine O12 (Option.bind_eq_some_iff.mp h) ?_; rintro q h4 h7
      obtain ⟨p1, rfl⟩ := asNm_eq h1
      clear h; obtain ⟨p2, rfl⟩ := asNm_eq h2
      obtain ⟨r, h5, h6⟩ := ctX_ok (V := V) (n := n) h3
      exact fun A hR => sub_rule (h5 A hR) (nmP_ok h4 A hR) h6 h7
    case BoolOp op es p =>
      refine O12 (Option.bind_eq_some_iff.mp h) ?_; rintro xy h1 h
      refine O12 (Option.bind_eq_some_iff.mp h) ?_; rintro q1 h2 h
      refine O12 (Option.bind_eq_some_iff.mp h) ?_; rintro b h3 h
      refine O12 (Option.bind_eq_some_iff.mp h) ?_; rintro q2 h4 h
      refine O12 (Option.bind_eq_some_iff.mp h) ?_; rintro c h5 h
      refine (vw2_eq h1) ▸ (Option.some.inj h) ▸ ?_
      have k1 := evP_ok d _ _ _ _ h2
      intro A hR
      have k1 := asBool_eq h3 ▸ k1 A hR
      cases hg : goOn op b with
      | true => exact (boGo (c := c) hg).symm ▸ bool_go k1 rfl hg (asBool_eq h5 ▸ (evP_ok d _ _ _ _ h4) A hR)
      | false => exact (boStop (c := c) hg).symm ▸ bool_stop k1 rfl hg
theorem evT_sm (hT : TabsOk V.K tb) (hH : SmH V n O Ht) : ∀ d, SmE V n O (evT tb Ht d) ∧ SmB V n O (brT tb Ht d) ∧ SmT V n O (trT tb Ht d)
  | 0 => Og.I03 (fun D0 D1 D2 D3 D4 => Sm.fail) (fun D0 D1 D2 D3 D4 => Sm.fail) (fun D0 D1 D2 D3 D4 => Sm.fail)
  | d + 1 =>
    have ⟨hE, hB, hV⟩ := evT_sm hT hH d
    (Og.I03 (fun md R cx e st => Sm.ite (fun D0 => Sm.sub (evC_sm hT hH (evP_ok d) hE hB hV {} Ans cx e st)) fun D0 => evC_sm hT hH (evP_ok d) hE hB hV md R cx e st) (fun md R cx e st => brC_sm hT hE md R cx e st) (fun md R cx e st => trC_sm hE hV md R cx e st))
/-- a comprehension, with its parts -/
theorem evT_comp (hT : TabsOk V.K tb) (hH : SmH V n O Ht) (d : Nat) (md : Md) (R : Type) (cx : Cx) (elt : Expr) (gens : List Comprehension) (sc : Scope) (p : Pos) (st : Sto) :
    Sm O (evT tb Ht d md R cx (.ListComp elt gens sc p) st) fun a s => ∃ g out, gen1 gens = some g ∧ a = .lst out ∧ CpM V n elt g.1 g.2.1 g.2.2 sc cx st out s := by
  cases d with
  | zero => exact Sm.fail
  | succ d =>
    have ⟨hE, _, hV⟩ := evT_sm hT hH d
    exact Sm.ite (fun D0 => Sm.sub (Sm.opt fun g e => Sm.bind (comp_sm hE hV {} Ans cx elt _ _ _ sc st) fun out D0 h => Sm.ret ⟨g, out, e, rfl, h⟩))
      fun D0 => Sm.opt fun g e => Sm.bind (comp_sm hE hV md R cx elt _ _ _ sc st) fun out D0 h => Sm.ret ⟨g, out, e, rfl, h⟩
end
end Og
end
section
set_option maxRecDepth 100000
namespace Og
open PySem PySem.W PyProof.Rows PySem.Calls PySem.Spec
theorem call1_eq {f : Str} {e : Expr} {q : Expr × Expr} (h : call1 f e = some q) : ∃ x p pos, q.1 = .Name x p ∧ e = .Call (.Name x p) [q.2] [] pos ∧ notStar q.2 = true := by
  refine Og.cps fun G kG => ?_
  refine O12 (Option.bind_eq_some_iff.mp h) ?_; rintro c h1 h
  refine O12 (Option.bind_eq_some_iff.mp h) ?_; rintro x h2 h
  refine O12 (Option.bind_eq_some_iff.mp h) ?_; rintro a h3 h
  obtain ⟨h4, h⟩ := if_some h
  have h4 := and3 h4
  refine kG ?_
  clear kG
  exact (Option.some.inj h) ▸ (asCall_eq h1) ▸ (asNmP_eq h2) ▸ (vw1_eq h3) ▸ (List.isEmpty_iff.mp h4.1) ▸ Og.I33 _ _ _ rfl rfl h4.2.2
theorem call2_eq {f : Str} {e : Expr} {q : Expr × Expr × Expr} (h : call2 f e = some q) : ∃ x p pos, q.1 = .Name x p ∧ e = .Call (.Name x p) [q.2.1, q.2.2] [] pos ∧ notStar q.2.1 = true ∧ notStar q.2.2 = true := by
  refine Og.cps fun G kG => ?_
  refine O12 (Option.bind_eq_some_iff.mp h) ?_; rintro c h1 h
  refine O12 (Option.bind_eq_some_iff.mp h) ?_; rintro x h2 h
  refine O12 (Option.bind_eq_some_iff.mp h) ?_; rintro a h3 h
  obtain ⟨h4, h⟩ := if_some h
  have h4 := and4 h4
  refine kG ?_
  clear kG
  exact (Option.some.inj h) ▸ (asCall_eq h1) ▸ (asNmP_eq h2) ▸ (vw2_eq h3) ▸ (List.isEmpty_iff.mp h4.1) ▸ Og.I33 _ _ _ rfl rfl h4.2.2
theorem lamCall_eq {e : Expr} {q : Expr × Expr × Expr × Arguments × Expr × Scope} (h : lamCall e = some q) : ∃ x p lp pos, q.1 = .Name x p ∧ e = .Call (.Name x p) [q.2.1, q.2.2.1, .Lambda q.2.2.2.1 q.2.2.2.2.1 q.2.2.2.2.2 lp] [] pos := by
  refine Og.cps fun G kG => ?_
  refine O12 (Option.bind_eq_some_iff.mp h) ?_; rintro c h1 h
  refine O12 (Option.bind_eq_some_iff.mp h) ?_; rintro x h2 h
  refine O12 (Option.bind_eq_some_iff.mp h) ?_; rintro a h3 h
  refine O12 (Option.bind_eq_some_iff.mp h) ?_; rintro m h4 h
  obtain ⟨h5, h⟩ := if_some h
  refine kG ?_
  clear kG
  exact (Option.some.inj h) ▸ (asCall_eq h1) ▸ (asNmP_eq h2) ▸ (vw3_eq h3) ▸ (asLam_eq h4) ▸ (List.isEmpty_iff.mp h5) ▸ Og.I42 _ _ _ _ rfl rfl
theorem appCall_eq {e : Expr} {q : Expr × Expr} (h : appCall e = some q) : ∃ apos pos, e = .Call (.Attribute q.1 "append" apos) [q.2] [] pos ∧ (apos.endLine == pos.line) = true ∧ notStar q.2 = true ∧ baseOk q.1 = true := by
  refine Og.cps fun G kG => ?_
  refine O12 (Option.bind_eq_some_iff.mp h) ?_; rintro c h1 h
  refine O12 (Option.bind_eq_some_iff.mp h) ?_; rintro t h2 h
  refine O12 (Option.bind_eq_some_iff.mp h) ?_; rintro a h3 h
  obtain ⟨h4, h⟩ := if_some h
  have h4 := and4 h4
  refine kG ?_
  clear kG
  exact (Option.some.inj h) ▸ (asCall_eq h1) ▸ (asAttr_eq h2) ▸ (vw1_eq h3) ▸ (List.isEmpty_iff.mp h4.1) ▸ (eq_of_beq h4.2.1) ▸ Og.I23 _ _ rfl h4.2.2.1 (and2 h4.2.2.2)
theorem ozGen_eq {cx : Cx} {l : List Comprehension} {q : Expr × Str × List Expr × List AV × List AV} (h : ozGen cx l = some q) : ∃ ts c p px, q.1 = .Tuple ts c p ∧ l = [⟨.Tuple ts c p, .Name q.2.1 px, q.2.2.1, 0⟩] ∧ cx.vars.lookup q.2.1 = some (.oz q.2.2.2.1 q.2.2.2.2) := by
  refine Og.cps fun G kG => ?_
  refine O12 (Option.bind_eq_some_iff.mp h) ?_; rintro g h1 h
  refine O12 (Option.bind_eq_some_iff.mp h) ?_; rintro t h2 h
  refine O12 (Option.bind_eq_some_iff.mp h) ?_; rintro x h3 h
  refine O12 (Option.map_eq_some_iff.mp h) ?_; rintro z h4 h
  refine kG ?_
  clear kG
  rw [← h, gen1_eq h1, asTup3_eq h2, asNmP_eq h3]
  exact Og.I43 _ _ _ _ rfl rfl (ownZ_eq h4)
section
variable {V : Vu} {n : Nat} {O : Orc} {tb : Tabs} {Ht : HdT} {D : Nat} {md : Md} {R : Type}
set_option tactic.hygienic true in
/-- what a statement that ends in a new frame does -/
noncomputable abbrev XnM (V : Vu) (n : Nat) (x : Stmt) (cx : Cx) (st : Sto) (cx1 : Cx) (s : Sto) : Prop := Xm V n x cx st (.next cx1) s
theorem put_sm {x : Str} {cx : Cx} {lv : LV} {s : Sto} {r : Cx → Sto → Prop} (h : ∀ cx1, cx.put x lv = some cx1 → r cx1 s) : Sm O (putC R cx x lv s) r := Sm.opt fun cx1 e => Sm.ret (h cx1 e)
theorem asgD_sm (hT : TabsOk V.K tb) (hH : SmH V n O Ht) (cx : Cx) (x : Str) (px pos : Pos) (v : Expr) (st : Sto) (hn : noComp v = true) : Sm O (asgNameD tb Ht D md R cx x v st) (XnM V n (.Assign [.Name x px] v pos) cx st) :=
  Sm.bind ((evT_sm hT hH D).1 md R cx v st) fun D0 D1 h1 => put_sm fun D0 e A hR => asg_plain hn (h1 A hR) e
set_option tactic.hygienic true in
theorem asgName_sm (hT : TabsOk V.K tb) (hH : SmH V n O Ht) (cx : Cx) (x : Str) (px pos : Pos) (v : Expr) (st : Sto) : Sm O (asgNameT tb Ht D md R cx x v st) (XnM V n (.Assign [.Name x px] v pos) cx st) := by
  have hE := (evT_sm hT hH D).1
  have pl := asgD_sm (D := D) (md := md) (R := R) hT hH cx x px pos
  cases v <;> try exact pl _ st rfl
  case List es p =>
    exact Sm.bind (evL_sm (hE md R cx) es st) fun _ _ h => Sm.if fun hb => put_sm fun _ e A hR => asgL_rule (h A hR) (of_decide_eq_true hb) e
  case Dict ks vs p =>
    exact Sm.if fun hb => put_sm fun _ e _ _ => by
      have q := and2 hb
      rw [List.isEmpty_iff.mp q.1, List.isEmpty_iff.mp q.2]
      exact asgD_rule e
  case Tuple es c p =>
    exact Sm.or (fun e1 h => Sm.bind (hE md R cx e1 st) fun _ _ h1 => put_sm fun _ e A hR => by
        refine O12 (Option.bind_eq_some_iff.mp h) ?_; rintro q h2 h3
        obtain ⟨h4, h5⟩ := if_some h3
        obtain ⟨p', h6⟩ := isNil_eq (and2 h4).2
        refine (vw2_eq h2) ▸ h6 ▸ (Option.some.inj h5) ▸ ?_
        exact asg_plain rfl (tup_rule (.cons (Option.some.inj h5 ▸ (and2 h4).1) (h1 A hR) (.cons rfl placeL .nil)) (show 2 ≤ 64 by decide)) e)
      fun _ => pl _ st rfl
  case Call f es kw p =>
    exact Sm.or
      (fun fe h => Sm.bind (hE md R cx _ st) fun _ s1 h1 => Sm.bind (hE md R cx _ s1) fun _ _ h2 => Sm.or (fun _ e3 => Sm.if fun hb => put_sm fun _ e A hR => by
          refine O33 (call1_eq h) ?_; rintro y p1 pos h3 h4 h5
          refine h4 ▸ ?_
          have q := and3 hb
          exact asgDC_rule h5 (isTy_eq q.1 ▸ h3 ▸ h1 A hR) (asDct_eq e3 ▸ h2 A hR) (of_decide_eq_true q.2.1) q.2.2 e)
        fun _ => pl _ st rfl)
      fun _ => Sm.or
        (fun fe h => Sm.bind (hE md R cx _ st) fun _ s1 h1 => Sm.bind (hE md R cx _ s1) fun _ s2 h2 => Sm.bind (hE md R cx _ s2) fun _ _ h3 => Sm.if fun hq => Sm.opt fun _ e3 => Sm.opt fun _ e4 => put_sm fun _ e A hR => by
          refine O34 (call2_eq h) ?_; rintro y p1 pos k1 k2 k3 k4
          exact k2 ▸ asgZ_rule k3 k4 (isTy_eq hq ▸ k1 ▸ h1 A hR) (asLst_eq e3 ▸ h2 A hR) (asLst_eq e4 ▸ h3 A hR) e)
        fun _ => pl _ st rfl
  case ListComp elt gens sc p =>
    exact Sm.bind (evT_comp hT hH D md R cx elt gens sc p st) fun _ _ h1 => put_sm fun _ e A hR => by
      refine O23 h1 ?_; clear h1; rintro g out k1 rfl k3
      exact (gen1_eq k1) ▸ asg_comp hR.h (k3 A hR) e
  case SetComp =>
    exact Sm.bind (r := fun _ _ => False) (by cases D with | zero => exact Sm.fail | succ d => exact Sm.ite (fun _ => Sm.sub Sm.fail) fun _ => Sm.fail) fun _ _ h => h.elim
  case DictComp =>
    exact Sm.bind (r := fun _ _ => False) (by cases D with | zero => exact Sm.fail | succ d => exact Sm.ite (fun _ => Sm.sub Sm.fail) fun _ => Sm.fail) fun _ _ h => h.elim
theorem lv1_sm (hT : TabsOk V.K tb) (hH : SmH V n O Ht) (cx : Cx) (e : Expr) (st : Sto) : Sm O (evLV1T tb Ht D md R cx e st) (fun lv s => ∀ A, Room A n → LV1 V.prog V.w V.B V.P A e cx st lv s) :=
  Sm.ite (fun hb => Sm.ret fun D0 D1 => by obtain ⟨p, rfl⟩ := isNil_eq hb; exact lvL_rule) fun D0 => Sm.bind ((evT_sm hT hH D).1 md R cx e st) fun D0 D1 h => Sm.ret fun A hR => lvV_rule (h A hR)
theorem asgTup_sm (hT : TabsOk V.K tb) (hH : SmH V n O Ht) (cx : Cx) (ts : List Expr) (c : Nat) (cp pos : Pos) (v : Expr) (st : Sto) : Sm O (asgTupT tb Ht D md R cx ts (.Tuple ts c cp) v st) (XnM V n (.Assign [.Tuple ts c cp] v pos) cx st) :=
  have hE := (evT_sm hT hH D).1
  Sm.or (fun vs e => Sm.opt fun q e1 => Sm.opt fun w e2 => Sm.if fun hb => Sm.ite
      (fun hl => Sm.if fun hc => Sm.bind (lv1_sm hT hH cx _ st) fun D0 s1 h1 => Sm.bind (lv1_sm hT hH cx _ s1) fun D0 D1 h2 => Sm.opt fun D0 e3 => put_sm fun D0 e4 A hR => by
        refine O21 (asTupE_eq e) ?_; clear e; rintro vc vp rfl
        refine (vw2_eq e2) ▸ (nm2_eq e1) ▸ ?_
        have k1 := and2 hb
        have k2 := and2 hl
        have k3 := and4 hc
        exact asgS_rule hR.h k1.1 k1.2 (eq_of_beq k2.1) (eq_of_beq k2.2) k3.1 k3.2.1 (Bool.not_eq_true' _ ▸ k3.2.2.1) (Bool.not_eq_true' _ ▸ k3.2.2.2) (h1 A hR) (h2 A hR) e3 e4)
      fun D0 => Sm.if fun hc => Sm.bind (hE md R cx v st) fun D0 D1 h1 => Sm.opt fun D0 e3 => Sm.ret fun A hR => by
        refine O21 (asTupE_eq e) ?_; clear e; rintro vc vp rfl
        rw [vw2_eq e2] at h1 ⊢
        rw [nm2_eq e1] at e3 ⊢
        have k1 := and2 hb
        exact asgC_rule hR.h k1.1 k1.2 ((Bool.or_eq_true_iff.mp hc).imp eq_of_beq eq_of_beq) (h1 A hR) e3)
    fun hn => Sm.bind (hE md R cx v st) fun D0 D1 h1 => Sm.opt fun D0 e3 => Sm.ret fun A hR => asgU_rule hR.h (asTupE_no hn) (h1 A hR) e3
theorem asgVal_sm (hT : TabsOk V.K tb) (hH : SmH V n O Ht) (cx : Cx) (v : Expr) (st : Sto) : Sm O (asgValT tb Ht D md R cx v st) (Em V n v cx st) :=
  Sm.ite (fun hb => Sm.ret fun D0 D1 => by obtain ⟨p, rfl⟩ := isNil_eq hb; exact placeL) fun D0 => Sm.ite (fun hb => Sm.ret fun D0 D1 => by obtain ⟨p, rfl⟩ := isD0_eq hb; exact placeD) fun D0 => (evT_sm hT hH D).1 md R cx v st
theorem asgAttr_sm (hT : TabsOk V.K tb) (hH : SmH V n O Ht) (cx : Cx) (o : Expr) (name : Str) (ap pos : Pos) (v : Expr) (st : Sto) : Sm O (asgAttrT tb Ht D md R cx o name v st) (XnM V n (.Assign [.Attribute o name ap] v pos) cx st) :=
  Sm.bind (asgVal_sm hT hH cx v st) fun D0 s1 h1 => Sm.bind ((evT_sm hT hH D).1 md R cx o s1) fun D0 D1 h2 => Sm.opt fun D0 e1 => Sm.opt fun D0 e2 => Sm.if fun hb => Sm.ret fun A hR =>
    have q := and2 hb
    asgAttr_rule V.base (h1 A hR) (asInst_eq e1 ▸ h2 A hR) (atAttrs_eq e2) (hT.sto _ _ q.1) (of_decide_eq_true q.2)
theorem asgSub_sm (hT : TabsOk V.K tb) (hH : SmH V n O Ht) (cx : Cx) (b i v : Expr) (sp pos : Pos) (st : Sto) : Sm O (asgSubT tb Ht D md R cx b i v st) (XnM V n (.Assign [.Subscript b i sp] v pos) cx st) :=
  have ⟨hE, hB, _⟩ := evT_sm hT hH D
  Sm.bind (hE md R cx v st) fun D0 s1 h1 => Sm.bind (hB md R cx b s1) fun D0 s2 h2 => Sm.bind (hE md R cx i s2) fun D0 D1 h3 => Sm.or
    (fun D0 e1 => Sm.or (fun D0 e2 => Sm.opt fun D0 e3 => Sm.opt fun D0 e4 => Sm.ret fun A hR => subL_rule (h1 A hR) (asOwn_eq e1 ▸ h2 A hR) (asInt_eq e3 ▸ h3 A hR) (ownL_eq e2) e4)
      fun D0 => Sm.opt fun D0 e2 => Sm.if fun hb => Sm.opt fun D0 e4 => Sm.ret fun A hR => subD_rule (h1 A hR) (asOwn_eq e1 ▸ h2 A hR) (h3 A hR) (ownD_eq e2) (and2 hb).1 (of_decide_eq_true (and2 hb).2) e4)
    fun D0 => Sm.opt fun D0 e1 => Sm.opt fun D0 e2 => Sm.if fun hb => Sm.opt fun D0 e4 => Sm.ret fun A hR => subS_rule (h1 A hR) (brLoc_eq e1 ▸ h2 A hR) (h3 A hR) (atDict_eq e2) (and2 hb).1 (of_decide_eq_true (and2 hb).2) e4
theorem appTo_sm (hT : TabsOk V.K tb) (hH : SmH V n O Ht) (cx : Cx) {b e1 : Expr} {apos cpos pos : Pos} (hline : (apos.endLine == cpos.line) = true) (hs : notStar e1 = true) (hb : baseOk b = true) (st : Sto) :
    Sm O (appToT tb Ht D md R cx b e1 st) (XnM V n (.Expr (.Call (.Attribute b "append" apos) [e1] [] cpos) pos) cx st) :=
  have ⟨hE, hB, _⟩ := evT_sm hT hH D
  Sm.bind (hB md R cx b st) fun D0 s1 h1 => Sm.bind (hE md R cx e1 s1) fun D0 D1 h2 => Sm.or
    (fun D0 q1 => Sm.opt fun D0 q2 => Sm.if fun hz => Sm.ret fun A hR => appO_rule hline hs hb (asOwn_eq q1 ▸ h1 A hR) (h2 A hR) (ownL_eq q2) (of_decide_eq_true hz))
    fun D0 => Sm.opt fun D0 q1 => Sm.opt fun D0 q2 => Sm.opt fun D0 q3 => Sm.if fun hz => Sm.ret fun A hR => appS_rule hline hs hb (brLoc_eq q1 ▸ h1 A hR) (h2 A hR) (atList_eq q2) (atList_eq q3) (of_decide_eq_true hz)
theorem retV_sm (hT : TabsOk V.K tb) (hH : SmH V n O Ht) (cx : Cx) (e : Expr) (st : Sto) : Sm O (evT tb Ht D md R cx e st) (Rm V n e cx st) := Sm.imp ((evT_sm hT hH D).1 md R cx e st) fun D0 D1 h A hR => retV_rule (h A hR)
set_option tactic.hygienic true in
theorem ret_sm (hT : TabsOk V.K tb) (hH : SmH V n O Ht) (cx : Cx) (e : Expr) (st : Sto) : Sm O (retT tb Ht D md R cx e st) (Rm V n e cx st) := by
  have ⟨hE, _, hV⟩ := evT_sm hT hH D
  cases e <;> try exact retV_sm hT hH cx _ st
  case ListComp elt gens sc p =>
    exact Sm.or
      (fun g e => Sm.if fun hb => Sm.bind (compT_sm (elt := elt) (fun cx st => andAll_sm (hV {} R cx) _ st) (fun cx st => Sm.ite (fun _ => Sm.sub (hE {} Ans cx elt st)) fun _ => hE {} R cx elt st) _ st) fun _ _ h => Sm.ret fun A hR => by
        refine O43 (ozGen_eq e) ?_; rintro ts c q px k1 k2 k3
        have b := and5 hb
        exact k2 ▸ ret_zip hR.h k3 b.1 b.2.1 (of_decide_eq_true b.2.2.1) (of_decide_eq_true b.2.2.2.1) (Bool.not_eq_true' _ ▸ b.2.2.2.2) (k1 ▸ h A hR))
      fun _ => retV_sm hT hH cx _ st
  case Call f es kw p =>
    exact Sm.or
      (fun l e => Sm.if fun hb => Sm.bind (hE md R cx _ st) fun _ s1 h1 => Sm.bind (hE md R cx _ s1) fun _ s2 h2 => Sm.bind (hE md R cx _ s2) fun _ s3 h3 => Sm.opt fun _ e4 => Sm.imp (hH R _ _ s3) fun _ _ h5 A hR => by
        refine O42 (lamCall_eq e) ?_; rintro x p1 lp pos k1 k2
        have b := and5 hb
        exact k2 ▸ retL_rule V.base b.1 b.2.1 b.2.2.1 b.2.2.2.1 (k1 ▸ h1 A hR) (h2 A hR) (h3 A hR) e4 (h5 A hR))
      fun _ => retV_sm hT hH cx _ st
/-- what a loop runs over -/
inductive SrcM (V : Vu) (n : Nat) (t it : Expr) (cx : Cx) (st : Sto) (l : List AV) (s : Sto) : Prop
  | it {a : AV} : Em V n it cx st a s → iterA s a = some l → SrcM V n t it cx st l s
  | zip {f : Str} {fp cp tp : Pos} {e1 e2 : Expr} {ts : List Expr} {tc : Nat} {xs ys : List AV} {st2 st3 : Sto} : t = .Tuple ts tc tp → it = .Call (.Name f fp) [e1, e2] [] cp → notStar e1 = true → notStar e2 = true →
    Em V n (.Name f fp) cx st (.val (.type "zip")) st2 → Em V n e1 cx st2 (.lst xs) st3 → Em V n e2 cx st3 (.lst ys) s → l = zipA xs ys → SrcM V n t it cx st l s
theorem forSrc_sm (hT : TabsOk V.K tb) (hH : SmH V n O Ht) (cx : Cx) (t it : Expr) (st : Sto) : Sm O (forSrcT tb Ht D md R cx t it st) (SrcM V n t it cx st) :=
  have hE := (evT_sm hT hH D).1
  Sm.or (fun D0 e => Sm.bind (hE md R cx _ st) fun D0 s1 h1 => Sm.bind (hE md R cx _ s1) fun D0 s2 h2 => Sm.bind (hE md R cx _ s2) fun D0 D1 h3 => Sm.if fun hq => Sm.opt fun D0 e1 => Sm.opt fun D0 e2 => Sm.ret (by
      refine O12 (Option.bind_eq_some_iff.mp e) ?_; rintro ts k1 k2
      refine O21 (asTupE_eq k1) ?_; clear e k1; rintro c p rfl
      refine O34 (call2_eq k2) ?_; rintro x p1 pos k3 rfl k5 k6
      exact .zip rfl rfl k5 k6 (isTy_eq hq ▸ k3 ▸ h1) (asLst_eq e1 ▸ h2) (asLst_eq e2 ▸ h3) rfl))
    fun D0 => Sm.bind (hE md R cx it st) fun D0 D1 h1 => Sm.opt fun D0 e => Sm.ret (.it h1 e)
set_option tactic.hygienic true in
theorem for_sm {t : Expr} {b : List Stmt} {body : Cx → Sto → C Fl R} (hb : ∀ cx st, Sm O (body cx st) (Lm V n b cx st)) : ∀ l cx st, Sm O (forT R t body l cx st) (fun fl s => ∀ A, Room A n → ForR t (SL V.prog V.w V.B V.P A b) l cx st fl s)
  | [], _, _ => Sm.ret fun _ _ => .nil
  | a :: l, cx, st => Sm.opt fun cx1 e1 => Sm.bind (hb cx1 st) fun q s h1 => by
    cases q with
    | next cx2 => exact Sm.imp (for_sm hb l cx2 s) fun _ _ h2 A hR => .next e1 (h1 A hR) (h2 A hR)
    | ret v => exact Sm.ret fun A hR => .ret e1 (h1 A hR)
theorem for_rule {t it : Expr} {b : List Stmt} {pos : Pos} {cx : Cx} {st s1 : Sto} {l : List AV} {fl : Fl} {s : Sto} (h1 : SrcM V n t it cx st l s1) (h2 : ∀ A, Room A n → ForR t (SL V.prog V.w V.B V.P A b) l cx s1 fl s) : Xm V n (.For t it b [] pos) cx st fl s := fun A hR => by
  cases h1 with
  | it h e => exact forI_rule hR.h (h A hR) e (h2 A hR)
  | zip e1 e2 n1 n2 k1 k2 k3 e3 =>
    subst e1 e2 e3
    exact forZ_rule hR.h n1 n2 (k1 A hR) (k2 A hR) (k3 A hR) (h2 A hR)
end
end Og
end
section
set_option maxRecDepth 100000
namespace Og
open PySem PySem.W PyProof.Rows PySem.Calls PySem.Spec
section
variable {V : Vu} {n : Nat} {O : Orc} {tb : Tabs} {Ht : HdT} {D : Nat} {md : Md} {R : Type}
theorem Xm.frz {x : Stmt} {xs : List Str} {cx : Cx} {st : Sto} {fl : Fl} {s : Sto} (h : Xm V n x (frz cx xs) st fl s) : Xm V n x cx st fl s := fun A hR => (h A hR).frz
set_option tactic.hygienic true in
theorem asg_sm (hT : TabsOk V.K tb) (hH : SmH V n O Ht) (cx : Cx) (t v : Expr) (pos : Pos) (st : Sto) : Sm O (asgT tb Ht D md R cx t v st) (XnM V n (.Assign [t] v pos) cx st) := by
  cases t <;> try exact Sm.fail
  case Name x px =>
    exact Sm.imp (asgName_sm hT hH _ x px pos v st) fun _ _ h => Xm.frz h
  case Tuple ts c p =>
    exact Sm.imp (asgTup_sm hT hH _ ts c p pos v st) fun _ _ h => Xm.frz h
  case Attribute o name ap =>
    exact Sm.imp (asgAttr_sm hT hH _ o name ap pos v st) fun _ _ h => Xm.frz (Xm.frz h)
  case Subscript b i sp =>
    exact Sm.imp (asgSub_sm hT hH _ b i v sp pos st) fun _ _ h => Xm.frz (Xm.frz h)
theorem exp_sm (hT : TabsOk V.K tb) (hH : SmH V n O Ht) (cx : Cx) (e : Expr) (pos : Pos) (st : Sto) : Sm O (expT tb Ht D md R cx e st) (XnM V n (.Expr e pos) cx st) :=
  Sm.or (fun be h => by
      refine O24 (appCall_eq h) ?_; clear h; rintro apos cpos rfl h1 h2 h3
      exact Sm.imp (appTo_sm hT hH _ h1 h2 h3 st) fun D0 D1 h => Xm.frz h)
    fun D0 => Sm.if fun hn => Sm.bind ((evT_sm hT hH D).1 md R _ e st) fun D0 D1 h1 => Sm.if fun hq => Sm.ret (Xm.frz fun A hR => expr_rule (h1 A hR) hq hn)
set_option tactic.hygienic true in
theorem exT_sm (hT : TabsOk V.K tb) (hH : SmH V n O Ht) : ∀ k md R, (∀ cx s st, Sm O (exST tb Ht D md R k cx s st) (Xm V n s cx st)) ∧ (∀ cx l st, Sm O (exLT tb Ht D md R k cx l st) (Lm V n l cx st))
  | 0, _, _ => ⟨fun _ _ _ => Sm.fail, fun _ _ _ => Sm.fail⟩
  | k + 1, md, R => by
    have ⟨hS, hL⟩ := exT_sm hT hH k md R
    have hV := (evT_sm hT hH D).2.2
    refine ⟨fun cx s st => ?_, fun cx l st => ?_⟩
    · cases s <;> try exact Sm.fail
      case Assign ts v pos => exact Sm.opt fun _ e => vw1_eq e ▸ Sm.bind (asg_sm hT hH cx _ v pos st) fun _ _ h => Sm.ret h
      case Expr e pos => exact Sm.bind (exp_sm hT hH cx e pos st) fun _ _ h => Sm.ret h
      case Return v pos => exact Sm.opt fun e he => Sm.bind (ret_sm hT hH _ e st) fun _ _ h => Sm.ret (he ▸ Xm.frz fun A hR => return_rule (h A hR))
      case If t b o pos =>
        exact Sm.bind (hV md.flat R _ t st) fun _ s1 h1 => Sm.ite
          (fun hb => Sm.imp (hL _ b s1) fun _ _ h2 => Xm.frz fun A hR => if_rule (h1 A hR) (by rw [hb]; exact h2 A hR))
          fun hb => Sm.imp (hL _ o s1) fun _ _ h2 => Xm.frz fun A hR => if_rule (h1 A hR) (by rw [hb]; exact h2 A hR)
      case For t it body orelse pos => exact Sm.if fun he => List.isEmpty_iff.mp he ▸ Sm.bind (forSrc_sm hT hH _ t it st) fun l s1 h1 => Sm.imp (for_sm (fun cx st => hL cx body st) l _ s1) fun _ _ h2 => Xm.frz (for_rule h1 h2)
    · cases l with
      | nil => exact Sm.ret fun _ _ => nil_rule
      | cons s r =>
        refine Sm.bind (hS cx s st) fun q s1 h1 => ?_
        cases q with
        | next cx' => exact Sm.imp (hL cx' r s1) fun _ _ h2 A hR => cons_rule (h1 A hR) (h2 A hR)
        | ret a => exact Sm.ret fun A hR => ret_end (h1 A hR)
theorem asBody_eq {b : FuncBody} {l : List Stmt} (h : asBody b = some l) : b = .stmts l := by cases b <;> first | exact nos h | exact congrArg FuncBody.stmts (Option.some.inj h)
variable {N : Nat}
theorem run_sm (hT : TabsOk V.K tb) (hH : SmH V n O Ht) (fd : FuncData) (args : List AV) (st : Sto) : Sm O (runT tb Ht D md R V.cL N fd args st) (FnR V.prog V.w V.B V.P V.cL n fd args st) :=
  Sm.opt fun D0 e1 => Sm.if fun hb => Sm.opt fun D0 e2 => Sm.bind ((exT_sm hT hH N md R).2 _ _ st) fun D0 D1 h => Sm.ret (have q := and3 hb; .mk (asBody_eq e1) q.1 q.2.1 q.2.2 e2 h)
theorem runLam_sm (hT : TabsOk V.K tb) (hH : SmH V n O Ht) (ps : Arguments) (sc : Scope) (body : Expr) (ns : List Str) (vs args : List AV) (st : Sto) :
    Sm O (runLamT tb Ht D md R ps sc body ns vs args st) (LamR V.prog V.w V.B V.P n ps sc body ns vs args st) :=
  Sm.if fun hb => Sm.opt fun D0 e2 => Sm.imp ((evT_sm hT hH D).1 md R _ body st) fun D0 D1 h =>
    have q := and5 (and2 hb).1
    .mk q.1 q.2.1 q.2.2.1 (eq_of_beq q.2.2.2.1) (Bool.not_eq_true' _ ▸ q.2.2.2.2) (Bool.not_eq_true' _ ▸ (and2 hb).2) e2 h
set_option tactic.hygienic true in
theorem callB_sm (hT : TabsOk V.K tb) (hH : SmH V n O Ht) (md : Md) (R : Type) (f : AV) (args : List AV) (st : Sto) : Sm O (callB tb D N V.cL md Ht R f args st) (Cm V (n + 1) f args st) := by
  cases f <;> try exact Sm.fail
  case val v =>
    exact Sm.or
      (fun a e => asRef_eq e ▸ Sm.or (fun _ e1 => Sm.imp (run_sm hT hH _ args st) fun _ _ h A hR => fn_rule V.base (hT.fn _ _ e1) h hR)
        fun _ => Sm.opt fun _ e1 => Sm.opt fun _ e2 => Sm.bind (run_sm hT hH _ _ _) fun _ _ h => Sm.if fun hn => Sm.ret fun A hR => cls_rule V.base (hT.ini _ _ e1) (hT.fn _ _ e2) (isNoneA_eq hn ▸ h) hR)
      fun hn => Sm.opt fun _ e => Sm.ret fun A hR => builtin_rule (asRef_no hn) e hR
  case clo ps sc body ns vs =>
    exact Sm.imp (runLam_sm hT hH ps sc body ns vs args st) fun _ _ h A hR => clo_rule V.base h hR
theorem Cm.up {m : Nat} {f : AV} {args : List AV} {st s : Sto} {a : AV} (h : Cm V n f args st a s) (hm : n ≤ m) : Cm V m f args st a s := fun A hR => h A (hR.le hm)
end
/-- what a call does, in whatever world, from a number of levels on -/
noncomputable def Ev (K : Frag) (cL : Addr) (M : Nat) : Orc := fun f args st a s => ∀ V : Vu, V.K = K → V.cL = cL → Cm V M f args st a s
section
variable {K : Frag} {cL : Addr} {tb : Tabs} {D N : Nat}
theorem Ev.up {M M' : Nat} {f : AV} {args : List AV} {st s : Sto} {a : AV} (h : Ev K cL M f args st a s) (hm : M ≤ M') : Ev K cL M' f args st a s := fun V e1 e2 => (h V e1 e2).up hm
theorem ask_sm {V : Vu} (e1 : V.K = K) (e2 : V.cL = cL) {M m : Nat} (hm : M ≤ m) (R : Type) (f : AV) (args : List AV) (st : Sto) : Sm (Ev K cL M) (askC R f args st) (Cm V m f args st) := fun D0 D1 h =>
  let ⟨a, s, h1, h2⟩ := h
  (Og.I22 a s ((h1 V e1 e2).up hm) h2)
theorem callT_sm {V : Vu} (e1 : V.K = K) (e2 : V.cL = cL) (hT : TabsOk K tb) {M : Nat} (q : AV → List AV → Bool) : ∀ j m, M + j ≤ m → SmH V m (Ev K cL M) (callT tb D N cL q j)
  | 0, _, hm => fun R f args st => ask_sm e1 e2 hm R f args st
  | _ + 1, 0, hm => absurd hm (by omega)
  | j + 1, m + 1, hm => fun R f args st => Sm.ite (fun D0 => ask_sm e1 e2 (Nat.le_trans (Nat.le_add_right M (j + 1)) hm) R f args st) fun D0 => by
    have := callT_sm (M := M) e1 e2 hT q j m (by omega)
    subst e1 e2
    exact callB_sm hT this {} R f args st
theorem callTop_ev (hT : TabsOk K tb) {M : Nat} (q : AV → List AV → Bool) (j : Nat) (md : Md) (f : AV) (args : List AV) (st : Sto) {a : AV} {s : Sto} (h : Sat (Ev K cL M) (callTop tb D N cL md q j f args st) (a, s)) : Ev K cL (M + j + 1) f args st a s := fun V e1 e2 => by
  have := callT_sm (D := D) (N := N) e1 e2 hT q j (M + j) (Nat.le_refl _)
  subst e1 e2
  refine O22 (callB_sm hT this md Ans f args st _ _ h) ?_; rintro b s' e h2
  cases h2
  exact e
end
end Og
end
section
set_option maxRecDepth 1000000
set_option Elab.async false
namespace Og
open PySem PySem.W PyProof.Rows PySem.Calls PySem.Spec
/-! ## the tables of the program: addresses of functions, classes, names -/
set_option tactic.hygienic true in
theorem lookup_all {α β : Type} [BEq α] [LawfulBEq α] {p : α → β → Prop} : ∀ {l : List (α × β)}, (∀ q ∈ l, p q.1 q.2) → ∀ x a, l.lookup x = some a → p x a
  | [], _, _, _, e => by cases e
  | (y, b) :: l, h, x, a, e => by
    rw [List.lookup_cons] at e
    split at e
    · rename_i q
      (replace e := Option.some.inj e; subst e)
      exact (eq_of_beq q) ▸ h _ (.head _)
    · exact lookup_all (fun q hq => h q (.tail _ hq)) x a e
noncomputable def fdO (o : Obj) : FuncData := match o.data with | .func fd => fd | _ => default
noncomputable def o67 (P : Params) : { o : Obj // (hd.heap_1 P).lookup 67 = some o } := ⟨_, rfl⟩
noncomputable def o72 (P : Params) : { o : Obj // (hd.heap_1 P).lookup 72 = some o } := ⟨_, rfl⟩
noncomputable def o84 (P : Params) : { o : Obj // (hd.heap_1 P).lookup 84 = some o } := ⟨_, rfl⟩
noncomputable def o89 (P : Params) : { o : Obj // (hd.heap_1 P).lookup 89 = some o } := ⟨_, rfl⟩
noncomputable def o94 (P : Params) : { o : Obj // (hd.heap_1 P).lookup 94 = some o } := ⟨_, rfl⟩
noncomputable def o101 (P : Params) : { o : Obj // (hd.heap_1 P).lookup 101 = some o } := ⟨_, rfl⟩
noncomputable def o159 (P : Params) : { o : Obj // (hd.heap_1 P).lookup 159 = some o } := ⟨_, rfl⟩
noncomputable def o166 (P : Params) : { o : Obj // (hd.heap_1 P).lookup 166 = some o } := ⟨_, rfl⟩
noncomputable def o215 (P : Params) : { o : Obj // (hd.heap_1 P).lookup 215 = some o } := ⟨_, rfl⟩
noncomputable def o222 (P : Params) : { o : Obj // (hd.heap_1 P).lookup 222 = some o } := ⟨_, rfl⟩
noncomputable def o229 (P : Params) : { o : Obj // (hd.heap_1 P).lookup 229 = some o } := ⟨_, rfl⟩
noncomputable def o243 (P : Params) : { o : Obj // (hd.heap_1 P).lookup 243 = some o } := ⟨_, rfl⟩
noncomputable def o250 (P : Params) : { o : Obj // (hd.heap_1 P).lookup 250 = some o } := ⟨_, rfl⟩
noncomputable def o290 (P : Params) : { o : Obj // (hd.heap_1 P).lookup 290 = some o } := ⟨_, rfl⟩
noncomputable def o297 (P : Params) : { o : Obj // (hd.heap_1 P).lookup 297 = some o } := ⟨_, rfl⟩
noncomputable def o304 (P : Params) : { o : Obj // (hd.heap_1 P).lookup 304 = some o } := ⟨_, rfl⟩
noncomputable def o311 (P : Params) : { o : Obj // (hd.heap_1 P).lookup 311 = some o } := ⟨_, rfl⟩
noncomputable def o318 (P : Params) : { o : Obj // (hd.heap_1 P).lookup 318 = some o } := ⟨_, rfl⟩
noncomputable def o323 (P : Params) : { o : Obj // (hd.heap_1 P).lookup 323 = some o } := ⟨_, rfl⟩
noncomputable def o330 (P : Params) : { o : Obj // (hd.heap_1 P).lookup 330 = some o } := ⟨_, rfl⟩
noncomputable def o351 (P : Params) : { o : Obj // (hd.heap_1 P).lookup 351 = some o } := ⟨_, rfl⟩
noncomputable def o358 (P : Params) : { o : Obj // (hd.heap_1 P).lookup 358 = some o } := ⟨_, rfl⟩
noncomputable def o363 (P : Params) : { o : Obj // (hd.heap_1 P).lookup 363 = some o } := ⟨_, rfl⟩
noncomputable def o377 (P : Params) : { o : Obj // (hd.heap_1 P).lookup 377 = some o } := ⟨_, rfl⟩
noncomputable def o387 (P : Params) : { o : Obj // (hd.heap_1 P).lookup 387 = some o } := ⟨_, rfl⟩
noncomputable def o401 (P : Params) : { o : Obj // (hd.heap_1 P).lookup 401 = some o } := ⟨_, rfl⟩
noncomputable def o424 (P : Params) : { o : Obj // (hd.heap_1 P).lookup 424 = some o } := ⟨_, rfl⟩
noncomputable def o431 (P : Params) : { o : Obj // (hd.heap_1 P).lookup 431 = some o } := ⟨_, rfl⟩
noncomputable def o438 (P : Params) : { o : Obj // (hd.heap_1 P).lookup 438 = some o } := ⟨_, rfl⟩
noncomputable def o443 (P : Params) : { o : Obj // (hd.heap_1 P).lookup 443 = some o } := ⟨_, rfl⟩
noncomputable def o448 (P : Params) : { o : Obj // (hd.heap_1 P).lookup 448 = some o } := ⟨_, rfl⟩
noncomputable def o453 (P : Params) : { o : Obj // (hd.heap_1 P).lookup 453 = some o } := ⟨_, rfl⟩
noncomputable def o458 (P : Params) : { o : Obj // (hd.heap_1 P).lookup 458 = some o } := ⟨_, rfl⟩
noncomputable def o463 (P : Params) : { o : Obj // (hd.heap_1 P).lookup 463 = some o } := ⟨_, rfl⟩
noncomputable def o475 (P : Params) : { o : Obj // (hd.heap_1 P).lookup 475 = some o } := ⟨_, rfl⟩
noncomputable def tbP (P : Params) : Tabs where
  gl := (("set_of" : Str), (AV.val (.ref 67) : AV)) :: (("univ_of" : Str), (AV.val (.ref 72) : AV)) :: (("union" : Str), (AV.val (.ref 84) : AV)) :: (("meet" : Str), (AV.val (.ref 89) : AV)) :: (("minus" : Str), (AV.val (.ref 94) : AV)) :: (("is_within" : Str), (AV.val (.ref 101) : AV)) :: (("_law_pull" : Str), (AV.val (.ref 424) : AV)) :: (("_law_atoms" : Str), (AV.val (.ref 431) : AV)) :: (("_law_claim" : Str), (AV.val (.ref 438) : AV)) :: (("_law_sets" : Str), (AV.val (.ref 443) : AV)) :: (("_law_settled" : Str), (AV.val (.ref 448) : AV)) :: (("_law_truths" : Str), (AV.val (.ref 453) : AV)) :: (("_law_is_plain" : Str), (AV.val (.ref 458) : AV)) :: (("_law_instance" : Str), (AV.val (.ref 463) : AV)) :: (("law" : Str), (AV.val (.ref 475) : AV)) :: (("set_of_sets" : Str), (AV.val (.ref 67) : AV)) :: (("_law_is_refused" : Str), (AV.val (.ref 470) : AV)) :: (("Universe" : Str), (AV.val (.ref 197) : AV)) :: (("Bounds" : Str), (AV.val (.ref 274) : AV)) :: (("Unroller" : Str), (AV.val (.ref 333) : AV)) :: (("Evaluator" : Str), (AV.val (.ref 404) : AV)) :: (("_law_lots" : Str), (AV.tup [.tup [], .tup [.tup [.int 0]], .tup [.tup [.int 1]], .tup [.tup [.int 0], .tup [.int 1]]] : AV)) :: (("len" : Str), (AV.val (.builtin "len") : AV)) :: (("all" : Str), (AV.val (.builtin "all") : AV)) :: (("any" : Str), (AV.val (.builtin "any") : AV)) :: (("isinstance" : Str), (AV.val (.builtin "isinstance") : AV)) :: (("repr" : Str), (AV.val (.builtin "repr") : AV)) :: (("sorted" : Str), (AV.val (.builtin "sorted") : AV)) :: (("int" : Str), (AV.val (.type "int") : AV)) :: (("list" : Str), (AV.val (.type "list") : AV)) :: (("dict" : Str), (AV.val (.type "dict") : AV)) :: (("tuple" : Str), (AV.val (.type "tuple") : AV)) :: (("range" : Str), (AV.val (.type "range") : AV)) :: (("zip" : Str), (AV.val (.type "zip") : AV)) :: (("bool" : Str), (AV.val (.type "bool") : AV)) :: []
  fn := [(67, fdO (o67 P).1), (72, fdO (o72 P).1), (84, fdO (o84 P).1), (89, fdO (o89 P).1), (94, fdO (o94 P).1), (101, fdO (o101 P).1), (159, fdO (o159 P).1), (166, fdO (o166 P).1), (215, fdO (o215 P).1), (222, fdO (o222 P).1), (229, fdO (o229 P).1), (243, fdO (o243 P).1), (250, fdO (o250 P).1), (290, fdO (o290 P).1), (297, fdO (o297 P).1), (304, fdO (o304 P).1), (311, fdO (o311 P).1), (318, fdO (o318 P).1), (323, fdO (o323 P).1), (330, fdO (o330 P).1), (351, fdO (o351 P).1), (358, fdO (o358 P).1), (363, fdO (o363 P).1), (377, fdO (o377 P).1), (387, fdO (o387 P).1), (401, fdO (o401 P).1), (424, fdO (o424 P).1), (431, fdO (o431 P).1), (438, fdO (o438 P).1), (443, fdO (o443 P).1), (448, fdO (o448 P).1), (453, fdO (o453 P).1), (458, fdO (o458 P).1), (463, fdO (o463 P).1), (475, fdO (o475 P).1)]
  ini := [(197, 159), (274, 215), (333, 290), (404, 351)]
  me := ((197, ("size" : Str)), 166) :: ((274, ("size" : Str)), 250) :: ((274, ("add" : Str)), 222) :: ((274, ("want_set" : Str)), 229) :: ((274, ("bound" : Str)), 243) :: ((333, ("relation_at" : Str)), 297) :: ((333, ("opened" : Str)), 304) :: ((333, ("after" : Str)), 311) :: ((333, ("line_from" : Str)), 318) :: ((333, ("told" : Str)), 323) :: ((333, ("told_until" : Str)), 330) :: ((404, ("opened" : Str)), 358) :: ((404, ("set_of" : Str)), 363) :: ((404, ("of_two" : Str)), 377) :: ((404, ("truth" : Str)), 387) :: ((404, ("has_many" : Str)), 401) :: []
  ats := [(197, ("names" : Str)), (197, ("numbers" : Str)), (274, ("universe" : Str)), (274, ("bounds" : Str)), (274, ("numbers" : Str)), (333, ("steps" : Str)), (333, ("loop" : Str)), (333, ("bounds" : Str)), (333, ("places" : Str)), (404, ("many" : Str)), (404, ("instance" : Str))]
  sto := [(197, ("names" : Str)), (197, ("numbers" : Str)), (274, ("universe" : Str)), (274, ("bounds" : Str)), (274, ("numbers" : Str)), (333, ("steps" : Str)), (333, ("loop" : Str)), (333, ("bounds" : Str)), (333, ("places" : Str)), (404, ("many" : Str)), (404, ("instance" : Str))]
theorem all_map {α β : Type} {l : List α} {f g : α → β} (h : l.map f = l.map g) : ∀ q ∈ l, f q = g q := List.map_inj_left.mp h
theorem tb_gl (P : Params) : (tbP P).gl.map (fun q => glK (hd.heap_1 P) q.1) = (tbP P).gl.map (fun q => some q.2) := by kernel_rfl
theorem tb_fn (P : Params) : (tbP P).fn.map (fun q => fnK (hd.heap_1 P) q.1) = (tbP P).fn.map (fun q => some q.2) := by kernel_rfl
theorem tb_ini (P : Params) : (tbP P).ini.map (fun q => initK (hd.heap_1 P) q.1) = (tbP P).ini.map (fun q => some q.2) := by kernel_rfl
theorem tb_me (P : Params) : (tbP P).me.map (fun q => methK (hd.heap_1 P) q.1.1 q.1.2) = (tbP P).me.map (fun q => some q.2) := by kernel_rfl
theorem tb_ats (P : Params) : (tbP P).ats.map (fun q => attrK (hd.heap_1 P) q.1 q.2) = (tbP P).ats.map (fun D0 => true) := by kernel_rfl
theorem tb_sto (P : Params) : (tbP P).sto.map (fun q => storK (hd.heap_1 P) q.1 q.2) = (tbP P).sto.map (fun D0 => true) := by kernel_rfl
theorem tabs_ok (P : Params) : TabsOk (hd.heap_1 P) (tbP P) where
  gl := lookup_all (all_map (tb_gl P))
  fn := lookup_all (all_map (tb_fn P))
  ini := lookup_all (all_map (tb_ini P))
  me := fun c x f h => lookup_all (p := fun (q : Addr × Str) f => methK (hd.heap_1 P) q.1 q.2 = some f) (all_map (tb_me P)) (c, x) f h
  ats := fun c x h => all_map (tb_ats P) (c, x) (List.contains_iff_mem.mp h)
  sto := fun c x h => all_map (tb_sto P) (c, x) (List.contains_iff_mem.mp h)
end Og
end
section
set_option maxRecDepth 1000000
set_option Elab.async false
namespace Og
open PySem PySem.W PyProof.Rows PySem.Calls PySem.Spec
noncomputable def qs (l : List Addr) (c : Bool) : AV → List AV → Bool := fun f D0 => match f with
  | .val (.ref a) => l.contains a
  | .clo .. => c
  | _ => false
noncomputable abbrev CallR := AV × List AV × Sto × Ans
noncomputable def Hyp (O : Orc) := { c : CallR // O c.1 c.2.1 c.2.2.1 c.2.2.2.1 c.2.2.2.2 }
noncomputable def hy {O : Orc} {f : AV} {args : List AV} {st s : Sto} {a : AV} (h : O f args st a s) : Hyp O := ⟨(f, args, st, a, s), h⟩
section
variable (P : Params)
noncomputable abbrev E (M : Nat) : Orc := Ev (hd.heap_1 P) 452 M
noncomputable abbrev fnA (f : Addr) : AV := .val (.ref f)
noncomputable abbrev top (md : Md) (q : AV → List AV → Bool) (j : Nat) (f : Addr) (args : List AV) (st : Sto) : T Ans := callTop (tbP P) 16 60 452 md q j (fnA f) args st
variable {P}
theorem hyps_all {O : Orc} (as : List (Hyp O)) : ∀ c ∈ as.map (·.1), O c.1 c.2.1 c.2.2.1 c.2.2.2.1 c.2.2.2.2 := fun c hc => by
  refine O12 (List.mem_map.mp hc) ?_; clear hc; rintro h _ rfl
  exact h.2
/-- a call by its body: the asked calls are given, the parts are proved apart -/
theorem goS {M : Nat} (j : Nat) (md : Md) (q : AV → List AV → Bool) {f : Addr} {args : List AV} {st s : Sto} {a : AV} (as : List (Hyp (E P M))) (ls : List Ans)
    (e : tr (top P md q j f args st) (as.map fun c => c.1.2.2.2) ls = some (as.map (·.1), ls.length, (a, s)))
    (hs : ∀ (i : Nat) b, ls[i]? = some b → Sat (E P M) (sb (top P md q j f args st) (as.map fun c => c.1.2.2.2) ls i) b) : E P (M + j + 1) (fnA f) args st a s :=
  callTop_ev (tabs_ok P) q j md _ args st (sat_tr _ e (hyps_all as) hs)
theorem go {M : Nat} (j : Nat) (l : List Addr) {f : Addr} {args : List AV} {st s : Sto} {a : AV} (as : List (Hyp (E P M)))
    (e : tr (top P {} (qs l false) j f args st) (as.map fun c => c.1.2.2.2) [] = some (as.map (·.1), 0, (a, s))) : E P (M + j + 1) (fnA f) args st a s :=
  goS j {} (qs l false) as [] e fun i b h => by exact Og.nos h
/-- the same call for each case of a list, in one look -/
noncomputable def mapB {X Y : Type} (g : X → Y) : List X → List Y
  | [] => []
  | x :: l => g x :: mapB g l
theorem mapB_mem {X Y : Type} {f g : X → Y} : ∀ {l : List X}, l.map f = mapB g l → ∀ {x}, x ∈ l → f x = g x
  | y :: l, e, x, h => by
    have q := List.cons.inj e
    rcases List.mem_cons.mp h with r | r
    · exact r ▸ q.1
    · exact mapB_mem q.2 r
noncomputable def Oks (O : Orc) (l : List CallR) : Prop := ∀ c ∈ l, O c.1 c.2.1 c.2.2.1 c.2.2.2.1 c.2.2.2.2
theorem Oks.nil {O : Orc} : Oks O [] := fun D0 h => nomatch h
theorem Oks.cons {O : Orc} {f : AV} {args : List AV} {st s : Sto} {a : AV} {l : List CallR} (h : O f args st a s) (k : Oks O l) : Oks O ((f, args, st, a, s) :: l) :=
  fun c hc => (List.mem_cons.mp hc).elim (fun e => e ▸ h) (k c)
theorem goX {X : Type} {M : Nat} (j : Nat) (l : List Addr) {f : Addr} {A : X → List AV} {st s : X → Sto} {a : X → AV} {as : X → List CallR} {x : X} (xs : List X) (h : x ∈ xs)
    (p : Oks (E P M) (as x)) (e : xs.map (fun x => tr (top P {} (qs l false) j f (A x) (st x)) ((as x).map fun c => c.2.2.2) []) = mapB (fun x => some (as x, 0, (a x, s x))) xs) :
    E P (M + j + 1) (fnA f) (A x) (st x) (a x) (s x) :=
  callTop_ev (tabs_ok P) _ j _ _ _ _ (sat_tr _ (mapB_mem e h) p fun i b h => by exact Og.nos h)
theorem go1 {M : Nat} (j : Nat) (l : List Addr) {f : Addr} {k : Nat} (A : Nat → List AV) {st s : Sto} {a : AV} (as : Nat → List CallR) {xs : List Nat} (h : k ∈ xs)
    (p : Oks (E P M) (as k)) (e : xs.map (fun x => tr (top P {} (qs l false) j f (A x) st) ((as x).map fun c => c.2.2.2) []) = mapB (fun x => some (as x, 0, (a, s))) xs) :
    E P (M + j + 1) (fnA f) (A k) st a s := goX (st := fun D0 => st) (s := fun D0 => s) (a := fun D0 => a) j l xs h p e
theorem go2 {M : Nat} (j : Nat) (l : List Addr) {f : Addr} {k d : Nat} (A : Nat → Nat → List AV) {st s : Sto} (a : Nat → Nat → AV) (as : Nat → Nat → List CallR) {xs : List (Nat × Nat)} (h : (k, d) ∈ xs)
    (p : Oks (E P M) (as k d)) (e : xs.map (fun x => tr (top P {} (qs l false) j f (A x.1 x.2) st) ((as x.1 x.2).map fun c => c.2.2.2) []) = mapB (fun x => some (as x.1 x.2, 0, (a x.1 x.2, s))) xs) :
    E P (M + j + 1) (fnA f) (A k d) st (a k d) s :=
  goX (A := fun x : Nat × Nat => A x.1 x.2) (st := fun D0 => st) (s := fun D0 => s) (a := fun x => a x.1 x.2) (as := fun x => as x.1 x.2) j l xs h p e
theorem go3 {M : Nat} (j : Nat) (l : List Addr) {f : Addr} {k d u : Nat} (A : Nat → Nat → Nat → List AV) {st s : Sto} (a : Nat → Nat → Nat → AV) (as : Nat → Nat → Nat → List CallR) {xs : List (Nat × Nat)} {ys : List Nat} (h : (k, d) ∈ xs) (h2 : u ∈ ys)
    (p : Oks (E P M) (as k d u)) (e : (xs.flatMap fun p => ys.map (p, ·)).map (fun x => tr (top P {} (qs l false) j f (A x.1.1 x.1.2 x.2) st) ((as x.1.1 x.1.2 x.2).map fun c => c.2.2.2) []) =
      mapB (fun x => some (as x.1.1 x.1.2 x.2, 0, (a x.1.1 x.1.2 x.2, s))) (xs.flatMap fun p => ys.map (p, ·))) :
    E P (M + j + 1) (fnA f) (A k d u) st (a k d u) s :=
  goX (A := fun x : (Nat × Nat) × Nat => A x.1.1 x.1.2 x.2) (st := fun D0 => st) (s := fun D0 => s) (a := fun x => a x.1.1 x.1.2 x.2) (as := fun x => as x.1.1 x.1.2 x.2) (x := ((k, d), u)) j l _
    (List.mem_flatMap.2 (Og.I12 _ h (List.mem_map_of_mem h2))) p e
/-- a part by its own run -/
theorem goP {M : Nat} {t : T Ans} {z : Ans} (as : List (Hyp (E P M))) (e : tr t (as.map fun c => c.1.2.2.2) [] = some (as.map (·.1), 0, z)) : Sat (E P M) t z :=
  sat_tr t e (hyps_all as) fun i b h => by exact Og.nos h
theorem E.up {M M' : Nat} {f : AV} {args : List AV} {st s : Sto} {a : AV} (h : E P M f args st a s) (hm : M ≤ M' := by omega) : E P M' f args st a s := Ev.up h hm
end
/-! ## formulas -/
inductive Op3 where | meet | union | minus
inductive At where
  | rel (r : Bool) | univ | var (i : Bool) | later (a : At) | bin (o : Op3) (a b : At)
inductive Tm where | always | after | eventually
inductive Cl where
  | some (a : At) | no (a : At) | inn (a b : At) | not (c : Cl) | tm (t : Tm) (c : Cl)
  | bo (all : Bool) (c d : Cl) | tu (u : Bool) (c d : Cl) | qu (all i : Bool) (a : At) (c : Cl)
noncomputable def Op3.str : Op3 → Str | .meet => "meet" | .union => "union" | .minus => "minus"
noncomputable def Tm.str : Tm → Str | .always => "always" | .after => "after" | .eventually => "eventually"
noncomputable def nmV (i : Bool) : Str := if i then "zz" else "z"
noncomputable def nat (n : Nat) : AV := .int (Int.ofNat n)
noncomputable def At.enc : At → AV
  | .rel r => .tup [.str "rel", nat (if r then 1 else 0)]
  | .univ => .tup [.str "univ"]
  | .var i => .tup [.str "var", .str (nmV i)]
  | .later a => .tup [.str "later", a.enc]
  | .bin o a b => .tup [.str o.str, a.enc, b.enc]
noncomputable def boS (b : Bool) : Str := if b then "and" else "or"
noncomputable def tuS (b : Bool) : Str := if b then "until" else "releases"
noncomputable def quS (b : Bool) : Str := if b then "all" else "exists"
noncomputable def Cl.enc : Cl → AV
  | .some a => .tup [.str "some", a.enc]
  | .no a => .tup [.str "no", a.enc]
  | .inn a b => .tup [.str "in", a.enc, b.enc]
  | .not c => .tup [.str "not", c.enc]
  | .tm t c => .tup [.str t.str, c.enc]
  | .bo b c d => .tup [.str (boS b), .tup [c.enc, d.enc]]
  | .tu b c d => .tup [.str (tuS b), c.enc, d.enc]
  | .qu b i a c => .tup [.str (quS b), .tup [.tup [.str (nmV i), a.enc]], c.enc]
noncomputable def after (m l k : Nat) : Nat := if k + 1 < m then k + 1 else l
noncomputable def line (m l k : Nat) : List Nat := (List.range (m - k)).map (k + ·) ++ (List.range (k - l)).map (l + ·)
noncomputable def place (m : Nat) (w r : Bool) (k : Nat) : Nat := if r then (if w then m + k else m) else k
/-- the ways of until and releases, in order -/
noncomputable def ways {α : Type} (u : Bool) (f g : Nat → α) : List Nat → List α → List (List α)
  | [], _ => []
  | j :: js, ah => (if u then ah ++ [g j] else g j :: ah) :: ways u f g js (ah ++ [f j])
section
variable (m l : Nat) (w : Bool)
noncomputable def At.told : At → Nat → AV
  | .rel r, k => .tup [.str "rel", nat (place m w r k)]
  | .univ, _ => .tup [.str "univ"]
  | .var i, _ => .tup [.str "var", .str (nmV i)]
  | .later a, k => a.told (after m l k)
  | .bin o a b, k => .tup [.str o.str, a.told k, b.told k]
noncomputable def Cl.told : Cl → Nat → AV
  | .some a, k => .tup [.str "some", a.told m l w k]
  | .no a, k => .tup [.str "no", a.told m l w k]
  | .inn a b, k => .tup [.str "in", a.told m l w k, b.told m l w k]
  | .not c, k => .tup [.str "not", c.told k]
  | .tm .always c, k => .tup [.str "and", .tup ((line m l k).map c.told)]
  | .tm .eventually c, k => .tup [.str "or", .tup ((line m l k).map c.told)]
  | .tm .after c, k => c.told (after m l k)
  | .bo b c d, k => .tup [.str (boS b), .tup [c.told k, d.told k]]
  | .tu u c d, k => .tup [.str (boS (!u)), .tup ((ways u c.told d.told (line m l k) []).map fun x => .tup [.str (boS u), .tup x])]
  | .qu b i a c, k => .tup [.str (quS b), .tup [.tup [.str (nmV i), a.told m l w k]], c.told k]
end
noncomputable def At.dp : At → Nat
  | .later a => a.dp + 1
  | .bin _ a b => max a.dp b.dp + 1
  | _ => 1
noncomputable def Cl.dp : Cl → Nat
  | .some a => a.dp + 1
  | .no a => a.dp + 1
  | .inn a b => max a.dp b.dp + 1
  | .not c => c.dp + 1
  | .tm _ c => c.dp + 1
  | .bo _ c d => max c.dp d.dp + 1
  | .tu _ c d => max c.dp d.dp + 1
  | .qu _ _ a c => max a.dp c.dp + 1
end Og
end
section
set_option maxRecDepth 1000000
set_option Elab.async false
namespace Og
open PySem PySem.W PyProof.Rows PySem.Calls PySem.Spec
/-- the other parts of a store that holds the unroller -/
structure US where
  (m0 m1 m2 m3 m4 m5 m7 m8 m9 : MO)
  rest : Sto
noncomputable def plA (m : Nat) (w : Bool) : List AV := [.tup ((List.range m).map fun k => nat (place m w false k)), .tup ((List.range m).map fun k => nat (place m w true k))]
noncomputable def uS (m l : Nat) (w : Bool) (s : US) : Sto :=
  s.m0 :: s.m1 :: s.m2 :: s.m3 :: s.m4 :: s.m5 :: .attrs ["steps", "loop", "bounds", "places"] [nat m, nat l, .inst 274 7, .loc 10] :: s.m7 :: s.m8 :: s.m9 :: .list (plA m w) :: s.rest
noncomputable abbrev uI : AV := .inst 333 6
section
variable {P : Params} {M : Nat} {m l k : Nat} {w : Bool} {s : US}
/-- many, loop: what is drawn -/
noncomputable def Ok (m l : Nat) : Prop := (m = 2 ∨ m = 3 ∨ m = 4) ∧ l < m
theorem u_after (ok : Ok m l) (hk : k < m) : E P 3 (fnA 311) [uI, nat k] (uS m l w s) (nat (after m l k)) (uS m l w s) := by
  obtain ⟨rfl | rfl | rfl, hl⟩ := ok
  all_goals
    match l, hl with
    | 0, _ => match k, hk with
      | 0, _ => exact go (M := 0) 2 [] [] (by kernel_rfl)
      | 1, _ => exact go (M := 0) 2 [] [] (by kernel_rfl)
      | 2, _ => exact go (M := 0) 2 [] [] (by kernel_rfl)
      | 3, _ => exact go (M := 0) 2 [] [] (by kernel_rfl)
    | 1, _ => match k, hk with
      | 0, _ => exact go (M := 0) 2 [] [] (by kernel_rfl)
      | 1, _ => exact go (M := 0) 2 [] [] (by kernel_rfl)
      | 2, _ => exact go (M := 0) 2 [] [] (by kernel_rfl)
      | 3, _ => exact go (M := 0) 2 [] [] (by kernel_rfl)
    | 2, _ => match k, hk with
      | 0, _ => exact go (M := 0) 2 [] [] (by kernel_rfl)
      | 1, _ => exact go (M := 0) 2 [] [] (by kernel_rfl)
      | 2, _ => exact go (M := 0) 2 [] [] (by kernel_rfl)
      | 3, _ => exact go (M := 0) 2 [] [] (by kernel_rfl)
    | 3, _ => match k, hk with
      | 0, _ => exact go (M := 0) 2 [] [] (by kernel_rfl)
      | 1, _ => exact go (M := 0) 2 [] [] (by kernel_rfl)
      | 2, _ => exact go (M := 0) 2 [] [] (by kernel_rfl)
      | 3, _ => exact go (M := 0) 2 [] [] (by kernel_rfl)
theorem u_line (ok : Ok m l) (hk : k < m) : E P 4 (fnA 318) [uI, nat k] (uS m l w s) (.lst ((line m l k).map nat)) (uS m l w s) := by
  obtain ⟨rfl | rfl | rfl, hl⟩ := ok
  all_goals
    match l, hl with
    | 0, _ => match k, hk with
      | 0, _ => exact go (M := 0) 3 [] [] (by kernel_rfl)
      | 1, _ => exact go (M := 0) 3 [] [] (by kernel_rfl)
      | 2, _ => exact go (M := 0) 3 [] [] (by kernel_rfl)
      | 3, _ => exact go (M := 0) 3 [] [] (by kernel_rfl)
    | 1, _ => match k, hk with
      | 0, _ => exact go (M := 0) 3 [] [] (by kernel_rfl)
      | 1, _ => exact go (M := 0) 3 [] [] (by kernel_rfl)
      | 2, _ => exact go (M := 0) 3 [] [] (by kernel_rfl)
      | 3, _ => exact go (M := 0) 3 [] [] (by kernel_rfl)
    | 2, _ => match k, hk with
      | 0, _ => exact go (M := 0) 3 [] [] (by kernel_rfl)
      | 1, _ => exact go (M := 0) 3 [] [] (by kernel_rfl)
      | 2, _ => exact go (M := 0) 3 [] [] (by kernel_rfl)
      | 3, _ => exact go (M := 0) 3 [] [] (by kernel_rfl)
    | 3, _ => match k, hk with
      | 0, _ => exact go (M := 0) 3 [] [] (by kernel_rfl)
      | 1, _ => exact go (M := 0) 3 [] [] (by kernel_rfl)
      | 2, _ => exact go (M := 0) 3 [] [] (by kernel_rfl)
      | 3, _ => exact go (M := 0) 3 [] [] (by kernel_rfl)
theorem after_lt (ok : Ok m l) (k : Nat) : after m l k < m := by
  unfold after
  split
  · assumption
  · exact ok.2
theorem line_lt (ok : Ok m l) (hk : k < m) : ∀ j ∈ line m l k, j < m := by
  intro j hj
  unfold line at hj
  rcases List.mem_append.mp hj with h | h
  · refine O12 (List.mem_map.mp h) ?_; clear hj h; rintro i hi rfl
    have := List.mem_range.mp hi
    refine (?_ : k + i < m)
    omega
  · refine O12 (List.mem_map.mp h) ?_; rintro i hi rfl
    have := List.mem_range.mp hi
    refine (?_ : l + i < m)
    omega
theorem line_len (ok : Ok m l) (hk : k < m) : (line m l k).length ≤ 4 := by
  refine Og.cps fun G kG => ?_
  refine kG ?_
  clear kG
  obtain ⟨rfl | rfl | rfl, hl⟩ := ok <;> (unfold line; simp only [List.length_append, List.length_map, List.length_range]; omega)
noncomputable abbrev Told (P : Params) (M m l : Nat) (w : Bool) (s : US) (x : AV) (k : Nat) (y : AV) : Prop := E P M (fnA 323) [uI, x, nat k] (uS m l w s) y (uS m l w s)
theorem t_rel (ok : Ok m l) (hk : k < m) (r : Bool) : Told P 3 m l w s (At.rel r).enc k ((At.rel r).told m l w k) := by
  obtain ⟨rfl | rfl | rfl, hl⟩ := ok
  all_goals
    cases w <;> cases r
  all_goals
    match k, hk with
    | 0, _ => exact go (M := 0) 2 [] [] (by kernel_rfl)
    | 1, _ => exact go (M := 0) 2 [] [] (by kernel_rfl)
    | 2, h => first | exact absurd h (by decide) | exact go (M := 0) 2 [] [] (by kernel_rfl)
    | 3, h => first | exact absurd h (by decide) | exact go (M := 0) 2 [] [] (by kernel_rfl)
theorem t_univ : Told P 3 m l w s At.univ.enc k (At.univ.told m l w k) := go (M := 0) 2 [] [] (by kernel_rfl)
theorem t_var (i : Bool) : Told P 3 m l w s (At.var i).enc k ((At.var i).told m l w k) := by
  cases i <;> exact go (M := 0) 2 [] [] (by kernel_rfl)
theorem t_later {x y : AV} (hM : 3 ≤ M) (ok : Ok m l) (hk : k < m) (h : Told P M m l w s x (after m l k) y) : Told P (M + 3) m l w s (.tup [.str "later", x]) k y :=
  go 2 [323, 311] [hy ((u_after (s := s) (w := w) ok hk).up), hy h] (by kernel_rfl)
theorem t_after {x y : AV} (hM : 3 ≤ M) (ok : Ok m l) (hk : k < m) (h : Told P M m l w s x (after m l k) y) : Told P (M + 3) m l w s (.tup [.str "after", x]) k y :=
  go 2 [323, 311] [hy ((u_after (s := s) (w := w) ok hk).up), hy h] (by kernel_rfl)
theorem t_bin {x y x' y' : AV} (o : Op3) (h : Told P M m l w s x k x') (h' : Told P M m l w s y k y') : Told P (M + 3) m l w s (.tup [.str o.str, x, y]) k (.tup [.str o.str, x', y']) := by
  cases o <;> exact go 2 [323] [hy h, hy h'] (by kernel_rfl)
theorem t_in {x y x' y' : AV} (h : Told P M m l w s x k x') (h' : Told P M m l w s y k y') : Told P (M + 3) m l w s (.tup [.str "in", x, y]) k (.tup [.str "in", x', y']) :=
  go 2 [323] [hy h, hy h'] (by kernel_rfl)
theorem t_some {x x' : AV} (h : Told P M m l w s x k x') : Told P (M + 3) m l w s (.tup [.str "some", x]) k (.tup [.str "some", x']) := go 2 [323] [hy h] (by kernel_rfl)
theorem t_no {x x' : AV} (h : Told P M m l w s x k x') : Told P (M + 3) m l w s (.tup [.str "no", x]) k (.tup [.str "no", x']) := go 2 [323] [hy h] (by kernel_rfl)
theorem t_not {x x' : AV} (h : Told P M m l w s x k x') : Told P (M + 3) m l w s (.tup [.str "not", x]) k (.tup [.str "not", x']) := go 2 [323] [hy h] (by kernel_rfl)
theorem t_bo (b : Bool) {x y x' y' : AV} (h : Told P M m l w s x k x') (h' : Told P M m l w s y k y') : Told P (M + 3) m l w s (.tup [.str (boS b), .tup [x, y]]) k (.tup [.str (boS b), .tup [x', y']]) := by
  cases b <;> exact go 2 [323] [hy h, hy h'] (by kernel_rfl)
theorem t_qu (b i : Bool) {x y x' y' : AV} (h : Told P M m l w s x k x') (h' : Told P M m l w s y k y') : Told P (M + 3) m l w s (.tup [.str (quS b), .tup [.tup [.str (nmV i), x]], y]) k (.tup [.str (quS b), .tup [.tup [.str (nmV i), x']], y']) := by
  cases b <;> cases i <;> exact go 2 [323] [hy h, hy h'] (by kernel_rfl)
theorem t_box {x : AV} {F : Nat → AV} (b : Bool) : ∀ {ks : List Nat}, ks.length ≤ 4 → E P M (fnA 318) [uI, nat k] (uS m l w s) (.lst (ks.map nat)) (uS m l w s) → (∀ j ∈ ks, Told P M m l w s x j (F j)) →
    Told P (M + 3) m l w s (.tup [.str (if b then "always" else "eventually"), x]) k (.tup [.str (boS b), .tup (ks.map F)])
  | [], _, hl, h => by cases b <;> exact go 2 [323, 318] [hy hl] (by kernel_rfl)
  | [a], _, hl, h => by cases b <;> exact go 2 [323, 318] [hy hl, hy (h a (by simp))] (by kernel_rfl)
  | [a, c], _, hl, h => by cases b <;> exact go 2 [323, 318] [hy hl, hy (h a (by simp)), hy (h c (by simp))] (by kernel_rfl)
  | [a, c, d], _, hl, h => by cases b <;> exact go 2 [323, 318] [hy hl, hy (h a (by simp)), hy (h c (by simp)), hy (h d (by simp))] (by kernel_rfl)
  | [a, c, d, e], _, hl, h => by cases b <;> exact go 2 [323, 318] [hy hl, hy (h a (by simp)), hy (h c (by simp)), hy (h d (by simp)), hy (h e (by simp))] (by kernel_rfl)
  | _ :: _ :: _ :: _ :: _ :: _, hlen, _, _ => by simp only [List.length_cons] at hlen; omega
theorem t_tu {x y : AV} {F G : Nat → AV} (u : Bool) : ∀ {ks : List Nat}, ks.length ≤ 4 → E P M (fnA 318) [uI, nat k] (uS m l w s) (.lst (ks.map nat)) (uS m l w s) → (∀ j ∈ ks, Told P M m l w s x j (F j)) → (∀ j ∈ ks, Told P M m l w s y j (G j)) →
    Told P (M + 4) m l w s (.tup [.str (tuS u), x, y]) k (.tup [.str (boS (!u)), .tup ((ways u F G ks []).map fun z => .tup [.str (boS u), .tup z])])
  | [], _, hl, _, _ => by cases u <;> exact go 3 [323, 318] [hy hl] (by kernel_rfl)
  | [a], _, hl, h, g => by cases u <;> exact go 3 [323, 318] [hy hl, hy (g a (by simp)), hy (h a (by simp))] (by kernel_rfl)
  | [a, c], _, hl, h, g => by cases u <;> exact go 3 [323, 318] [hy hl, hy (g a (by simp)), hy (h a (by simp)), hy (g c (by simp)), hy (h c (by simp))] (by kernel_rfl)
  | [a, c, d], _, hl, h, g => by cases u <;> exact go 3 [323, 318] [hy hl, hy (g a (by simp)), hy (h a (by simp)), hy (g c (by simp)), hy (h c (by simp)), hy (g d (by simp)), hy (h d (by simp))] (by kernel_rfl)
  | [a, c, d, e], _, hl, h, g => by cases u <;> exact go 3 [323, 318] [hy hl, hy (g a (by simp)), hy (h a (by simp)), hy (g c (by simp)), hy (h c (by simp)), hy (g d (by simp)), hy (h d (by simp)), hy (g e (by simp)), hy (h e (by simp))] (by kernel_rfl)
  | _ :: _ :: _ :: _ :: _ :: _, hlen, _, _, _ => by simp only [List.length_cons] at hlen; omega
theorem told_at (ok : Ok m l) : ∀ (a : At) (k : Nat), k < m → Told P (4 * a.dp) m l w s a.enc k (a.told m l w k)
  | .rel r, k, hk => (t_rel ok hk r).up (by refine (?_ : 3 ≤ 4 * 1); decide)
  | .univ, k, hk => t_univ.up (by refine (?_ : 3 ≤ 4 * 1); decide)
  | .var i, k, hk => (t_var i).up (by refine (?_ : 3 ≤ 4 * 1); decide)
  | .later a, k, hk => (t_later (M := 4 * a.dp) (by cases a <;> simp only [At.dp] <;> (clear hk; omega)) ok hk (told_at ok a _ (after_lt ok k))).up (by refine (?_ : _ ≤ 4 * (a.dp + 1)); exact Nat.add_le_add_left (k0 rfl) _)
  | .bin o a b, k, hk => (t_bin (M := 4 * max a.dp b.dp) o ((told_at ok a k hk).up (by exact xln rfl)) ((told_at ok b k hk).up (by exact xrn rfl))).up (by refine (?_ : _ ≤ 4 * (max a.dp b.dp + 1)); exact Nat.add_le_add_left (k0 rfl) _)
theorem At.dp_pos (a : At) : 1 ≤ a.dp := by cases a <;> simp only [At.dp] <;> omega
theorem Cl.dp_pos (c : Cl) : 1 ≤ c.dp := by cases c <;> rw [Cl.dp] <;> omega
theorem told_cl (ok : Ok m l) : ∀ (c : Cl) (k : Nat), k < m → Told P (4 * c.dp) m l w s c.enc k (c.told m l w k)
  | .some a, k, hk => (t_some (told_at ok a k hk)).up (by refine (?_ : _ ≤ 4 * (a.dp + 1)); exact Nat.add_le_add_left (k0 rfl) _)
  | .no a, k, hk => (t_no (told_at ok a k hk)).up (by refine (?_ : _ ≤ 4 * (a.dp + 1)); exact Nat.add_le_add_left (k0 rfl) _)
  | .inn a b, k, hk => (t_in (M := 4 * max a.dp b.dp) ((told_at ok a k hk).up (by exact xln rfl)) ((told_at ok b k hk).up (by exact xrn rfl))).up (by refine (?_ : _ ≤ 4 * (max a.dp b.dp + 1)); exact Nat.add_le_add_left (k0 rfl) _)
  | .not c, k, hk => (t_not (told_cl ok c k hk)).up (by refine (?_ : _ ≤ 4 * (c.dp + 1)); exact Nat.add_le_add_left (k0 rfl) _)
  | .tm .after c, k, hk => (t_after (M := 4 * c.dp) (by have := c.dp_pos; (clear hk; omega)) ok hk (told_cl ok c _ (after_lt ok k))).up (by refine (?_ : _ ≤ 4 * (c.dp + 1)); exact Nat.add_le_add_left (k0 rfl) _)
  | .tm .always c, k, hk => (t_box (M := 4 * c.dp) true (line_len ok hk) ((u_line ok hk).up (by have := c.dp_pos; omega)) fun j hj => told_cl ok c j (line_lt ok hk j hj)).up (by refine (?_ : _ ≤ 4 * (c.dp + 1)); exact Nat.add_le_add_left (k0 rfl) _)
  | .tm .eventually c, k, hk => (t_box (M := 4 * c.dp) false (line_len ok hk) ((u_line ok hk).up (by have := c.dp_pos; omega)) fun j hj => told_cl ok c j (line_lt ok hk j hj)).up (by refine (?_ : _ ≤ 4 * (c.dp + 1)); exact Nat.add_le_add_left (k0 rfl) _)
  | .bo b c d, k, hk => (t_bo (M := 4 * max c.dp d.dp) b ((told_cl ok c k hk).up (by exact xln rfl)) ((told_cl ok d k hk).up (by exact xrn rfl))).up (by refine (?_ : _ ≤ 4 * (max c.dp d.dp + 1)); exact Nat.add_le_add_left (k0 rfl) _)
  | .tu u c d, k, hk => (t_tu (M := 4 * max c.dp d.dp) u (line_len ok hk) ((u_line ok hk).up (by have := c.dp_pos; omega)) (fun j hj => (told_cl ok c j (line_lt ok hk j hj)).up (by exact xln rfl)) (fun j hj => (told_cl ok d j (line_lt ok hk j hj)).up (by exact xrn rfl))).up (by refine (?_ : _ ≤ 4 * (max c.dp d.dp + 1)); exact Nat.le_refl _)
  | .qu b i a c, k, hk => (t_qu (M := 4 * max a.dp c.dp) b i ((told_at ok a k hk).up (by exact xln rfl)) ((told_cl ok c k hk).up (by exact xrn rfl))).up (by refine (?_ : _ ≤ 4 * (max a.dp c.dp + 1)); exact Nat.add_le_add_left (k0 rfl) _)
end
end Og
end
section
set_option maxRecDepth 1000000
set_option Elab.async false
namespace Og
open PySem PySem.W PyProof.Rows PySem.Calls PySem.Spec
section
variable {P : Params} {M : Nat} {m l k : Nat} {w : Bool} {st : Sto}
noncomputable abbrev Plain (P : Params) (M : Nat) (st : Sto) (x : AV) : Prop := E P M (fnA 458) [x] st (.bool true) st
theorem p_rel {v : AV} : Plain P 3 st (.tup [.str "rel", v]) := go (M := 0) 2 [] [] (by kernel_rfl)
theorem p_var {v : AV} : Plain P 3 st (.tup [.str "var", v]) := go (M := 0) 2 [] [] (by kernel_rfl)
theorem p_univ : Plain P 3 st (.tup [.str "univ"]) := go (M := 0) 2 [] [] (by kernel_rfl)
theorem p_bin {x y : AV} (o : Op3) (h : Plain P M st x) (h' : Plain P M st y) : Plain P (M + 3) st (.tup [.str o.str, x, y]) := by
  cases o <;> exact go 2 [458] [hy h, hy h'] (by kernel_rfl)
theorem p_in {x y : AV} (h : Plain P M st x) (h' : Plain P M st y) : Plain P (M + 3) st (.tup [.str "in", x, y]) := go 2 [458] [hy h, hy h'] (by kernel_rfl)
theorem p_some {x : AV} (h : Plain P M st x) : Plain P (M + 3) st (.tup [.str "some", x]) := go 2 [458] [hy h] (by kernel_rfl)
theorem p_no {x : AV} (h : Plain P M st x) : Plain P (M + 3) st (.tup [.str "no", x]) := go 2 [458] [hy h] (by kernel_rfl)
theorem p_not {x : AV} (h : Plain P M st x) : Plain P (M + 3) st (.tup [.str "not", x]) := go 2 [458] [hy h] (by kernel_rfl)
theorem p_qu {x y v : AV} (b : Bool) (h : Plain P M st x) (h' : Plain P M st y) : Plain P (M + 3) st (.tup [.str (quS b), .tup [.tup [v, x]], y]) := by
  cases b <;> exact go 2 [458] [hy h, hy h'] (by kernel_rfl)
theorem p_bo (b : Bool) : ∀ {xs : List AV}, xs.length ≤ 4 → (∀ x ∈ xs, Plain P M st x) → Plain P (M + 3) st (.tup [.str (boS b), .tup xs])
  | [], _, h => by cases b <;> exact go 2 [458] [] (by kernel_rfl)
  | [a], _, h => by cases b <;> exact go 2 [458] [hy (h a (by simp))] (by kernel_rfl)
  | [a, c], _, h => by cases b <;> exact go 2 [458] [hy (h a (by simp)), hy (h c (by simp))] (by kernel_rfl)
  | [a, c, d], _, h => by cases b <;> exact go 2 [458] [hy (h a (by simp)), hy (h c (by simp)), hy (h d (by simp))] (by kernel_rfl)
  | [a, c, d, e], _, h => by cases b <;> exact go 2 [458] [hy (h a (by simp)), hy (h c (by simp)), hy (h d (by simp)), hy (h e (by simp))] (by kernel_rfl)
  | _ :: _ :: _ :: _ :: _ :: _, hlen, _ => by simp only [List.length_cons] at hlen; omega
theorem ways_len {α : Type} (u : Bool) (f g : Nat → α) : ∀ (js : List Nat) (ah : List α), (ways u f g js ah).length = js.length
  | [], _ => rfl
  | j :: js, ah => congrArg (· + 1) (ways_len u f g js _)
theorem ways_mem {α : Type} (u : Bool) (f g : Nat → α) {Q : α → Prop} : ∀ (js : List Nat) (ah : List α), (∀ j ∈ js, Q (f j) ∧ Q (g j)) → (∀ x ∈ ah, Q x) → ∀ y ∈ ways u f g js ah, y.length ≤ ah.length + js.length ∧ ∀ x ∈ y, Q x
  | [], _, _, _, y, hy => nomatch hy
  | j :: js, ah, h, ha, y, hy => by
    rcases List.mem_cons.mp hy with rfl | hy
    · refine ⟨by clear hy; cases u <;> simp <;> omega, fun x hx => ?_⟩
      clear hy; cases u
      · rcases List.mem_cons.mp hx with rfl | hx
        · exact (h j (.head _)).2
        · exact ha x hx
      · rcases List.mem_append.mp hx with hx | hx
        · exact ha x hx
        · exact (List.mem_singleton.mp hx) ▸ (h j (.head _)).2
    · have := ways_mem u f g js (ah ++ [f j]) (fun i hi => h i (.tail _ hi)) (fun x hx => by
        rcases List.mem_append.mp hx with hx | hx
        · exact ha x hx
        · exact (List.mem_singleton.mp hx) ▸ (h j (.head _)).1) y hy
      refine ⟨?_, this.2⟩
      have := this.1
      simp only [List.length_append, List.length_cons, List.length_nil] at this ⊢
      omega
theorem plain_at (ok : Ok m l) : ∀ (a : At) (k : Nat), k < m → Plain P (4 * a.dp) st (a.told m l w k)
  | .rel r, k, hk => p_rel.up (by refine (?_ : 3 ≤ 4 * 1); decide)
  | .univ, k, hk => p_univ.up (by refine (?_ : 3 ≤ 4 * 1); decide)
  | .var i, k, hk => p_var.up (by refine (?_ : 3 ≤ 4 * 1); decide)
  | .later a, k, hk => (plain_at ok a _ (after_lt ok k)).up (by refine (?_ : _ ≤ 4 * (a.dp + 1)); exact Nat.le_add_right _ _)
  | .bin o a b, k, hk => (p_bin (M := 4 * max a.dp b.dp) o ((plain_at ok a k hk).up (by exact xln rfl)) ((plain_at ok b k hk).up (by exact xrn rfl))).up (by refine (?_ : _ ≤ 4 * (max a.dp b.dp + 1)); exact Nat.add_le_add_left (k0 rfl) _)
theorem plain_cl (ok : Ok m l) : ∀ (c : Cl) (k : Nat), k < m → Plain P (8 * c.dp) st (c.told m l w k)
  | .some a, k, hk => (p_some (plain_at ok a k hk)).up (by refine (?_ : _ ≤ 8 * (a.dp + 1)); exact m2n rfl rfl)
  | .no a, k, hk => (p_no (plain_at ok a k hk)).up (by refine (?_ : _ ≤ 8 * (a.dp + 1)); exact m2n rfl rfl)
  | .inn a b, k, hk => (p_in (M := 4 * max a.dp b.dp) ((plain_at ok a k hk).up (by exact xln rfl)) ((plain_at ok b k hk).up (by exact xrn rfl))).up (by refine (?_ : _ ≤ 8 * (max a.dp b.dp + 1)); exact m2n rfl rfl)
  | .not c, k, hk => (p_not (plain_cl ok c k hk)).up (by refine (?_ : _ ≤ 8 * (c.dp + 1)); exact Nat.add_le_add_left (k0 rfl) _)
  | .tm .after c, k, hk => (plain_cl ok c _ (after_lt ok k)).up (by refine (?_ : _ ≤ 8 * (c.dp + 1)); exact Nat.le_add_right _ _)
  | .tm .always c, k, hk => (p_bo (M := 8 * c.dp) true (xs := (line m l k).map (c.told m l w)) (by simpa using line_len ok hk) fun x hx => by
      refine O12 (List.mem_map.mp hx) ?_; clear hx; rintro j hj rfl
      exact plain_cl ok c j (line_lt ok hk j hj)).up (by refine (?_ : _ ≤ 8 * (c.dp + 1)); exact Nat.add_le_add_left (k0 rfl) _)
  | .tm .eventually c, k, hk => (p_bo (M := 8 * c.dp) false (xs := (line m l k).map (c.told m l w)) (by simpa using line_len ok hk) fun x hx => by
      refine O12 (List.mem_map.mp hx) ?_; clear hx; rintro j hj rfl
      exact plain_cl ok c j (line_lt ok hk j hj)).up (by refine (?_ : _ ≤ 8 * (c.dp + 1)); exact Nat.add_le_add_left (k0 rfl) _)
  | .bo b c d, k, hk => (p_bo (M := 8 * max c.dp d.dp) b (by refine (?_ : 2 ≤ 4); decide) fun x hx => by
      rcases List.mem_cons.mp hx with rfl | hx
      · exact (plain_cl ok c k hk).up (by exact xln rfl)
      · refine (List.mem_singleton.mp hx) ▸ ?_; exact (plain_cl ok d k hk).up (by exact xrn rfl)).up (by refine (?_ : _ ≤ 8 * (max c.dp d.dp + 1)); exact Nat.add_le_add_left (k0 rfl) _)
  | .tu u c d, k, hk => (p_bo (M := 8 * max c.dp d.dp + 3) (!u) (xs := (ways u (c.told m l w) (d.told m l w) (line m l k) []).map fun x => .tup [.str (boS u), .tup x]) (by rw [List.length_map, ways_len]; exact line_len ok hk) fun x hx => by
      refine O12 (List.mem_map.mp hx) ?_; clear hx; rintro y hy rfl
      have := ways_mem u (c.told m l w) (d.told m l w) (Q := fun x => Plain P (8 * max c.dp d.dp) st x) (line m l k) [] (fun j hj => ⟨(plain_cl ok c j (line_lt ok hk j hj)).up (by exact xln rfl), (plain_cl ok d j (line_lt ok hk j hj)).up (by exact xrn rfl)⟩) (fun x hx => nomatch hx) y hy
      refine p_bo u ?_ this.2
      have h1 := this.1
      have := line_len ok hk
      rw [List.length_nil] at h1
      omega).up (by refine (?_ : _ ≤ 8 * (max c.dp d.dp + 1)); exact m1n' rfl)
  | .qu b i a c, k, hk => (p_qu (M := 8 * max a.dp c.dp) b ((plain_at ok a k hk).up (by exact xln rfl)) ((plain_cl ok c k hk).up (by exact xrn rfl))).up (by refine (?_ : _ ≤ 8 * (max a.dp c.dp + 1)); exact Nat.add_le_add_left (k0 rfl) _)
end
end Og
end
section
set_option maxRecDepth 1000000
set_option Elab.async false
namespace Og
open PySem PySem.W PyProof.Rows PySem.Calls PySem.Spec
/-! ## the evaluator -/
noncomputable abbrev Lot := Bool × Bool
noncomputable def one (b : Bool) : AV := .int (if b then 1 else 0)
noncomputable def rowT (b : Bool) : AV := .tup [one b]
noncomputable def encS : Lot → AV
  | (false, false) => .tup []
  | (true, false) => .tup [rowT false]
  | (false, true) => .tup [rowT true]
  | (true, true) => .tup [rowT false, rowT true]
noncomputable def Op3.lot : Op3 → Lot → Lot → Lot
  | .meet, A, B => (A.1 && B.1, A.2 && B.2)
  | .union, A, B => (A.1 || B.1, A.2 || B.2)
  | .minus, A, B => (A.1 && !B.1, A.2 && !B.2)
noncomputable def lotIn (A B : Lot) : Bool := (!A.1 || B.1) && (!A.2 || B.2)
noncomputable def atomL (b : Bool) : Lot := if b then (false, true) else (true, false)
noncomputable def envD : List Bool → AV
  | [] => .dct [] []
  | [a] => .dct [.str "z"] [.tup [rowT a]]
  | a :: b :: _ => .dct [.str "z", .str "zz"] [.tup [rowT a], .tup [rowT b]]
noncomputable def rowL (w : Bool) (R : Bool → Nat → Lot) (r : Bool) (k : Nat) : Lot := if r then (if w then R true k else R true 0) else R false k
noncomputable def insL (m : Nat) (w : Bool) (R : Bool → Nat → Lot) : List AV :=
  (List.range m).map (fun k => encS (R false k)) ++ (if w then (List.range m).map (fun k => encS (R true k)) else [encS (R true 0)])
section
variable (m l : Nat) (w : Bool) (R : Bool → Nat → Lot)
noncomputable def semA : At → Nat → List Bool → Lot
  | .rel r, k, _ => rowL w R r k
  | .univ, _, _ => (true, true)
  | .var i, _, ρ => atomL (ρ[if i then 1 else 0]?.getD false)
  | .later a, k, ρ => semA a (after m l k) ρ
  | .bin o a b, k, ρ => o.lot (semA a k ρ) (semA b k ρ)
noncomputable def semC : Cl → Nat → List Bool → Bool
  | .some a, k, ρ => (semA m l w R a k ρ).1 || (semA m l w R a k ρ).2
  | .no a, k, ρ => !((semA m l w R a k ρ).1 || (semA m l w R a k ρ).2)
  | .inn a b, k, ρ => lotIn (semA m l w R a k ρ) (semA m l w R b k ρ)
  | .not c, k, ρ => !(semC c k ρ)
  | .tm .always c, k, ρ => (line m l k).all fun j => semC c j ρ
  | .tm .eventually c, k, ρ => (line m l k).any fun j => semC c j ρ
  | .tm .after c, k, ρ => semC c (after m l k) ρ
  | .bo b c d, k, ρ => if b then semC c k ρ && semC d k ρ else semC c k ρ || semC d k ρ
  | .tu u c d, k, ρ => if u then (ways u (fun j => semC c j ρ) (fun j => semC d j ρ) (line m l k) []).any fun x => x.all id
      else (ways u (fun j => semC c j ρ) (fun j => semC d j ρ) (line m l k) []).all fun x => x.any id
  | .qu b _ a c, k, ρ => if b then (!(semA m l w R a k ρ).1 || semC c k (ρ ++ [false])) && (!(semA m l w R a k ρ).2 || semC c k (ρ ++ [true]))
      else ((semA m l w R a k ρ).1 && semC c k (ρ ++ [false])) || ((semA m l w R a k ρ).2 && semC c k (ρ ++ [true]))
end
/-- names in scope -/
noncomputable def At.sc (n : Nat) : At → Prop
  | .var i => (if i then 1 else 0) < n
  | .later a => a.sc n
  | .bin _ a b => a.sc n ∧ b.sc n
  | _ => True
noncomputable def Cl.sc : Nat → Cl → Prop
  | n, .some a => a.sc n
  | n, .no a => a.sc n
  | n, .inn a b => a.sc n ∧ b.sc n
  | n, .not c => c.sc n
  | n, .tm _ c => c.sc n
  | n, .bo _ c d => c.sc n ∧ d.sc n
  | n, .tu _ c d => c.sc n ∧ d.sc n
  | n, .qu _ i a c => n = (if i then 1 else 0) ∧ a.sc n ∧ c.sc (n + 1)
structure ES where
  (a0 a1 a2 a3 a4 a5 a6 a7 a8 a9 a10 a11 a12 : MO)
  rest : Sto
noncomputable def evO (ins : List AV) : MO := .attrs ["many", "instance"] [nat 2, .lst ins]
noncomputable def eS (i : Nat) (z : ES) (ins : List AV) : Sto := match i with
  | 0 => z.a0 :: z.a1 :: z.a2 :: z.a3 :: z.a4 :: z.a5 :: z.a6 :: z.a7 :: z.a8 :: z.a9 :: z.a10 :: evO ins :: z.rest
  | 1 => z.a0 :: z.a1 :: z.a2 :: z.a3 :: z.a4 :: z.a5 :: z.a6 :: z.a7 :: z.a8 :: z.a9 :: z.a10 :: z.a11 :: evO ins :: z.rest
  | _ => z.a0 :: z.a1 :: z.a2 :: z.a3 :: z.a4 :: z.a5 :: z.a6 :: z.a7 :: z.a8 :: z.a9 :: z.a10 :: z.a11 :: z.a12 :: evO ins :: z.rest
noncomputable abbrev eI (i : Nat) : AV := .inst 404 (match i with | 0 => 11 | 1 => 12 | _ => 13)
section
variable {P : Params} {M : Nat} {m l k : Nat} {w : Bool} {R : Bool → Nat → Lot} {i : Nat} {z : ES} {st : Sto} {ins : List AV}
theorem s_union (A B : Lot) : E P 6 (fnA 84) [encS A, encS B] st (encS (Op3.lot .union A B)) st := by
  obtain ⟨a, b⟩ := A
  obtain ⟨c, d⟩ := B
  cases a <;> cases b <;> cases c <;> cases d <;> exact go (M := 0) 5 [] [] (by kernel_rfl)
theorem s_meet (A B : Lot) : E P 6 (fnA 89) [encS A, encS B] st (encS (Op3.lot .meet A B)) st := by
  obtain ⟨a, b⟩ := A
  obtain ⟨c, d⟩ := B
  cases a <;> cases b <;> cases c <;> cases d <;> exact go (M := 0) 5 [] [] (by kernel_rfl)
theorem s_minus (A B : Lot) : E P 6 (fnA 94) [encS A, encS B] st (encS (Op3.lot .minus A B)) st := by
  obtain ⟨a, b⟩ := A
  obtain ⟨c, d⟩ := B
  cases a <;> cases b <;> cases c <;> cases d <;> exact go (M := 0) 5 [] [] (by kernel_rfl)
theorem s_within (A B : Lot) : E P 6 (fnA 101) [encS A, encS B] st (.bool (lotIn A B)) st := by
  obtain ⟨a, b⟩ := A
  obtain ⟨c, d⟩ := B
  cases a <;> cases b <;> cases c <;> cases d <;> exact go (M := 0) 5 [] [] (by kernel_rfl)
noncomputable abbrev SetE (P : Params) (M : Nat) (i : Nat) (z : ES) (ins : List AV) (ρ : List Bool) (x : AV) (L : Lot) : Prop := E P M (fnA 363) [eI i, x, envD ρ] (eS i z ins) (encS L) (eS i z ins)
noncomputable abbrev TruE (P : Params) (M : Nat) (i : Nat) (z : ES) (ins : List AV) (ρ : List Bool) (x : AV) (b : Bool) : Prop := E P M (fnA 387) [eI i, x, envD ρ] (eS i z ins) (.bool b) (eS i z ins)
theorem e_rel (hm : m = 2 ∨ m = 3 ∨ m = 4) (hk : k < m) (r : Bool) (ρ : List Bool) : SetE P 3 i z (insL m w R) ρ ((At.rel r).told m l w k) (rowL w R r k) := by
  obtain rfl | rfl | rfl := hm
  all_goals
    cases w <;> cases r
  all_goals
    match i, k, hk with
    | 0, 0, _ => exact go (M := 0) 2 [] [] (by kernel_rfl)
    | 0, 1, _ => exact go (M := 0) 2 [] [] (by kernel_rfl)
    | 0, 2, h => first | exact absurd h (by decide) | exact go (M := 0) 2 [] [] (by kernel_rfl)
    | 0, 3, h => first | exact absurd h (by decide) | exact go (M := 0) 2 [] [] (by kernel_rfl)
    | 1, 0, _ => exact go (M := 0) 2 [] [] (by kernel_rfl)
    | 1, 1, _ => exact go (M := 0) 2 [] [] (by kernel_rfl)
    | 1, 2, h => first | exact absurd h (by decide) | exact go (M := 0) 2 [] [] (by kernel_rfl)
    | 1, 3, h => first | exact absurd h (by decide) | exact go (M := 0) 2 [] [] (by kernel_rfl)
    | _ + 2, 0, _ => exact go (M := 0) 2 [] [] (by kernel_rfl)
    | _ + 2, 1, _ => exact go (M := 0) 2 [] [] (by kernel_rfl)
    | _ + 2, 2, h => first | exact absurd h (by decide) | exact go (M := 0) 2 [] [] (by kernel_rfl)
    | _ + 2, 3, h => first | exact absurd h (by decide) | exact go (M := 0) 2 [] [] (by kernel_rfl)
theorem e_univ (ρ : List Bool) : SetE P 5 i z ins ρ (.tup [.str "univ"]) (true, true) := by
  match i with
  | 0 => exact go (M := 0) 4 [] [] (by kernel_rfl)
  | 1 => exact go (M := 0) 4 [] [] (by kernel_rfl)
  | _ + 2 => exact go (M := 0) 4 [] [] (by kernel_rfl)
theorem e_var (v : Bool) {ρ : List Bool} (h : (if v then 1 else 0) < ρ.length) : SetE P 3 i z ins ρ (.tup [.str "var", .str (nmV v)]) (atomL (ρ[if v then 1 else 0]?.getD false)) := by
  match ρ, v with
  | [], true => exact absurd h (by decide)
  | [], false => exact absurd h (by decide)
  | [_], true => exact absurd (show (1:Nat) < 1 from h) (by decide)
  | [a], false => clear h; cases a <;> exact go (M := 0) 2 [] [] (by kernel_rfl)
  | a :: b :: _, false => clear h; cases a <;> exact go (M := 0) 2 [] [] (by kernel_rfl)
  | a :: b :: _, true => clear h; cases b <;> exact go (M := 0) 2 [] [] (by kernel_rfl)
theorem e_bin {x y : AV} {A B : Lot} {ρ : List Bool} (hM : 6 ≤ M) (o : Op3) (h : SetE P M i z ins ρ x A) (h' : SetE P M i z ins ρ y B) : SetE P (M + 3) i z ins ρ (.tup [.str o.str, x, y]) (o.lot A B) := by
  match i, o with
  | 0, .meet => exact go 2 [363, 84, 89, 94] [hy h, hy h', hy ((s_meet (st := eS (0) z ins) A B).up (M' := M) hM)] (by kernel_rfl)
  | 1, .meet => exact go 2 [363, 84, 89, 94] [hy h, hy h', hy ((s_meet (st := eS (1) z ins) A B).up (M' := M) hM)] (by kernel_rfl)
  | n + 2, .meet => exact go 2 [363, 84, 89, 94] [hy h, hy h', hy ((s_meet (st := eS (n + 2) z ins) A B).up (M' := M) hM)] (by kernel_rfl)
  | 0, .union => exact go 2 [363, 84, 89, 94] [hy h, hy h', hy ((s_union (st := eS (0) z ins) A B).up (M' := M) hM)] (by kernel_rfl)
  | 1, .union => exact go 2 [363, 84, 89, 94] [hy h, hy h', hy ((s_union (st := eS (1) z ins) A B).up (M' := M) hM)] (by kernel_rfl)
  | n + 2, .union => exact go 2 [363, 84, 89, 94] [hy h, hy h', hy ((s_union (st := eS (n + 2) z ins) A B).up (M' := M) hM)] (by kernel_rfl)
  | 0, .minus => exact go 2 [363, 84, 89, 94] [hy h, hy h', hy ((s_minus (st := eS (0) z ins) A B).up (M' := M) hM)] (by kernel_rfl)
  | 1, .minus => exact go 2 [363, 84, 89, 94] [hy h, hy h', hy ((s_minus (st := eS (1) z ins) A B).up (M' := M) hM)] (by kernel_rfl)
  | n + 2, .minus => exact go 2 [363, 84, 89, 94] [hy h, hy h', hy ((s_minus (st := eS (n + 2) z ins) A B).up (M' := M) hM)] (by kernel_rfl)
theorem set_at (ok : Ok m l) {ρ : List Bool} : ∀ (a : At) (k : Nat), k < m → a.sc ρ.length → SetE P (4 * a.dp + 6) i z (insL m w R) ρ (a.told m l w k) (semA m l w R a k ρ)
  | .rel r, k, hk, _ => (e_rel ok.1 hk r ρ).up (by refine (?_ : 3 ≤ 4 * 1 + 6); decide)
  | .univ, k, hk, _ => (e_univ ρ).up (by refine (?_ : 5 ≤ 4 * 1 + 6); decide)
  | .var v, k, hk, h => (e_var v h).up (by refine (?_ : 3 ≤ 4 * 1 + 6); decide)
  | .later a, k, hk, h => (set_at ok a _ (after_lt ok k) h).up (by refine (?_ : _ ≤ 4 * (a.dp + 1) + 6); exact m1 rfl)
  | .bin o a b, k, hk, h => (e_bin (M := 4 * max a.dp b.dp + 6) (by (clear hk; omega)) o ((set_at ok a k hk h.1).up (by exact xl rfl)) ((set_at ok b k hk h.2).up (by exact xr rfl))).up (by refine (?_ : _ ≤ 4 * (max a.dp b.dp + 1) + 6); exact m1' rfl)
end
end Og
end
section
set_option maxRecDepth 1000000
set_option Elab.async false
namespace Og
open PySem PySem.W PyProof.Rows PySem.Calls PySem.Spec
section
variable {P : Params} {M : Nat} {m l k : Nat} {w : Bool} {R : Bool → Nat → Lot} {i : Nat} {z : ES} {st : Sto} {ins : List AV} {ρ : List Bool}
theorem h_some {x : AV} {L : Lot} (h : SetE P M i z ins ρ x L) : TruE P (M + 4) i z ins ρ (.tup [.str "some", x]) (L.1 || L.2) := by
  obtain ⟨a, b⟩ := L
  match i with
  | 0 => cases a <;> cases b <;> exact go 3 [363] [hy h] (by kernel_rfl)
  | 1 => cases a <;> cases b <;> exact go 3 [363] [hy h] (by kernel_rfl)
  | _ + 2 => cases a <;> cases b <;> exact go 3 [363] [hy h] (by kernel_rfl)
theorem h_no {x : AV} {L : Lot} (h : SetE P M i z ins ρ x L) : TruE P (M + 4) i z ins ρ (.tup [.str "no", x]) (!(L.1 || L.2)) := by
  refine Og.cps fun G kG => ?_
  obtain ⟨a, b⟩ := L
  refine kG ?_
  clear kG
  match i with
  | 0 => cases a <;> cases b <;> exact go 3 [363] [hy h] (by kernel_rfl)
  | 1 => cases a <;> cases b <;> exact go 3 [363] [hy h] (by kernel_rfl)
  | _ + 2 => cases a <;> cases b <;> exact go 3 [363] [hy h] (by kernel_rfl)
theorem h_in {x y : AV} {A B : Lot} (hM : 6 ≤ M) (h : SetE P M i z ins ρ x A) (h' : SetE P M i z ins ρ y B) : TruE P (M + 3) i z ins ρ (.tup [.str "in", x, y]) (lotIn A B) := by
  match i with
  | 0 => exact go 2 [363, 101] [hy h, hy h', hy ((s_within (st := eS 0 z ins) A B).up (M' := M) hM)] (by kernel_rfl)
  | 1 => exact go 2 [363, 101] [hy h, hy h', hy ((s_within (st := eS 1 z ins) A B).up (M' := M) hM)] (by kernel_rfl)
  | n + 2 => exact go 2 [363, 101] [hy h, hy h', hy ((s_within (st := eS (n + 2) z ins) A B).up (M' := M) hM)] (by kernel_rfl)
theorem h_not {x : AV} {b : Bool} (h : TruE P M i z ins ρ x b) : TruE P (M + 3) i z ins ρ (.tup [.str "not", x]) (!b) := by
  match i with
  | 0 => exact go 2 [387] [hy h] (by kernel_rfl)
  | 1 => exact go 2 [387] [hy h] (by kernel_rfl)
  | _ + 2 => exact go 2 [387] [hy h] (by kernel_rfl)
theorem hyps_of {O : Orc} : ∀ (l : List (AV × List AV × Sto × AV × Sto)), (∀ c ∈ l, O c.1 c.2.1 c.2.2.1 c.2.2.2.1 c.2.2.2.2) → ∃ as : List (Hyp O), as.map (·.1) = l
  | [], _ => ⟨[], rfl⟩
  | c :: l, h => by
    obtain ⟨as, e⟩ := hyps_of l fun c hc => h c (.tail _ hc)
    exact ⟨hy (h c (.head _)) :: as, by refine (?_ : _ :: as.map (·.1) = _); rw [e]; rfl⟩
/-- a whole family of runs, told at once -/
theorem goF {ι : Type} (dom : List ι) {P : Params} {M : Nat} (j : Nat) (l : List Addr) {f : Addr} {args : ι → List AV} {st s : ι → Sto} {a : ι → AV} {calls : ι → List (AV × List AV × Sto × AV × Sto)}
    (e : (dom.map fun t => tr (top P {} (qs l false) j f (args t) (st t)) ((calls t).map fun c => c.2.2.2) []) = dom.map fun t => some (calls t, 0, (a t, s t)))
    (t : ι) (ht : t ∈ dom) (h : ∀ c ∈ calls t, E P M c.1 c.2.1 c.2.2.1 c.2.2.2.1 c.2.2.2.2) : E P (M + j + 1) (fnA f) (args t) (st t) (a t) (s t) := by
  obtain ⟨as, q⟩ := hyps_of _ h
  have e1 := List.map_inj_left.mp e t ht
  refine go j l as ?_
  replace e1 := List.map_map ▸ q ▸ e1
  exact e1
noncomputable def bls : Nat → List (List Bool)
  | 0 => [[]]
  | n + 1 => (bls n).map (false :: ·) ++ (bls n).map (true :: ·)
theorem mem_bls : ∀ bs : List Bool, bs ∈ bls bs.length
  | [] => .head _
  | b :: bs => by
    have := mem_bls bs
    refine (?_ : b :: bs ∈ (bls bs.length).map (false :: ·) ++ (bls bs.length).map (true :: ·))
    cases b
    · exact List.mem_append_left _ (List.mem_map_of_mem this)
    · exact List.mem_append_right _ (List.mem_map_of_mem this)
noncomputable def dom2 (n : Nat) : List (Bool × List Bool) := (bls n).map (Prod.mk false) ++ (bls n).map (Prod.mk true)
theorem mem_dom2 (u : Bool) (bs : List Bool) : (u, bs) ∈ dom2 bs.length := by
  cases u
  · exact List.mem_append_left _ (List.mem_map_of_mem (mem_bls bs))
  · exact List.mem_append_right _ (List.mem_map_of_mem (mem_bls bs))
noncomputable abbrev boC (i : Nat) (z : ES) (ins : List AV) (ρ : List Bool) (as : List AV) (bs : List Bool) : List (AV × List AV × Sto × AV × Sto) := (as.zip bs).map fun p => (fnA 387, [eI i, p.1, envD ρ], eS i z ins, .bool p.2, eS i z ins)
noncomputable abbrev boE (P : Params) (i : Nat) (z : ES) (ins : List AV) (ρ : List Bool) (as : List AV) (n : Nat) : Prop :=
  ((dom2 n).map fun t => tr (top P {} (qs [387] false) 2 387 [eI i, .tup [.str (boS t.1), .tup as], envD ρ] (eS i z ins)) ((boC i z ins ρ as t.2).map fun c => c.2.2.2) []) = (dom2 n).map fun t => some (boC i z ins ρ as t.2, 0, (.bool (if t.1 then t.2.all id else t.2.any id), eS i z ins))
theorem bo_at (u : Bool) (xs : List (AV × Bool)) (as : List AV) (bs : List Bool) (ha : xs.map (·.1) = as) (hb : xs.map (·.2) = bs) (e0 : boE P 0 z ins ρ as bs.length) (e1 : boE P 1 z ins ρ as bs.length) (e2 : ∀ n, boE P (n + 2) z ins ρ as bs.length)
    (h : ∀ x ∈ xs, TruE P M i z ins ρ x.1 x.2) : TruE P (M + 3) i z ins ρ (.tup [.str (boS u), .tup (xs.map (·.1))]) (if u then (xs.map (·.2)).all id else (xs.map (·.2)).any id) := by
  have hc : ∀ c ∈ boC i z ins ρ as bs, E P M c.1 c.2.1 c.2.2.1 c.2.2.2.1 c.2.2.2.2 := fun c hc => by
    refine O12 (List.mem_map.mp hc) ?_; clear hc; rintro p hp rfl
    rw [← ha, ← hb, List.zip_map', List.mem_map] at hp
    refine O12 hp ?_; clear hp; rintro x hx rfl
    exact h x hx
  refine ha ▸ hb ▸ ?_
  match i, hc with
  | 0, hc => exact goF (dom2 bs.length) 2 [387] e0 (u, bs) (mem_dom2 u bs) hc
  | 1, hc => exact goF (dom2 bs.length) 2 [387] e1 (u, bs) (mem_dom2 u bs) hc
  | n + 2, hc => exact goF (dom2 bs.length) 2 [387] (e2 n) (u, bs) (mem_dom2 u bs) hc
theorem h_bo (u : Bool) : ∀ {xs : List (AV × Bool)}, xs.length ≤ 4 → (∀ x ∈ xs, TruE P M i z ins ρ x.1 x.2) →
    TruE P (M + 3) i z ins ρ (.tup [.str (boS u), .tup (xs.map (·.1))]) (if u then (xs.map (·.2)).all id else (xs.map (·.2)).any id)
  | [], _, h => bo_at u [] [] [] rfl rfl (by kernel_rfl) (by kernel_rfl) (fun D0 => by kernel_rfl) h
  | [(a, p)], _, h => bo_at u _ [a] [p] rfl rfl (by kernel_rfl) (by kernel_rfl) (fun D0 => by kernel_rfl) h
  | [(a, p), (b, q)], _, h => bo_at u _ [a, b] [p, q] rfl rfl (by kernel_rfl) (by kernel_rfl) (fun D0 => by kernel_rfl) h
  | [(a, p), (b, q), (c, r)], _, h => bo_at u _ [a, b, c] [p, q, r] rfl rfl (by kernel_rfl) (by kernel_rfl) (fun D0 => by kernel_rfl) h
  | [(a, p), (b, q), (c, r), (d, s)], _, h => bo_at u _ [a, b, c, d] [p, q, r, s] rfl rfl (by kernel_rfl) (by kernel_rfl) (fun D0 => by kernel_rfl) h
  | _ :: _ :: _ :: _ :: _ :: _, hlen, _ => by simp only [List.length_cons] at hlen; omega
noncomputable def quV (u : Bool) (L : Lot) (p q : Bool) : Bool := if u then (!L.1 || p) && (!L.2 || q) else (L.1 && p) || (L.2 && q)
/-- the calls of a quantifier's run -/
noncomputable abbrev quC (i : Nat) (z : ES) (ins : List AV) (ρ : List Bool) (x y : AV) (L : Lot) (p q : Bool) : List (AV × List AV × Sto × AV × Sto) :=
  (fnA 363, [eI i, x, envD ρ], eS i z ins, encS L, eS i z ins) :: ((if L.1 then [(fnA 387, [eI i, y, envD (ρ ++ [false])], eS i z ins, AV.bool p, eS i z ins)] else []) ++ (if L.2 then [(fnA 387, [eI i, y, envD (ρ ++ [true])], eS i z ins, AV.bool q, eS i z ins)] else []))
noncomputable def dq : List (Bool × Lot × Bool × Bool) := [false, true].flatMap fun u => [(false, false), (false, true), (true, false), (true, true)].flatMap fun L => [false, true].flatMap fun p => [false, true].map fun q => (u, L, p, q)
theorem mem_dq : ∀ t : Bool × Lot × Bool × Bool, t ∈ dq := fun (u, (a, b), p, q) => by
  cases u <;> cases a <;> cases b <;> cases p <;> cases q <;> decide
noncomputable abbrev quE (P : Params) (i : Nat) (z : ES) (ins : List AV) (ρ : List Bool) (nm : Bool) (x y : AV) : Prop :=
  (dq.map fun t => tr (top P {} (qs [387, 363] false) 3 387 [eI i, .tup [.str (quS t.1), .tup [.tup [.str (nmV nm), x]], y], envD ρ] (eS i z ins)) ((quC i z ins ρ x y t.2.1 t.2.2.1 t.2.2.2).map fun c => c.2.2.2) []) = dq.map fun t => some (quC i z ins ρ x y t.2.1 t.2.2.1 t.2.2.2, 0, (.bool (quV t.1 t.2.1 t.2.2.1 t.2.2.2), eS i z ins))
theorem qu_at (nm u : Bool) {x y : AV} {L : Lot} {p q : Bool} (e0 : quE P 0 z ins ρ nm x y) (e1 : quE P 1 z ins ρ nm x y) (e2 : ∀ n, quE P (n + 2) z ins ρ nm x y) (h : SetE P M i z ins ρ x L) (h1 : TruE P M i z ins (ρ ++ [false]) y p) (h2 : TruE P M i z ins (ρ ++ [true]) y q) :
    TruE P (M + 4) i z ins ρ (.tup [.str (quS u), .tup [.tup [.str (nmV nm), x]], y]) (quV u L p q) := by
  have hc : ∀ c ∈ quC i z ins ρ x y L p q, E P M c.1 c.2.1 c.2.2.1 c.2.2.2.1 c.2.2.2.2 := fun c hc => by
    rcases List.mem_cons.mp hc with rfl | hc
    · exact h
    · rcases List.mem_append.mp hc with hc | hc
      · split at hc
        · rcases List.mem_singleton.mp hc with rfl; exact h1
        · cases hc
      · split at hc
        · rcases List.mem_singleton.mp hc with rfl; exact h2
        · cases hc
  clear h h1 h2
  match i, hc with
  | 0, hc => exact goF dq 3 [387, 363] e0 (u, L, p, q) (mem_dq _) hc
  | 1, hc => exact goF dq 3 [387, 363] e1 (u, L, p, q) (mem_dq _) hc
  | n + 2, hc => exact goF dq 3 [387, 363] (e2 n) (u, L, p, q) (mem_dq _) hc
theorem h_qu0 (u : Bool) {x y : AV} {L : Lot} {p q : Bool} (h : SetE P M i z ins [] x L) (h1 : TruE P M i z ins [false] y p) (h2 : TruE P M i z ins [true] y q) :
    TruE P (M + 4) i z ins [] (.tup [.str (quS u), .tup [.tup [.str (nmV false), x]], y]) (quV u L p q) :=
  qu_at false u (by kernel_rfl) (by kernel_rfl) (fun D0 => by kernel_rfl) h h1 h2
theorem h_qu1 (u e : Bool) {x y : AV} {L : Lot} {p q : Bool} (h : SetE P M i z ins [e] x L) (h1 : TruE P M i z ins [e, false] y p) (h2 : TruE P M i z ins [e, true] y q) :
    TruE P (M + 4) i z ins [e] (.tup [.str (quS u), .tup [.tup [.str (nmV true), x]], y]) (quV u L p q) :=
  qu_at true u (by kernel_rfl) (by kernel_rfl) (fun D0 => by kernel_rfl) h h1 h2
theorem ways_map {α β : Type} (u : Bool) (t : α → β) (f g : Nat → α) : ∀ (js : List Nat) (ah : List α), (ways u f g js ah).map (List.map t) = ways u (fun j => t (f j)) (fun j => t (g j)) js (ah.map t)
  | [], _ => rfl
  | j :: js, ah => by
    refine (?_ : ((if u then ah ++ [g j] else g j :: ah).map t) :: (ways u f g js (ah ++ [f j])).map (List.map t) = _)
    refine (ways_map u t f g js (ah ++ [f j])) ▸ ?_
    refine (?_ : _ = (if u then ah.map t ++ [t (g j)] else t (g j) :: ah.map t) :: _)
    congr 1
    · cases u <;> simp
    · refine List.map_append ▸ ?_; rfl
theorem truth_cl (ok : Ok m l) : ∀ (c : Cl) (k : Nat) (ρ : List Bool), k < m → c.sc ρ.length → TruE P (8 * c.dp + 6) i z (insL m w R) ρ (c.told m l w k) (semC m l w R c k ρ)
  | .some a, k, ρ, hk, h => (h_some (set_at ok a k hk h)).up (by refine (?_ : _ ≤ 8 * (a.dp + 1) + 6); exact m2 rfl rfl)
  | .no a, k, ρ, hk, h => (h_no (set_at ok a k hk h)).up (by refine (?_ : _ ≤ 8 * (a.dp + 1) + 6); exact m2 rfl rfl)
  | .inn a b, k, ρ, hk, h => (h_in (M := 4 * max a.dp b.dp + 6) (by omega) ((set_at ok a k hk h.1).up (by exact xl rfl)) ((set_at ok b k hk h.2).up (by exact xr rfl))).up (by refine (?_ : _ ≤ 8 * (max a.dp b.dp + 1) + 6); exact m2 rfl rfl)
  | .not c, k, ρ, hk, h => (h_not (truth_cl ok c k ρ hk h)).up (by refine (?_ : _ ≤ 8 * (c.dp + 1) + 6); exact m1' rfl)
  | .tm .after c, k, ρ, hk, h => (truth_cl ok c _ ρ (after_lt ok k) h).up (by refine (?_ : _ ≤ 8 * (c.dp + 1) + 6); exact m1 rfl)
  | .tm .always c, k, ρ, hk, h => by
      have := h_bo (P := P) (M := 8 * c.dp + 6) (i := i) (z := z) (ins := insL m w R) (ρ := ρ) true (xs := (line m l k).map fun j => (c.told m l w j, semC m l w R c j ρ)) (by simpa using line_len ok hk) fun x hx => by
        refine O12 (List.mem_map.mp hx) ?_; rintro j hj rfl
        exact truth_cl ok c j ρ (line_lt ok hk j hj) h
      have e1 : ((line m l k).map fun j => (c.told m l w j, semC m l w R c j ρ)).map (·.1) = (line m l k).map (c.told m l w) := by rw [List.map_map]; rfl
      have e2 : (((line m l k).map fun j => (c.told m l w j, semC m l w R c j ρ)).map (·.2)).all id = (line m l k).all fun j => semC m l w R c j ρ := by rw [List.map_map, List.all_map]; rfl
      rw [e1, if_pos rfl, e2] at this
      exact this.up (by refine (?_ : _ ≤ 8 * (c.dp + 1) + 6); exact m1' rfl)
  | .tm .eventually c, k, ρ, hk, h => by
      have := h_bo (P := P) (M := 8 * c.dp + 6) (i := i) (z := z) (ins := insL m w R) (ρ := ρ) false (xs := (line m l k).map fun j => (c.told m l w j, semC m l w R c j ρ)) (by simpa using line_len ok hk) fun x hx => by
        refine O12 (List.mem_map.mp hx) ?_; rintro j hj rfl
        exact truth_cl ok c j ρ (line_lt ok hk j hj) h
      have e1 : ((line m l k).map fun j => (c.told m l w j, semC m l w R c j ρ)).map (·.1) = (line m l k).map (c.told m l w) := by rw [List.map_map]; rfl
      have e2 : (((line m l k).map fun j => (c.told m l w j, semC m l w R c j ρ)).map (·.2)).any id = (line m l k).any fun j => semC m l w R c j ρ := by rw [List.map_map, List.any_map]; rfl
      rw [e1, if_neg (by decide), e2] at this
      exact this.up (by refine (?_ : _ ≤ 8 * (c.dp + 1) + 6); exact m1' rfl)
  | .bo b c d, k, ρ, hk, h => by
      have := h_bo (P := P) (M := 8 * max c.dp d.dp + 6) (i := i) (z := z) (ins := insL m w R) (ρ := ρ) b (xs := [(c.told m l w k, semC m l w R c k ρ), (d.told m l w k, semC m l w R d k ρ)]) (by refine (?_ : 2 ≤ 4); decide) fun x hx => by
        rcases List.mem_cons.mp hx with rfl | hx
        · exact (truth_cl ok c k ρ hk h.1).up (by exact xl rfl)
        · refine (List.mem_singleton.mp hx) ▸ ?_; exact (truth_cl ok d k ρ hk h.2).up (by exact xr rfl)
      have e : (if b then ([(c.told m l w k, semC m l w R c k ρ), (d.told m l w k, semC m l w R d k ρ)].map (·.2)).all id else ([(c.told m l w k, semC m l w R c k ρ), (d.told m l w k, semC m l w R d k ρ)].map (·.2)).any id) = semC m l w R (.bo b c d) k ρ := by
        cases b
        · exact congrArg (semC m l w R c k ρ || ·) (Bool.or_false _)
        · exact congrArg (semC m l w R c k ρ && ·) (Bool.and_true _)
      rw [e] at this
      exact this.up (by refine (?_ : _ ≤ 8 * (max c.dp d.dp + 1) + 6); exact m1' rfl)
  | .tu u c d, k, ρ, hk, h => by
      have := h_bo (P := P) (M := 8 * max c.dp d.dp + 9) (i := i) (z := z) (ins := insL m w R) (ρ := ρ) (!u)
        (xs := (ways u (fun j => (c.told m l w j, semC m l w R c j ρ)) (fun j => (d.told m l w j, semC m l w R d j ρ)) (line m l k) []).map fun x => (.tup [.str (boS u), .tup (x.map (·.1))], if u then (x.map (·.2)).all id else (x.map (·.2)).any id))
        (by rw [List.length_map, ways_len]; exact line_len ok hk) fun x hx => by
          refine O12 (List.mem_map.mp hx) ?_; rintro y hy rfl
          have := ways_mem u (fun j => (c.told m l w j, semC m l w R c j ρ)) (fun j => (d.told m l w j, semC m l w R d j ρ)) (Q := fun x => TruE P (8 * max c.dp d.dp + 6) i z (insL m w R) ρ x.1 x.2) (line m l k) []
            (fun j hj => ⟨(truth_cl ok c j ρ (line_lt ok hk j hj) h.1).up (by exact xl rfl), (truth_cl ok d j ρ (line_lt ok hk j hj) h.2).up (by exact xr rfl)⟩) (fun x hx => nomatch hx) y hy
          refine h_bo u ?_ this.2
          have h1 := this.1
          have := line_len ok hk
          simp only [List.length_nil] at h1
          omega
      have e2 := ways_map u (·.2) (fun j => (c.told m l w j, semC m l w R c j ρ)) (fun j => (d.told m l w j, semC m l w R d j ρ)) (line m l k) []
      have f1 : ((ways u (fun j => (c.told m l w j, semC m l w R c j ρ)) (fun j => (d.told m l w j, semC m l w R d j ρ)) (line m l k) []).map fun x => ((.tup [.str (boS u), .tup (x.map (·.1))] : AV), if u then (x.map (·.2)).all id else (x.map (·.2)).any id)).map (·.1)
          = (ways u (c.told m l w) (d.told m l w) (line m l k) []).map fun x => .tup [.str (boS u), .tup x] := by
        rw [List.map_map]
        have := congrArg (List.map fun x => (AV.tup [.str (boS u), .tup x])) (ways_map u (·.1) (fun j => (c.told m l w j, semC m l w R c j ρ)) (fun j => (d.told m l w j, semC m l w R d j ρ)) (line m l k) [])
        rw [List.map_map] at this
        exact this
      have f2 : ((ways u (fun j => (c.told m l w j, semC m l w R c j ρ)) (fun j => (d.told m l w j, semC m l w R d j ρ)) (line m l k) []).map fun x => ((.tup [.str (boS u), .tup (x.map (·.1))] : AV), if u then (x.map (·.2)).all id else (x.map (·.2)).any id)).map (·.2)
          = (ways u (fun j => semC m l w R c j ρ) (fun j => semC m l w R d j ρ) (line m l k) []).map fun x => if u then x.all id else x.any id := by
        rw [List.map_map]
        have := congrArg (List.map fun x => if u then x.all id else x.any id) e2
        rw [List.map_map] at this
        exact this
      rw [f1, f2] at this
      have e : (if (!u) = true then ((ways u (fun j => semC m l w R c j ρ) (fun j => semC m l w R d j ρ) (line m l k) []).map fun x => if u then x.all id else x.any id).all id
          else ((ways u (fun j => semC m l w R c j ρ) (fun j => semC m l w R d j ρ) (line m l k) []).map fun x => if u then x.all id else x.any id).any id) = semC m l w R (.tu u c d) k ρ := by
        clear h this e2 f1 f2; cases u
        · exact List.all_map
        · exact List.any_map
      rw [e] at this
      exact this.up (by refine (?_ : _ ≤ 8 * (max c.dp d.dp + 1) + 6); exact m1' rfl)
  | .qu u v a c, k, ρ, hk, h => by
      match ρ, v, h with
      | [], false, h => exact (h_qu0 (M := 8 * max a.dp c.dp + 6) u ((set_at ok a k hk h.2.1).up (by exact xl rfl)) ((truth_cl ok c k [false] hk h.2.2).up (by exact xr rfl)) ((truth_cl ok c k [true] hk h.2.2).up (by exact xr rfl))).up (by refine (?_ : _ ≤ 8 * (max a.dp c.dp + 1) + 6); exact m1' rfl)
      | [e], true, h => exact (h_qu1 (M := 8 * max a.dp c.dp + 6) u e ((set_at ok a k hk h.2.1).up (by exact xl rfl)) ((truth_cl ok c k [e, false] hk h.2.2).up (by exact xr rfl)) ((truth_cl ok c k [e, true] hk h.2.2).up (by exact xr rfl))).up (by refine (?_ : _ ≤ 8 * (max a.dp c.dp + 1) + 6); exact m1' rfl)
      | [], true, h => exact absurd h.1 (by decide)
      | [_], false, h => exact absurd (show (1 : Nat) = 0 from h.1) (by decide)
      | _ :: _ :: ρ, v, h =>
        have := h.1
        cases v <;> simp at this
end
end Og
end
section
set_option maxRecDepth 1000000
set_option Elab.async false
namespace Og
open PySem PySem.W PyProof.Rows PySem.Calls PySem.Spec
/-! ## the law's own sets -/
noncomputable def lotL : Lot → AV
  | (false, false) => .lst []
  | (true, false) => .lst [one false]
  | (false, true) => .lst [one true]
  | (true, true) => .lst [one false, one true]
noncomputable def envI : List Bool → AV
  | [] => .dct [] []
  | [a] => .dct [.str "z"] [one a]
  | a :: b :: _ => .dct [.str "z", .str "zz"] [one a, one b]
/-- a trace: its rows, and where each state leads -/
noncomputable def tA (rows : List AV) (steps : List Nat) : AV := .tup [.lst rows, .lst (steps.map nat)]
noncomputable def rowsA (Rs : List (Lot × Lot)) : List AV := Rs.map fun p => .lst [encS p.1, encS p.2]
noncomputable abbrev LSet (P : Params) (M : Nat) (st : Sto) (t : AV) (ρ : List Bool) (x : AV) (Ls : List Lot) : Prop := E P M (fnA 443) [t, x, envI ρ] st (.lst (Ls.map lotL)) st
structure Goes (O : Orc) (t : T Ans) (z : Ans) : Prop where
  is : Sat O t z
theorem goQ {P : Params} {M : Nat} {t : T Ans} {z : Ans} (as : List (Hyp (E P M))) (e : tr t (as.map fun c => c.1.2.2.2) [] = some (as.map (·.1), 0, z)) : Goes (E P M) t z := ⟨goP as e⟩
noncomputable def Subs (O : Orc) (t : Nat → T Ans) : Nat → List Ans → Prop
  | _, [] => True
  | i, a :: ls => Goes O (t i) a ∧ Subs O t (i + 1) ls
theorem subs_all {O : Orc} {t : Nat → T Ans} : ∀ {ls : List Ans} {i : Nat}, Subs O t i ls → ∀ (j : Nat) b, ls[j]? = some b → Sat O (t (i + j)) b
  | [], _, _, j, b, h => by simp at h
  | a :: ls, i, hs, 0, b, h => by cases (Option.some.inj h); exact hs.1.is
  | a :: ls, i, hs, j + 1, b, h => by
    have := subs_all hs.2 j b h
    rw [show i + (j + 1) = i + 1 + j by omega]
    exact this
theorem goN {P : Params} {M : Nat} (j : Nat) (md : Md) (q : AV → List AV → Bool) {f : Addr} {args : List AV} {st s : Sto} {a : AV} (as : List (Hyp (E P M))) (ls : List Ans)
    (e : tr (top P md q j f args st) (as.map fun c => c.1.2.2.2) ls = some (as.map (·.1), ls.length, (a, s)))
    (hs : Subs (E P M) (fun i => sb (top P md q j f args st) (as.map fun c => c.1.2.2.2) ls i) 0 ls) : E P (M + j + 1) (fnA f) args st a s :=
  goS j md q as ls e fun i b h => by
    have := subs_all hs i b h
    rw [Nat.zero_add] at this
    exact this
theorem goNA {P : Params} {M : Nat} (j : Nat) (md : Md) (q : AV → List AV → Bool) {f : Addr} {args : List AV} {st s : Sto} {a : AV} (as : List (Hyp (E P M))) (ans : List Ans) (ha : (as.map fun c => c.1.2.2.2) = ans) (ls : List Ans)
    (e : tr (top P md q j f args st) ans ls = some (as.map (·.1), ls.length, (a, s))) (hs : Subs (E P M) (fun i => sb (top P md q j f args st) ans ls i) 0 ls) : E P (M + j + 1) (fnA f) args st a s := by
  subst ha
  exact goN j md q as ls e hs
/-- all lots; what is so of each, told at once -/
noncomputable def lots4 : List Lot := [(false, false), (false, true), (true, false), (true, true)]
theorem mem_lots : ∀ a : Lot, a ∈ lots4 := fun (x, y) => by cases x <;> cases y <;> decide
noncomputable def bools2 : List Bool := [false, true]
theorem mem_bools : ∀ a : Bool, a ∈ bools2 := fun x => by cases x <;> decide
theorem goQ4 {P : Params} {M : Nat} {t : Lot → T Ans} {z : Lot → Ans} (e : (lots4.map fun a => tr (t a) [] []) = lots4.map fun a => some ([], 0, z a)) : ∀ a, Goes (E P M) (t a) (z a) :=
  fun a => goQ [] (List.map_inj_left.mp e a (mem_lots a))
theorem goQ16 {P : Params} {M : Nat} {t : Lot → Lot → T Ans} {z : Lot → Lot → Ans} (e : (lots4.map fun a => lots4.map fun b => tr (t a b) [] []) = lots4.map fun a => lots4.map fun b => some ([], 0, z a b)) : ∀ a b, Goes (E P M) (t a b) (z a b) :=
  fun a b => goQ [] (List.map_inj_left.mp (List.map_inj_left.mp e a (mem_lots a)) b (mem_lots b))
theorem goQ8 {P : Params} {M : Nat} {t : Lot → Bool → Bool → T Ans} {z : Lot → Bool → Bool → Ans} (e : (lots4.map fun a => bools2.map fun b => bools2.map fun c => tr (t a b c) [] []) = lots4.map fun a => bools2.map fun b => bools2.map fun c => some ([], 0, z a b c)) : ∀ a b c, Goes (E P M) (t a b c) (z a b c) :=
  fun a b c => goQ [] (List.map_inj_left.mp (List.map_inj_left.mp (List.map_inj_left.mp e a (mem_lots a)) b (mem_bools b)) c (mem_bools c))
noncomputable def lotsB : List (Lot × Lot) := lots4.flatMap fun a => lots4.map fun b => (a, b)
theorem mem_lotsB (a : Lot × Lot) : a ∈ lotsB := List.mem_flatMap.mpr ⟨a.1, mem_lots _, List.mem_map.mpr ⟨a.2, mem_lots _, rfl⟩⟩
theorem goQB {P : Params} {M : Nat} {t : Lot × Lot → T Ans} {z : Lot × Lot → Ans} (e : (lotsB.map fun a => tr (t a) [] []) = lotsB.map fun a => some ([], 0, z a)) (a : Lot × Lot) : Goes (E P M) (t a) (z a) := goQ [] (List.map_inj_left.mp e a (mem_lotsB a))
noncomputable def lotsC : List (Lot × Bool × Bool) := lots4.flatMap fun a => lots4.map fun b => (a, b)
theorem mem_lotsC (a : Lot × Bool × Bool) : a ∈ lotsC := List.mem_flatMap.mpr ⟨a.1, mem_lots _, List.mem_map.mpr ⟨a.2, mem_lots _, rfl⟩⟩
theorem goQC {P : Params} {M : Nat} {t : Lot × Bool × Bool → T Ans} {z : Lot × Bool × Bool → Ans} (e : (lotsC.map fun a => tr (t a) [] []) = lotsC.map fun a => some ([], 0, z a)) (a : Lot × Bool × Bool) : Goes (E P M) (t a) (z a) := goQ [] (List.map_inj_left.mp e a (mem_lotsC a))
/-- lists of two, three, four -/
theorem list2 {α : Type} {l : List α} (h : l.length = 2) : ∃ a b, l = [a, b] :=
  match l, h with
  | [a, b], _ => ⟨a, b, rfl⟩
theorem list_cons {α : Type} {l : List α} {n : Nat} (h : l.length = n + 1) : ∃ a m, l = a :: m ∧ m.length = n := by
  cases l with
  | nil => exact Nat.noConfusion h
  | cons a m => exact ⟨a, m, rfl, Nat.succ.inj h⟩
theorem elim3 {α : Type} {p : List α → Prop} (h2 : ∀ a b, p [a, b]) (h3 : ∀ a b c, p [a, b, c]) (h4 : ∀ a b c d, p [a, b, c, d]) {l : List α} (h : l.length = 2 ∨ l.length = 3 ∨ l.length = 4) : p l := by
  rcases h with h | h | h
  · refine O21 (list2 h) ?_; rintro a b rfl; exact h2 a b
  · refine O22 (list_cons h) ?_; rintro a m rfl q
    refine O21 (list2 q) ?_; rintro b c rfl; exact h3 a b c
  · refine O22 (list_cons h) ?_; rintro a m rfl q
    refine O22 (list_cons q) ?_; rintro b m rfl q'
    refine O21 (list2 q') ?_; rintro c d rfl; exact h4 a b c d
theorem rows234 {α : Type} {p : List α → List AV → Prop} (h2 : ∀ a b r s, p [a, b] [r, s]) (h3 : ∀ a b c r s t, p [a, b, c] [r, s, t]) (h4 : ∀ a b c d r s t u, p [a, b, c, d] [r, s, t, u]) {Ls : List α} {rows : List AV} (hr : rows.length = Ls.length) (hl : Ls.length = 2 ∨ Ls.length = 3 ∨ Ls.length = 4) : p Ls rows := by
  revert hr
  refine elim3 (p := fun Ls => rows.length = Ls.length → p Ls rows) (fun a b h => ?_) (fun a b c h => ?_) (fun a b c d h => ?_) hl
  · refine O21 (list2 h) ?_; rintro r s rfl; exact h2 a b r s
  · refine O22 (list_cons h) ?_; rintro r m rfl q
    refine O21 (list2 q) ?_; rintro s t rfl; exact h3 a b c r s t
  · refine O22 (list_cons h) ?_; rintro r m rfl q
    refine O22 (list_cons q) ?_; rintro s m rfl q'
    refine O21 (list2 q') ?_; rintro t u rfl; exact h4 a b c d r s t u
theorem mlElim {p : Nat → Nat → List AV → Prop} (a0 : ∀ r s, p 2 0 [r, s]) (a1 : ∀ r s, p 2 1 [r, s]) (b0 : ∀ r s t, p 3 0 [r, s, t]) (b1 : ∀ r s t, p 3 1 [r, s, t]) (b2 : ∀ r s t, p 3 2 [r, s, t])
    (c0 : ∀ r s t u, p 4 0 [r, s, t, u]) (c1 : ∀ r s t u, p 4 1 [r, s, t, u]) (c2 : ∀ r s t u, p 4 2 [r, s, t, u]) (c3 : ∀ r s t u, p 4 3 [r, s, t, u]) {m l : Nat} {rows : List AV} (ok : Ok m l) (hr : rows.length = m) : p m l rows := by
  obtain ⟨hm, hl⟩ := ok
  subst hr
  revert hl
  refine elim3 (p := fun rows => l < rows.length → p rows.length l rows) (fun a b h => ?_) (fun a b c h => ?_) (fun a b c d h => ?_) hm
  · match l, h with
    | 0, _ => exact a0 a b
    | 1, _ => exact a1 a b
  · match l, h with
    | 0, _ => exact b0 a b c
    | 1, _ => exact b1 a b c
    | 2, _ => exact b2 a b c
  · match l, h with
    | 0, _ => exact c0 a b c d
    | 1, _ => exact c1 a b c d
    | 2, _ => exact c2 a b c d
    | 3, _ => exact c3 a b c d
section
variable {P : Params} {M : Nat} {m l k : Nat} {w : Bool} {st : Sto} {ρ : List Bool} {t : AV} {rows : List AV} {ss : List Nat}
theorem ls_rel (r : Bool) {Rs : List (Lot × Lot)} (hl : Rs.length = 2 ∨ Rs.length = 3 ∨ Rs.length = 4) : LSet P 3 st (tA (rowsA Rs) ss) ρ (At.enc (.rel r)) (Rs.map fun p => if r then p.2 else p.1) := by
  refine elim3 (p := fun Rs => LSet P 3 st (tA (rowsA Rs) ss) ρ (At.enc (.rel r)) (Rs.map fun p => if r then p.2 else p.1)) ?_ ?_ ?_ hl
  · intro x0 x1
    cases r
    · exact goN (M := 0) 2 { elt := true } (qs [] false) [] [(lotL x0.1, st), (lotL x1.1, st)] (by kernel_rfl) ⟨by clear hl; revert x0; exact goQB (by kernel_rfl), by clear hl; revert x1; exact goQB (by kernel_rfl), trivial⟩
    · exact goN (M := 0) 2 { elt := true } (qs [] false) [] [(lotL x0.2, st), (lotL x1.2, st)] (by kernel_rfl) ⟨by clear hl; revert x0; exact goQB (by kernel_rfl), by clear hl; revert x1; exact goQB (by kernel_rfl), trivial⟩
  · intro x0 x1 x2
    cases r
    · exact goN (M := 0) 2 { elt := true } (qs [] false) [] [(lotL x0.1, st), (lotL x1.1, st), (lotL x2.1, st)] (by kernel_rfl) ⟨by clear hl; revert x0; exact goQB (by kernel_rfl), by clear hl; revert x1; exact goQB (by kernel_rfl), by clear hl; revert x2; exact goQB (by kernel_rfl), trivial⟩
    · exact goN (M := 0) 2 { elt := true } (qs [] false) [] [(lotL x0.2, st), (lotL x1.2, st), (lotL x2.2, st)] (by kernel_rfl) ⟨by clear hl; revert x0; exact goQB (by kernel_rfl), by clear hl; revert x1; exact goQB (by kernel_rfl), by clear hl; revert x2; exact goQB (by kernel_rfl), trivial⟩
  · intro x0 x1 x2 x3
    cases r
    · exact goN (M := 0) 2 { elt := true } (qs [] false) [] [(lotL x0.1, st), (lotL x1.1, st), (lotL x2.1, st), (lotL x3.1, st)] (by kernel_rfl) ⟨by clear hl; revert x0; exact goQB (by kernel_rfl), by clear hl; revert x1; exact goQB (by kernel_rfl), by clear hl; revert x2; exact goQB (by kernel_rfl), by clear hl; revert x3; exact goQB (by kernel_rfl), trivial⟩
    · exact goN (M := 0) 2 { elt := true } (qs [] false) [] [(lotL x0.2, st), (lotL x1.2, st), (lotL x2.2, st), (lotL x3.2, st)] (by kernel_rfl) ⟨by clear hl; revert x0; exact goQB (by kernel_rfl), by clear hl; revert x1; exact goQB (by kernel_rfl), by clear hl; revert x2; exact goQB (by kernel_rfl), by clear hl; revert x3; exact goQB (by kernel_rfl), trivial⟩
theorem ls_univ (hl : rows.length = 2 ∨ rows.length = 3 ∨ rows.length = 4) : LSet P 3 st (tA rows ss) ρ (At.enc .univ) (rows.map fun D0 => (true, true)) :=
  elim3 (p := fun rows => LSet P 3 st (tA rows ss) ρ (At.enc .univ) (rows.map fun D0 => (true, true))) (fun D0 D1 => go (M := 0) 2 [] [] (by kernel_rfl)) (fun D0 D1 D2 => go (M := 0) 2 [] [] (by kernel_rfl)) (fun D0 D1 D2 D3 => go (M := 0) 2 [] [] (by kernel_rfl)) hl
theorem ls_var (v : Bool) (h : rows.length = 2 ∨ rows.length = 3 ∨ rows.length = 4) (hρ : (if v then 1 else 0) < ρ.length) : LSet P 3 st (tA rows ss) ρ (At.enc (.var v)) (rows.map fun D0 => atomL (ρ[if v then 1 else 0]?.getD false)) := by
  have main (ρ : List Bool) (v x : Bool) (h2 : ∀ a b, LSet P 3 st (tA [a, b] ss) ρ (At.enc (.var v)) ([a, b].map fun D0 => atomL x)) (h3 : ∀ a b c, LSet P 3 st (tA [a, b, c] ss) ρ (At.enc (.var v)) ([a, b, c].map fun D0 => atomL x)) (h4 : ∀ a b c d, LSet P 3 st (tA [a, b, c, d] ss) ρ (At.enc (.var v)) ([a, b, c, d].map fun D0 => atomL x)) :
      LSet P 3 st (tA rows ss) ρ (At.enc (.var v)) (rows.map fun D0 => atomL x) := elim3 (p := fun rows => LSet P 3 st (tA rows ss) ρ (At.enc (.var v)) (rows.map fun D0 => atomL x)) h2 h3 h4 h
  match ρ, v, hρ with
  | [], true, h => exact absurd h (by decide)
  | [], false, h => exact absurd h (by decide)
  | [_], true, h => exact absurd (show (1:Nat) < 1 from h) (by decide)
  | [a], false, _ => cases a <;> exact main [_] false _ (fun D0 D1 => go (M := 0) 2 [] [] (by kernel_rfl)) (fun D0 D1 D2 => go (M := 0) 2 [] [] (by kernel_rfl)) (fun D0 D1 D2 D3 => go (M := 0) 2 [] [] (by kernel_rfl))
  | a :: b :: l, false, _ => cases a <;> exact main (_ :: b :: l) false _ (fun D0 D1 => go (M := 0) 2 [] [] (by kernel_rfl)) (fun D0 D1 D2 => go (M := 0) 2 [] [] (by kernel_rfl)) (fun D0 D1 D2 D3 => go (M := 0) 2 [] [] (by kernel_rfl))
  | a :: b :: l, true, _ => cases b <;> exact main (a :: _ :: l) true _ (fun D0 D1 => go (M := 0) 2 [] [] (by kernel_rfl)) (fun D0 D1 D2 => go (M := 0) 2 [] [] (by kernel_rfl)) (fun D0 D1 D2 D3 => go (M := 0) 2 [] [] (by kernel_rfl))
/-- where the states lead -/
noncomputable def stepsL (m l : Nat) : List Nat := (List.range m).map (after m l)
theorem ls_later {x : AV} {F : Nat → Lot} (ok : Ok m l) (h : LSet P M st (tA rows (stepsL m l)) ρ x ((List.range m).map F)) : LSet P (M + 3) st (tA rows (stepsL m l)) ρ (.tup [.str "later", x]) ((List.range m).map fun k => F (after m l k)) := by
  obtain ⟨rfl | rfl | rfl, hl⟩ := ok
  all_goals
    match l, hl with
    | 0, _ => exact go 2 [443] [hy h] (by kernel_rfl)
    | 1, _ => exact go 2 [443] [hy h] (by kernel_rfl)
    | 2, hl => first | exact absurd hl (by decide) | exact go 2 [443] [hy h] (by kernel_rfl)
    | 3, hl => first | exact absurd hl (by decide) | exact go 2 [443] [hy h] (by kernel_rfl)
theorem ls_bin {x y : AV} (o : Op3) {Ls : List (Lot × Lot)} (hl : Ls.length = 2 ∨ Ls.length = 3 ∨ Ls.length = 4) : LSet P M st (tA rows ss) ρ x (Ls.map (·.1)) → LSet P M st (tA rows ss) ρ y (Ls.map (·.2)) → LSet P (M + 3) st (tA rows ss) ρ (.tup [.str o.str, x, y]) (Ls.map fun p => o.lot p.1 p.2) := by
  refine elim3 (p := fun Ls => LSet P M st (tA rows ss) ρ x (Ls.map (·.1)) → LSet P M st (tA rows ss) ρ y (Ls.map (·.2)) → LSet P (M + 3) st (tA rows ss) ρ (.tup [.str o.str, x, y]) (Ls.map fun p => o.lot p.1 p.2)) ?_ ?_ ?_ hl
  · intro x0 x1 h h'
    cases o
    · exact goNA 2 { comp := true } (qs [443] false) [hy h, hy h'] [(.lst [lotL x0.1, lotL x1.1], st), (.lst [lotL x0.2, lotL x1.2], st)] (by kernel_rfl) [(lotL (Op3.lot .meet x0.1 x0.2), st), (lotL (Op3.lot .meet x1.1 x1.2), st)] (by kernel_rfl) ⟨by clear hl h h'; revert x0; exact goQB (by kernel_rfl), by clear hl h h'; revert x1; exact goQB (by kernel_rfl), trivial⟩
    · exact goNA 2 { comp := true } (qs [443] false) [hy h, hy h'] [(.lst [lotL x0.1, lotL x1.1], st), (.lst [lotL x0.2, lotL x1.2], st)] (by kernel_rfl) [(lotL (Op3.lot .union x0.1 x0.2), st), (lotL (Op3.lot .union x1.1 x1.2), st)] (by kernel_rfl) ⟨by clear hl h h'; revert x0; exact goQB (by kernel_rfl), by clear hl h h'; revert x1; exact goQB (by kernel_rfl), trivial⟩
    · exact goNA 2 { comp := true } (qs [443] false) [hy h, hy h'] [(.lst [lotL x0.1, lotL x1.1], st), (.lst [lotL x0.2, lotL x1.2], st)] (by kernel_rfl) [(lotL (Op3.lot .minus x0.1 x0.2), st), (lotL (Op3.lot .minus x1.1 x1.2), st)] (by kernel_rfl) ⟨by clear hl h h'; revert x0; exact goQB (by kernel_rfl), by clear hl h h'; revert x1; exact goQB (by kernel_rfl), trivial⟩
  · intro x0 x1 x2 h h'
    cases o
    · exact goNA 2 { comp := true } (qs [443] false) [hy h, hy h'] [(.lst [lotL x0.1, lotL x1.1, lotL x2.1], st), (.lst [lotL x0.2, lotL x1.2, lotL x2.2], st)] (by kernel_rfl) [(lotL (Op3.lot .meet x0.1 x0.2), st), (lotL (Op3.lot .meet x1.1 x1.2), st), (lotL (Op3.lot .meet x2.1 x2.2), st)] (by kernel_rfl) ⟨by clear hl h h'; revert x0; exact goQB (by kernel_rfl), by clear hl h h'; revert x1; exact goQB (by kernel_rfl), by clear hl h h'; revert x2; exact goQB (by kernel_rfl), trivial⟩
    · exact goNA 2 { comp := true } (qs [443] false) [hy h, hy h'] [(.lst [lotL x0.1, lotL x1.1, lotL x2.1], st), (.lst [lotL x0.2, lotL x1.2, lotL x2.2], st)] (by kernel_rfl) [(lotL (Op3.lot .union x0.1 x0.2), st), (lotL (Op3.lot .union x1.1 x1.2), st), (lotL (Op3.lot .union x2.1 x2.2), st)] (by kernel_rfl) ⟨by clear hl h h'; revert x0; exact goQB (by kernel_rfl), by clear hl h h'; revert x1; exact goQB (by kernel_rfl), by clear hl h h'; revert x2; exact goQB (by kernel_rfl), trivial⟩
    · exact goNA 2 { comp := true } (qs [443] false) [hy h, hy h'] [(.lst [lotL x0.1, lotL x1.1, lotL x2.1], st), (.lst [lotL x0.2, lotL x1.2, lotL x2.2], st)] (by kernel_rfl) [(lotL (Op3.lot .minus x0.1 x0.2), st), (lotL (Op3.lot .minus x1.1 x1.2), st), (lotL (Op3.lot .minus x2.1 x2.2), st)] (by kernel_rfl) ⟨by clear hl h h'; revert x0; exact goQB (by kernel_rfl), by clear hl h h'; revert x1; exact goQB (by kernel_rfl), by clear hl h h'; revert x2; exact goQB (by kernel_rfl), trivial⟩
  · intro x0 x1 x2 x3 h h'
    cases o
    · exact goNA 2 { comp := true } (qs [443] false) [hy h, hy h'] [(.lst [lotL x0.1, lotL x1.1, lotL x2.1, lotL x3.1], st), (.lst [lotL x0.2, lotL x1.2, lotL x2.2, lotL x3.2], st)] (by kernel_rfl) [(lotL (Op3.lot .meet x0.1 x0.2), st), (lotL (Op3.lot .meet x1.1 x1.2), st), (lotL (Op3.lot .meet x2.1 x2.2), st), (lotL (Op3.lot .meet x3.1 x3.2), st)] (by kernel_rfl) ⟨by clear hl h h'; revert x0; exact goQB (by kernel_rfl), by clear hl h h'; revert x1; exact goQB (by kernel_rfl), by clear hl h h'; revert x2; exact goQB (by kernel_rfl), by clear hl h h'; revert x3; exact goQB (by kernel_rfl), trivial⟩
    · exact goNA 2 { comp := true } (qs [443] false) [hy h, hy h'] [(.lst [lotL x0.1, lotL x1.1, lotL x2.1, lotL x3.1], st), (.lst [lotL x0.2, lotL x1.2, lotL x2.2, lotL x3.2], st)] (by kernel_rfl) [(lotL (Op3.lot .union x0.1 x0.2), st), (lotL (Op3.lot .union x1.1 x1.2), st), (lotL (Op3.lot .union x2.1 x2.2), st), (lotL (Op3.lot .union x3.1 x3.2), st)] (by kernel_rfl) ⟨by clear hl h h'; revert x0; exact goQB (by kernel_rfl), by clear hl h h'; revert x1; exact goQB (by kernel_rfl), by clear hl h h'; revert x2; exact goQB (by kernel_rfl), by clear hl h h'; revert x3; exact goQB (by kernel_rfl), trivial⟩
    · exact goNA 2 { comp := true } (qs [443] false) [hy h, hy h'] [(.lst [lotL x0.1, lotL x1.1, lotL x2.1, lotL x3.1], st), (.lst [lotL x0.2, lotL x1.2, lotL x2.2, lotL x3.2], st)] (by kernel_rfl) [(lotL (Op3.lot .minus x0.1 x0.2), st), (lotL (Op3.lot .minus x1.1 x1.2), st), (lotL (Op3.lot .minus x2.1 x2.2), st), (lotL (Op3.lot .minus x3.1 x3.2), st)] (by kernel_rfl) ⟨by clear hl h h'; revert x0; exact goQB (by kernel_rfl), by clear hl h h'; revert x1; exact goQB (by kernel_rfl), by clear hl h h'; revert x2; exact goQB (by kernel_rfl), by clear hl h h'; revert x3; exact goQB (by kernel_rfl), trivial⟩
end
end Og
end
section
set_option maxRecDepth 1000000
set_option Elab.async false
namespace Og
open PySem PySem.W PyProof.Rows PySem.Calls PySem.Spec
/-! ## the law's own truths -/
noncomputable abbrev LTru (P : Params) (M : Nat) (st : Sto) (t : AV) (ρ : List Bool) (x : AV) (bs : List Bool) : Prop := E P M (fnA 453) [t, x, envI ρ] st (.lst (bs.map .bool)) st
noncomputable def laps (m l : Nat) (first : Bool) (rule : Nat → Bool → Bool) : Nat → List Bool
  | 0 => (List.range m).map fun D0 => first
  | n + 1 => (List.range m).map fun k => rule k ((laps m l first rule n)[after m l k]?.getD false)
noncomputable def settled (m l : Nat) (first : Bool) (rule : Nat → Bool → Bool) : List Bool := laps m l first rule m
section
variable {P : Params} {M : Nat} {m l k : Nat} {w : Bool} {st : Sto} {ρ : List Bool} {t : AV} {rows : List AV} {ss : List Nat}
theorem lt_some {x : AV} {Ls : List Lot} {rows : List AV} (hr : rows.length = Ls.length) (hl : Ls.length = 2 ∨ Ls.length = 3 ∨ Ls.length = 4) : LSet P M st (tA rows ss) ρ x Ls → LTru P (M + 3) st (tA rows ss) ρ (.tup [.str "some", x]) (Ls.map fun p => (p.1 || p.2)) := by
  refine rows234 (p := fun Ls rows => LSet P M st (tA rows ss) ρ x Ls → LTru P (M + 3) st (tA rows ss) ρ (.tup [.str "some", x]) (Ls.map fun p => (p.1 || p.2))) ?_ ?_ ?_ hr hl
  · intro x0 x1 _ _ h
    exact goNA 2 { elt := true } (qs [443] false) [hy h] [(.lst [lotL x0, lotL x1], st)] (by kernel_rfl) [(.bool ((x0.1 || x0.2)), st), (.bool ((x1.1 || x1.2)), st)] (by kernel_rfl) ⟨by clear h; revert x0; exact goQ4 (by kernel_rfl), by clear h; revert x1; exact goQ4 (by kernel_rfl), trivial⟩
  · intro x0 x1 x2 _ _ _ h
    exact goNA 2 { elt := true } (qs [443] false) [hy h] [(.lst [lotL x0, lotL x1, lotL x2], st)] (by kernel_rfl) [(.bool ((x0.1 || x0.2)), st), (.bool ((x1.1 || x1.2)), st), (.bool ((x2.1 || x2.2)), st)] (by kernel_rfl) ⟨by clear h; revert x0; exact goQ4 (by kernel_rfl), by clear h; revert x1; exact goQ4 (by kernel_rfl), by clear h; revert x2; exact goQ4 (by kernel_rfl), trivial⟩
  · intro x0 x1 x2 x3 _ _ _ _ h
    exact goNA 2 { elt := true } (qs [443] false) [hy h] [(.lst [lotL x0, lotL x1, lotL x2, lotL x3], st)] (by kernel_rfl) [(.bool ((x0.1 || x0.2)), st), (.bool ((x1.1 || x1.2)), st), (.bool ((x2.1 || x2.2)), st), (.bool ((x3.1 || x3.2)), st)] (by kernel_rfl) ⟨by clear h; revert x0; exact goQ4 (by kernel_rfl), by clear h; revert x1; exact goQ4 (by kernel_rfl), by clear h; revert x2; exact goQ4 (by kernel_rfl), by clear h; revert x3; exact goQ4 (by kernel_rfl), trivial⟩
theorem lt_no {x : AV} {Ls : List Lot} {rows : List AV} (hr : rows.length = Ls.length) (hl : Ls.length = 2 ∨ Ls.length = 3 ∨ Ls.length = 4) : LSet P M st (tA rows ss) ρ x Ls → LTru P (M + 3) st (tA rows ss) ρ (.tup [.str "no", x]) (Ls.map fun p => !(p.1 || p.2)) := by
  refine rows234 (p := fun Ls rows => LSet P M st (tA rows ss) ρ x Ls → LTru P (M + 3) st (tA rows ss) ρ (.tup [.str "no", x]) (Ls.map fun p => !(p.1 || p.2))) ?_ ?_ ?_ hr hl
  · intro x0 x1 _ _ h
    exact goNA 2 { elt := true } (qs [443] false) [hy h] [(.lst [lotL x0, lotL x1], st)] (by kernel_rfl) [(.bool (!(x0.1 || x0.2)), st), (.bool (!(x1.1 || x1.2)), st)] (by kernel_rfl) ⟨by clear h; revert x0; exact goQ4 (by kernel_rfl), by clear h; revert x1; exact goQ4 (by kernel_rfl), trivial⟩
  · intro x0 x1 x2 _ _ _ h
    exact goNA 2 { elt := true } (qs [443] false) [hy h] [(.lst [lotL x0, lotL x1, lotL x2], st)] (by kernel_rfl) [(.bool (!(x0.1 || x0.2)), st), (.bool (!(x1.1 || x1.2)), st), (.bool (!(x2.1 || x2.2)), st)] (by kernel_rfl) ⟨by clear h; revert x0; exact goQ4 (by kernel_rfl), by clear h; revert x1; exact goQ4 (by kernel_rfl), by clear h; revert x2; exact goQ4 (by kernel_rfl), trivial⟩
  · intro x0 x1 x2 x3 _ _ _ _ h
    exact goNA 2 { elt := true } (qs [443] false) [hy h] [(.lst [lotL x0, lotL x1, lotL x2, lotL x3], st)] (by kernel_rfl) [(.bool (!(x0.1 || x0.2)), st), (.bool (!(x1.1 || x1.2)), st), (.bool (!(x2.1 || x2.2)), st), (.bool (!(x3.1 || x3.2)), st)] (by kernel_rfl) ⟨by clear h; revert x0; exact goQ4 (by kernel_rfl), by clear h; revert x1; exact goQ4 (by kernel_rfl), by clear h; revert x2; exact goQ4 (by kernel_rfl), by clear h; revert x3; exact goQ4 (by kernel_rfl), trivial⟩
theorem lt_in {x y : AV} {Ls : List (Lot × Lot)} {rows : List AV} (hr : rows.length = Ls.length) (hl : Ls.length = 2 ∨ Ls.length = 3 ∨ Ls.length = 4) : LSet P M st (tA rows ss) ρ x (Ls.map (·.1)) → LSet P M st (tA rows ss) ρ y (Ls.map (·.2)) → LTru P (M + 3) st (tA rows ss) ρ (.tup [.str "in", x, y]) (Ls.map fun p => lotIn p.1 p.2) := by
  refine rows234 (p := fun Ls rows => LSet P M st (tA rows ss) ρ x (Ls.map (·.1)) → LSet P M st (tA rows ss) ρ y (Ls.map (·.2)) → LTru P (M + 3) st (tA rows ss) ρ (.tup [.str "in", x, y]) (Ls.map fun p => lotIn p.1 p.2)) ?_ ?_ ?_ hr hl
  · intro x0 x1 _ _ h h'
    exact goNA 2 { elt := true } (qs [443] false) [hy h, hy h'] [(.lst [lotL x0.1, lotL x1.1], st), (.lst [lotL x0.2, lotL x1.2], st)] (by kernel_rfl) [(.bool (lotIn x0.1 x0.2), st), (.bool (lotIn x1.1 x1.2), st)] (by kernel_rfl) ⟨by clear h h'; revert x0; exact goQB (by kernel_rfl), by clear h h'; revert x1; exact goQB (by kernel_rfl), trivial⟩
  · intro x0 x1 x2 _ _ _ h h'
    exact goNA 2 { elt := true } (qs [443] false) [hy h, hy h'] [(.lst [lotL x0.1, lotL x1.1, lotL x2.1], st), (.lst [lotL x0.2, lotL x1.2, lotL x2.2], st)] (by kernel_rfl) [(.bool (lotIn x0.1 x0.2), st), (.bool (lotIn x1.1 x1.2), st), (.bool (lotIn x2.1 x2.2), st)] (by kernel_rfl) ⟨by clear h h'; revert x0; exact goQB (by kernel_rfl), by clear h h'; revert x1; exact goQB (by kernel_rfl), by clear h h'; revert x2; exact goQB (by kernel_rfl), trivial⟩
  · intro x0 x1 x2 x3 _ _ _ _ h h'
    exact goNA 2 { elt := true } (qs [443] false) [hy h, hy h'] [(.lst [lotL x0.1, lotL x1.1, lotL x2.1, lotL x3.1], st), (.lst [lotL x0.2, lotL x1.2, lotL x2.2, lotL x3.2], st)] (by kernel_rfl) [(.bool (lotIn x0.1 x0.2), st), (.bool (lotIn x1.1 x1.2), st), (.bool (lotIn x2.1 x2.2), st), (.bool (lotIn x3.1 x3.2), st)] (by kernel_rfl) ⟨by clear h h'; revert x0; exact goQB (by kernel_rfl), by clear h h'; revert x1; exact goQB (by kernel_rfl), by clear h h'; revert x2; exact goQB (by kernel_rfl), by clear h h'; revert x3; exact goQB (by kernel_rfl), trivial⟩
theorem lt_qu0 (u : Bool) {x y : AV} {Ls : List (Lot × Bool × Bool)} {rows : List AV} (hr : rows.length = Ls.length) (hl : Ls.length = 2 ∨ Ls.length = 3 ∨ Ls.length = 4) : LSet P M st (tA rows ss) [] x (Ls.map (·.1)) → LTru P M st (tA rows ss) [false] y (Ls.map (·.2.1)) → LTru P M st (tA rows ss) [true] y (Ls.map (·.2.2)) → LTru P (M + 3) st (tA rows ss) [] (.tup [.str (quS u), .tup [.tup [.str (nmV false), x]], y]) (Ls.map fun p => quV u p.1 p.2.1 p.2.2) := by
  refine rows234 (p := fun Ls rows => LSet P M st (tA rows ss) [] x (Ls.map (·.1)) → LTru P M st (tA rows ss) [false] y (Ls.map (·.2.1)) → LTru P M st (tA rows ss) [true] y (Ls.map (·.2.2)) → LTru P (M + 3) st (tA rows ss) [] (.tup [.str (quS u), .tup [.tup [.str (nmV false), x]], y]) (Ls.map fun p => quV u p.1 p.2.1 p.2.2)) ?_ ?_ ?_ hr hl
  · intro x0 x1 _ _ h h1 h2
    cases u
    · exact goNA 2 { elt := true } (qs [443, 453] false) [hy h, hy h1, hy h2] [(.lst [lotL x0.1, lotL x1.1], st), (.lst [.bool x0.2.1, .bool x1.2.1], st), (.lst [.bool x0.2.2, .bool x1.2.2], st)] (by kernel_rfl) [(.bool (quV false x0.1 x0.2.1 x0.2.2), st), (.bool (quV false x1.1 x1.2.1 x1.2.2), st)] (by kernel_rfl) ⟨by clear h h1 h2; revert x0; exact goQC (by kernel_rfl), by clear h h1 h2; revert x1; exact goQC (by kernel_rfl), trivial⟩
    · exact goNA 2 { elt := true } (qs [443, 453] false) [hy h, hy h1, hy h2] [(.lst [lotL x0.1, lotL x1.1], st), (.lst [.bool x0.2.1, .bool x1.2.1], st), (.lst [.bool x0.2.2, .bool x1.2.2], st)] (by kernel_rfl) [(.bool (quV true x0.1 x0.2.1 x0.2.2), st), (.bool (quV true x1.1 x1.2.1 x1.2.2), st)] (by kernel_rfl) ⟨by clear h h1 h2; revert x0; exact goQC (by kernel_rfl), by clear h h1 h2; revert x1; exact goQC (by kernel_rfl), trivial⟩
  · intro x0 x1 x2 _ _ _ h h1 h2
    cases u
    · exact goNA 2 { elt := true } (qs [443, 453] false) [hy h, hy h1, hy h2] [(.lst [lotL x0.1, lotL x1.1, lotL x2.1], st), (.lst [.bool x0.2.1, .bool x1.2.1, .bool x2.2.1], st), (.lst [.bool x0.2.2, .bool x1.2.2, .bool x2.2.2], st)] (by kernel_rfl) [(.bool (quV false x0.1 x0.2.1 x0.2.2), st), (.bool (quV false x1.1 x1.2.1 x1.2.2), st), (.bool (quV false x2.1 x2.2.1 x2.2.2), st)] (by kernel_rfl) ⟨by clear h h1 h2; revert x0; exact goQC (by kernel_rfl), by clear h h1 h2; revert x1; exact goQC (by kernel_rfl), by clear h h1 h2; revert x2; exact goQC (by kernel_rfl), trivial⟩
    · exact goNA 2 { elt := true } (qs [443, 453] false) [hy h, hy h1, hy h2] [(.lst [lotL x0.1, lotL x1.1, lotL x2.1], st), (.lst [.bool x0.2.1, .bool x1.2.1, .bool x2.2.1], st), (.lst [.bool x0.2.2, .bool x1.2.2, .bool x2.2.2], st)] (by kernel_rfl) [(.bool (quV true x0.1 x0.2.1 x0.2.2), st), (.bool (quV true x1.1 x1.2.1 x1.2.2), st), (.bool (quV true x2.1 x2.2.1 x2.2.2), st)] (by kernel_rfl) ⟨by clear h h1 h2; revert x0; exact goQC (by kernel_rfl), by clear h h1 h2; revert x1; exact goQC (by kernel_rfl), by clear h h1 h2; revert x2; exact goQC (by kernel_rfl), trivial⟩
  · intro x0 x1 x2 x3 _ _ _ _ h h1 h2
    cases u
    · exact goNA 2 { elt := true } (qs [443, 453] false) [hy h, hy h1, hy h2] [(.lst [lotL x0.1, lotL x1.1, lotL x2.1, lotL x3.1], st), (.lst [.bool x0.2.1, .bool x1.2.1, .bool x2.2.1, .bool x3.2.1], st), (.lst [.bool x0.2.2, .bool x1.2.2, .bool x2.2.2, .bool x3.2.2], st)] (by kernel_rfl) [(.bool (quV false x0.1 x0.2.1 x0.2.2), st), (.bool (quV false x1.1 x1.2.1 x1.2.2), st), (.bool (quV false x2.1 x2.2.1 x2.2.2), st), (.bool (quV false x3.1 x3.2.1 x3.2.2), st)] (by kernel_rfl) ⟨by clear h h1 h2; revert x0; exact goQC (by kernel_rfl), by clear h h1 h2; revert x1; exact goQC (by kernel_rfl), by clear h h1 h2; revert x2; exact goQC (by kernel_rfl), by clear h h1 h2; revert x3; exact goQC (by kernel_rfl), trivial⟩
    · exact goNA 2 { elt := true } (qs [443, 453] false) [hy h, hy h1, hy h2] [(.lst [lotL x0.1, lotL x1.1, lotL x2.1, lotL x3.1], st), (.lst [.bool x0.2.1, .bool x1.2.1, .bool x2.2.1, .bool x3.2.1], st), (.lst [.bool x0.2.2, .bool x1.2.2, .bool x2.2.2, .bool x3.2.2], st)] (by kernel_rfl) [(.bool (quV true x0.1 x0.2.1 x0.2.2), st), (.bool (quV true x1.1 x1.2.1 x1.2.2), st), (.bool (quV true x2.1 x2.2.1 x2.2.2), st), (.bool (quV true x3.1 x3.2.1 x3.2.2), st)] (by kernel_rfl) ⟨by clear h h1 h2; revert x0; exact goQC (by kernel_rfl), by clear h h1 h2; revert x1; exact goQC (by kernel_rfl), by clear h h1 h2; revert x2; exact goQC (by kernel_rfl), by clear h h1 h2; revert x3; exact goQC (by kernel_rfl), trivial⟩
theorem lt_qu1 (u : Bool) (e : Bool) {x y : AV} {Ls : List (Lot × Bool × Bool)} {rows : List AV} (hr : rows.length = Ls.length) (hl : Ls.length = 2 ∨ Ls.length = 3 ∨ Ls.length = 4) : LSet P M st (tA rows ss) [e] x (Ls.map (·.1)) → LTru P M st (tA rows ss) [e, false] y (Ls.map (·.2.1)) → LTru P M st (tA rows ss) [e, true] y (Ls.map (·.2.2)) → LTru P (M + 3) st (tA rows ss) [e] (.tup [.str (quS u), .tup [.tup [.str (nmV true), x]], y]) (Ls.map fun p => quV u p.1 p.2.1 p.2.2) := by
  refine rows234 (p := fun Ls rows => LSet P M st (tA rows ss) [e] x (Ls.map (·.1)) → LTru P M st (tA rows ss) [e, false] y (Ls.map (·.2.1)) → LTru P M st (tA rows ss) [e, true] y (Ls.map (·.2.2)) → LTru P (M + 3) st (tA rows ss) [e] (.tup [.str (quS u), .tup [.tup [.str (nmV true), x]], y]) (Ls.map fun p => quV u p.1 p.2.1 p.2.2)) ?_ ?_ ?_ hr hl
  · intro x0 x1 _ _ h h1 h2
    cases u
    · exact goNA 2 { elt := true } (qs [443, 453] false) [hy h, hy h1, hy h2] [(.lst [lotL x0.1, lotL x1.1], st), (.lst [.bool x0.2.1, .bool x1.2.1], st), (.lst [.bool x0.2.2, .bool x1.2.2], st)] (by kernel_rfl) [(.bool (quV false x0.1 x0.2.1 x0.2.2), st), (.bool (quV false x1.1 x1.2.1 x1.2.2), st)] (by kernel_rfl) ⟨by clear h h1 h2; revert x0; exact goQC (by kernel_rfl), by clear h h1 h2; revert x1; exact goQC (by kernel_rfl), trivial⟩
    · exact goNA 2 { elt := true } (qs [443, 453] false) [hy h, hy h1, hy h2] [(.lst [lotL x0.1, lotL x1.1], st), (.lst [.bool x0.2.1, .bool x1.2.1], st), (.lst [.bool x0.2.2, .bool x1.2.2], st)] (by kernel_rfl) [(.bool (quV true x0.1 x0.2.1 x0.2.2), st), (.bool (quV true x1.1 x1.2.1 x1.2.2), st)] (by kernel_rfl) ⟨by clear h h1 h2; revert x0; exact goQC (by kernel_rfl), by clear h h1 h2; revert x1; exact goQC (by kernel_rfl), trivial⟩
  · intro x0 x1 x2 _ _ _ h h1 h2
    cases u
    · exact goNA 2 { elt := true } (qs [443, 453] false) [hy h, hy h1, hy h2] [(.lst [lotL x0.1, lotL x1.1, lotL x2.1], st), (.lst [.bool x0.2.1, .bool x1.2.1, .bool x2.2.1], st), (.lst [.bool x0.2.2, .bool x1.2.2, .bool x2.2.2], st)] (by kernel_rfl) [(.bool (quV false x0.1 x0.2.1 x0.2.2), st), (.bool (quV false x1.1 x1.2.1 x1.2.2), st), (.bool (quV false x2.1 x2.2.1 x2.2.2), st)] (by kernel_rfl) ⟨by clear h h1 h2; revert x0; exact goQC (by kernel_rfl), by clear h h1 h2; revert x1; exact goQC (by kernel_rfl), by clear h h1 h2; revert x2; exact goQC (by kernel_rfl), trivial⟩
    · exact goNA 2 { elt := true } (qs [443, 453] false) [hy h, hy h1, hy h2] [(.lst [lotL x0.1, lotL x1.1, lotL x2.1], st), (.lst [.bool x0.2.1, .bool x1.2.1, .bool x2.2.1], st), (.lst [.bool x0.2.2, .bool x1.2.2, .bool x2.2.2], st)] (by kernel_rfl) [(.bool (quV true x0.1 x0.2.1 x0.2.2), st), (.bool (quV true x1.1 x1.2.1 x1.2.2), st), (.bool (quV true x2.1 x2.2.1 x2.2.2), st)] (by kernel_rfl) ⟨by clear h h1 h2; revert x0; exact goQC (by kernel_rfl), by clear h h1 h2; revert x1; exact goQC (by kernel_rfl), by clear h h1 h2; revert x2; exact goQC (by kernel_rfl), trivial⟩
  · intro x0 x1 x2 x3 _ _ _ _ h h1 h2
    cases u
    · exact goNA 2 { elt := true } (qs [443, 453] false) [hy h, hy h1, hy h2] [(.lst [lotL x0.1, lotL x1.1, lotL x2.1, lotL x3.1], st), (.lst [.bool x0.2.1, .bool x1.2.1, .bool x2.2.1, .bool x3.2.1], st), (.lst [.bool x0.2.2, .bool x1.2.2, .bool x2.2.2, .bool x3.2.2], st)] (by kernel_rfl) [(.bool (quV false x0.1 x0.2.1 x0.2.2), st), (.bool (quV false x1.1 x1.2.1 x1.2.2), st), (.bool (quV false x2.1 x2.2.1 x2.2.2), st), (.bool (quV false x3.1 x3.2.1 x3.2.2), st)] (by kernel_rfl) ⟨by clear h h1 h2; revert x0; exact goQC (by kernel_rfl), by clear h h1 h2; revert x1; exact goQC (by kernel_rfl), by clear h h1 h2; revert x2; exact goQC (by kernel_rfl), by clear h h1 h2; revert x3; exact goQC (by kernel_rfl), trivial⟩
    · exact goNA 2 { elt := true } (qs [443, 453] false) [hy h, hy h1, hy h2] [(.lst [lotL x0.1, lotL x1.1, lotL x2.1, lotL x3.1], st), (.lst [.bool x0.2.1, .bool x1.2.1, .bool x2.2.1, .bool x3.2.1], st), (.lst [.bool x0.2.2, .bool x1.2.2, .bool x2.2.2, .bool x3.2.2], st)] (by kernel_rfl) [(.bool (quV true x0.1 x0.2.1 x0.2.2), st), (.bool (quV true x1.1 x1.2.1 x1.2.2), st), (.bool (quV true x2.1 x2.2.1 x2.2.2), st), (.bool (quV true x3.1 x3.2.1 x3.2.2), st)] (by kernel_rfl) ⟨by clear h h1 h2; revert x0; exact goQC (by kernel_rfl), by clear h h1 h2; revert x1; exact goQC (by kernel_rfl), by clear h h1 h2; revert x2; exact goQC (by kernel_rfl), by clear h h1 h2; revert x3; exact goQC (by kernel_rfl), trivial⟩
end
end Og
end
section
set_option maxRecDepth 1000000
set_option Elab.async false
namespace Og
open PySem PySem.W PyProof.Rows PySem.Calls PySem.Spec
section
variable {P : Params} {M : Nat} {m l k : Nat} {w : Bool} {st : Sto} {ρ : List Bool} {t : AV} {rows : List AV} {ss : List Nat}
theorem lt_bo (u : Bool) {x y : AV} {F G : Nat → Bool} (hm : m = 2 ∨ m = 3 ∨ m = 4) (hr : rows.length = m) : LTru P M st (tA rows ss) ρ x ((List.range m).map F) → LTru P M st (tA rows ss) ρ y ((List.range m).map G) → LTru P (M + 3) st (tA rows ss) ρ (.tup [.str (boS u), .tup [x, y]]) ((List.range m).map fun k => if u then F k && G k else F k || G k) := by
  subst hr
  refine elim3 (p := fun rows => LTru P M st (tA rows ss) ρ x ((List.range rows.length).map F) → LTru P M st (tA rows ss) ρ y ((List.range rows.length).map G) → LTru P (M + 3) st (tA rows ss) ρ (.tup [.str (boS u), .tup [x, y]]) ((List.range rows.length).map fun k => if u then F k && G k else F k || G k)) ?_ ?_ ?_ hm
  · intro _ _ h h'
    cases u <;> exact go 2 [453] [hy h, hy h'] (by kernel_rfl)
  · intro _ _ _ h h'
    cases u <;> exact go 2 [453] [hy h, hy h'] (by kernel_rfl)
  · intro _ _ _ _ h h'
    cases u <;> exact go 2 [453] [hy h, hy h'] (by kernel_rfl)
theorem lt_not {x : AV} {F : Nat → Bool} (hm : m = 2 ∨ m = 3 ∨ m = 4) (hr : rows.length = m) : LTru P M st (tA rows ss) ρ x ((List.range m).map F) → LTru P (M + 3) st (tA rows ss) ρ (.tup [.str "not", x]) ((List.range m).map fun k => !F k) := by
  subst hr
  refine elim3 (p := fun rows => LTru P M st (tA rows ss) ρ x ((List.range rows.length).map F) → LTru P (M + 3) st (tA rows ss) ρ (.tup [.str "not", x]) ((List.range rows.length).map fun k => !F k)) ?_ ?_ ?_ hm
  · intro _ _ h
    exact go 2 [453] [hy h] (by kernel_rfl)
  · intro _ _ _ h
    exact go 2 [453] [hy h] (by kernel_rfl)
  · intro _ _ _ _ h
    exact go 2 [453] [hy h] (by kernel_rfl)
theorem lt_after {x : AV} {F : Nat → Bool} (ok : Ok m l) (hr : rows.length = m) : LTru P M st (tA rows (stepsL m l)) ρ x ((List.range m).map F) → LTru P (M + 3) st (tA rows (stepsL m l)) ρ (.tup [.str "after", x]) ((List.range m).map fun k => F (after m l k)) :=
  mlElim (p := fun m l rows => LTru P M st (tA rows (stepsL m l)) ρ x ((List.range m).map F) → LTru P (M + 3) st (tA rows (stepsL m l)) ρ (.tup [.str "after", x]) ((List.range m).map fun k => F (after m l k))) (fun D0 D1 h => go 2 [453] [hy h] (by kernel_rfl)) (fun D0 D1 h => go 2 [453] [hy h] (by kernel_rfl)) (fun D0 D1 D2 h => go 2 [453] [hy h] (by kernel_rfl)) (fun D0 D1 D2 h => go 2 [453] [hy h] (by kernel_rfl)) (fun D0 D1 D2 h => go 2 [453] [hy h] (by kernel_rfl)) (fun D0 D1 D2 D3 h => go 2 [453] [hy h] (by kernel_rfl)) (fun D0 D1 D2 D3 h => go 2 [453] [hy h] (by kernel_rfl)) (fun D0 D1 D2 D3 h => go 2 [453] [hy h] (by kernel_rfl)) (fun D0 D1 D2 D3 h => go 2 [453] [hy h] (by kernel_rfl)) ok hr
theorem lt_always {x : AV} {F : Nat → Bool} (ok : Ok m l) (hr : rows.length = m) : LTru P M st (tA rows (stepsL m l)) ρ x ((List.range m).map F) → LTru P (M + 5) st (tA rows (stepsL m l)) ρ (.tup [.str "always", x]) (settled m l true fun k b => F k && b) :=
  mlElim (p := fun m l rows => LTru P M st (tA rows (stepsL m l)) ρ x ((List.range m).map F) → LTru P (M + 5) st (tA rows (stepsL m l)) ρ (.tup [.str "always", x]) (settled m l true fun k b => F k && b)) (fun D0 D1 h => go 4 [453] [hy h] (by kernel_rfl)) (fun D0 D1 h => go 4 [453] [hy h] (by kernel_rfl)) (fun D0 D1 D2 h => go 4 [453] [hy h] (by kernel_rfl)) (fun D0 D1 D2 h => go 4 [453] [hy h] (by kernel_rfl)) (fun D0 D1 D2 h => go 4 [453] [hy h] (by kernel_rfl)) (fun D0 D1 D2 D3 h => go 4 [453] [hy h] (by kernel_rfl)) (fun D0 D1 D2 D3 h => go 4 [453] [hy h] (by kernel_rfl)) (fun D0 D1 D2 D3 h => go 4 [453] [hy h] (by kernel_rfl)) (fun D0 D1 D2 D3 h => go 4 [453] [hy h] (by kernel_rfl)) ok hr
theorem lt_eventually {x : AV} {F : Nat → Bool} (ok : Ok m l) (hr : rows.length = m) : LTru P M st (tA rows (stepsL m l)) ρ x ((List.range m).map F) → LTru P (M + 5) st (tA rows (stepsL m l)) ρ (.tup [.str "eventually", x]) (settled m l false fun k b => F k || b) :=
  mlElim (p := fun m l rows => LTru P M st (tA rows (stepsL m l)) ρ x ((List.range m).map F) → LTru P (M + 5) st (tA rows (stepsL m l)) ρ (.tup [.str "eventually", x]) (settled m l false fun k b => F k || b)) (fun D0 D1 h => go 4 [453] [hy h] (by kernel_rfl)) (fun D0 D1 h => go 4 [453] [hy h] (by kernel_rfl)) (fun D0 D1 D2 h => go 4 [453] [hy h] (by kernel_rfl)) (fun D0 D1 D2 h => go 4 [453] [hy h] (by kernel_rfl)) (fun D0 D1 D2 h => go 4 [453] [hy h] (by kernel_rfl)) (fun D0 D1 D2 D3 h => go 4 [453] [hy h] (by kernel_rfl)) (fun D0 D1 D2 D3 h => go 4 [453] [hy h] (by kernel_rfl)) (fun D0 D1 D2 D3 h => go 4 [453] [hy h] (by kernel_rfl)) (fun D0 D1 D2 D3 h => go 4 [453] [hy h] (by kernel_rfl)) ok hr
theorem lt_until {x y : AV} {F G : Nat → Bool} (ok : Ok m l) (hr : rows.length = m) : LTru P M st (tA rows (stepsL m l)) ρ x ((List.range m).map F) → LTru P M st (tA rows (stepsL m l)) ρ y ((List.range m).map G) → LTru P (M + 5) st (tA rows (stepsL m l)) ρ (.tup [.str "until", x, y]) (settled m l false fun k b => G k || (F k && b)) :=
  mlElim (p := fun m l rows => LTru P M st (tA rows (stepsL m l)) ρ x ((List.range m).map F) → LTru P M st (tA rows (stepsL m l)) ρ y ((List.range m).map G) → LTru P (M + 5) st (tA rows (stepsL m l)) ρ (.tup [.str "until", x, y]) (settled m l false fun k b => G k || (F k && b))) (fun D0 D1 h h' => go 4 [453] [hy h, hy h'] (by kernel_rfl)) (fun D0 D1 h h' => go 4 [453] [hy h, hy h'] (by kernel_rfl)) (fun D0 D1 D2 h h' => go 4 [453] [hy h, hy h'] (by kernel_rfl)) (fun D0 D1 D2 h h' => go 4 [453] [hy h, hy h'] (by kernel_rfl)) (fun D0 D1 D2 h h' => go 4 [453] [hy h, hy h'] (by kernel_rfl)) (fun D0 D1 D2 D3 h h' => go 4 [453] [hy h, hy h'] (by kernel_rfl)) (fun D0 D1 D2 D3 h h' => go 4 [453] [hy h, hy h'] (by kernel_rfl)) (fun D0 D1 D2 D3 h h' => go 4 [453] [hy h, hy h'] (by kernel_rfl)) (fun D0 D1 D2 D3 h h' => go 4 [453] [hy h, hy h'] (by kernel_rfl)) ok hr
theorem lt_releases {x y : AV} {F G : Nat → Bool} (ok : Ok m l) (hr : rows.length = m) : LTru P M st (tA rows (stepsL m l)) ρ x ((List.range m).map F) → LTru P M st (tA rows (stepsL m l)) ρ y ((List.range m).map G) → LTru P (M + 5) st (tA rows (stepsL m l)) ρ (.tup [.str "releases", x, y]) (settled m l true fun k b => G k && (F k || b)) :=
  mlElim (p := fun m l rows => LTru P M st (tA rows (stepsL m l)) ρ x ((List.range m).map F) → LTru P M st (tA rows (stepsL m l)) ρ y ((List.range m).map G) → LTru P (M + 5) st (tA rows (stepsL m l)) ρ (.tup [.str "releases", x, y]) (settled m l true fun k b => G k && (F k || b))) (fun D0 D1 h h' => go 4 [453] [hy h, hy h'] (by kernel_rfl)) (fun D0 D1 h h' => go 4 [453] [hy h, hy h'] (by kernel_rfl)) (fun D0 D1 D2 h h' => go 4 [453] [hy h, hy h'] (by kernel_rfl)) (fun D0 D1 D2 h h' => go 4 [453] [hy h, hy h'] (by kernel_rfl)) (fun D0 D1 D2 h h' => go 4 [453] [hy h, hy h'] (by kernel_rfl)) (fun D0 D1 D2 D3 h h' => go 4 [453] [hy h, hy h'] (by kernel_rfl)) (fun D0 D1 D2 D3 h h' => go 4 [453] [hy h, hy h'] (by kernel_rfl)) (fun D0 D1 D2 D3 h h' => go 4 [453] [hy h, hy h'] (by kernel_rfl)) (fun D0 D1 D2 D3 h h' => go 4 [453] [hy h, hy h'] (by kernel_rfl)) ok hr
end
end Og
end
section
set_option maxRecDepth 1000000
set_option Elab.async false
namespace Og
open PySem PySem.W PyProof.Rows PySem.Calls PySem.Spec
/-! ## what settles is what the line says -/
noncomputable def pk (a b c d : Bool) (k : Nat) : Bool := match k with | 0 => a | 1 => b | 2 => c | _ => d
section
variable {m l : Nat}
theorem ok_all {Q : Nat → Nat → Prop} (h20 : Q 2 0) (h21 : Q 2 1) (h30 : Q 3 0) (h31 : Q 3 1) (h32 : Q 3 2) (h40 : Q 4 0) (h41 : Q 4 1) (h42 : Q 4 2) (h43 : Q 4 3) (ok : Ok m l) : Q m l := by
  obtain ⟨rfl | rfl | rfl, hl⟩ := ok
  · match l, hl with
    | 0, _ => exact h20
    | 1, _ => exact h21
  · match l, hl with
    | 0, _ => exact h30
    | 1, _ => exact h31
    | 2, _ => exact h32
  · match l, hl with
    | 0, _ => exact h40
    | 1, _ => exact h41
    | 2, _ => exact h42
    | 3, _ => exact h43
theorem f_always (ok : Ok m l) (F : Nat → Bool) : settled m l true (fun k b' => F k && b') = ((List.range m).map fun k => (line m l k).all fun j => F j) :=
  ok_all (Q := fun m l => (∀ a b c d : Bool, settled m l true (fun k b' => pk a b c d k && b') = ((List.range m).map fun k => (line m l k).all fun j => pk a b c d j)) → settled m l true (fun k b' => F k && b') = ((List.range m).map fun k => (line m l k).all fun j => F j)) (fun h => h (F 0) (F 1) (F 2) (F 3)) (fun h => h (F 0) (F 1) (F 2) (F 3)) (fun h => h (F 0) (F 1) (F 2) (F 3)) (fun h => h (F 0) (F 1) (F 2) (F 3)) (fun h => h (F 0) (F 1) (F 2) (F 3)) (fun h => h (F 0) (F 1) (F 2) (F 3)) (fun h => h (F 0) (F 1) (F 2) (F 3)) (fun h => h (F 0) (F 1) (F 2) (F 3)) (fun h => h (F 0) (F 1) (F 2) (F 3)) ok
    (ok_all (Q := fun m l => ∀ a b c d : Bool, settled m l true (fun k b' => pk a b c d k && b') = ((List.range m).map fun k => (line m l k).all fun j => pk a b c d j)) (by decide +kernel) (by decide +kernel) (by decide +kernel) (by decide +kernel) (by decide +kernel) (by decide +kernel) (by decide +kernel) (by decide +kernel) (by decide +kernel) ok)
theorem f_eventually (ok : Ok m l) (F : Nat → Bool) : settled m l false (fun k b' => F k || b') = ((List.range m).map fun k => (line m l k).any fun j => F j) :=
  ok_all (Q := fun m l => (∀ a b c d : Bool, settled m l false (fun k b' => pk a b c d k || b') = ((List.range m).map fun k => (line m l k).any fun j => pk a b c d j)) → settled m l false (fun k b' => F k || b') = ((List.range m).map fun k => (line m l k).any fun j => F j)) (fun h => h (F 0) (F 1) (F 2) (F 3)) (fun h => h (F 0) (F 1) (F 2) (F 3)) (fun h => h (F 0) (F 1) (F 2) (F 3)) (fun h => h (F 0) (F 1) (F 2) (F 3)) (fun h => h (F 0) (F 1) (F 2) (F 3)) (fun h => h (F 0) (F 1) (F 2) (F 3)) (fun h => h (F 0) (F 1) (F 2) (F 3)) (fun h => h (F 0) (F 1) (F 2) (F 3)) (fun h => h (F 0) (F 1) (F 2) (F 3)) ok
    (ok_all (Q := fun m l => ∀ a b c d : Bool, settled m l false (fun k b' => pk a b c d k || b') = ((List.range m).map fun k => (line m l k).any fun j => pk a b c d j)) (by decide +kernel) (by decide +kernel) (by decide +kernel) (by decide +kernel) (by decide +kernel) (by decide +kernel) (by decide +kernel) (by decide +kernel) (by decide +kernel) ok)
theorem f_until (ok : Ok m l) (F G : Nat → Bool) : settled m l false (fun k b' => G k || (F k && b')) = ((List.range m).map fun k => (ways true (fun j => F j) (fun j => G j) (line m l k) []).any fun x => x.all id) :=
  ok_all (Q := fun m l => (∀ a b c d e f g h : Bool, settled m l false (fun k b' => pk e f g h k || (pk a b c d k && b')) = ((List.range m).map fun k => (ways true (fun j => pk a b c d j) (fun j => pk e f g h j) (line m l k) []).any fun x => x.all id)) → settled m l false (fun k b' => G k || (F k && b')) = ((List.range m).map fun k => (ways true (fun j => F j) (fun j => G j) (line m l k) []).any fun x => x.all id)) (fun h => h (F 0) (F 1) (F 2) (F 3) (G 0) (G 1) (G 2) (G 3)) (fun h => h (F 0) (F 1) (F 2) (F 3) (G 0) (G 1) (G 2) (G 3)) (fun h => h (F 0) (F 1) (F 2) (F 3) (G 0) (G 1) (G 2) (G 3)) (fun h => h (F 0) (F 1) (F 2) (F 3) (G 0) (G 1) (G 2) (G 3)) (fun h => h (F 0) (F 1) (F 2) (F 3) (G 0) (G 1) (G 2) (G 3)) (fun h => h (F 0) (F 1) (F 2) (F 3) (G 0) (G 1) (G 2) (G 3)) (fun h => h (F 0) (F 1) (F 2) (F 3) (G 0) (G 1) (G 2) (G 3)) (fun h => h (F 0) (F 1) (F 2) (F 3) (G 0) (G 1) (G 2) (G 3)) (fun h => h (F 0) (F 1) (F 2) (F 3) (G 0) (G 1) (G 2) (G 3)) ok
    (ok_all (Q := fun m l => ∀ a b c d e f g h : Bool, settled m l false (fun k b' => pk e f g h k || (pk a b c d k && b')) = ((List.range m).map fun k => (ways true (fun j => pk a b c d j) (fun j => pk e f g h j) (line m l k) []).any fun x => x.all id)) (by decide +kernel) (by decide +kernel) (by decide +kernel) (by decide +kernel) (by decide +kernel) (by decide +kernel) (by decide +kernel) (by decide +kernel) (by decide +kernel) ok)
theorem f_releases (ok : Ok m l) (F G : Nat → Bool) : settled m l true (fun k b' => G k && (F k || b')) = ((List.range m).map fun k => (ways false (fun j => F j) (fun j => G j) (line m l k) []).all fun x => x.any id) :=
  ok_all (Q := fun m l => (∀ a b c d e f g h : Bool, settled m l true (fun k b' => pk e f g h k && (pk a b c d k || b')) = ((List.range m).map fun k => (ways false (fun j => pk a b c d j) (fun j => pk e f g h j) (line m l k) []).all fun x => x.any id)) → settled m l true (fun k b' => G k && (F k || b')) = ((List.range m).map fun k => (ways false (fun j => F j) (fun j => G j) (line m l k) []).all fun x => x.any id)) (fun h => h (F 0) (F 1) (F 2) (F 3) (G 0) (G 1) (G 2) (G 3)) (fun h => h (F 0) (F 1) (F 2) (F 3) (G 0) (G 1) (G 2) (G 3)) (fun h => h (F 0) (F 1) (F 2) (F 3) (G 0) (G 1) (G 2) (G 3)) (fun h => h (F 0) (F 1) (F 2) (F 3) (G 0) (G 1) (G 2) (G 3)) (fun h => h (F 0) (F 1) (F 2) (F 3) (G 0) (G 1) (G 2) (G 3)) (fun h => h (F 0) (F 1) (F 2) (F 3) (G 0) (G 1) (G 2) (G 3)) (fun h => h (F 0) (F 1) (F 2) (F 3) (G 0) (G 1) (G 2) (G 3)) (fun h => h (F 0) (F 1) (F 2) (F 3) (G 0) (G 1) (G 2) (G 3)) (fun h => h (F 0) (F 1) (F 2) (F 3) (G 0) (G 1) (G 2) (G 3)) ok
    (ok_all (Q := fun m l => ∀ a b c d e f g h : Bool, settled m l true (fun k b' => pk e f g h k && (pk a b c d k || b')) = ((List.range m).map fun k => (ways false (fun j => pk a b c d j) (fun j => pk e f g h j) (line m l k) []).all fun x => x.any id)) (by decide +kernel) (by decide +kernel) (by decide +kernel) (by decide +kernel) (by decide +kernel) (by decide +kernel) (by decide +kernel) (by decide +kernel) (by decide +kernel) ok)
end
section
variable {P : Params} {M : Nat} {m l k : Nat} {w : Bool} {R : Bool → Nat → Lot} {st : Sto} {ρ : List Bool}
noncomputable def traceA (m l : Nat) (w : Bool) (R : Bool → Nat → Lot) : AV := tA (rowsA ((List.range m).map fun k => (rowL w R false k, rowL w R true k))) (stepsL m l)
theorem rng_len {α : Type} (hm : m = 2 ∨ m = 3 ∨ m = 4) (f : Nat → α) : ((List.range m).map f).length = 2 ∨ ((List.range m).map f).length = 3 ∨ ((List.range m).map f).length = 4 := by simpa using hm
theorem rows_len (f : Nat → Lot × Lot) : (rowsA ((List.range m).map f)).length = m := by unfold rowsA; simp
theorem rows_map (f : Nat → Lot × Lot) {α : Type} (c : α) : (rowsA ((List.range m).map f)).map (fun D0 => c) = (List.range m).map fun D0 => c := by unfold rowsA; exact List.map_map.trans List.map_map
theorem lsets (ok : Ok m l) : ∀ a : At, a.sc ρ.length → LSet P (4 * a.dp) st (traceA m l w R) ρ a.enc ((List.range m).map fun k => semA m l w R a k ρ)
  | .rel r, _ => by
    have := ls_rel (P := P) (st := st) (ρ := ρ) (ss := stepsL m l) r (rng_len ok.1 fun k => (rowL w R false k, rowL w R true k))
    rw [List.map_map] at this
    refine E.up (M := 3) ?_ (by refine (?_ : 3 ≤ 4 * 1); decide)
    cases r <;> exact this
  | .univ, _ => by
    have := ls_univ (P := P) (st := st) (ρ := ρ) (ss := stepsL m l) (rows := rowsA ((List.range m).map fun k => (rowL w R false k, rowL w R true k))) (by rw [rows_len]; exact ok.1)
    rw [rows_map] at this
    exact this.up (by refine (?_ : 3 ≤ 4 * 1); decide)
  | .var v, h => by
    have := ls_var (P := P) (st := st) (ρ := ρ) (ss := stepsL m l) (rows := rowsA ((List.range m).map fun k => (rowL w R false k, rowL w R true k))) v (by rw [rows_len]; exact ok.1) h
    rw [rows_map] at this
    exact this.up (by refine (?_ : 3 ≤ 4 * 1); decide)
  | .later a, h => (ls_later ok (lsets ok a h)).up (by refine (?_ : _ ≤ 4 * (a.dp + 1)); exact Nat.add_le_add_left (k0 rfl) _)
  | .bin o a b, h => by
    have h2 := lsets ok b h.2
    have := ls_bin (P := P) (M := 4 * max a.dp b.dp) (st := st) (ρ := ρ) (ss := stepsL m l) (x := a.enc) (y := b.enc) (rows := rowsA ((List.range m).map fun k => (rowL w R false k, rowL w R true k))) o (rng_len ok.1 fun k => (semA m l w R a k ρ, semA m l w R b k ρ))
      (by rw [List.map_map]; exact (lsets ok a h.1).up (by exact xln rfl)) (by rw [List.map_map]; exact h2.up (by exact xrn rfl))
    rw [List.map_map] at this
    exact this.up (by refine (?_ : _ ≤ 4 * (max a.dp b.dp + 1)); exact Nat.add_le_add_left (k0 rfl) _)
theorem ltruths (ok : Ok m l) : ∀ (c : Cl) (ρ : List Bool), c.sc ρ.length → LTru P (8 * c.dp) st (traceA m l w R) ρ c.enc ((List.range m).map fun k => semC m l w R c k ρ)
  | .some a, ρ, h => by
    have h1 := lsets (P := P) (w := w) (R := R) (st := st) ok a h
    have := lt_some (P := P) (rows := rowsA ((List.range m).map fun k => (rowL w R false k, rowL w R true k))) (by rw [rows_len]; simp) (rng_len ok.1 _) h1
    rw [List.map_map] at this
    exact this.up (by refine (?_ : _ ≤ 8 * (a.dp + 1)); exact m2n rfl rfl)
  | .no a, ρ, h => by
    have h1 := lsets (P := P) (w := w) (R := R) (st := st) ok a h
    have := lt_no (P := P) (rows := rowsA ((List.range m).map fun k => (rowL w R false k, rowL w R true k))) (by rw [rows_len]; simp) (rng_len ok.1 _) h1
    rw [List.map_map] at this
    exact this.up (by refine (?_ : _ ≤ 8 * (a.dp + 1)); exact m2n rfl rfl)
  | .inn a b, ρ, h => by
    have h1 := lsets (P := P) (w := w) (R := R) (st := st) ok a h.1
    have h2 := lsets (P := P) (w := w) (R := R) (st := st) ok b h.2
    have := lt_in (P := P) (M := 4 * max a.dp b.dp) (st := st) (ρ := ρ) (ss := stepsL m l) (x := a.enc) (y := b.enc) (rows := rowsA ((List.range m).map fun k => (rowL w R false k, rowL w R true k))) (by rw [rows_len]; simp) (rng_len ok.1 fun k => (semA m l w R a k ρ, semA m l w R b k ρ))
      (by rw [List.map_map]; exact h1.up (by exact xln rfl)) (by rw [List.map_map]; exact h2.up (by exact xrn rfl))
    rw [List.map_map] at this
    exact this.up (by refine (?_ : _ ≤ 8 * (max a.dp b.dp + 1)); exact m2n rfl rfl)
  | .not c, ρ, h => (lt_not ok.1 (rows_len _) (ltruths ok c ρ h)).up (by refine (?_ : _ ≤ 8 * (c.dp + 1)); exact Nat.add_le_add_left (k0 rfl) _)
  | .tm .after c, ρ, h => (lt_after ok (rows_len _) (ltruths ok c ρ h)).up (by refine (?_ : _ ≤ 8 * (c.dp + 1)); exact Nat.add_le_add_left (k0 rfl) _)
  | .tm .always c, ρ, h => by
    have := lt_always ok (rows_len _) (ltruths ok c ρ h)
    rw [f_always ok fun k => semC m l w R c k ρ] at this
    exact this.up (by refine (?_ : _ ≤ 8 * (c.dp + 1)); exact Nat.add_le_add_left (k0 rfl) _)
  | .tm .eventually c, ρ, h => by
    have := lt_eventually ok (rows_len _) (ltruths ok c ρ h)
    rw [f_eventually ok fun k => semC m l w R c k ρ] at this
    exact this.up (by refine (?_ : _ ≤ 8 * (c.dp + 1)); exact Nat.add_le_add_left (k0 rfl) _)
  | .bo b c d, ρ, h => by
    have := lt_bo (M := 8 * max c.dp d.dp) b ok.1 (rows_len _) ((ltruths ok c ρ h.1).up (by exact xln rfl)) ((ltruths ok d ρ h.2).up (by exact xrn rfl))
    exact this.up (by refine (?_ : _ ≤ 8 * (max c.dp d.dp + 1)); exact Nat.add_le_add_left (k0 rfl) _)
  | .tu u c d, ρ, h => by
    cases u
    · have := lt_releases (M := 8 * max c.dp d.dp) ok (rows_len _) ((ltruths ok c ρ h.1).up (by exact xln rfl)) ((ltruths ok d ρ h.2).up (by exact xrn rfl))
      rw [f_releases ok (fun k => semC m l w R c k ρ) fun k => semC m l w R d k ρ] at this
      exact this.up (by refine (?_ : _ ≤ 8 * (max c.dp d.dp + 1)); exact Nat.add_le_add_left (k0 rfl) _)
    · have := lt_until (M := 8 * max c.dp d.dp) ok (rows_len _) ((ltruths ok c ρ h.1).up (by exact xln rfl)) ((ltruths ok d ρ h.2).up (by exact xrn rfl))
      rw [f_until ok (fun k => semC m l w R c k ρ) fun k => semC m l w R d k ρ] at this
      exact this.up (by refine (?_ : _ ≤ 8 * (max c.dp d.dp + 1)); exact Nat.add_le_add_left (k0 rfl) _)
  | .qu u v a c, ρ, h => by
      match ρ, v, h with
      | [], false, h =>
        have h2 := ltruths ok c [false] h.2.2
        have h3 := ltruths ok c [true] h.2.2
        have := lt_qu0 (P := P) (M := 8 * max a.dp c.dp) (st := st) (ss := stepsL m l) (x := a.enc) (y := c.enc) (rows := rowsA ((List.range m).map fun k => (rowL w R false k, rowL w R true k))) u (by rw [rows_len]; simp)
          (rng_len ok.1 fun k => (semA m l w R a k [], semC m l w R c k [false], semC m l w R c k [true])) (by rw [List.map_map]; exact (lsets (P := P) (w := w) (R := R) (st := st) (ρ := []) ok a h.2.1).up (by exact xln rfl)) (by rw [List.map_map]; exact h2.up (by exact xrn rfl)) (by rw [List.map_map]; exact h3.up (by exact xrn rfl))
        rw [List.map_map] at this
        exact this.up (by refine (?_ : _ ≤ 8 * (max a.dp c.dp + 1)); exact Nat.add_le_add_left (k0 rfl) _)
      | [e], true, h =>
        have h3 := ltruths ok c [e, true] h.2.2
        have := lt_qu1 (P := P) (M := 8 * max a.dp c.dp) (st := st) (ss := stepsL m l) (x := a.enc) (y := c.enc) (rows := rowsA ((List.range m).map fun k => (rowL w R false k, rowL w R true k))) u e (by rw [rows_len]; simp)
          (rng_len ok.1 fun k => (semA m l w R a k [e], semC m l w R c k [e, false], semC m l w R c k [e, true])) (by rw [List.map_map]; exact (lsets (P := P) (w := w) (R := R) (st := st) (ρ := [e]) ok a h.2.1).up (by exact xln rfl)) (by rw [List.map_map]; exact (ltruths ok c [e, false] h.2.2).up (by exact xrn rfl)) (by rw [List.map_map]; exact h3.up (by exact xrn rfl))
        rw [List.map_map] at this
        exact this.up (by refine (?_ : _ ≤ 8 * (max a.dp c.dp + 1)); exact Nat.add_le_add_left (k0 rfl) _)
      | [], true, h => exact absurd h.1 (by decide)
      | [_], false, h => exact absurd (show (1 : Nat) = 0 from h.1) (by decide)
      | _ :: _ :: ρ, v, h =>
        have := h.1
        clear h; cases v <;> simp at this
end
end Og
end
section
set_option maxRecDepth 1000000
set_option Elab.async false
namespace Og
open PySem PySem.W PyProof.Rows PySem.Calls PySem.Spec
/-! ## the draws -/
noncomputable def b424 (P : Params) : { b : List Stmt // (fdO (o424 P).1).body = .stmts b } := ⟨_, rfl⟩
noncomputable def spots (n : Nat) : List AV := (List.range n).map nat
noncomputable abbrev lenT {R : Type} (a : AV) (st : Sto) (k : AV → T R) : T R := opt (builtinA (.builtin "len") [a] st) k
noncomputable abbrev ctP (P : Params) : HdT := callT (tbP P) 16 60 452 (qs [] false) 2
section
variable (P : Params) (L S : List AV) (t : AV) (rest : Sto)
/-- the block of `_law_pull` -/
noncomputable def cx424 : Cx := ⟨(fdO (o424 P).1).scope, [(("top" : Str), .v t), (("spots" : Str), .v (.loc 0)), (("numbers" : Str), .v (.lst L))], false⟩
theorem pull_1 : top P {} (qs [] false) 2 424 [.lst L, .loc 0, t] (.list S :: rest) =
    opt (builtinA (.builtin "len") [.loc 0] (.list S :: rest)) fun q => if decide (S.length ≤ big) then
      exLT (tbP P) (ctP P) 16 {} Ans 59 (cx424 P L t) (b424 P).1.tail (.list (S ++ [q]) :: rest) (fun q s => match q with | .next _ => .ret (.none, s) | .ret a => .ret (a, s)) else .fail := by kernel_rfl
theorem pull_2 (R : Type) (k : Fl → Sto → T R) : exLT (tbP P) (ctP P) 16 {} R 59 (cx424 P L t) (b424 P).1.tail (.list S :: rest) k =
    opt (idxL S (-1)) fun a => opt (builtinA (.builtin "len") [.lst L] (.list S :: rest)) fun q => opt (cmpA .Lt a q) fun b =>
      if b then opt (idxL S (-1)) fun a => opt (getItemA (.list L) a) fun x => opt (builtinA (.type "int") [x] (.list S :: rest)) fun y => opt (binA .Mod y t) fun z => k (.ret z) (.list S :: rest)
      else opt (idxL S (-1)) fun a1 => opt (binA .Mult (.int 8) a1) fun a2 => opt (idxL S (-1)) fun a3 => opt (binA .Mult a2 a3) fun a4 => opt (idxL S (-1)) fun a5 => opt (binA .Mult (.int 3) a5) fun a6 => opt (binA .Add a4 a6) fun a7 =>
        opt (builtinA (.builtin "len") [.lst L] (.list S :: rest)) fun a8 => opt (binA .Mult (.int 2) a8) fun a9 => opt (binA .Add a7 a9) fun a10 => opt (binA .Add a10 (.int 6)) fun a11 => opt (binA .Mod a11 (.int 79)) fun a12 => opt (binA .Mod a12 t) fun z => k (.ret z) (.list S :: rest) := by kernel_rfl
theorem idx_last (n : Nat) : idxL (spots n ++ [nat n]) (-1) = some (nat n) := by
  delta idxL
  have hl : (spots n ++ [nat n]).length = n + 1 := by simp [spots]
  rw [if_neg (by decide), if_pos (by rw [hl]; (clear hl; omega)), hl, show ((-1 : Int) + ((n + 1 : Nat) : Int)).toNat = n by (clear hl; omega)]
  rw [List.getElem?_append_right (by simp [spots])]
  simp [spots]
theorem spots_succ (n : Nat) : spots n ++ [nat n] = spots (n + 1) := by
  unfold spots
  refine List.range_succ ▸ List.map_append ▸ ?_; rfl
end
/-- what a draw gives -/
noncomputable def drawn (xs : List Int) (n t : Nat) : Nat :=
  if n < xs.length then (Int.fmod (xs.getD n 0) t).toNat else (8 * n * n + 3 * n + 2 * xs.length + 6) % 79 % t
theorem drawn_lt (xs : List Int) (n : Nat) {t : Nat} (ht : 0 < t) : drawn xs n t < t := by
  delta drawn
  split
  · have h1 := Int.fmod_nonneg_of_pos (xs.getD n 0) (b := (t : Int)) (by omega)
    have h2 := Int.fmod_lt_of_pos (xs.getD n 0) (b := (t : Int)) (by (clear h1; omega))
    (clear h1; omega)
  · exact Nat.mod_lt _ ht
section
variable {P : Params}
noncomputable abbrev numsA (xs : List Int) : List AV := xs.map .int
theorem opt_some {α R : Type} (a : α) (k : α → T R) : opt (some a) k = k a := rfl
theorem if_tt {α : Sort _} (x y : α) : (if true = true then x else y) = x := rfl
theorem if_ft {α : Sort _} (x y : α) : (if false = true then x else y) = y := rfl
theorem big_ok {n : Nat} (h : n ≤ 1001) : decide (n ≤ big) = true := by
  rw [decide_eq_true_eq]; refine (?_ : n ≤ 2 ^ 20); omega
theorem small_ok {m : Nat} (h : m < 2 ^ 40) : smallI (Int.ofNat m) = true := by
  delta smallI; rw [decide_eq_true_eq, Int.ofNat_eq_natCast]; omega
theorem mul_nat {a b : Nat} (ha : a < 2 ^ 40) (hb : b < 2 ^ 40) : binA .Mult (nat a) (nat b) = some (nat (a * b)) := by
  refine (mul_ints _ _).trans ?_
  rw [small_ok ha, small_ok hb]; rfl
theorem add_nat (a b : Nat) : binA .Add (nat a) (nat b) = some (nat (a + b)) := rfl
theorem mod_int (a : Int) {b : Nat} (hb : 0 < b) : binA .Mod (.int a) (nat b) = some (.int (Int.fmod a b)) := by
  refine (mod_ints _ _).trans ?_
  rw [decide_eq_true (by rw [Int.ofNat_eq_natCast]; omega)]; rfl
theorem mod_nat (a : Nat) {b : Nat} (hb : 0 < b) : binA .Mod (nat a) (nat b) = some (nat (a % b)) := by
  refine (?_ : binA .Mod (.int (Int.ofNat a)) (nat b) = _)
  rw [mod_int _ hb, Int.fmod_eq_emod_of_nonneg _ (by omega)]; rfl
theorem len_lst (l : List AV) (st : Sto) (h : l.length ≤ 1001) : builtinA (.builtin "len") [.lst l] st = some (nat l.length) := by
  refine (?_ : (some l.length).bind (fun n => if decide (n ≤ big) then some (AV.int n) else none) = _)
  rw [Option.bind_some, big_ok h]; rfl
theorem len_loc (l : List AV) (rest : Sto) (h : l.length ≤ 1001) : builtinA (.builtin "len") [.loc 0] (.list l :: rest) = some (nat l.length) := by
  refine (?_ : (some l.length).bind (fun n => if decide (n ≤ big) then some (AV.int n) else none) = _)
  rw [Option.bind_some, big_ok h]; rfl
theorem lt_nat (a b : Nat) : cmpA .Lt (nat a) (nat b) = some (decide (a < b)) := by
  refine (?_ : some (decide (Int.ofNat a < Int.ofNat b)) = _)
  congr 2
  simp
theorem pull_a {xs : List Int} {n t : Nat} {rest : Sto} (hn : n ≤ 1000) : top P {} (qs [] false) 2 424 [.lst (numsA xs), .loc 0, nat t] (.list (spots n) :: rest) =
    exLT (tbP P) (ctP P) 16 {} Ans 59 (cx424 P (numsA xs) (nat t)) (b424 P).1.tail (.list (spots (n + 1)) :: rest) (fun q s => match q with | .next _ => .ret (.none, s) | .ret a => .ret (a, s)) := by
  have hS : (spots n).length = n := by simp [spots]
  have l0 := len_loc (spots n) rest (by rw [hS]; omega)
  replace l0 := hS ▸ l0
  rw [pull_1, l0, opt_some, hS, big_ok (by omega), if_tt, spots_succ]
theorem pull_b {xs : List Int} {n t : Nat} {rest : Sto} (hx : xs.length ≤ 48) (hn : n ≤ 1000) (ht : 0 < t) (hb : n < xs.length) (R : Type) (k : Fl → Sto → T R) :
    exLT (tbP P) (ctP P) 16 {} R 59 (cx424 P (numsA xs) (nat t)) (b424 P).1.tail (.list (spots (n + 1)) :: rest) k = k (.ret (.int (Int.fmod (xs.getD n 0) t))) (.list (spots (n + 1)) :: rest) := by
  refine Og.cps fun G kG => ?_
  have l1 := len_lst (numsA xs) (.list (spots (n + 1)) :: rest) (by rw [List.length_map]; (clear hn ht hb; omega))
  rw [List.length_map] at l1
  have i0 : idxL (spots (n + 1)) (-1) = some (nat n) := by rw [← spots_succ]; exact idx_last n
  have g : getItemA (.list (numsA xs)) (nat n) = some (.int (xs.getD n 0)) := by
    refine (?_ : (if smallI (Int.ofNat n) then idxL (numsA xs) (n : Int) else none) = _)
    rw [small_ok (by omega), if_tt]
    unfold idxL
    rw [if_pos (by omega), if_pos (by simpa using hb)]
    simp [hb, List.getD]
  have ty : builtinA (.type "int") [.int (xs.getD n 0)] (.list (spots (n + 1)) :: rest) = some (.int (xs.getD n 0)) := rfl
  refine kG ?_
  clear kG
  rw [pull_2]
  rw [i0, opt_some, l1, opt_some, lt_nat, opt_some, decide_eq_true hb]
  rw [if_pos rfl, opt_some, g, opt_some, ty, opt_some, mod_int _ ht, opt_some]
theorem pull_c {xs : List Int} {n t : Nat} {rest : Sto} (hx : xs.length ≤ 48) (hn : n ≤ 1000) (ht : 0 < t) (hb : ¬ n < xs.length) (R : Type) (k : Fl → Sto → T R) :
    exLT (tbP P) (ctP P) 16 {} R 59 (cx424 P (numsA xs) (nat t)) (b424 P).1.tail (.list (spots (n + 1)) :: rest) k = k (.ret (nat ((8 * n * n + 3 * n + 2 * xs.length + 6) % 79 % t))) (.list (spots (n + 1)) :: rest) := by
  have l1 := len_lst (numsA xs) (.list (spots (n + 1)) :: rest) (by rw [List.length_map]; (clear hn ht hb; omega))
  rw [List.length_map] at l1
  have hn2 : n * n ≤ 1000 * 1000 := Nat.mul_le_mul hn hn
  have i0 : idxL (spots (n + 1)) (-1) = some (nat n) := by rw [← spots_succ]; exact idx_last n
  have m1 : binA .Mult (.int 8) (nat n) = _ := mul_nat (a := 8) (b := n) (by decide) (by omega)
  have m3 : binA .Mult (.int 3) (nat n) = _ := mul_nat (a := 3) (b := n) (by decide) (by omega)
  have m4 : binA .Mult (.int 2) (nat xs.length) = _ := mul_nat (a := 2) (b := xs.length) (by decide) (by omega)
  have m5 : binA .Add (nat (8 * n * n + 3 * n + 2 * xs.length)) (.int 6) = some (nat (8 * n * n + 3 * n + 2 * xs.length + 6)) := add_nat _ 6
  have m6 : binA .Mod (nat (8 * n * n + 3 * n + 2 * xs.length + 6)) (.int 79) = some (nat ((8 * n * n + 3 * n + 2 * xs.length + 6) % 79)) := mod_nat _ (b := 79) (by decide)
  rw [pull_2]
  rw [i0, opt_some, l1, opt_some, lt_nat, opt_some, decide_eq_false hb]
  rw [if_neg (by decide), opt_some, m1, opt_some, opt_some, (mul_nat (a := 8 * n) (b := n) (by omega) (by omega)), opt_some, opt_some, m3, opt_some, add_nat, opt_some, opt_some, m4, opt_some, add_nat, opt_some, m5, opt_some, m6, opt_some, mod_nat _ ht, opt_some]
theorem pull {xs : List Int} {n t : Nat} {rest : Sto} (hx : xs.length ≤ 48) (hn : n ≤ 1000) (ht : 0 < t) : E P 3 (fnA 424) [.lst (numsA xs), .loc 0, nat t] (.list (spots n) :: rest) (nat (drawn xs n t)) (.list (spots (n + 1)) :: rest) := by
  refine callTop_ev (D := 16) (N := 60) (M := 0) (tabs_ok P) (qs [] false) 2 {} _ _ _ ?_
  refine (?_ : Sat _ (top P {} (qs [] false) 2 424 [.lst (numsA xs), .loc 0, nat t] (.list (spots n) :: rest)) _)
  rw [pull_a hn]
  by_cases hb : n < xs.length
  · rw [pull_b hx hn ht hb]
    have h2 : nat (drawn xs n t) = .int (Int.fmod (xs.getD n 0) t) := by
      unfold drawn nat
      exact (if_pos hb) ▸ congrArg _ (Int.toNat_of_nonneg (Int.fmod_nonneg_of_pos (xs.getD n 0) (b := (t : Int)) (by (clear hx hn hb; omega))))
    exact h2 ▸ rfl
  · rw [pull_c hx hn ht hb]
    have h2 : drawn xs n t = (8 * n * n + 3 * n + 2 * xs.length + 6) % 79 % t := by
      unfold drawn
      exact if_neg hb
    exact h2 ▸ rfl
end
end Og
end
section
set_option maxRecDepth 1000000
set_option Elab.async false
namespace Og
open PySem PySem.W PyProof.Rows PySem.Calls PySem.Spec
/-! ## the drawn sets -/
noncomputable def knownA (k : Nat) : AV := match k with
  | 0 => .lst []
  | 1 => .lst [.str (nmV false)]
  | _ => .lst [.str (nmV false), .str (nmV true)]
noncomputable abbrev drw (xs : List Int) : AV := .tup [.lst (numsA xs), .loc 0]
noncomputable abbrev stN (n : Nat) (rest : Sto) : Sto := .list (spots n) :: rest
theorem q1 {a b c n i j : Nat} (g : a ≤ n + i + j) (h : n ≤ b) (e : Nat.ble (b + (i + j)) c = true) : a ≤ c :=
  Nat.le_trans g (Nat.le_trans (Nat.add_assoc n i j ▸ Nat.add_le_add_right h (i + j)) (k0 e))
theorem q2 {a N n i j l : Nat} (g : a ≤ n + i + j) (h : n + l ≤ N) (e : Nat.ble (i + j) l = true) : a ≤ N := Nat.le_trans (k5 g e) h
theorem q3 {a c n i j k : Nat} (g : a ≤ n + i + j) (e : Nat.ble (i + j) k = true) : a ≤ n + (c + k) :=
  Nat.le_trans (k5 g e) (Nat.add_le_add_left (Nat.le_add_left k c) n)
theorem q4 {a c n i k : Nat} (g : a ≤ n + i + c) (e : Nat.ble i k = true) : a ≤ n + (c + k) := by
  rw [Nat.add_comm c, ← Nat.add_assoc]; exact Nat.le_trans g (Nat.add_le_add_right (Nat.add_le_add_left (k0 e) n) c)
theorem q5 {a b c n i j k : Nat} (g : a ≤ b + c) (h : b ≤ n + i + j) (e : Nat.ble (i + j) k = true) : a ≤ n + (c + k) := by
  rw [Nat.add_comm c, ← Nat.add_assoc]; exact Nat.le_trans g (Nat.add_le_add_right (k5 h e) c)
theorem q6 {a b c l n i j k : Nat} (g : a ≤ b + l) (h : b ≤ n + i + j) (e : Nat.ble (i + j + l) k = true) : a ≤ n + (c + k) :=
  Nat.le_trans (k6 g h e) (Nat.add_le_add_left (Nat.le_add_left k c) n)
theorem q7 {a i j B : Nat} (h : a ≤ i) (g : j ≤ B) (e : Nat.ble i j = true) : a ≤ B := Nat.le_trans h (Nat.le_trans (k0 e) g)
theorem q8 {a b B : Nat} (h : a ≤ B) (g : b ≤ B) : max a b + 1 ≤ B + 1 := Nat.succ_le_succ (Nat.max_le.2 ⟨h, g⟩)
section
variable {P : Params} {xs : List Int} {rest : Sto}
noncomputable def cP (xs : List Int) (rest : Sto) (n t v : Nat) : CallR := (fnA 424, [.lst (numsA xs), .loc 0, nat t], stN n rest, nat v, stN (n + 1) rest)
noncomputable def argA (xs : List Int) (kn d : Nat) : List AV := [drw xs, knownA kn, nat d]
noncomputable def cA (xs : List Int) (rest : Sto) (kn d n : Nat) (a : At) (n' : Nat) : CallR := (fnA 431, argA xs kn d, stN n rest, a.enc, stN n' rest)
noncomputable def PE (P : Params) (xs : List Int) (rest : Sto) (n t v : Nat) : Prop := E P 3 (fnA 424) [.lst (numsA xs), .loc 0, nat t] (stN n rest) (nat v) (stN (n + 1) rest)
theorem PE.up {n t v M : Nat} (h : PE P xs rest n t v) (hm : 3 ≤ M) : E P M (fnA 424) [.lst (numsA xs), .loc 0, nat t] (stN n rest) (nat v) (stN (n + 1) rest) := E.up h hm
inductive Pull (P : Params) (xs : List Int) (rest : Sto) (n t : Nat) : Prop
  | mk (v : Nat) (h : v < t) (p : PE P xs rest n t v)
theorem pull' (hx : xs.length ≤ 48) {n t : Nat} (hn : n ≤ 1000) (ht : 0 < t) : Pull P xs rest n t :=
  ⟨drawn xs n t, drawn_lt xs n ht, pull hx hn ht⟩
theorem Pull.m {n t : Nat} {G : Prop} (h : Pull P xs rest n t) (k : ∀ v, v ∈ List.range t → PE P xs rest n t v → G) : G := by
  obtain ⟨v, a, b⟩ := h
  exact k v (List.mem_range.2 a) b
theorem ltz_no {p : Nat → Prop} {v : Nat} (h : v < 0) : p v := absurd h (Nat.not_lt_zero v)
theorem e1 {p : Nat → Prop} {v : Nat} (h : v < 1) (a0 : p 0) : p v := lts (p := p) h ltz_no a0
theorem e2 {p : Nat → Prop} {v : Nat} (h : v < 2) (a0 : p 0) (a1 : p 1) : p v := lts (p := p) h (fun h => e1 (p := p) h a0) a1
theorem e3 {p : Nat → Prop} {v : Nat} (h : v < 3) (a0 : p 0) (a1 : p 1) (a2 : p 2) : p v := lts (p := p) h (fun h => e2 (p := p) h a0 a1) a2
theorem e4 {p : Nat → Prop} {v : Nat} (h : v < 4) (a0 : p 0) (a1 : p 1) (a2 : p 2) (a3 : p 3) : p v := lts (p := p) h (fun h => e3 (p := p) h a0 a1 a2) a3
theorem e5 {p : Nat → Prop} {v : Nat} (h : v < 5) (a0 : p 0) (a1 : p 1) (a2 : p 2) (a3 : p 3) (a4 : p 4) : p v := lts (p := p) h (fun h => e4 (p := p) h a0 a1 a2 a3) a4
theorem e6 {p : Nat → Prop} {v : Nat} (h : v < 6) (a0 : p 0) (a1 : p 1) (a2 : p 2) (a3 : p 3) (a4 : p 4) (a5 : p 5) : p v := lts (p := p) h (fun h => e5 (p := p) h a0 a1 a2 a3 a4) a5
theorem e7 {p : Nat → Prop} {v : Nat} (h : v < 7) (a0 : p 0) (a1 : p 1) (a2 : p 2) (a3 : p 3) (a4 : p 4) (a5 : p 5) (a6 : p 6) : p v := lts (p := p) h (fun h => e6 (p := p) h a0 a1 a2 a3 a4 a5) a6
theorem e8 {p : Nat → Prop} {v : Nat} (h : v < 8) (a0 : p 0) (a1 : p 1) (a2 : p 2) (a3 : p 3) (a4 : p 4) (a5 : p 5) (a6 : p 6) (a7 : p 7) : p v := lts (p := p) h (fun h => e7 (p := p) h a0 a1 a2 a3 a4 a5 a6) a7
theorem e9 {p : Nat → Prop} {v : Nat} (h : v < 9) (a0 : p 0) (a1 : p 1) (a2 : p 2) (a3 : p 3) (a4 : p 4) (a5 : p 5) (a6 : p 6) (a7 : p 7) (a8 : p 8) : p v := lts (p := p) h (fun h => e8 (p := p) h a0 a1 a2 a3 a4 a5 a6 a7) a8
theorem e10 {p : Nat → Prop} {v : Nat} (h : v < 10) (a0 : p 0) (a1 : p 1) (a2 : p 2) (a3 : p 3) (a4 : p 4) (a5 : p 5) (a6 : p 6) (a7 : p 7) (a8 : p 8) (a9 : p 9) : p v := lts (p := p) h (fun h => e9 (p := p) h a0 a1 a2 a3 a4 a5 a6 a7 a8) a9
theorem Pull.c1 {n : Nat} {G : Prop} (h : Pull P xs rest n 1) (k0 : PE P xs rest n 1 0 → G) : G := by
  obtain ⟨v, a, b⟩ := h
  exact e1 (p := fun v => PE P xs rest n 1 v → G) a k0 b
theorem Pull.c2 {n : Nat} {G : Prop} (h : Pull P xs rest n 2) (k0 : PE P xs rest n 2 0 → G) (k1 : PE P xs rest n 2 1 → G) : G := by
  obtain ⟨v, a, b⟩ := h
  exact e2 (p := fun v => PE P xs rest n 2 v → G) a k0 k1 b
theorem Pull.c3 {n : Nat} {G : Prop} (h : Pull P xs rest n 3) (k0 : PE P xs rest n 3 0 → G) (k1 : PE P xs rest n 3 1 → G) (k2 : PE P xs rest n 3 2 → G) : G := by
  obtain ⟨v, a, b⟩ := h
  exact e3 (p := fun v => PE P xs rest n 3 v → G) a k0 k1 k2 b
theorem Pull.c4 {n : Nat} {G : Prop} (h : Pull P xs rest n 4) (k0 : PE P xs rest n 4 0 → G) (k1 : PE P xs rest n 4 1 → G) (k2 : PE P xs rest n 4 2 → G) (k3 : PE P xs rest n 4 3 → G) : G := by
  obtain ⟨v, a, b⟩ := h
  exact e4 (p := fun v => PE P xs rest n 4 v → G) a k0 k1 k2 k3 b
theorem Pull.c6 {n : Nat} {G : Prop} (h : Pull P xs rest n 6) (k0 : PE P xs rest n 6 0 → G) (k1 : PE P xs rest n 6 1 → G) (k2 : PE P xs rest n 6 2 → G) (k3 : PE P xs rest n 6 3 → G) (k4 : PE P xs rest n 6 4 → G) (k5 : PE P xs rest n 6 5 → G) : G := by
  obtain ⟨v, a, b⟩ := h
  exact e6 (p := fun v => PE P xs rest n 6 v → G) a k0 k1 k2 k3 k4 k5 b
theorem Pull.c10 {n : Nat} {G : Prop} (h : Pull P xs rest n 10) (k0 : PE P xs rest n 10 0 → G) (k1 : PE P xs rest n 10 1 → G) (k2 : PE P xs rest n 10 2 → G) (k3 : PE P xs rest n 10 3 → G) (k4 : PE P xs rest n 10 4 → G) (k5 : PE P xs rest n 10 5 → G) (k6 : PE P xs rest n 10 6 → G) (k7 : PE P xs rest n 10 7 → G) (k8 : PE P xs rest n 10 8 → G) (k9 : PE P xs rest n 10 9 → G) : G := by
  obtain ⟨v, a, b⟩ := h
  exact e10 (p := fun v => PE P xs rest n 10 v → G) a k0 k1 k2 k3 k4 k5 k6 k7 k8 k9 b
theorem kn3 {k : Nat} {p : Nat → Prop} (h : k ≤ 2) (a : p 0) (b : p 1) (c : p 2) : p k :=
  e3 (p := p) (Nat.lt_succ_of_le h) a b c
theorem kn_mem {k : Nat} (h : k ≤ 2) : k ∈ List.range 3 := List.mem_range.2 (Nat.lt_succ_of_le h)
inductive AtOk (P : Params) (xs : List Int) (rest : Sto) (M c kn n d : Nat) : Prop
  | mk (a : At) (n' : Nat) (s : a.sc kn) (e : a.dp ≤ d + 2) (h : n' ≤ n + c) (p : E P M (fnA 431) (argA xs kn d) (stN n rest) a.enc (stN n' rest))
theorem atoms0 (hx : xs.length ≤ 48) {n kn : Nat} (hn : n ≤ 900) (hk : kn ≤ 2) : AtOk P xs rest 6 2 kn n 0 :=
  have km := kn_mem hk
  (pull' (P := P) (rest := rest) hx (k1 hn rfl) (k0 rfl)).c4
    (fun p => ⟨.rel false, n + 1, trivial, k0 rfl, Nat.add_le_add_left (k0 rfl) n, (by exact go1 2 [424, 431] (argA xs · 0) (fun kn => [cP xs rest n 4 0]) km (Oks.cons p Oks.nil) (by kernel_rfl))⟩)
    (fun p => ⟨.rel true, n + 1, trivial, k0 rfl, Nat.add_le_add_left (k0 rfl) n, (by exact go1 2 [424, 431] (argA xs · 0) (fun kn => [cP xs rest n 4 1]) km (Oks.cons p Oks.nil) (by kernel_rfl))⟩)
    (fun p => ⟨.univ, n + 1, trivial, k0 rfl, Nat.add_le_add_left (k0 rfl) n, (by exact go1 2 [424, 431] (argA xs · 0) (fun kn => [cP xs rest n 4 2]) km (Oks.cons p Oks.nil) (by kernel_rfl))⟩)
    (fun p => kn3 (p := fun kn => AtOk P xs rest 6 2 kn n 0) hk
      ⟨.later (.rel false), n + 1, trivial, k0 rfl, Nat.add_le_add_left (k0 rfl) n, go 2 [424, 431] [hy p] (by kernel_rfl)⟩
      ((pull' (P := P) (rest := rest) (n := n + 1) (t := 1) hx (k2 hn rfl) (k0 rfl)).c1 fun q => ⟨.var false, n + 2, k0 rfl, k0 rfl, Nat.le_refl _, go 2 [424, 431] [hy p, hy q] (by kernel_rfl)⟩)
      ((pull' (P := P) (rest := rest) (n := n + 1) (t := 2) hx (k2 hn rfl) (k0 rfl)).c2
        (fun q => ⟨.var false, n + 2, k0 rfl, k0 rfl, Nat.le_refl _, go 2 [424, 431] [hy p, hy q] (by kernel_rfl)⟩)
        fun q => ⟨.var true, n + 2, k0 rfl, k0 rfl, Nat.le_refl _, go 2 [424, 431] [hy p, hy q] (by kernel_rfl)⟩))
noncomputable def opN (u : Nat) : Op3 := match u with | 0 => .meet | 1 => .union | _ => .minus
theorem atoms1 (hx : xs.length ≤ 48) {n kn : Nat} (hn : n ≤ 850) (hk : kn ≤ 2) : AtOk P xs rest 9 6 kn n 1 :=
  have km := kn_mem hk
  have m3 : 3 ≤ 6 := k0 rfl
  (pull' (P := P) (rest := rest) hx (k1 hn rfl) (k0 rfl)).c6
    (fun p => ⟨.rel false, n + 1, trivial, k0 rfl, Nat.add_le_add_left (k0 rfl) n, (by exact go1 (M := 6) 2 [424, 431] (argA xs · 1) (fun kn => [cP xs rest n 6 0]) km (Oks.cons (p.up m3) Oks.nil) (by kernel_rfl))⟩)
    (fun p => ⟨.rel true, n + 1, trivial, k0 rfl, Nat.add_le_add_left (k0 rfl) n, (by exact go1 (M := 6) 2 [424, 431] (argA xs · 1) (fun kn => [cP xs rest n 6 1]) km (Oks.cons (p.up m3) Oks.nil) (by kernel_rfl))⟩)
    (fun p => ⟨.univ, n + 1, trivial, k0 rfl, Nat.add_le_add_left (k0 rfl) n, (by exact go1 (M := 6) 2 [424, 431] (argA xs · 1) (fun kn => [cP xs rest n 6 2]) km (Oks.cons (p.up m3) Oks.nil) (by kernel_rfl))⟩)
    (fun p => kn3 (p := fun kn => AtOk P xs rest 9 6 kn n 1) hk
      ⟨.later (.rel false), n + 1, trivial, k0 rfl, Nat.add_le_add_left (k0 rfl) n, go (M := 6) 2 [424, 431] [hy (p.up m3)] (by kernel_rfl)⟩
      ((pull' (P := P) (rest := rest) (n := n + 1) (t := 1) hx (k2 hn rfl) (k0 rfl)).c1 fun q => ⟨.var false, n + 2, k0 rfl, k0 rfl, Nat.add_le_add_left (k0 rfl) n, go (M := 6) 2 [424, 431] [hy (p.up m3), hy (q.up m3)] (by kernel_rfl)⟩)
      ((pull' (P := P) (rest := rest) (n := n + 1) (t := 2) hx (k2 hn rfl) (k0 rfl)).c2
        (fun q => ⟨.var false, n + 2, k0 rfl, k0 rfl, Nat.add_le_add_left (k0 rfl) n, go (M := 6) 2 [424, 431] [hy (p.up m3), hy (q.up m3)] (by kernel_rfl)⟩)
        fun q => ⟨.var true, n + 2, k0 rfl, k0 rfl, Nat.add_le_add_left (k0 rfl) n, go (M := 6) 2 [424, 431] [hy (p.up m3), hy (q.up m3)] (by kernel_rfl)⟩))
    (fun p => by
      obtain ⟨a, n', ha, hd, hn', q⟩ := atoms0 (P := P) (rest := rest) hx (n := n + 1) (k2 hn rfl) hk
      exact ⟨.later a, n', ha, Nat.succ_le_succ hd, k5 hn' rfl, (by exact go1 (M := 6) 2 [424, 431] (argA xs · 1) (fun kn => [cP xs rest n 6 4, cA xs rest kn 0 (n + 1) a n']) km (Oks.cons (p.up m3) (Oks.cons q Oks.nil)) (by kernel_rfl))⟩)
    (fun p => (pull' (P := P) (rest := rest) (n := n + 1) (t := 3) hx (k2 hn rfl) (k0 rfl)).m fun u um q => by
      obtain ⟨a, n1, ha, hd, hn1, q1'⟩ := atoms0 (P := P) (rest := rest) hx (n := n + 2) (k2 hn rfl) hk
      obtain ⟨b, n2, hb, he, hn2, q2'⟩ := atoms0 (P := P) (rest := rest) hx (n := n1) (q1 hn1 hn rfl) hk
      exact ⟨.bin (opN u) a b, n2, ⟨ha, hb⟩, q8 hd he, k6 hn2 (hn1 : n1 ≤ n + 2 + 2) rfl,
        (by exact go2 (M := 6) 2 [424, 431] (fun kn D0 => argA xs kn 1) (fun D0 u => At.enc (.bin (opN u) a b)) (fun kn u => [cP xs rest n 6 5, cP xs rest (n + 1) 3 u, cA xs rest kn 0 (n + 2) a n1, cA xs rest kn 0 n1 b n2]) (xs := (List.range 3).flatMap fun k => (List.range 3).map (k, ·)) (List.mem_flatMap.2 (Og.I12 _ km (List.mem_map_of_mem um))) (Oks.cons (p.up m3) (Oks.cons (q.up m3) (Oks.cons q1' (Oks.cons q2' Oks.nil)))) (by kernel_rfl))⟩)
end
end Og
end
section
set_option maxRecDepth 1000000
set_option Elab.async false
namespace Og
open PySem PySem.W PyProof.Rows PySem.Calls PySem.Spec
/-! ## the drawn formulas -/
noncomputable def cC (xs : List Int) (rest : Sto) (kn d n : Nat) (f : Cl) (n' : Nat) : CallR := (fnA 438, argA xs kn d, stN n rest, f.enc, stN n' rest)
inductive ClOk (P : Params) (xs : List Int) (rest : Sto) (M c kn n d B : Nat) : Prop
  | mk (f : Cl) (n' : Nat) (s : f.sc kn) (e : f.dp ≤ B) (h : n' ≤ n + c) (p : E P M (fnA 438) (argA xs kn d) (stN n rest) f.enc (stN n' rest))
section
variable {P : Params} {xs : List Int} {rest : Sto}
theorem claim0 (hx : xs.length ≤ 48) {n kn : Nat} (hn : n ≤ 800) (hk : kn ≤ 2) : ClOk P xs rest 12 9 kn n 0 4 :=
  have km := kn_mem hk
  have m3 : 3 ≤ 9 := k0 rfl
  (pull' (P := P) (rest := rest) hx (k1 hn rfl) (k0 rfl)).c3
    (fun p => by
      obtain ⟨a, n1, ha, hd, hn1, q⟩ := atoms1 (P := P) (rest := rest) hx (n := n + 1) (k2 hn rfl) hk
      exact ⟨.some a, n1, ha, Nat.succ_le_succ hd, k5 hn1 rfl, (by exact go1 (M := 9) 2 [424, 431, 438] (argA xs · 0) (fun kn => [cP xs rest n 3 0, cA xs rest kn 1 (n + 1) a n1]) km (Oks.cons (p.up m3) (Oks.cons q Oks.nil)) (by kernel_rfl))⟩)
    (fun p => by
      obtain ⟨a, n1, ha, hd, hn1, q⟩ := atoms1 (P := P) (rest := rest) hx (n := n + 1) (k2 hn rfl) hk
      exact ⟨.no a, n1, ha, Nat.succ_le_succ hd, k5 hn1 rfl, (by exact go1 (M := 9) 2 [424, 431, 438] (argA xs · 0) (fun kn => [cP xs rest n 3 1, cA xs rest kn 1 (n + 1) a n1]) km (Oks.cons (p.up m3) (Oks.cons q Oks.nil)) (by kernel_rfl))⟩)
    (fun p => by
      obtain ⟨a, n1, ha, hd, hn1, q⟩ := atoms0 (P := P) (rest := rest) hx (n := n + 1) (k2 hn rfl) hk
      obtain ⟨b, n2, hb, he, hn2, r⟩ := atoms1 (P := P) (rest := rest) hx (n := n1) (q1 hn1 hn rfl) hk
      exact ⟨.inn a b, n2, ⟨ha, hb⟩, q8 (Nat.le_succ_of_le hd) he, k6 hn2 hn1 rfl, (by exact go1 (M := 9) 2 [424, 431, 438] (argA xs · 0) (fun kn => [cP xs rest n 3 2, cA xs rest kn 0 (n + 1) a n1, cA xs rest kn 1 n1 b n2]) km (Oks.cons (p.up m3) (Oks.cons (q.up (k0 rfl : 6 ≤ 9)) (Oks.cons r Oks.nil))) (by kernel_rfl))⟩)
noncomputable def kds : List (Nat × Nat) := [(0, 0), (1, 0), (0, 1)]
theorem kds_le {kn d : Nat} (h : (kn, d) ∈ kds) : kn ≤ 2 := (show ∀ x ∈ kds, x.1 ≤ 2 by decide) _ h
noncomputable def tmN (u : Nat) : Tm := match u with | 0 => .always | 1 => .after | _ => .eventually
theorem kds_qu {kn d : Nat} (h : (kn, d) ∈ kds) : kn = (if (kn == 1) = true then 1 else 0) := (show ∀ x ∈ kds, x.1 = if (x.1 == 1) = true then 1 else 0 by decide) _ h
theorem claimS (hx : xs.length ≤ 48) {n kn d M c B N : Nat} (hM : 12 ≤ M) (hB : 4 ≤ B) (hc : 9 ≤ c) (hN : N ≤ 800) (hn : n + 50 ≤ N) (hk : (kn, d) ∈ kds)
    (IH : ∀ k n, k ≤ kn + 1 → n ≤ N → ClOk P xs rest M c k n d B) : ClOk P xs rest (M + 3) (c + 10) kn n (d + 1) (B + 1) :=
  have k2' := kds_le hk
  have m3 : 3 ≤ M := Nat.le_trans (k0 rfl) hM
  have m9 : 9 ≤ M := Nat.le_trans (k0 rfl) hM
  have m12 : 12 ≤ M := hM
  have h7 : n ≤ 750 := Nat.le_of_add_le_add_right (Nat.le_trans hn hN)
  have kk : kn ≤ kn + 1 := Nat.le_succ kn
  (pull' (P := P) (rest := rest) hx (k1 h7 rfl) (k0 rfl)).c10
    (fun p => by
      obtain ⟨a, n1, ha, hd, hn1, q⟩ := atoms1 (P := P) (rest := rest) hx (n := n + 1) (k2 h7 rfl) k2'
      exact ⟨.some a, n1, ha, Nat.succ_le_succ (q7 hd hB rfl), q3 hn1 rfl, (by exact go2 (M := M) 2 [424, 431, 438] (fun kn d => argA xs kn (d + 1)) (fun D0 D1 => Cl.enc (.some a)) (fun kn d => [cP xs rest n 10 0, cA xs rest kn 1 (n + 1) a n1]) hk (Oks.cons (p.up m3) (Oks.cons (q.up m9) Oks.nil)) (by kernel_rfl))⟩)
    (fun p => by
      obtain ⟨a, n1, ha, hd, hn1, q⟩ := atoms1 (P := P) (rest := rest) hx (n := n + 1) (k2 h7 rfl) k2'
      exact ⟨.no a, n1, ha, Nat.succ_le_succ (q7 hd hB rfl), q3 hn1 rfl, (by exact go2 (M := M) 2 [424, 431, 438] (fun kn d => argA xs kn (d + 1)) (fun D0 D1 => Cl.enc (.no a)) (fun kn d => [cP xs rest n 10 1, cA xs rest kn 1 (n + 1) a n1]) hk (Oks.cons (p.up m3) (Oks.cons (q.up m9) Oks.nil)) (by kernel_rfl))⟩)
    (fun p => by
      obtain ⟨a, n1, ha, hd, hn1, q⟩ := atoms0 (P := P) (rest := rest) hx (n := n + 1) (k2 h7 rfl) k2'
      obtain ⟨b, n2, hb, he, hn2, r⟩ := atoms1 (P := P) (rest := rest) hx (n := n1) (q1 hn1 h7 rfl) k2'
      exact ⟨.inn a b, n2, ⟨ha, hb⟩, q8 (q7 hd hB rfl) (q7 he hB rfl), q6 hn2 hn1 rfl, (by exact go2 (M := M) 2 [424, 431, 438] (fun kn d => argA xs kn (d + 1)) (fun D0 D1 => Cl.enc (.inn a b)) (fun kn d => [cP xs rest n 10 2, cA xs rest kn 0 (n + 1) a n1, cA xs rest kn 1 n1 b n2]) hk (Oks.cons (p.up m3) (Oks.cons (q.up (Nat.le_trans (k0 rfl) hM : 6 ≤ M)) (Oks.cons (r.up m9) Oks.nil))) (by kernel_rfl))⟩)
    (fun p => by
      obtain ⟨f, n1, ha, hd, hn1, q⟩ := IH kn (n + 1) kk (k4l hn rfl)
      exact ⟨.not f, n1, ha, Nat.succ_le_succ hd, q4 hn1 rfl, (by exact go2 (M := M) 2 [424, 431, 438] (fun kn d => argA xs kn (d + 1)) (fun D0 D1 => Cl.enc (.not f)) (fun kn d => [cP xs rest n 10 3, cC xs rest kn d (n + 1) f n1]) hk (Oks.cons (p.up m3) (Oks.cons q Oks.nil)) (by kernel_rfl))⟩)
    (fun p => (pull' (P := P) (rest := rest) (n := n + 1) (t := 3) hx (k2 h7 rfl) (k0 rfl)).m fun u um r => by
      obtain ⟨f, n1, ha, hd, hn1, q⟩ := IH kn (n + 2) kk (k4l hn rfl)
      exact ⟨.tm (tmN u) f, n1, ha, Nat.succ_le_succ hd, q4 hn1 rfl, (by exact go3 (M := M) 2 [424, 431, 438] (fun kn d D0 => argA xs kn (d + 1)) (fun kn D0 u => Cl.enc (.tm (tmN u) f)) (fun kn d u => [cP xs rest n 10 4, cP xs rest (n + 1) 3 u, cC xs rest kn d (n + 2) f n1]) hk um (Oks.cons (p.up m3) (Oks.cons (r.up m3) (Oks.cons q Oks.nil))) (by kernel_rfl))⟩)
    (fun p => by
      obtain ⟨f, n1, ha, hd, hn1, q⟩ := claim0 (P := P) (rest := rest) hx (n := n + 1) (k2 h7 rfl) k2'
      obtain ⟨g, n2, hb, he, hn2, r⟩ := IH kn n1 kk (q2 hn1 hn rfl)
      exact ⟨.bo false f g, n2, ⟨ha, hb⟩, q8 (Nat.le_trans hd hB) he, q5 hn2 hn1 rfl, (by exact go2 (M := M) 2 [424, 431, 438] (fun kn d => argA xs kn (d + 1)) (fun D0 D1 => Cl.enc (.bo false f g)) (fun kn d => [cP xs rest n 10 5, cC xs rest kn 0 (n + 1) f n1, cC xs rest kn d n1 g n2]) hk (Oks.cons (p.up m3) (Oks.cons (q.up m12) (Oks.cons r Oks.nil))) (by kernel_rfl))⟩)
    (fun p => by
      obtain ⟨f, n1, ha, hd, hn1, q⟩ := claim0 (P := P) (rest := rest) hx (n := n + 1) (k2 h7 rfl) k2'
      obtain ⟨g, n2, hb, he, hn2, r⟩ := IH kn n1 kk (q2 hn1 hn rfl)
      exact ⟨.bo true f g, n2, ⟨ha, hb⟩, q8 (Nat.le_trans hd hB) he, q5 hn2 hn1 rfl, (by exact go2 (M := M) 2 [424, 431, 438] (fun kn d => argA xs kn (d + 1)) (fun D0 D1 => Cl.enc (.bo true f g)) (fun kn d => [cP xs rest n 10 6, cC xs rest kn 0 (n + 1) f n1, cC xs rest kn d n1 g n2]) hk (Oks.cons (p.up m3) (Oks.cons (q.up m12) (Oks.cons r Oks.nil))) (by kernel_rfl))⟩)
    (fun p => by
      obtain ⟨f, n1, ha, hd, hn1, q⟩ := claim0 (P := P) (rest := rest) hx (n := n + 1) (k2 h7 rfl) k2'
      obtain ⟨g, n2, hb, he, hn2, r⟩ := IH kn n1 kk (q2 hn1 hn rfl)
      exact ⟨.tu false f g, n2, ⟨ha, hb⟩, q8 (Nat.le_trans hd hB) he, q5 hn2 hn1 rfl, (by exact go2 (M := M) 2 [424, 431, 438] (fun kn d => argA xs kn (d + 1)) (fun D0 D1 => Cl.enc (.tu false f g)) (fun kn d => [cP xs rest n 10 7, cC xs rest kn 0 (n + 1) f n1, cC xs rest kn d n1 g n2]) hk (Oks.cons (p.up m3) (Oks.cons (q.up m12) (Oks.cons r Oks.nil))) (by kernel_rfl))⟩)
    (fun p => by
      obtain ⟨f, n1, ha, hd, hn1, q⟩ := claim0 (P := P) (rest := rest) hx (n := n + 1) (k2 h7 rfl) k2'
      obtain ⟨g, n2, hb, he, hn2, r⟩ := IH kn n1 kk (q2 hn1 hn rfl)
      exact ⟨.tu true f g, n2, ⟨ha, hb⟩, q8 (Nat.le_trans hd hB) he, q5 hn2 hn1 rfl, (by exact go2 (M := M) 2 [424, 431, 438] (fun kn d => argA xs kn (d + 1)) (fun D0 D1 => Cl.enc (.tu true f g)) (fun kn d => [cP xs rest n 10 8, cC xs rest kn 0 (n + 1) f n1, cC xs rest kn d n1 g n2]) hk (Oks.cons (p.up m3) (Oks.cons (q.up m12) (Oks.cons r Oks.nil))) (by kernel_rfl))⟩)
    (fun p => (pull' (P := P) (rest := rest) (n := n + 1) (t := 2) hx (k2 h7 rfl) (k0 rfl)).m fun u um t => by
      obtain ⟨a, n1, ha, hd, hn1, q⟩ := atoms1 (P := P) (rest := rest) hx (n := n + 2) (k2 h7 rfl) k2'
      obtain ⟨g, n2, hb, he, hn2, r⟩ := IH (kn + 1) n1 (Nat.le_refl _) (q2 hn1 hn rfl)
      exact ⟨.qu (u == 1) (kn == 1) a g, n2, Og.I03 (kds_qu hk) ha hb, q8 (q7 hd hB rfl) he, q5 hn2 hn1 rfl,
        (by exact go3 (M := M) 2 [424, 431, 438] (fun kn d D0 => argA xs kn (d + 1)) (fun kn D0 u => Cl.enc (.qu (u == 1) (kn == 1) a g)) (fun kn d u => [cP xs rest n 10 9, cP xs rest (n + 1) 2 u, cA xs rest kn 1 (n + 2) a n1, cC xs rest (kn + 1) d n1 g n2]) hk um (Oks.cons (p.up m3) (Oks.cons (t.up m3) (Oks.cons (q.up m9) (Oks.cons r Oks.nil)))) (by kernel_rfl))⟩)
theorem kd_mem {k d : Nat} {p : Nat → Prop} (h : k ≤ 1) (a : p 0) (b : p 1) : p k := e2 (p := p) (Nat.lt_succ_of_le h) a b
theorem claim1 (hx : xs.length ≤ 48) {n kn : Nat} (hn : n ≤ 750) (hk : kn ≤ 1) : ClOk P xs rest 15 19 kn n 1 5 :=
  claimS (N := 800) hx (k0 rfl) (k0 rfl) (k0 rfl) (k0 rfl) (k2 hn rfl) (kd_mem (d := 0) (p := fun k => (k, 0) ∈ kds) hk (.head _) (.tail _ (.head _)))
    fun k n h g => claim0 hx g (Nat.le_trans h (Nat.succ_le_succ hk))
theorem claim2 (hx : xs.length ≤ 48) {n : Nat} (hn : n ≤ 700) : ClOk P xs rest 18 29 0 n 2 6 :=
  claimS (N := 750) hx (k0 rfl) (k0 rfl) (k0 rfl) (k0 rfl) (k2 hn rfl) (.tail _ (.tail _ (.head _))) fun k n h g => claim1 hx g h
end
end Og
end
section
set_option maxRecDepth 1000000
set_option Elab.async false
namespace Og
open PySem PySem.W PyProof.Rows PySem.Calls PySem.Spec
/-! ## what the law builds -/
noncomputable def bRow (nm : Str) : AV := .tup [.str nm, .int 1, .tup [], encS (true, true)]
noncomputable def U1 : MO := .attrs ["names", "numbers"] [.tup [.str "a", .str "b"], .loc 2]
noncomputable def U2 : MO := .dict [.str "a", .str "b"] [.int 0, .int 1]
noncomputable def B3 : MO := .attrs ["universe", "bounds", "numbers"] [.inst 197 1, .loc 4, .loc 5]
noncomputable def B4 (l : List Str) : MO := .list (l.map bRow)
noncomputable def B5 (l : List Str) : MO := .dict (l.map .str) ((List.range l.length).map nat)
noncomputable def B7 : MO := .attrs ["universe", "bounds", "numbers"] [.inst 197 1, .loc 8, .loc 9]
noncomputable def vAt (k : Nat) : Str := match k with | 0 => "v@0" | 1 => "v@1" | 2 => "v@2" | _ => "v@3"
noncomputable def wAt (k : Nat) : Str := match k with | 0 => "w@0" | 1 => "w@1" | 2 => "w@2" | _ => "w@3"
noncomputable def nmsA (m : Nat) (w : Bool) : List Str := (List.range m).map vAt ++ (if w then (List.range m).map wAt else ["w"])
noncomputable def varyA (w : Bool) : AV := if w then .tup [.int 0, .int 1] else .tup [.int 0]
/-- the whole store behind the unroller -/
noncomputable def usF (m : Nat) (w : Bool) (n : Nat) (rest : Sto) : US := ⟨.list (spots n), U1, U2, B3, B4 ["v", "w"], B5 ["v", "w"], B7, B4 (nmsA m w), B5 (nmsA m w), rest⟩
noncomputable abbrev SF (m l : Nat) (w : Bool) (n : Nat) (rest : Sto) : Sto := uS m l w (usF m w n rest)
section
variable {P : Params} {L0 : MO}
theorem univ_call : E P 5 (fnA 197) [.lst [.str "a", .str "b"]] [L0] (.inst 197 1) [L0, U1, U2] := go (M := 0) 4 [] [] (by kernel_rfl)
theorem bounds_call : E P 5 (fnA 274) [.inst 197 1] [L0, U1, U2] (.inst 274 3) [L0, U1, U2, B3, B4 [], B5 []] := go (M := 0) 4 [] [] (by kernel_rfl)
theorem add_v : E P 9 (fnA 222) [.inst 274 3, .str "v", .int 1, .tup [], encS (true, true)] [L0, U1, U2, B3, B4 [], B5 []] (.int 0) [L0, U1, U2, B3, B4 ["v"], B5 ["v"]] := go (M := 0) 8 [] [] (by kernel_rfl)
theorem add_w : E P 9 (fnA 222) [.inst 274 3, .str "w", .int 1, .tup [], encS (true, true)] [L0, U1, U2, B3, B4 ["v"], B5 ["v"]] (.int 1) [L0, U1, U2, B3, B4 ["v", "w"], B5 ["v", "w"]] := go (M := 0) 8 [] [] (by kernel_rfl)
theorem unr_call {m l : Nat} {w : Bool} {n : Nat} (ok : Ok m l) : E P 11 (fnA 333) [.inst 274 3, varyA w, nat m, nat l] [.list (spots n), U1, U2, B3, B4 ["v", "w"], B5 ["v", "w"]] uI (SF m l w n []) :=
  ok_all (Q := fun m l => E P 11 (fnA 333) [.inst 274 3, varyA w, nat m, nat l] [.list (spots n), U1, U2, B3, B4 ["v", "w"], B5 ["v", "w"]] uI (SF m l w n []))
    (by cases w <;> exact go (M := 0) 10 [] [] (by kernel_rfl)) (by cases w <;> exact go (M := 0) 10 [] [] (by kernel_rfl)) (by cases w <;> exact go (M := 0) 10 [] [] (by kernel_rfl))
    (by cases w <;> exact go (M := 0) 10 [] [] (by kernel_rfl)) (by cases w <;> exact go (M := 0) 10 [] [] (by kernel_rfl)) (by cases w <;> exact go (M := 0) 10 [] [] (by kernel_rfl))
    (by cases w <;> exact go (M := 0) 10 [] [] (by kernel_rfl)) (by cases w <;> exact go (M := 0) 10 [] [] (by kernel_rfl)) (by cases w <;> exact go (M := 0) 10 [] [] (by kernel_rfl)) ok
end
end Og
end
section
set_option maxRecDepth 1000000
set_option Elab.async false
namespace Og
open PySem PySem.W PyProof.Rows PySem.Calls PySem.Spec
noncomputable abbrev RF (F G : Nat → Lot) : Bool → Nat → Lot := fun r k => if r then G k else F k
noncomputable abbrev rowsF (m : Nat) (w : Bool) (F G : Nat → Lot) : List AV := rowsA ((List.range m).map fun k => (rowL w (RF F G) false k, rowL w (RF F G) true k))
section
variable {P : Params} {L0 : MO}
theorem inst_v {m l n : Nat} {F G : Nat → Lot} {rest : Sto} (hm : m = 2 ∨ m = 3 ∨ m = 4) : E P 6 (fnA 463) [uI, .lst (rowsF m true F G), varyA true] (SF m l true n rest) (.lst (insL m true (RF F G))) (SF m l true n rest) := by
  obtain rfl | rfl | rfl := hm
  · exact go (M := 0) 5 [] [] (by kernel_rfl)
  · exact go (M := 0) 5 [] [] (by kernel_rfl)
  · exact go (M := 0) 5 [] [] (by kernel_rfl)
theorem inst_c {m l n : Nat} {F : Nat → Lot} {o : Lot} {rest : Sto} (hm : m = 2 ∨ m = 3 ∨ m = 4) : E P 6 (fnA 463) [uI, .lst (rowsF m false F fun D0 => o), varyA false] (SF m l false n rest) (.lst (insL m false (RF F fun D0 => o))) (SF m l false n rest) := by
  obtain ⟨a, b⟩ := o
  obtain rfl | rfl | rfl := hm
  · cases a <;> cases b <;> exact go (M := 0) 5 [] [] (by kernel_rfl)
  · cases a <;> cases b <;> exact go (M := 0) 5 [] [] (by kernel_rfl)
  · cases a <;> cases b <;> exact go (M := 0) 5 [] [] (by kernel_rfl)
theorem ev_call (i : Nat) {z : ES} {ins : List AV} (hz : z.rest = []) : E P 4 (fnA 404) [nat 2, .lst ins] (match i with
    | 0 => [z.a0, z.a1, z.a2, z.a3, z.a4, z.a5, z.a6, z.a7, z.a8, z.a9, z.a10]
    | 1 => [z.a0, z.a1, z.a2, z.a3, z.a4, z.a5, z.a6, z.a7, z.a8, z.a9, z.a10, z.a11]
    | _ => [z.a0, z.a1, z.a2, z.a3, z.a4, z.a5, z.a6, z.a7, z.a8, z.a9, z.a10, z.a11, z.a12]) (eI i) (eS i z ins) := by
  obtain ⟨a0, a1, a2, a3, a4, a5, a6, a7, a8, a9, a10, a11, a12, rest⟩ := z
  subst hz
  match i with
  | 0 => exact go (M := 0) 3 [] [] (by kernel_rfl)
  | 1 => exact go (M := 0) 3 [] [] (by kernel_rfl)
  | _ + 2 => exact go (M := 0) 3 [] [] (by kernel_rfl)
theorem opened {M m l : Nat} {w : Bool} {s : US} {x y : AV} (h : Told P M m l w s x 0 y) : E P (M + 3) (fnA 304) [uI, x] (uS m l w s) y (uS m l w s) := go 2 [323] [hy h] (by kernel_rfl)
end
end Og
end
section
set_option maxRecDepth 1000000
set_option Elab.async false
namespace Og
open PySem PySem.W PyProof.Rows PySem.Calls PySem.Spec
/-! ## the law's body, in parts -/
noncomputable def b475 (P : Params) : { b : List Stmt // (fdO (o475 P).1).body = .stmts b } := ⟨_, rfl⟩
noncomputable def segA (P : Params) : List Stmt := (b475 P).1.take 6
noncomputable def segB (P : Params) : List Stmt := ((b475 P).1.drop 6).take 5
noncomputable def segC (P : Params) : List Stmt := (b475 P).1.drop 12
noncomputable def sc475 (P : Params) : Scope := (fdO (o475 P).1).scope
noncomputable abbrev segT (P : Params) (q : AV → List AV → Bool) (j : Nat) (md : Md) (n : Nat) (cx : Cx) (body : List Stmt) (st : Sto) : T (Fl × Sto) := exLT (tbP P) (callT (tbP P) 16 60 452 q j) 16 md (Fl × Sto) n cx body st fun fl s => .ret (fl, s)
section
variable {P : Params} {M : Nat}
theorem exL_ev {j : Nat} {q : AV → List AV → Bool} {md : Md} {n : Nat} {cx : Cx} {body : List Stmt} {st : Sto} {z : Fl × Sto} (h : Sat (E P M) (segT P q j md n cx body st) z) {V : Vu} (e1 : V.K = hd.heap_1 P) (e2 : V.cL = 452) {m : Nat} (hm : M + j ≤ m) :
    Lm V m body cx st z.1 z.2 := by
  refine O22 ((exT_sm (D := 16) (e1 ▸ tabs_ok P) (callT_sm (D := 16) (N := 60) e1 e2 (tabs_ok P) q j m hm) n md (Fl × Sto)).2 cx body st _ _ h) ?_; rintro fl' s' e h2
  clear h; subst h2
  exact e
set_option tactic.hygienic true in
noncomputable def viewA (names : List Str) : Fl × Sto → Option (List (Option LV) × Scope × Bool × Sto)
  | (.next cx, st) => some ((names.map fun x => cx.vars.lookup x), cx.sc, cx.lam, st)
  | _ => none
set_option tactic.hygienic true in
/-- what a part of the body leaves: names by name -/
noncomputable def Leaves (O : Orc) (t : T (Fl × Sto)) (names : List Str) (v : List (Option LV) × Scope × Bool × Sto) : Prop := ∃ cx, Sat O t (.next cx, v.2.2.2) ∧ (names.map fun x => cx.vars.lookup x) = v.1 ∧ cx.sc = v.2.1 ∧ cx.lam = v.2.2.1
set_option tactic.hygienic true in
theorem goV {t : T (Fl × Sto)} {names : List Str} {v : List (Option LV) × Scope × Bool × Sto} (as : List (Hyp (E P M))) (ls : List Ans)
    (e : (tr t (as.map fun c => c.1.2.2.2) ls).map (fun p => (p.1, p.2.1, viewA names p.2.2)) = some (as.map (·.1), ls.length, some v))
    (hs : Subs (E P M) (fun i => sb t (as.map fun c => c.1.2.2.2) ls i) 0 ls) : Leaves (E P M) t names v := by
  refine Og.cps fun G kG => ?_
  refine O12 (Option.map_eq_some_iff.mp e) ?_; rintro ⟨p1, p2, p3⟩ e1 e2
  simp only [Prod.mk.injEq] at e2
  refine O03 e2 ?_; clear e2; rintro rfl rfl e3
  obtain ⟨fl, st⟩ := p3
  refine kG ?_
  clear kG
  cases fl with
  | ret a => exact Og.nos e3
  | next cx =>
    simp only [viewA, Option.some.injEq] at e3
    clear e; subst e3
    refine Og.I14 cx (sat_tr t e1 (hyps_all as) fun i b h => ?_) rfl rfl rfl
    have := subs_all hs i b h
    rw [Nat.zero_add] at this
    exact this
end
noncomputable def lotV (v : Nat) : Lot := match v with | 0 => (false, false) | 1 => (true, false) | 2 => (false, true) | _ => (true, true)
noncomputable def fnL (a b c d : Lot) (k : Nat) : Lot := match k with | 0 => a | 1 => b | 2 => c | _ => d
noncomputable def cxA (P : Params) (scr : AV) (xs : List Int) : Cx := ⟨sc475 P, [(("draws" : Str), .v (drw xs)), (("script" : Str), .v scr)], false⟩
noncomputable abbrev tA1 (P : Params) (scr : AV) (xs : List Int) : T (Fl × Sto) := segT P (qs [424] false) 2 { idx := true } 59 (cxA P scr xs) (segA P).tail [.list []]
noncomputable abbrev nmA : List Str := ["draws", "many", "varying", "loop", "line"]
noncomputable def valA (xs : List Int) (m l : Nat) (w : Bool) (F G : Nat → Lot) : List (Option LV) := [some (.v (drw xs)), some (.v (nat m)), some (.v (varyA w)), some (.v (nat l)), some (.ol (rowsF m w F G))]
noncomputable def SegA (P : Params) (scr : AV) (xs : List Int) : Prop := ∃ (m l : Nat) (w : Bool) (F G : Nat → Lot) (n : Nat), Ok m l ∧ n ≤ 12 ∧ (w = false → ∃ o, G = fun D0 => o) ∧
  Leaves (E P 3) (tA1 P scr xs) nmA (valA xs m l w F G, sc475 P, false, stN n [])
section
variable {P : Params} {xs : List Int} {scr : AV}
theorem goQ1 {n t : Nat} {T' : Nat → T Ans} {z : Nat → Ans} (e : (List.range t).map (fun v => tr (T' v) [(nat v, stN (n + 1) [])] []) = mapB (fun v => some ([cP xs [] n t v], 0, z v)) (List.range t)) :
    ∀ v, v < t → PE P xs [] n t v → Goes (E P 3) (T' v) (z v) := fun D0 h p =>
  ⟨sat_tr _ (mapB_mem e (List.mem_range.2 h)) (Oks.cons p Oks.nil) fun i b h => by exact Og.nos h⟩
theorem segA_2_f (hx : xs.length ≤ 48) (p0 : PE P xs [] 0 3 0) (p1 : PE P xs [] 1 2 0) : SegA P scr xs := by
  refine Og.cps fun G kG => ?_
  obtain ⟨l, hl, p2⟩ := pull' (P := P) (rest := []) hx (n := 2) (t := 2) (by decide) (by decide)
  obtain ⟨v3, h3, p3⟩ := pull' (P := P) (rest := []) hx (n := 3) (t := 4) (by decide) (by decide)
  obtain ⟨v4, h4, p4⟩ := pull' (P := P) (rest := []) hx (n := 4) (t := 4) (by decide) (by decide)
  obtain ⟨v5, h5, p5⟩ := pull' (P := P) (rest := []) hx (n := 5) (t := 4) (by decide) (by decide)
  refine kG ?_
  clear kG
  refine ⟨2, l, false, (fnL (lotV v4) (lotV v5) (false, false) (false, false)), (fun D0 => lotV v3), 6, ⟨by decide, hl⟩, by decide, (fun D0 => ⟨_, rfl⟩), ?_⟩
  refine goV [hy p0, hy p2] [(varyA false, stN 2 []), (encS (lotV v3), stN 4 []), (encS (lotV v4), stN 5 []), (encS (lotV v5), stN 6 [])] (by kernel_rfl) (Og.I05 ?_ ?_ ?_ ?_ trivial)
  · exact goQ [hy p1] (by kernel_rfl)
  · revert v3; exact goQ1 (by kernel_rfl)
  · revert v4; exact goQ1 (by kernel_rfl)
  · revert v5; exact goQ1 (by kernel_rfl)
theorem segA_2_t (hx : xs.length ≤ 48) (p0 : PE P xs [] 0 3 0) (p1 : PE P xs [] 1 2 1) : SegA P scr xs := by
  refine Og.cps fun G kG => ?_
  obtain ⟨l, hl, p2⟩ := pull' (P := P) (rest := []) hx (n := 2) (t := 2) (by decide) (by decide)
  obtain ⟨v3, h3, p3⟩ := pull' (P := P) (rest := []) hx (n := 3) (t := 4) (by decide) (by decide)
  obtain ⟨v4, h4, p4⟩ := pull' (P := P) (rest := []) hx (n := 4) (t := 4) (by decide) (by decide)
  obtain ⟨v5, h5, p5⟩ := pull' (P := P) (rest := []) hx (n := 5) (t := 4) (by decide) (by decide)
  obtain ⟨v6, h6, p6⟩ := pull' (P := P) (rest := []) hx (n := 6) (t := 4) (by decide) (by decide)
  obtain ⟨v7, h7, p7⟩ := pull' (P := P) (rest := []) hx (n := 7) (t := 4) (by decide) (by decide)
  refine kG ?_
  clear kG
  refine ⟨2, l, true, (fnL (lotV v4) (lotV v6) (false, false) (false, false)), (fnL (lotV v5) (lotV v7) (false, false) (false, false)), 8, ⟨by decide, hl⟩, by decide, (fun z => by exact absurd z (by decide)), ?_⟩
  refine goV [hy p0, hy p2] [(varyA true, stN 2 []), (encS (lotV v3), stN 4 []), (encS (lotV v4), stN 5 []), (encS (lotV v5), stN 6 []), (encS (lotV v6), stN 7 []), (encS (lotV v7), stN 8 [])] (by kernel_rfl) (Og.I07 ?_ ?_ ?_ ?_ ?_ ?_ trivial)
  · exact goQ [hy p1] (by kernel_rfl)
  · revert v3; exact goQ1 (by kernel_rfl)
  · revert v4; exact goQ1 (by kernel_rfl)
  · revert v5; exact goQ1 (by kernel_rfl)
  · revert v6; exact goQ1 (by kernel_rfl)
  · revert v7; exact goQ1 (by kernel_rfl)
theorem segA_3_f (hx : xs.length ≤ 48) (p0 : PE P xs [] 0 3 1) (p1 : PE P xs [] 1 2 0) : SegA P scr xs := by
  refine Og.cps fun G kG => ?_
  obtain ⟨l, hl, p2⟩ := pull' (P := P) (rest := []) hx (n := 2) (t := 3) (by decide) (by decide)
  obtain ⟨v3, h3, p3⟩ := pull' (P := P) (rest := []) hx (n := 3) (t := 4) (by decide) (by decide)
  obtain ⟨v4, h4, p4⟩ := pull' (P := P) (rest := []) hx (n := 4) (t := 4) (by decide) (by decide)
  obtain ⟨v5, h5, p5⟩ := pull' (P := P) (rest := []) hx (n := 5) (t := 4) (by decide) (by decide)
  obtain ⟨v6, h6, p6⟩ := pull' (P := P) (rest := []) hx (n := 6) (t := 4) (by decide) (by decide)
  refine kG ?_
  clear kG
  refine ⟨3, l, false, (fnL (lotV v4) (lotV v5) (lotV v6) (false, false)), (fun D0 => lotV v3), 7, ⟨by decide, hl⟩, by decide, (fun D0 => ⟨_, rfl⟩), ?_⟩
  refine goV [hy p0, hy p2] [(varyA false, stN 2 []), (encS (lotV v3), stN 4 []), (encS (lotV v4), stN 5 []), (encS (lotV v5), stN 6 []), (encS (lotV v6), stN 7 [])] (by kernel_rfl) (Og.I06 ?_ ?_ ?_ ?_ ?_ trivial)
  · exact goQ [hy p1] (by kernel_rfl)
  · revert v3; exact goQ1 (by kernel_rfl)
  · revert v4; exact goQ1 (by kernel_rfl)
  · revert v5; exact goQ1 (by kernel_rfl)
  · revert v6; exact goQ1 (by kernel_rfl)
theorem segA_3_t (hx : xs.length ≤ 48) (p0 : PE P xs [] 0 3 1) (p1 : PE P xs [] 1 2 1) : SegA P scr xs := by
  refine Og.cps fun G kG => ?_
  obtain ⟨l, hl, p2⟩ := pull' (P := P) (rest := []) hx (n := 2) (t := 3) (by decide) (by decide)
  obtain ⟨v3, h3, p3⟩ := pull' (P := P) (rest := []) hx (n := 3) (t := 4) (by decide) (by decide)
  obtain ⟨v4, h4, p4⟩ := pull' (P := P) (rest := []) hx (n := 4) (t := 4) (by decide) (by decide)
  obtain ⟨v5, h5, p5⟩ := pull' (P := P) (rest := []) hx (n := 5) (t := 4) (by decide) (by decide)
  obtain ⟨v6, h6, p6⟩ := pull' (P := P) (rest := []) hx (n := 6) (t := 4) (by decide) (by decide)
  obtain ⟨v7, h7, p7⟩ := pull' (P := P) (rest := []) hx (n := 7) (t := 4) (by decide) (by decide)
  obtain ⟨v8, h8, p8⟩ := pull' (P := P) (rest := []) hx (n := 8) (t := 4) (by decide) (by decide)
  obtain ⟨v9, h9, p9⟩ := pull' (P := P) (rest := []) hx (n := 9) (t := 4) (by decide) (by decide)
  refine kG ?_
  clear kG
  refine ⟨3, l, true, (fnL (lotV v4) (lotV v6) (lotV v8) (false, false)), (fnL (lotV v5) (lotV v7) (lotV v9) (false, false)), 10, ⟨by decide, hl⟩, by decide, (fun z => by exact nomatch z), ?_⟩
  refine goV [hy p0, hy p2] [(varyA true, stN 2 []), (encS (lotV v3), stN 4 []), (encS (lotV v4), stN 5 []), (encS (lotV v5), stN 6 []), (encS (lotV v6), stN 7 []), (encS (lotV v7), stN 8 []), (encS (lotV v8), stN 9 []), (encS (lotV v9), stN 10 [])] (by kernel_rfl) ⟨?_, ?_, ?_, ?_, ?_, ?_, ?_, ?_, trivial⟩
  · exact goQ [hy p1] (by kernel_rfl)
  · revert v3; exact goQ1 (by kernel_rfl)
  · revert v4; exact goQ1 (by kernel_rfl)
  · revert v5; exact goQ1 (by kernel_rfl)
  · revert v6; exact goQ1 (by kernel_rfl)
  · revert v7; exact goQ1 (by kernel_rfl)
  · revert v8; exact goQ1 (by kernel_rfl)
  · revert v9; exact goQ1 (by kernel_rfl)
theorem segA_4_f (hx : xs.length ≤ 48) (p0 : PE P xs [] 0 3 2) (p1 : PE P xs [] 1 2 0) : SegA P scr xs := by
  refine Og.cps fun G kG => ?_
  obtain ⟨l, hl, p2⟩ := pull' (P := P) (rest := []) hx (n := 2) (t := 4) (by decide) (by decide)
  obtain ⟨v3, h3, p3⟩ := pull' (P := P) (rest := []) hx (n := 3) (t := 4) (by decide) (by decide)
  obtain ⟨v4, h4, p4⟩ := pull' (P := P) (rest := []) hx (n := 4) (t := 4) (by decide) (by decide)
  obtain ⟨v5, h5, p5⟩ := pull' (P := P) (rest := []) hx (n := 5) (t := 4) (by decide) (by decide)
  obtain ⟨v6, h6, p6⟩ := pull' (P := P) (rest := []) hx (n := 6) (t := 4) (by decide) (by decide)
  obtain ⟨v7, h7, p7⟩ := pull' (P := P) (rest := []) hx (n := 7) (t := 4) (by decide) (by decide)
  refine kG ?_
  clear kG
  refine ⟨4, l, false, (fnL (lotV v4) (lotV v5) (lotV v6) (lotV v7)), (fun D0 => lotV v3), 8, ⟨by decide, hl⟩, by decide, (fun D0 => ⟨_, rfl⟩), ?_⟩
  refine goV [hy p0, hy p2] [(varyA false, stN 2 []), (encS (lotV v3), stN 4 []), (encS (lotV v4), stN 5 []), (encS (lotV v5), stN 6 []), (encS (lotV v6), stN 7 []), (encS (lotV v7), stN 8 [])] (by kernel_rfl) (Og.I07 ?_ ?_ ?_ ?_ ?_ ?_ trivial)
  · exact goQ [hy p1] (by kernel_rfl)
  · revert v3; exact goQ1 (by kernel_rfl)
  · revert v4; exact goQ1 (by kernel_rfl)
  · revert v5; exact goQ1 (by kernel_rfl)
  · revert v6; exact goQ1 (by kernel_rfl)
  · revert v7; exact goQ1 (by kernel_rfl)
theorem segA_4_t (hx : xs.length ≤ 48) (p0 : PE P xs [] 0 3 2) (p1 : PE P xs [] 1 2 1) : SegA P scr xs := by
  refine Og.cps fun G kG => ?_
  obtain ⟨l, hl, p2⟩ := pull' (P := P) (rest := []) hx (n := 2) (t := 4) (by decide) (by decide)
  obtain ⟨v3, h3, p3⟩ := pull' (P := P) (rest := []) hx (n := 3) (t := 4) (by decide) (by decide)
  obtain ⟨v4, h4, p4⟩ := pull' (P := P) (rest := []) hx (n := 4) (t := 4) (by decide) (by decide)
  obtain ⟨v5, h5, p5⟩ := pull' (P := P) (rest := []) hx (n := 5) (t := 4) (by decide) (by decide)
  obtain ⟨v6, h6, p6⟩ := pull' (P := P) (rest := []) hx (n := 6) (t := 4) (by decide) (by decide)
  obtain ⟨v7, h7, p7⟩ := pull' (P := P) (rest := []) hx (n := 7) (t := 4) (by decide) (by decide)
  obtain ⟨v8, h8, p8⟩ := pull' (P := P) (rest := []) hx (n := 8) (t := 4) (by decide) (by decide)
  obtain ⟨v9, h9, p9⟩ := pull' (P := P) (rest := []) hx (n := 9) (t := 4) (by decide) (by decide)
  obtain ⟨v10, h10, p10⟩ := pull' (P := P) (rest := []) hx (n := 10) (t := 4) (by decide) (by decide)
  obtain ⟨v11, h11, p11⟩ := pull' (P := P) (rest := []) hx (n := 11) (t := 4) (by decide) (by decide)
  refine kG ?_
  clear kG
  refine ⟨4, l, true, (fnL (lotV v4) (lotV v6) (lotV v8) (lotV v10)), (fnL (lotV v5) (lotV v7) (lotV v9) (lotV v11)), 12, ⟨by decide, hl⟩, by decide, (fun z => by exact nomatch z), ?_⟩
  refine goV [hy p0, hy p2] [(varyA true, stN 2 []), (encS (lotV v3), stN 4 []), (encS (lotV v4), stN 5 []), (encS (lotV v5), stN 6 []), (encS (lotV v6), stN 7 []), (encS (lotV v7), stN 8 []), (encS (lotV v8), stN 9 []), (encS (lotV v9), stN 10 []), (encS (lotV v10), stN 11 []), (encS (lotV v11), stN 12 [])] (by kernel_rfl) ⟨?_, ?_, ?_, ?_, ?_, ?_, ?_, ?_, ?_, ?_, trivial⟩
  · exact goQ [hy p1] (by kernel_rfl)
  · revert v3; exact goQ1 (by kernel_rfl)
  · revert v4; exact goQ1 (by kernel_rfl)
  · revert v5; exact goQ1 (by kernel_rfl)
  · revert v6; exact goQ1 (by kernel_rfl)
  · revert v7; exact goQ1 (by kernel_rfl)
  · revert v8; exact goQ1 (by kernel_rfl)
  · revert v9; exact goQ1 (by kernel_rfl)
  · revert v10; exact goQ1 (by kernel_rfl)
  · revert v11; exact goQ1 (by kernel_rfl)
theorem segA_all (hx : xs.length ≤ 48) : SegA P scr xs :=
  have h : Pull P xs [] 1 2 := pull' hx (k0 rfl) (k0 rfl)
  (pull' (n := 0) hx (k0 rfl) (k0 rfl)).c3 (fun p => h.c2 (segA_2_f hx p) (segA_2_t hx p)) (fun p => h.c2 (segA_3_f hx p) (segA_3_t hx p)) (fun p => h.c2 (segA_4_f hx p) (segA_4_t hx p))
end
end Og
end
section
set_option maxRecDepth 1000000
set_option Elab.async false
namespace Og
open PySem PySem.W PyProof.Rows PySem.Calls PySem.Spec
section
variable {P : Params} {M : Nat}
noncomputable def cx0A (P : Params) (scr : AV) : Cx := ⟨sc475 P, [(("script" : Str), .v scr)], false⟩
noncomputable abbrev t0 (P : Params) (ys : List Int) : T (Fl × Sto) := segT P (qs [424] false) 2 {} 60 (cx0A P (.lst (numsA ys))) ((b475 P).1.take 1) []
theorem seg0_head (ys : List Int) : t0 P ys = opt (sliceA (.list (numsA ys)) none (some 48)) fun a => opt (builtinA (.type "list") [a] []) fun b =>
    .ret (.next ⟨sc475 P, [(("draws" : Str), .v (.tup [b, .loc 0])), (("script" : Str), .v (.lst (numsA ys)))], false⟩, [.list []]) := by kernel_rfl
theorem seg0_run {ys : List Int} (hy : ys.length ≤ 63) : Sat (E P M) (t0 P ys) (.next (cxA P (.lst (numsA ys)) (ys.take 48)), [.list []]) := by
  have e1 : sliceA (.list (numsA ys)) none (some 48) = some (.lst (numsA (ys.take 48))) := by
    refine (?_ : (if decide ((0 : Int) ≤ 48 ∧ (48 : Int) < 2 ^ 20 ∧ (numsA ys).length ≤ big) then some (AV.lst ((numsA ys).take 48)) else none) = _)
    rw [if_pos (by rw [decide_eq_true_eq]; refine ⟨by decide, by decide, ?_⟩; rw [List.length_map]; refine (?_ : _ ≤ 2 ^ 20); omega), ← List.map_take]
  have e2 : builtinA (.type "list") [.lst (numsA (ys.take 48))] [] = some (.lst (numsA (ys.take 48))) := by
    refine (?_ : (if decide ((numsA (ys.take 48)).length ≤ big) then some (AV.lst (numsA (ys.take 48))) else none) = _)
    rw [big_ok (by rw [List.length_map, List.length_take]; omega)]; rfl
  rw [seg0_head, e1, opt_some, e2, opt_some]
  exact rfl
/-! ## the second part: what is built -/
noncomputable def cxB (P : Params) (xs : List Int) (m l : Nat) (w : Bool) (rows : List AV) : Cx := ⟨sc475 P, [(("draws" : Str), .v (drw xs)), (("many" : Str), .v (nat m)), (("varying" : Str), .v (varyA w)), (("loop" : Str), .v (nat l)), (("line" : Str), .ol rows)], false⟩
noncomputable abbrev tB (P : Params) (xs : List Int) (m l : Nat) (w : Bool) (rows : List AV) (n : Nat) : T (Fl × Sto) := segT P (qs [197, 274, 222, 333, 463] false) 2 {} 60 (cxB P xs m l w rows) (segB P) (stN n [])
noncomputable abbrev nmB : List Str := ["draws", "many", "loop", "line", "bounds", "unroller", "instance"]
noncomputable def valB (xs : List Int) (m l : Nat) (rows ins : List AV) : List (Option LV) := [some (.v (drw xs)), some (.v (nat m)), some (.v (nat l)), some (.v (.lst rows)), some (.v (.inst 274 3)), some (.v uI), some (.v (.lst ins))]
theorem segB_run {xs : List Int} {m l n : Nat} {w : Bool} {rows ins : List AV} (ok : Ok m l) (hi : E P 11 (fnA 463) [uI, .lst rows, varyA w] (SF m l w n []) (.lst ins) (SF m l w n [])) :
    Leaves (E P 11) (tB P xs m l w rows n) nmB (valB xs m l rows ins, sc475 P, false, SF m l w n []) :=
  goV [hy (univ_call (L0 := .list (spots n))).up, hy (bounds_call (L0 := .list (spots n))).up, hy (add_v (L0 := .list (spots n))).up, hy (add_w (L0 := .list (spots n))).up, hy (unr_call (m := m) (l := l) (w := w) (n := n) ok), hy hi] [] (by kernel_rfl) trivial
end
end Og
end
section
set_option maxRecDepth 1000000
set_option Elab.async false
namespace Og
open PySem PySem.W PyProof.Rows PySem.Calls PySem.Spec
/-! ## the third part: three laps -/
noncomputable def evsF (ins : List AV) (i : Nat) : Sto := match i with
  | 0 => []
  | 1 => [evO ins]
  | 2 => [evO ins, evO ins]
  | _ => [evO ins, evO ins, evO ins]
noncomputable def cxC (P : Params) (xs : List Int) (m l : Nat) (rows ins : List AV) : Cx := ⟨sc475 P, [(("draws" : Str), .v (drw xs)), (("many" : Str), .v (nat m)), (("loop" : Str), .v (nat l)), (("line" : Str), .v (.lst rows)), (("unroller" : Str), .v uI), (("instance" : Str), .v (.lst ins))], false⟩
noncomputable abbrev tC (P : Params) (xs : List Int) (m l : Nat) (w : Bool) (rows ins : List AV) (n : Nat) : T (Fl × Sto) := segT P (qs [438, 304, 404, 387, 458, 453] false) 2 { cmp := true } 60 (cxC P xs m l rows ins) (segC P) (SF m l w n [])
structure Lap (P : Params) (M : Nat) (xs : List Int) (m l : Nat) (w : Bool) (rows ins : List AV) (i n n' : Nat) (x y : AV) (b : Bool) (tl : Nat → AV) : Prop where
  claim : E P M (fnA 438) [drw xs, .lst [], nat 2] (SF m l w n (evsF ins i)) x (SF m l w n' (evsF ins i))
  opn : E P M (fnA 304) [uI, x] (SF m l w n' (evsF ins i)) y (SF m l w n' (evsF ins i))
  ev : E P M (fnA 404) [nat 2, .lst ins] (SF m l w n' (evsF ins i)) (eI i) (SF m l w n' (evsF ins (i + 1)))
  truth : E P M (fnA 387) [eI i, y, .dct [] []] (SF m l w n' (evsF ins (i + 1))) (.bool b) (SF m l w n' (evsF ins (i + 1)))
  plain : E P M (fnA 458) [y] (SF m l w n' (evsF ins (i + 1))) (.bool true) (SF m l w n' (evsF ins (i + 1)))
  ltru : E P M (fnA 453) [.tup [.lst rows, .lst ((stepsL m l).map nat)], x, .dct [] []] (SF m l w n' (evsF ins (i + 1))) (.lst (.bool b :: (List.range (m - 1)).map tl)) (SF m l w n' (evsF ins (i + 1)))
section
variable {P : Params} {M : Nat}
structure Runs (O : Orc) {R : Type} (t : T R) (z : R) : Prop where
  out : Sat O t z
theorem goR {R : Type} {t : T R} {z : R} (as : List (Hyp (E P M))) (ls : List Ans) (e : tr t (as.map fun c => c.1.2.2.2) ls = some (as.map (·.1), ls.length, z))
    (hs : Subs (E P M) (fun i => sb t (as.map fun c => c.1.2.2.2) ls i) 0 ls) : Runs (E P M) t z := ⟨
  sat_tr t e (hyps_all as) fun i b h => by
    have := subs_all hs i b h
    rw [Nat.zero_add] at this
    exact this⟩
noncomputable def lapC (xs : List Int) (m l : Nat) (w : Bool) (rows ins : List AV) (i n n' : Nat) (x y : AV) (b : Bool) : List CallR :=
  [(fnA 438, [drw xs, .lst [], nat 2], SF m l w n (evsF ins i), x, SF m l w n' (evsF ins i)),
   (fnA 304, [uI, x], SF m l w n' (evsF ins i), y, SF m l w n' (evsF ins i)),
   (fnA 404, [nat 2, .lst ins], SF m l w n' (evsF ins i), eI i, SF m l w n' (evsF ins (i + 1))),
   (fnA 387, [eI i, y, .dct [] []], SF m l w n' (evsF ins (i + 1)), .bool b, SF m l w n' (evsF ins (i + 1))),
   (fnA 458, [y], SF m l w n' (evsF ins (i + 1)), .bool true, SF m l w n' (evsF ins (i + 1)))]
theorem Lap.oks {xs : List Int} {m l : Nat} {w : Bool} {rows ins : List AV} {i n n' : Nat} {x y : AV} {b : Bool} {tl : Nat → AV} (L : Lap P M xs m l w rows ins i n n' x y b tl) : Oks (E P M) (lapC xs m l w rows ins i n n' x y b) :=
  Oks.cons L.claim (Oks.cons L.opn (Oks.cons L.ev (Oks.cons L.truth (Oks.cons L.plain Oks.nil))))
theorem Oks.app {O : Orc} {a b : List CallR} (h : Oks O a) (k : Oks O b) : Oks O (a ++ b) := fun c hc => (List.mem_append.1 hc).elim (h c) (k c)
theorem goR2 {R : Type} {m l : Nat} (t : Nat → Nat → T R) (z : Nat → Nat → R) (as : Nat → Nat → List CallR) (ls : Nat → Nat → List Ans) {xs : List (Nat × Nat)} (h : (m, l) ∈ xs) (p : Oks (E P M) (as m l))
    (e : xs.map (fun x => tr (t x.1 x.2) ((as x.1 x.2).map fun c => c.2.2.2) (ls x.1 x.2)) = mapB (fun x => some (as x.1 x.2, (ls x.1 x.2).length, z x.1 x.2)) xs)
    (hs : Subs (E P M) (fun i => sb (t m l) ((as m l).map fun c => c.2.2.2) (ls m l) i) 0 (ls m l)) : Runs (E P M) (t m l) (z m l) := ⟨
  sat_tr _ (mapB_mem e h) p fun i b h => by
    have := subs_all hs i b h
    rw [Nat.zero_add] at this
    exact this⟩
noncomputable def tfs : List Bool := [true, false]
noncomputable def mls : List (Nat × Nat) := [(2, 0), (2, 1), (3, 0), (3, 1), (3, 2), (4, 0), (4, 1), (4, 2), (4, 3)]
theorem goQ2 {t : Nat → Nat → Bool → T Ans} {z : Nat → Nat → Bool → Ans} {as : Nat → Nat → Bool → List CallR} {L : Nat → Nat → Bool → Prop} (p : ∀ m l b, L m l b → Oks (E P M) (as m l b))
    (e : (mls.flatMap fun p => tfs.map (p, ·)).map (fun x => tr (t x.1.1 x.1.2 x.2) ((as x.1.1 x.1.2 x.2).map fun c => c.2.2.2) []) = mapB (fun x => some (as x.1.1 x.1.2 x.2, 0, z x.1.1 x.1.2 x.2)) (mls.flatMap fun p => tfs.map (p, ·))) :
    ∀ m l, (m, l) ∈ mls → ∀ b, L m l b → Goes (E P M) (t m l b) (z m l b) := fun m l h b k =>
  ⟨sat_tr _ (mapB_mem e (List.mem_flatMap.2 (Og.I12 _ h (List.mem_map_of_mem (by clear k; cases b <;> decide))))) (p m l b k) fun i b h => by exact Og.nos h⟩
theorem segC_one (m l : Nat) (h : (m, l) ∈ mls) {xs : List Int} {w : Bool} {rows ins : List AV} {n0 n1 n2 n3 : Nat} {x0 y0 x1 y1 x2 y2 : AV} (b0 b1 b2 : Bool) {t0 t1 t2 : Nat → AV}
    (L0 : Lap P M xs m l w rows ins 0 n0 n1 x0 y0 b0 t0) (L1 : Lap P M xs m l w rows ins 1 n1 n2 x1 y1 b1 t1) (L2 : Lap P M xs m l w rows ins 2 n2 n3 x2 y2 b2 t2) :
    Runs (E P M) (tC P xs m l w rows ins n0) (.ret (.bool true), SF m l w n3 (evsF ins 3)) := by
  refine goR2 (fun m l => tC P xs m l w rows ins n0) (fun m l => (.ret (.bool true), SF m l w n3 (evsF ins 3))) (fun m l => lapC xs m l w rows ins 0 n0 n1 x0 y0 b0 ++ (lapC xs m l w rows ins 1 n1 n2 x1 y1 b1 ++ lapC xs m l w rows ins 2 n2 n3 x2 y2 b2)) (fun m l => [(.bool false, SF m l w n1 (evsF ins 1)), (.bool false, SF m l w n2 (evsF ins 2)), (.bool false, SF m l w n3 (evsF ins 3))]) h (L0.oks.app (L1.oks.app L2.oks)) (by kernel_rfl) (Og.I04 ?_ ?_ ?_ trivial)
  · clear L1 L2; revert m l b0; exact goQ2 (fun m l b L => Oks.cons L.ltru Oks.nil) (by kernel_rfl)
  · clear L0 L2; revert m l b1; exact goQ2 (fun m l b L => Oks.cons L.ltru Oks.nil) (by kernel_rfl)
  · clear L0 L1; revert m l b2; exact goQ2 (fun m l b L => Oks.cons L.ltru Oks.nil) (by kernel_rfl)
end
end Og
end
section
set_option maxRecDepth 1000000
set_option Elab.async false
namespace Og
open PySem PySem.W PyProof.Rows PySem.Calls PySem.Spec
/-! ## the three laps, from the claims drawn -/
noncomputable def tlF (m l : Nat) (w : Bool) (rest : Sto) : Sto := (SF m l w 0 rest).tail
theorem sf_tl {m l : Nat} {w : Bool} (n : Nat) (rest : Sto) : SF m l w n rest = stN n (tlF m l w rest) := rfl
noncomputable def zF (m l : Nat) (w : Bool) (n : Nat) (ins : List AV) : ES := ⟨.list (spots n), U1, U2, B3, B4 ["v", "w"], B5 ["v", "w"], .attrs ["steps", "loop", "bounds", "places"] [nat m, nat l, .inst 274 7, .loc 10], B7, B4 (nmsA m w), B5 (nmsA m w), .list (plA m w), evO ins, evO ins, []⟩
theorem sf_eS {m l : Nat} {w : Bool} (n i : Nat) (hi : i < 3) (ins : List AV) : eS i (zF m l w n ins) ins = SF m l w n (evsF ins (i + 1)) := by
  match i, hi with
  | 0, _ => rfl
  | 1, _ => rfl
  | 2, _ => rfl
section
variable {P : Params} {xs : List Int} {m l n i : Nat} {w : Bool} {F G : Nat → Lot}
theorem lap_ev (hi : i < 3) (ins : List AV) : E P 4 (fnA 404) [nat 2, .lst ins] (SF m l w n (evsF ins i)) (eI i) (SF m l w n (evsF ins (i + 1))) := by
  match i, hi with
  | 0, _ => exact ev_call 0 (z := zF m l w n ins) rfl
  | 1, _ => exact ev_call 1 (z := zF m l w n ins) rfl
  | 2, _ => exact ev_call 2 (z := zF m l w n ins) rfl
theorem head_map (hm : m = 2 ∨ m = 3 ∨ m = 4) (g : Nat → Bool) : ((List.range m).map g).map AV.bool = .bool (g 0) :: (List.range (m - 1)).map fun k => .bool (g (k + 1)) := by
  obtain rfl | rfl | rfl := hm <;> rfl
theorem ok_mls (ok : Ok m l) : (m, l) ∈ mls := by
  refine Og.cps fun G kG => ?_
  obtain ⟨hm, hl⟩ := ok
  refine kG ?_
  clear kG
  revert hl
  obtain rfl | rfl | rfl := hm <;> intro hl
  · exact e2 (p := fun l => (2, l) ∈ mls) hl (by decide) (by decide)
  · exact e3 (p := fun l => (3, l) ∈ mls) hl (by decide) (by decide) (by decide)
  · exact e4 (p := fun l => (4, l) ∈ mls) hl (by decide) (by decide) (by decide) (by decide)
theorem lap (ok : Ok m l) (hx : xs.length ≤ 48) (hi : i < 3) (hn : n ≤ 700) :
    ∃ n' x y b tl, n' ≤ n + 29 ∧ Lap P 64 xs m l w (rowsF m w F G) (insL m w (RF F G)) i n n' x y b tl := by
  obtain ⟨f, n', hf, hd, hn', q⟩ := claim2 (P := P) (rest := tlF m l w (evsF (insL m w (RF F G)) i)) hx hn
  have h0 : 0 < m := by obtain ⟨hm, hl⟩ := ok; (clear hx hi hn hd hn' hm; omega)
  refine ⟨n', f.enc, f.told m l w 0, semC m l w (RF F G) f 0 [], fun k => .bool (semC m l w (RF F G) f (k + 1) []), hn', ?_, ?_, ?_, ?_, ?_, ?_⟩
  · exact q.up
  · exact (opened (told_cl ok f 0 h0)).up (by omega)
  · exact (lap_ev hi _).up
  · have := truth_cl (P := P) (w := w) (R := RF F G) (i := i) (z := zF m l w n' (insL m w (RF F G))) ok f 0 [] h0 hf
    refine Og.cps fun G kG => ?_
    unfold TruE at this
    rw [sf_eS n' i hi] at this
    refine kG ?_
    clear kG
    exact this.up (by omega)
  · exact (plain_cl ok f 0 h0).up (by omega)
  · have := ltruths (P := P) (w := w) (R := RF F G) (st := SF m l w n' (evsF (insL m w (RF F G)) (i + 1))) ok f [] hf
    unfold LTru at this
    rw [head_map ok.1] at this
    exact this.up (by omega)
theorem segC_all (ok : Ok m l) (hx : xs.length ≤ 48) (hn : n ≤ 12) : ∃ n3, Runs (E P 64) (tC P xs m l w (rowsF m w F G) (insL m w (RF F G)) n) (.ret (.bool true), SF m l w n3 (evsF (insL m w (RF F G)) 3)) := by
  refine O52 (lap (P := P) (F := F) (G := G) (w := w) (n := n) (i := 0) ok hx (by omega) (by omega)) ?_; rintro n1 x0 y0 b0 t0 h1 L0
  refine O52 (lap (P := P) (F := F) (G := G) (w := w) (n := n1) (i := 1) ok hx (by omega) (by omega)) ?_; rintro n2 x1 y1 b1 t1 h2 L1
  refine O52 (lap (P := P) (F := F) (G := G) (w := w) (n := n2) (i := 2) ok hx (by (clear hx hn h1 h2; omega)) (by omega)) ?_; rintro n3 x2 y2 b2 t2 h3 L2
  exact ⟨n3, segC_one m l (ok_mls ok) _ _ _ L0 L1 L2⟩
theorem segB_all (ok : Ok m l) (hw : w = false → ∃ o, G = fun D0 => o) : Leaves (E P 11) (tB P xs m l w (rowsF m w F G) n) nmB (valB xs m l (rowsF m w F G) (insL m w (RF F G)), sc475 P, false, SF m l w n []) := by
  cases w with
  | true => exact segB_run ok (inst_v ok.1).up
  | false =>
    obtain ⟨o, rfl⟩ := hw rfl
    exact segB_run ok (inst_c ok.1).up
end
end Og
end
section
set_option maxRecDepth 1000000
set_option Elab.async false
namespace Og
open PySem PySem.W PyProof.Rows PySem.Calls PySem.Spec PySem.SeqAt PySem.Builtin PySem.Builtin.ObjectAttr
/-! ## the exception of the program: made with a text -/
noncomputable abbrev cls60 : Obj := excClassObj "BoundFault" "BoundFault" 60 59 [.ref 47] [.ref 47, .type "Exception", .type "BaseException", .type "object"] true [] [] false none none (some (.ref 51)) none (some (.str "BoundFault" 234)) (some (.str "BoundFault" 242)) (some (.bool true)) "Exception.__new__"
structure ExcK (K : Frag) : Prop where
  sa : findIn K (.ref 60) "__setattr__" = some (some (.builtin "object.__setattr__"))
  ini : findIn K (.ref 60) "__init__" = some (some (.ref 37))
  iniF : typeIn K (.ref 37) = some (.type "function")
  what : findIn K (.ref 60) "what" = some none
  cls : clsIn K 60 = some { name := "BoundFault", bases := [.ref 47], mro := [.ref 60, .ref 47, .type "Exception", .type "BaseException", .type "object"], ns := 59, qualname := "BoundFault" }
  sub : mroIn K 60 (.ref 47) = some true
  at60 : K.lookup 60 = some cls60
  obj : mroIn K 60 (.type "object") = some true
theorem excK (P : Params) : ExcK (hd.heap_1 P) := by
  constructor
  all_goals kernel_rfl
/-- the exception, as it is made -/
noncomputable abbrev exO (t : Addr) (d : Option Addr) : Obj := { cls := .ref 60, dict := d, data := .fields #[.ref t, .none, .none, .none, .bool false, .none] }
section
variable {prog : Program} {w : World} {K : Frag} {A : Around} {E : Value → Shared → Prop} {s : Shared} {e t : Addr}
theorem exc_set (Z : ExcK K) (X : K.In s.heap) (he : s.heap.get? e = some (exO t none)) {v : Value} {Q : Unit → Shared → Prop}
    (k : ∀ h' tk d, h'.get? e = some (exO t (some d)) → s.heap.get? d = none → (∀ b o, b ≠ e → s.heap.get? b = some o → h'.get? b = some o) → Q () { s with heap := h', toks := tk }) :
    wpAny (model prog w) A (setAttr (.ref e) "what" v) Q E s := by
  have SF := PySem.F.store_Exception
  obtain ⟨hh, g, dd, tk, os⟩ := s
  have he : hh.get? e = some (exO t none) := he
  have X : K.In hh := X
  have I : InstAt hh e (exO t none) 60 none := ⟨he, rfl, rfl, trivial⟩
  refine set_plain (s := ⟨hh, g, dd, tk, os⟩) X I Z.sa ?_
  refine codeAny_call_builtin SF.slot.plain SF.entry (@check_slot (model prog w) _ _ ⟨hh, g, dd, tk + 1, os⟩ "object.__setattr__" "object" "__setattr__" (.ref e) [.str "what" tk, v] [] _ SF.kind SF.split (I.type.andThen (looks_mroIn X Z.obj) : Looks (model prog w) hh (isInstance (.ref e) (.type "object")) true) (SF.args (.ref e) (.str "what" tk) v) ?_)
  rw [osa_eq, refuse_eq]
  refine wpAny_bind (wpAny_bind (I.type.at (wpAny_bind (((looks_clsIn X Z.cls).andThen .now : Looks (model prog w) hh (mroOf (.ref 60)) [.ref 60, .ref 47, .type "Exception", .type "BaseException", .type "object"]).at ?_))))
  rw [refuseLoop_ref, refuseLoop_ref, SF.passes]
  refine wpAny_pure (wpAny_bind (I.type.at (wpAny_bind ((looks_findIn X Z.what).at ?_))))
  refine wpAny_bind (wpAny_pure ?_)
  skip
  unfold storeInOwnDict
  refine wpAny_bind (wpAny_pure ?_)
  refine wpAny_bind ?_
  delta ownDictForStores instanceDict
  refine wpAny_bind (wpAny_loadPart_at he (wpAny_bind ((looks_clsIn X Z.cls).at ?_)))
  have hx1 : (hh.push { cls := .type "dict", data := .dict #[] }).get? e = some (exO t none) := Heap.get?_push_of_some _ he
  have hes : e ≠ hh.objs.size := Nat.ne_of_lt (Heap.lt_size he)
  refine (?_ : wpAny _ _ (do
      let d ← alloc { cls := Value.type "dict", data := Data.dict #[] }
      update e fun o => { cls := o.cls, dict := some d, data := o.data, slots := o.slots }
      dictMade (exO t none).cls e d) _ _ _)
  refine wpAny_bind (wpAny_alloc' (wpAny_bind (wpAny_update' hx1 (wpAny_pure ?_))))
  have hx2 : ((hh.push { cls := .type "dict", data := .dict #[] }).update e fun o => { cls := o.cls, dict := some hh.objs.size, data := o.data, slots := o.slots }).get? e = some (exO t (some hh.objs.size)) := Heap.get?_update_self _ hx1 rfl
  have hd2 : ((hh.push { cls := .type "dict", data := .dict #[] }).update e fun o => { cls := o.cls, dict := some hh.objs.size, data := o.data, slots := o.slots }).get? hh.objs.size = some { cls := .type "dict", data := .dict #[] } :=
    (Heap.get?_update_ne _ _ _ _ hes.symm).trans (Heap.get?_push_at rfl rfl)
  have k2 : ∀ b o, b ≠ e → hh.get? b = some o → ((hh.push { cls := .type "dict", data := .dict #[] }).update e fun o => { cls := o.cls, dict := some hh.objs.size, data := o.data, slots := o.slots }).get? b = some o := fun b o hb q =>
    (Heap.get?_update_ne _ _ _ _ hb).trans (Heap.get?_push_of_some _ q)
  generalize ((hh.push { cls := .type "dict", data := .dict #[] }).update e fun o => { cls := o.cls, dict := some hh.objs.size, data := o.data, slots := o.slots }) = h2 at hx2 hd2 k2 ⊢
  have hnd : h2.Ns hh.objs.size (fun D0 => none) := Og.I34 _ (#[]) _ hd2 rfl (fun e he => absurd he (by simp)) (fun D0 => rfl)
  refine (?_ : wpAny _ _ (storeInDict hh.objs.size (.str "what" tk) "what" v) _ _ _)
  delta storeInDict newKeyGuard
  refine wpAny_bind (wpAny_pure (wpAny_bind (wpAny_nsSet1 (Heap.Ns1.of_empty hnd) fun h' hn' hs => ?_)))
  refine O33 (hn'.count (Within.cons (ns := []) "what" v Within.nil)) ?_; rintro oD esD epD hoD hdD hcD
  refine wpAny_bind (wpAny_lookBehind hoD (by refine hdD ▸ ?_; exact pastItsLine_dict (Nat.le_trans hcD (by refine List.length_cons ▸ List.length_nil ▸ sizeLine_eq ▸ ?_; decide))) ?_)
  refine wpAny_pure ?_
  exact k h' _ hh.objs.size ((hs.2 e hes).trans hx2) (dead_size hh (Nat.le_refl _)) fun b o hb q => (hs.2 b (Nat.ne_of_lt (Heap.lt_size q))).trans (k2 b o hb q)
end
end Og
end
section
set_option maxRecDepth 1000000
set_option Elab.async false
namespace Og
open PySem PySem.W PyProof.Rows PySem.Calls PySem.Spec PySem.SeqAt PySem.Builtin PySem.Builtin.ObjectAttr
/-! ## super().__init__ of an exception -/
theorem slot_wget : Slot "wrapper_descriptor" "__get__" "wrapper_descriptor.__get__" := .of (owner := "wrapper_descriptor") (n := "__get__") (by rw [typeLookup_type, builtinLookup_eq_fast]; kernel_rfl) (by decide +kernel) (by decide +kernel) (by decide +kernel)
  (by first | exact .inl (by decide +kernel) | exact .inr (by decide +kernel)) (by rw [isSubtype_type]; kernel_rfl)
theorem entry_wget : entryFor table "wrapper_descriptor.__get__" = some Builtin.«wrapper_descriptor.__get__» := entryFor_of_tree (by kernel_rfl)
theorem args_wget (a b c : Value) : argsOk "wrapper_descriptor.__get__" ⟨[a, b, c], []⟩ := by unfold argsOk; kernel_rfl
theorem type_xi : typeOf (.builtin "Exception.__init__") = pure (.type "wrapper_descriptor") := by kernel_rfl
noncomputable abbrev mwO (x : Addr) : Obj := { cls := .type "method-wrapper", data := .fields #[.builtin "Exception.__init__", .ref x] }
theorem mro_47 : (([.ref 60, .ref 47, .type "Exception", .type "BaseException", .type "object"] : List Value).dropWhile (fun c => c != .ref 47)).drop 1 = [.type "Exception", .type "BaseException", .type "object"] := by rfl
theorem xi_ne : (("__init__" : Str) == ("__class__" : Str)) = false := by kernel_rfl
structure SupK (K : Frag) : Prop extends ExcK K where
  exc : mroIn K 60 (.type "Exception") = some true
  alo : alongIn K "__init__" [.type "Exception", .type "BaseException", .type "object"] = some (some (.builtin "Exception.__init__"))
  at47 : K.lookup 47 = some { cls := .type "type", data := .cls { name := "FinderError", bases := [.type "Exception"], mro := [.ref 47, .type "Exception", .type "BaseException", .type "object"], ns := 46, qualname := "FinderError", subclasses := [.ref 60] }, slots := #[some (.ref 22), none, some (.str "FinderError" 196), some (.str "FinderError" 204), some (.builtin "Exception.__new__"), some (.bool true)] }
  cell : K.lookup 25 = some { cls := .type "cell", data := .cell (some (.ref 47)) }
  opq : nsIn K cStatics "thirdparty.any" = some none
theorem supK (P : Params) : SupK (hd.heap_1 P) := by
  refine ⟨excK P, ?_, ?_, ?_, ?_, ?_⟩
  all_goals kernel_rfl
section
variable {prog : Program} {w : World} {K : Frag} {A : Around} {E : Value → Shared → Prop} {hh : Heap} {g : Array GenState} {dd : Drawn} {tk : Nat} {os : OsState} {x so : Addr} {ox : Obj}
theorem wget_run (Z : SupK K) (X : K.In hh) (hx : hh.get? x = some ox) (hc : ox.cls = .ref 60) {v : Value} {Q : Fin → Shared → Prop}
    (k : Q (.done (.ret (.ref hh.objs.size))) ⟨hh.push (mwO x), g, dd, tk, os⟩) :
    wpAny (model prog w) A (Builtin.«wrapper_descriptor.__get__» ⟨[.builtin "Exception.__init__", .ref x, v], []⟩) Q E ⟨hh, g, dd, tk, os⟩ := by
  delta Builtin.«wrapper_descriptor.__get__»
  refine wpAny_bind (wpAny_pure ?_)
  repeat (first | with_reducible refine wpAny_loadPart_at hx ?_ | wp_step)
  refine (by decide +kernel : (".".intercalate ("Exception.__init__".cutAt '.').dropLast) = "Exception") ▸ hc ▸ ?_
  refine (looks_mroIn X Z.exc).at ?_
  delta newFields
  repeat (first | (with_reducible refine wpAny_newObj_type ?_ (by size_fits)) | wp_step)
  exact k
theorem super_ga (Z : SupK K) (X : K.In hh) (hx : hh.get? x = some ox) (hc : ox.cls = .ref 60) (hso : hh.get? so = some (ks_superObj 47 x 60)) (hxC : x ≠ 60) {tn : Tok} {Q : Fin → Shared → Prop}
    (k : Q (.done (.ret (.ref hh.objs.size))) ⟨hh.push (mwO x), g, dd, tk, os⟩) :
    wpAny (model prog w) A (Builtin.«super.__getattribute__» ⟨[.ref so, .str "__init__" tn], []⟩) Q E ⟨hh, g, dd, tk, os⟩ := by
  have hm : Looks (model prog w) hh (mroOf (.ref 60)) [.ref 60, .ref 47, .type "Exception", .type "BaseException", .type "object"] := (looks_clsIn X Z.cls).andThen .now
  have hlk := slot_wget.lookup
  have hty := type_xi
  have hne : (Value.ref x == Value.ref 60) = false := by simp [hxC]
  have hTf : (⟨hh, g, dd, tk, os⟩ : Shared).TypeIs (.builtin "Exception.__init__") "wrapper_descriptor" := type_xi
  have f1 : (#[.ref 47, .ref x, .ref 60] : Array Value)[1]? = some (.ref x) := rfl
  have f2 : (#[.ref 47, .ref x, .ref 60] : Array Value)[2]? = some (.ref 60) := rfl
  have hn := xi_ne
  delta Builtin.«super.__getattribute__»
  have hdt : (ks_superObj 47 x 60).data = .fields #[.ref 47, .ref x, .ref 60] := rfl
  iterate 21 (first
    | (with_reducible refine wpAny_field hso hdt (rfl : (#[.ref 47, .ref x, .ref 60] : Array Value)[0]? = some (.ref 47)) ?_) | (with_reducible refine wpAny_field hso hdt f1 ?_) | (with_reducible refine wpAny_field hso hdt f2 ?_)
    | (with_reducible refine ks_wpAny_notOpaque (looks_opaque X Z.opq : Looks (model prog w) hh (opaqueClassAbove (.ref 60)) none) ?_)
    | (simp only [hn, hne, Bool.or_false, Bool.false_eq_true, if_false])
    | wp_step
    | dsimp only)
  refine hm.at ?_
  refine mro_47 ▸ ?_
  refine wpAny_bind ?_
  refine ks_forIn_along (name := "__init__") (v := .builtin "Exception.__init__") (l := [.type "Exception", .type "BaseException", .type "object"]) (k := fun y => match y with
      | some a => do
        let t ← typeOf a
        let t ← typeLookup t "__get__"
        match t with
        | some g => do
          let r ← holding [a] (call g [a, Value.ref x, Value.ref 60])
          let r ← ret r
          pure (ForInStep.done (some r, ()))
        | none => do
          let r ← handedOut a
          let r ← ret r
          pure (ForInStep.done (some r, ()))
      | _ => pure (ForInStep.yield (none, ()))) X (fun D0 D1 => rfl) rfl ?_ Z.alo
  refine wpAny_bind (wpAny_of_eq type_xi (wpAny_bind (wpAny_of_eq slot_wget.lookup ?_)))
  refine wpAny_bind (wpAny_holding (wpAny_call_entry slot_wget hTf entry_wget ?_ (args_wget _ _ _)))
  refine wget_run Z X hx hc ⟨_, rfl, ?_⟩
  exact wpAny_bind (wpAny_pure (wpAny_pure (wpAny_pure k)))
theorem super_get (Z : SupK K) (X : K.In hh) (hx : hh.get? x = some ox) (hc : ox.cls = .ref 60) (hso : hh.get? so = some (ks_superObj 47 x 60)) (hxC : x ≠ 60) {pl : Sem Bool} {Q : Value × List Value → Shared → Prop}
    (k : Q (.ref hh.objs.size, []) ⟨hh.push (mwO x), g, dd, tk + 1, os⟩) :
    wpAny (model prog w) A (getMethod (.ref so) "__init__" pl) Q E ⟨hh, g, dd, tk, os⟩ := by
  have hlk := F.ks_slot_super_ga.lookup
  have hT : ∀ t', (⟨hh, g, dd, t', os⟩ : Shared).TypeIs (.ref so) "super" := fun D0 => Og.I12 _ hso rfl
  unfold getMethod
  refine wpAny_bind (wpAny_specialOf (hT _) hlk ?_)
  refine (?_ : wpAny _ _ (if (Manifest.canonical "super.__getattribute__" != "object.__getattribute__") = true then _ else _) _ _ _)
  refine (if_pos (F.ks_canon_super_ga)) ▸ ?_
  delta getAttr getAttrBy
  refine wpAny_bind (wpAny_bind (wpAny_mkText (wpAny_holding (wpAny_bind (wpAny_typeOf (hT _) (wpAny_bind (wpAny_of_eq hlk ?_)))))))
  refine (?_ : wpAny _ _ (getAttrByItsOwn (.ref so) (.str "__init__" tk) (.type "super") (.builtin "super.__getattribute__") true false) _ _ _)
  delta getAttrByItsOwn hookBefore callGetattribute boundAndCalled
  refine wpAny_bind (wpAny_of_eq (rfl : (if onTheHeap (.type "super") then typeLookup (.type "super") "__getattr__" else pure none) = pure none) ?_)
  refine wpAny_bind (wpAny_attempt (wpAny_holding ?_))
  refine (?_ : wpAny _ _ (bindSpecial (.builtin "super.__getattribute__") (.ref so) >>= _) _ _ _)
  refine wpAny_bind (wpAny_of_eq (F.ks_slot_super_ga.bind _) ?_)
  refine wpAny_mono (Q := fun v s' => v = .ref hh.objs.size ∧ s' = ⟨hh.push (mwO x), g, dd, tk + 1, os⟩) (E := fun D0 D1 => False)
    (wpAny_call_entry F.ks_slot_super_ga (hT _) F.ks_entry_super_ga (super_ga Z X hx hc hso hxC (Og.I13 _ rfl rfl rfl)) (F.ks_gaArgs_super _ _)) (fun v s' hv => ?_) fun D0 D1 z => z.elim
  obtain ⟨rfl, rfl⟩ := hv
  exact wpAny_pure (wpAny_pure k)
end
end Og
end
section
set_option maxRecDepth 1000000
set_option Elab.async false
namespace Og
open PySem PySem.W PyProof.Rows PySem.Calls PySem.Spec PySem.SeqAt PySem.Builtin PySem.Builtin.ObjectAttr
/-! ## the bound __init__ of Exception -/
section
variable {prog : Program} {w : World} {K : Frag} {A : Around} {E : Value → Shared → Prop} {hh : Heap} {g : Array GenState} {dd : Drawn} {tk : Nat} {os : OsState} {e t q : Addr} {ox : Obj}
theorem bound_xi (Z : ExcK K) (X : K.In hh) (he : hh.get? e = some (exO t none)) {b : Value} {Q : Unit → Shared → Prop} (k : Q () ⟨hh, g, dd, tk, os⟩) : wpAny (model prog w) A (checkBoundCall "Exception.__init__" ⟨[.ref e, b], []⟩) Q E ⟨hh, g, dd, tk, os⟩ := by
  have F := F.excBase_Exception
  delta checkBoundCall
  simp only [F.initKind, F.initRow]
  rw [if_pos (by decide +kernel)]
  have hstar := F.noStar
  have hC : hh.get? 60 = some _ := X 60 _ Z.at60
  repeat (first | with_reducible refine wpAny_loadPart_at he ?_ | with_reducible refine wpAny_loadPart_at hC ?_ | wp_step)
  exact k
theorem mw_call (Z : ExcK K) (X : K.In hh) (hq : hh.get? q = some (mwO e)) (he : hh.get? e = some (exO t none)) {msg : Value} {Q : Value → Shared → Prop}
    (k : ∀ h' t', h'.get? e = some (exO t' none) → (∀ b o, b ≠ e → hh.get? b = some o → h'.get? b = some o) → Q .none ⟨h', g, dd, tk, os⟩) :
    wpAny (model prog w) A (call (.ref q) [msg]) Q E ⟨hh, g, dd, tk, os⟩ := by
  have F := F.excBase_Exception
  refine wpAny_call (codeAny_of_tree ?_)
  refine (?_ : wpAny _ A.in1 (callAny (.ref q) _) _ _ _)
  delta callAny
  refine wpAny_bind (wpAny_load hq ?_)
  refine (?_ : wpAny _ _ (do
    checkBoundCall "Exception.__init__" ⟨[.ref e, msg], []⟩
    return ← again (.builtin "Exception.__init__" ⟨[.ref e, msg], []⟩)) _ _ _)
  refine wpAny_bind (bound_xi Z X he ?_)
  refine wpAny_bind (wpAny_pure (wpAny_pure ⟨Code.quiet_builtin _ (by decide +kernel), codeAny_builtin F.initEntry ?_⟩))
  wp_walk
  refine k _ hh.objs.size ?_ fun b o hb q => (Heap.get?_update_other _ _ (Ne.symm hb)).trans (Heap.get?_push_of_some _ q)
  exact Heap.get?_update_self _ (Heap.get?_push_of_some _ he) rfl
end
/-! ## FinderError.__init__ -/
noncomputable def o37 (P : Params) : { o : Obj // (hd.heap_1 P).lookup 37 = some o } := ⟨_, rfl⟩
noncomputable def b37 (P : Params) : { b : List Stmt // (fdO (o37 P).1).body = .stmts b } := ⟨_, rfl⟩
noncomputable def o36 (P : Params) : { o : Obj // (hd.heap_1 P).lookup 36 = some o } := ⟨_, rfl⟩
noncomputable def v36 (P : Params) : { vs : Array Value // (o36 P).1.data = .fields vs } := ⟨_, rfl⟩
theorem f36 (P : Params) : (v36 P).1[2]? = some (.str "/claim/cut.py" 210) := by kernel_rfl
theorem k37 (P : Params) : (hd.heap_1 P).lookup 37 = some ⟨.type "function", none, .func (fdO (o37 P).1), #[]⟩ := by kernel_rfl
section
variable {prog : Program} {w : World} {P : Params} {A : Around} {E : Value → Shared → Prop} {s : Shared} {e t : Addr} {msg : Value} {R : Result → Shared → Prop}
theorem env37 (P : Params) (L : Addr) : ∀ x k, (fdO (o37 P).1).scope.names.lookup x = some k → (callEnv (fdO (o37 P).1) L 37).kindOf x = some k := fun D0 D1 e => e
theorem sc37 (P : Params) : (fdO (o37 P).1).scope.names = [(("self" : Str), NameKind.local), (("what" : Str), NameKind.local), (("__class__" : Str), NameKind.free), (("super" : Str), NameKind.globalImplicit)] := by kernel_rfl
theorem finit_call (X : (hd.heap_1 P).In s.heap) {p : Program} {loose : List Str} {mg mb : Str → Option Value} (T : TopRead p loose mg mb s.heap) (hfile : ((prog.main.file : Str) == "/claim/cut.py") = true) (htop : (prog.main.scope.names.lookup ("super" : Str)).isSome = false)
    (hroom : A.depth < recursionLimit) (he : s.heap.get? e = some (exO t none)) (hK : (hd.heap_1 P).lookup e = none)
    (k : ∀ h' tk d t', h'.get? e = some (exO t' (some d)) → (∀ b o, b ≠ e → s.heap.get? b = some o → h'.get? b = some o) → R (.ok (.ret .none)) { s with heap := h', toks := tk }) :
    codeAny (model prog w) A (.call (.ref 37) ⟨[.ref e, msg], []⟩) R s := by
  have Z := supK P
  refine ks_codeAny_call_defAt (fd := fdO (o37 P).1) (body := (b37 P).1) (binds := [(("self" : Str), .ref e), (("what" : Str), msg)]) hroom (X _ _ (k37 P)) rfl T.nolimit (codeRec_of X (by kernel_rfl)) (b37 P).2 (BindsTo.of_eq (by kernel_rfl)) (by rw [sc37]; decide) (by rw [sc37]; intro x hx; simp at hx; rcases hx with rfl | rfl <;> rfl) (fun h0 hns hk => ?_) (by kernel_rfl) (by kernel_rfl) (by kernel_rfl)
  obtain ⟨hh, g, dd, tk, os⟩ := s
  have X0 := X.keeps hk
  have T0 := T.keeps hk
  have he0 : h0.get? e = some (exO t none) := hk _ _ he
  refine ks_wpAt_execs_cons ?_
  refine ks_wpAt_Expr_any ?_ (by kernel_rfl) (by kernel_rfl)
  refine ks_wpAt_MethodCall ?_
  have hv : (fun x => [(("self" : Str), Value.ref e), (("what" : Str), msg)].reverse.lookup x) "self" = some (.ref e) := rfl
  have hv2 : (fun x => [(("self" : Str), Value.ref e), (("what" : Str), msg)].reverse.lookup x) "what" = some msg := rfl
  refine ks_wpAt_super_base (of := (o37 P).1) (fd := fdO (o37 P).1) (by kernel_rfl) (by kernel_rfl) (by kernel_rfl) rfl (X0 _ _ (k37 P)) rfl rfl (cc := 36) (by kernel_rfl) (X0 36 _ (o36 P).2) (v36 P).2 (f36 P) hfile htop ?_
  have hkS : ((callEnv (fdO (o37 P).1) hh.objs.size 37).kindOf "self") = some .local := by kernel_rfl
  have hkW : ((callEnv (fdO (o37 P).1) hh.objs.size 37).kindOf "what") = some .local := by kernel_rfl
  have hkf : (callEnv (fdO (o37 P).1) hh.objs.size 37).scope.kind = .function := by kernel_rfl
  refine ks_loadName_global hkf (by kernel_rfl : ((callEnv (fdO (o37 P).1) hh.objs.size 37).kindOf "super") = some .globalImplicit) (loadGlobal_builtin (env := callEnv (fdO (o37 P).1) hh.objs.size 37) T0.g (mg_none_of X0 T0.g (by kernel_rfl)) T0.b ((T0.builtins _ (by decide +kernel)).trans (by kernel_rfl)) ⟨rfl, ?_⟩)
  refine wpAny_loadName_free hkf (by kernel_rfl : ((callEnv (fdO (o37 P).1) hh.objs.size 37).kindOf "__class__") = some .free) (c := 25) (by kernel_rfl) ⟨_, X0 25 _ Z.cell, rfl⟩ ?_
  refine wpAny_loadName_local hkf hkS hns hv ?_
  refine ks_wpAny_isType_cls (X0 47 _ Z.at47) rfl ⟨rfl, ?_⟩
  refine ks_wpAny_call_super (X0 47 _ Z.at47) rfl he0 rfl (fun c e => by cases e) (looks_mroIn X0 Z.sub) (fun h1 e1 k1 => ?_)
  have X1 := X0.keeps k1
  have he1 := k1 _ _ he0
  have hxC : e ≠ 60 := fun q => by
    have := X0 60 _ Z.at60
    replace this := he0 ▸ q ▸ this; cases this
  refine super_get Z X1 he1 rfl e1 hxC ?_
  have k2 : ∀ b o, h1.get? b = some o → (h1.push (mwO e)).get? b = some o := fun b o q => Heap.get?_push_of_some _ q
  have hq : (h1.push (mwO e)).get? h1.objs.size = some (mwO e) := Heap.get?_push_size _ rfl
  generalize h1.push (mwO e) = h2 at hq k2 ⊢
  have X2 := X1.keeps k2
  have hns2 := (hns.keeps k1).keeps k2
  refine callWith_of (P := fun h => h = h2) rfl (fun h hp => ⟨.machine, .inr (.inl rfl), by clear k2 X2 hns2; subst hp; exact (Looks.ld (part := none) hq).andThen .now⟩) ?_
  refine evalArgs_plain (spliced_cons (ldc hkf hkW hns2 hv2 (spliced_nil ⟨rfl, ?_⟩)))
  refine mw_call Z.toExcK X2 hq (k2 _ _ he1) fun h3 t3 e3 k3 => ?_
  skip
  refine ks_wpAt_execs_cons ?_
  have hns3 : h3.Ns hh.objs.size (fun x => [(("self" : Str), Value.ref e), (("what" : Str), msg)].reverse.lookup x) := Ns.keep hns2 fun o q => k3 _ _ (Nat.ne_of_gt (Heap.lt_size he) : hh.objs.size ≠ e) q
  refine ks_wpAt_Assign_Attr (wpAt_of_wpAny (ldc hkf hkW hns3 hv2 (ldc hkf hkS hns3 hv ?_))) (by kernel_rfl)
  refine exc_set Z.toExcK (fun a o q => k3 a o (fun z => by replace q := hK ▸ z ▸ q; exact Og.nos q) (X2 a o q)) e3 fun h4 tk4 d e4 hd4 k4 => ?_
  refine PySem.wpAt_of_wpAny (wpAny_pure ?_)
  exact k h4 tk4 d t3 e4 fun b o hb q => k4 b o hb (k3 b o hb (k2 _ _ (k1 _ _ (hk _ _ q))))
end
end Og
end
section
set_option maxRecDepth 1000000
set_option Elab.async false
namespace Og
open PySem PySem.W PyProof.Rows PySem.Calls PySem.Spec PySem.SeqAt PySem.Builtin PySem.Builtin.ObjectAttr
/-! ## BoundFault(text) -/
theorem has60 : (([.ref 60, .ref 47, .type "Exception", .type "BaseException", .type "object"] : List Value).contains (.type "Exception")) = true := by decide +kernel
theorem noA60 : (([.ref 60, .ref 47, .type "Exception", .type "BaseException", .type "object"] : List Value).contains (.type "AttributeError")) = false := by decide +kernel
theorem noN60 : (([.ref 60, .ref 47, .type "Exception", .type "BaseException", .type "object"] : List Value).contains (.type "NameError")) = false := by decide +kernel
theorem self60 : (([.ref 60, .ref 47, .type "Exception", .type "BaseException", .type "object"] : List Value).contains (.ref 60)) = true := by decide +kernel
section
variable {prog : Program} {w : World} {P : Params} {A : Around} {E : Value → Shared → Prop} {hh : Heap} {g : Array GenState} {dd : Drawn} {tk : Nat} {os : OsState} {e t : Addr} {msg : Value} {R : Result → Shared → Prop}
theorem check_new60 (hC : hh.get? 60 = some cls60) {rest : List Value} {Q : Unit → Shared → Prop} (k : Q () ⟨hh, g, dd, tk, os⟩) :
    wpAny (model prog w) A (checkBuiltinCall "Exception.__new__" ⟨.ref 60 :: rest, []⟩) Q E ⟨hh, g, dd, tk, os⟩ := by
  have F := F.excBase_Exception
  have hstar := F.noStar
  rw [checkBuiltinCall, F.newKind, F.newSplit, F.newRow]
  repeat (first | refine wpAny_loadPart_at hC ?_ | (refine wpAny_isSubtype_exc hC ?_; rw [has60]) | refine wpAny_staticBase_exc hC ?_ | refine wpAny_madeBy_exc hC ?_ | delta bne_self_eq_false Bool.false_eq_true if_false | wp_step)
  exact k
theorem new60 (hC : hh.get? 60 = some cls60) (k : R (.ok (.ret (.ref (hh.objs.size + 1)))) ⟨(hh.push { cls := .type "tuple", data := .seq #[msg] }).push (exO hh.objs.size none), g, dd, tk, os⟩) :
    codeAny (model prog w) A (.builtin "Exception.__new__" ⟨[.ref 60, msg], []⟩) R ⟨hh, g, dd, tk, os⟩ := by
  have F := F.excBase_Exception
  have hends := F.ends
  refine codeAny_builtinAt F.entry ?_
  unfold Builtin.«BaseException.__new__»
  refine PySem.wpAt_bind ?_
  refine (?_ : PySem.wpAt _ _ _ (stack >>= _) _ _ _)
  refine PySem.wpAt_bind (PySem.wpAt_stack fun p below => PySem.wpAt_of_wpAny ?_)
  wp_walk
  refine PySem.wpAt_of_wpAny ?_
  refine F.owner ▸ ?_
  repeat (first | with_reducible refine wpAny_madeHere_exc F.canon hC ?_ | with_reducible refine wpAny_loadPart_at hC ?_ | (with_reducible refine wpAny_isSubtype_exc hC ?_; first | refine has60 ▸ ?_ | rw [noA60] | rw [noN60]) | wp_step)
  refine (?_ : R _ _)
  rw [Heap.size_push]
  exact k
theorem exc_call (hfile : ((prog.main.file : Str) == "/claim/cut.py") = true) (htop : (prog.main.scope.names.lookup ("super" : Str)).isSome = false) (X : (hd.heap_1 P).In hh) {p : Program} {loose : List Str} {mg mb : Str → Option Value} (T : TopRead p loose mg mb hh)
    (hroom : A.depth + 10 < recursionLimit) {Q : Value → Shared → Prop}
    (k : ∀ h' tk e d t, h'.get? e = some (exO t (some d)) → hh.get? e = none → (∀ b o, hh.get? b = some o → h'.get? b = some o) → Q (.ref e) ⟨h', g, dd, tk, os⟩) :
    wpAny (model prog w) A (call (.ref 60) [msg]) Q E ⟨hh, g, dd, tk, os⟩ := by
  have F := F.excBase_Exception
  have Z := supK P
  have hC : hh.get? 60 = some cls60 := X 60 _ Z.at60
  have f1 := tc_lookup
  have f2 := tc_bind (.ref 60)
  have hT : (⟨hh, g, dd, tk, os⟩ : Shared).TypeIs (.ref 60) "type" := ⟨_, hC, rfl⟩
  refine wpAny_call (codeAny_of_tree ?_)
  refine (?_ : wpAny _ _ (callAny (.ref 60) _) _ _ _)
  repeat (any_goals (first | assumption | with_reducible refine wpAny_loadPart_at hC ?_ | wp_step))
  refine ⟨rfl, ?_⟩
  refine codeAny_call_builtin_at (Code.quiet_builtin _ (by decide +kernel)) entry_typeCall (wpAny_check_type_call_sub hC ?_)
  repeat (first | with_reducible refine wpAny_loadPart_at hC ?_ | with_reducible refine wpAny_madeBy_exc hC ?_ | wp_step)
  refine codeAny_call_builtin_code (Code.quiet_builtin _ F.quiet) (check_new60 hC ?_)
  refine new60 hC ?_
  refine (?_ : wpAny _ _ _ _ _ _)
  have k1 : ∀ b o, hh.get? b = some o → ((hh.push { cls := .type "tuple", data := .seq #[msg] }).push (exO hh.objs.size none)).get? b = some o := fun b o q => Heap.get?_push_of_some _ (Heap.get?_push_of_some _ q)
  have hget : ((hh.push { cls := .type "tuple", data := .seq #[msg] }).push (exO hh.objs.size none)).get? (hh.objs.size + 1) = some (exO hh.objs.size none) := by heap_get
  generalize (hh.push { cls := .type "tuple", data := .seq #[msg] }).push (exO hh.objs.size none) = h1 at k1 hget ⊢
  have X1 := X.keeps k1
  have hdead : hh.get? (hh.objs.size + 1) = none := dead_size hh (Nat.le_succ _)
  have hK : (hd.heap_1 P).lookup (hh.objs.size + 1) = none := by
    cases q : (hd.heap_1 P).lookup (hh.objs.size + 1) with
    | none => rfl
    | some o => have := X _ _ q; rw [hdead] at this; exact Og.nos this
  generalize hh.objs.size + 1 = e at hget hdead hK ⊢
  unfold isInstance
  repeat (first | with_reducible refine wpAny_loadPart_at hget ?_ | (with_reducible refine wpAny_isSubtype_exc (k1 _ _ hC) ?_; rw [self60]) | wp_step)
  refine (looks_findIn X1 Z.ini).at ?_
  refine wpAny_holding (wpAny_bind ((bind_fn X1 _ Z.iniF).at ?_))
  refine wpAny_bind (wpAny_call (finit_call (s := ⟨h1, g, dd, tk, os⟩) X1 (T.keeps k1) hfile htop ?_ hget hK fun h' tk' d t' e' k' => ?_))
  · have w0 : (Code.builtin "type.__call__" ⟨[.ref 60, msg], []⟩).weight = 1 := by rfl
    refine (?_ : A.depth + (Code.builtin "type.__call__" ⟨[.ref 60, msg], []⟩).weight < _)
    rw [w0]; (clear w0; omega)
  · refine wpAny_pure (wpAny_pure ?_)
    exact k h' tk' e d t' e' hdead fun b o q => k' b o (fun z => by rw [z, hdead] at q; exact Og.nos q) (k1 _ _ q)
end
end Og
end
section
set_option maxRecDepth 1000000
set_option Elab.async false
namespace Og
open PySem PySem.W PyProof.Rows PySem.Calls PySem.Spec PySem.SeqAt PySem.Builtin PySem.Builtin.ObjectAttr
/-! ## Unroller.__init__, refused -/
noncomputable def b290 (P : Params) : { b : List Stmt // (fdO (o290 P).1).body = .stmts b } := ⟨_, rfl⟩
theorem k290 (P : Params) : (hd.heap_1 P).lookup 290 = some ⟨.type "function", none, .func (fdO (o290 P).1), #[]⟩ := by kernel_rfl
section
variable {prog : Program} {w : World} {P : Params} {A : Around} {E : Value → Shared → Prop} {s : Shared} {e t : Addr} {R : Result → Shared → Prop} {env : Env}
set_option tactic.hygienic true in
theorem not_chain {e0 e1 e2 : Expr} {p1 p2 : Pos} {i j : Int} {Q : Bool → Shared → Prop}
    (h0 : ∀ (E : Value → Shared → Prop) (Q : Value → Shared → Prop) (tk' : Nat), (∀ t tk, Q (.int 0 t) { s with toks := tk }) → wpAny (model prog w) A (eval e0 env) Q E { s with toks := tk' })
    (h1 : ∀ (E : Value → Shared → Prop) (Q : Value → Shared → Prop) (tk' : Nat), (∀ t tk, Q (.int i t) { s with toks := tk }) → wpAny (model prog w) A (eval e1 env) Q E { s with toks := tk' })
    (h2 : ∀ (E : Value → Shared → Prop) (Q : Value → Shared → Prop) (tk' : Nat), (∀ t tk, Q (.int j t) { s with toks := tk }) → wpAny (model prog w) A (eval e2 env) Q E { s with toks := tk' })
    (hn : markedEach [CmpOp.LtE, .Lt] [e1, e2] (evalEach [e1, e2] env) = [eval e1 env, eval e2 env]) (hb : ¬ (0 ≤ i ∧ i < j)) (k : ∀ tk, Q true { s with toks := tk }) :
    wpAny (model prog w) A (isTrue (.UnaryOp .Not (.Compare e0 [.LtE, .Lt] [e1, e2] p1) p2) env (eval (.UnaryOp .Not (.Compare e0 [.LtE, .Lt] [e1, e2] p1) p2) env)) Q E s := by
  rw [arm_isTrue_UnaryOp]
  refine wpAny_bind ?_
  rw [arm_isTrue_Compare]
  refine wpAny_bind (h0 _ _ s.toks fun t tk => ?_)
  refine hn ▸ ?_
  unfold testChain
  refine wpAny_bind (wpAny_holding (h1 _ _ _ fun t1 tk1 => ?_))
  refine wpAny_bind (wpAny_standAt (wpAny_bind (wpAny_holding (PySem.P.le_int ?_))))
  refine wpAny_bind (wpAny_release (wpAny_bind (wpAny_holding (wpAny_truthy_bool ?_))))
  split
  · rename_i hle
    delta testChain
    refine wpAny_bind (wpAny_holding (h2 _ _ _ fun t2 tk2 => ?_))
    refine wpAny_bind (wpAny_standAt (wpAny_bind (wpAny_operateT (PySem.P.lt_int ?_))))
    refine wpAny_holding (wpAny_truthy_bool ?_)
    have : decide (i < j) = false := decide_eq_false fun h => hb ⟨of_decide_eq_true hle, h⟩
    exact this ▸ wpAny_pure (k _)
  · exact wpAny_pure (wpAny_pure (k _))
theorem base60 : (([.ref 60, .ref 47, .type "Exception", .type "BaseException", .type "object"] : List Value).contains (.type "BaseException")) = true := by decide +kernel
theorem raise_made {x : Sem Value} {Q : Flow → Shared → Prop} (hn : A.handled = none)
    (h : wpAny (model prog w) A x (fun v s₁ => ∃ e t d, v = .ref e ∧ s₁.heap.get? 60 = some cls60 ∧ s₁.heap.get? e = some (exO t (some d)) ∧ E (.ref e) s₁) E s) :
    wpAny (model prog w) A (raiseStmt env (some x) none) Q E s := by
  unfold raiseStmt
  refine wpAny_bind (wpAny_mono h (fun v s₁ h₁ => ?_) fun D0 D1 x => x)
  refine O34 h₁ ?_; clear h₁; rintro e t d rfl hC he hE
  obtain ⟨hp, g, dd, tk, os⟩ := s₁
  repeat (first | with_reducible refine wpAny_loadPart_at he ?_ | with_reducible refine wpAny_loadPart_at hC ?_ | (with_reducible refine wpAny_isSubtype_exc hC ?_; rw [base60]) | wp_step)
  exact wpAny_raiseNew_none hn hE
theorem int_len (i : Int) (h : i = -1 ∨ i = 2 ∨ i = 3 ∨ i = 4) : (Str.ofString (toString i)).length ≤ 4 ∧ i.natAbs.log2 < 1920 := by
  refine Og.cps fun G kG => ?_
  refine kG ?_
  clear kG
  obtain rfl | rfl | rfl | rfl := h <;> decide +kernel
theorem init_raises (hfile : ((prog.main.file : Str) == "/claim/cut.py") = true) (htop : (prog.main.scope.names.lookup ("super" : Str)).isSome = false) {s0 s : Shared} (X : (hd.heap_1 P).In s.heap) {p : Program} {loose : List Str} {mg mb : Str → Option Value} (T : TopRead p loose mg mb s.heap)
    (hn : A.handled = none) (hroom : A.depth + 15 < recursionLimit) {many loop : Int} {t1 t2 : Tok} (hm : many = 2 ∨ many = 3 ∨ many = 4) (hl : loop = many ∨ loop = -1) {L : Addr} {m cm : Str → Option Value}
    (x : InCallC s0 (callEnvC (fdO (o290 P).1) L 290).locals m (callEnvC (fdO (o290 P).1) L 290).cells cm s) (hvL : m "loop" = some (.int loop t2)) (hvS : m "steps" = some (.int many t1)) {Q : Flow → Shared → Prop}
    (k : ∀ h' tk e t d, h'.get? e = some (exO t (some d)) → s.heap.get? e = none → (∀ b o, s.heap.get? b = some o → h'.get? b = some o) → E (.ref e) { s with heap := h', toks := tk }) :
    wpAny (model prog w) A (execs (b290 P).1 (callEnvC (fdO (o290 P).1) L 290)) Q E s := by
  have hkf : (callEnvC (fdO (o290 P).1) L 290).scope.kind = .function := by kernel_rfl
  have hkL : (callEnvC (fdO (o290 P).1) L 290).kindOf "loop" = some .local := by kernel_rfl
  have hkS : (callEnvC (fdO (o290 P).1) L 290).kindOf "steps" = some .local := by kernel_rfl
  have dL : (("loop" : Str) == ("__debug__" : Str)) = false := by kernel_rfl
  have dS : (("steps" : Str) == ("__debug__" : Str)) = false := by kernel_rfl
  refine wpAny_execs_cons (wpAny_If ?_)
  refine not_chain (i := loop) (j := many) (fun E Q tk' kk => wpAny_mkInt (kk _ _)) (fun E Q tk' kk => NameLC (x.tok _) hkf hkL hvL (kk _ _) dL) (fun E Q tk' kk => NameLC (x.tok _) hkf hkS hvS (kk _ _) dS) (by kernel_rfl) (by omega) fun tk => ?_
  rw [if_pos rfl]
  refine wpAny_execs_cons ?_
  rw [arm_exec_Raise]
  refine wpAny_bind (wpAny_standAt (raise_made hn ?_))
  refine wpAny_bind (wpAny_Call_ofName (wpAny_Name (ks_loadName_global hkf (by kernel_rfl : (callEnvC (fdO (o290 P).1) L 290).kindOf "BoundFault" = some .globalImplicit) (loadGlobal_global (env := callEnvC (fdO (o290 P).1) L 290) T.g (mg_of X T.g (n := "BoundFault") (v := .ref 60) (by kernel_rfl)) ?_)) (by kernel_rfl)))
  have hC : s.heap.get? 60 = some cls60 := X 60 _ (supK P).at60
  refine callWith_of (P := fun h => h = s.heap) rfl (fun h hp => ⟨.machine, .inr (.inl rfl), by subst hp; intro A Q E s' kk q; obtain ⟨hh, g, dd, tk, os⟩ := s'; exact wpAny_keeperOf_exc (kk _ _ hC) q⟩) ?_
  have l1 := int_len loop (hl.elim (fun e => e ▸ .inr hm) .inl)
  have l2 := int_len many (.inr hm)
  have q1 : (Str.empty ++ ("there is no state " : Str)).length = 18 := by decide +kernel
  have q2 : (" among " : Str).length = 7 := by decide +kernel
  have q3 : sizeLine = 2 ^ 24 := rfl
  refine evalArgs_plain (spliced_cons (wpAny_JoinedStr (pos := ⟨0, 0, 0, 0⟩) ?_))
  refine (?_ : wpAny _ _ _ _ _ _)
  refine Constant_str ⟨_, _, rfl, by rw [q1]; decide, ?_⟩
  refine (?_ : wpAny _ _ _ _ _ _)
  refine wpAny_FormattedValue_plain (NameLC (x.tok _) hkf hkL hvL (wpAny_formatField_int l1.2 ⟨_, _, rfl, by rw [Str.length_append, q1]; (clear hroom hm hl l2 q1 q2; omega), ?_⟩) dL)
  refine (?_ : wpAny _ _ _ _ _ _)
  refine Constant_str ⟨_, _, rfl, by rw [Str.length_append, Str.length_append, q1, q2]; omega, ?_⟩
  refine (?_ : wpAny _ _ _ _ _ _)
  refine wpAny_FormattedValue_plain (NameLC (x.tok _) hkf hkS hvS (wpAny_formatField_int l2.2 ⟨_, _, rfl, by rw [Str.length_append, Str.length_append, Str.length_append, q1, q2]; omega, ?_⟩) dS)
  refine ⟨by rw [Str.length_append, Str.length_append, Str.length_append, q1, q2]; omega, spliced_nil ⟨rfl, ?_⟩⟩
  refine exc_call hfile htop X T (by omega) fun h' tk' e d t e' hd k' => ?_
  refine wpAny_bind (wpAny_standAt (wpAny_pure ?_))
  exact ⟨e, t, d, rfl, k' _ _ hC, e', k h' tk' e t d e' hd k'⟩
theorem kinds290 (P : Params) (L : Addr) {vs vb vv v1 v2 : Value} : ∀ x ∈ [(("self" : Str), vs), (("bounds" : Str), vb), (("varying" : Str), vv), (("steps" : Str), v1), (("loop" : Str), v2)],
    (fdO (o290 P).1).scope.names.lookup x.1 = some .local ∨ ((fdO (o290 P).1).scope.names.lookup x.1 = some .cell ∧ ((cellsFrom (L + 1) (fdO (o290 P).1).scope.names []).lookup x.1).isSome = true) := by
  intro x hx
  simp only [List.mem_cons, List.not_mem_nil, or_false] at hx
  rcases hx with rfl | rfl | rfl | rfl | rfl
  · exact .inr ⟨by kernel_rfl, by kernel_rfl⟩
  · exact .inl (by kernel_rfl)
  · exact .inl (by kernel_rfl)
  · exact .inl (by kernel_rfl)
  · exact .inl (by kernel_rfl)
theorem unroller_raise (hfile : ((prog.main.file : Str) == "/claim/cut.py") = true) (htop : (prog.main.scope.names.lookup ("super" : Str)).isSome = false) (X : (hd.heap_1 P).In s.heap) {p : Program} {loose : List Str} {mg mb : Str → Option Value} (T : TopRead p loose mg mb s.heap)
    (hn : A.handled = none) (hroom : A.depth + 20 < recursionLimit) {vs vb vv : Value} {many loop : Int} {t1 t2 : Tok} (hm : many = 2 ∨ many = 3 ∨ many = 4) (hl : loop = many ∨ loop = -1)
    {base : Heap} {outer : List Env} (hfr : A.frames = some outer) (hbase : base.StaysIn s.heap) (hff : s.heap.FunFrames base outer)
    (k : ∀ h' tk e t, Heap.FlyingW base outer e (.ref 60) (.ref t) h' → s.heap.UpToSlots h' → R (.error (.ref e)) { s with heap := h', toks := tk }) :
    codeAny (model prog w) A (.call (.ref 290) ⟨[vs, vb, vv, .int many t1, .int loop t2], []⟩) R s := by
  have fresh : ∀ b, s.heap.get? b = none → base.get? b = none := fun b hb => by
    cases q : base.get? b with
    | none => rfl
    | some o => have := hbase b o q; replace this := hb ▸ this; cases this
  refine codeAny_call_cells (fd := fdO (o290 P).1) (body := (b290 P).1) (binds := [(("self" : Str), vs), (("bounds" : Str), vb), (("varying" : Str), vv), (("steps" : Str), .int many t1), (("loop" : Str), .int loop t2)]) (by (apply k3; assumption)) (X _ _ (k290 P)) rfl T.nolimit (codeRec_of X (by kernel_rfl)) (b290 P).2 (by kernel_rfl) (by kernel_rfl) (kinds290 P _) (fun s1 x => ?_) (by kernel_rfl) (by kernel_rfl) (by kernel_rfl)
  have kp := x.toInCall.keep
  have hns := x.toInCall.ns
  refine O21 x.toInCall.same ?_; rintro h1 tk1 rfl
  refine init_raises (A := A.deeper (callEnvC (fdO (o290 P).1) s.heap.objs.size 290)) (t1 := t1) (t2 := t2) hfile htop (X.keeps kp) (T.keeps kp) hn ?_ hm hl x (by kernel_rfl) (by kernel_rfl) fun h' tk e t d e' hd k' => ?_
  · refine (?_ : A.depth + 1 + 15 < _)
    (clear hm hl; omega)
  · have kp' : ∀ b o, s.heap.get? b = some o → h'.get? b = some o := fun b o q => k' _ _ (kp _ _ q)
    refine wpAny_leaving_firstW (base := base) (outer := outer) (L := s.heap.objs.size) (a0 := .ref t) (Around.frames_deeper hfr) ?_ rfl e' (fun b o q => kp' _ _ (hbase _ _ q)) (fresh e ?_) rfl rfl rfl fun h'' hL' => ?_
    · refine ⟨(by rw [show (callEnvC (fdO (o290 P).1) s.heap.objs.size 290).scope.kind = .function from by kernel_rfl]; intro z; cases z), ?_, hff.of_keeps fun b o q D0 => ⟨o, kp' _ _ q, rfl⟩⟩
      refine O33 hns ?_; clear hns; rintro oL es ep hL hdL _
      exact ⟨_, oL, rfl, fresh _ (dead_size _ (Nat.le_refl _)), k' _ _ hL, fun vs q => by replace q := hdL ▸ q; cases q⟩
    · cases q : s.heap.get? e with
      | none => rfl
      | some o => have := kp _ _ q; replace this := (show h1.get? e = none from hd) ▸ this; cases this
    · refine O04 hL' ?_; clear hL'; rintro a1 ⟨_, _, a2⟩ a3 a4
      refine k h'' tk e t ⟨a1, fresh e ?_, a2, a3⟩ ((Heap.UpToSlots.of_keeps kp').trans a4)
      cases q : s.heap.get? e with
      | none => rfl
      | some o => have := kp _ _ q; replace this := (show h1.get? e = none from hd) ▸ this; cases this
end
end Og
end
section
set_option maxRecDepth 1000000
set_option Elab.async false
namespace Og
open PySem PySem.W PyProof.Rows PySem.Calls PySem.Spec PySem.SeqAt PySem.Builtin PySem.Builtin.ObjectAttr
/-! ## _law_is_refused -/
noncomputable def o470 (P : Params) : { o : Obj // (hd.heap_1 P).lookup 470 = some o } := ⟨_, rfl⟩
noncomputable def b470 (P : Params) : { b : List Stmt // (fdO (o470 P).1).body = .stmts b } := ⟨_, rfl⟩
theorem k470 (P : Params) : (hd.heap_1 P).lookup 470 = some ⟨.type "function", none, .func (fdO (o470 P).1), #[]⟩ := by kernel_rfl
theorem sc470 (P : Params) : (fdO (o470 P).1).scope.names = [(("bounds" : Str), NameKind.local), (("many" : Str), NameKind.local), (("loop" : Str), NameKind.local), (("Unroller" : Str), NameKind.globalImplicit), (("BoundFault" : Str), NameKind.globalImplicit)] := by kernel_rfl
structure UnK (K : Frag) : Prop where
  ini : findIn K (.ref 333) "__init__" = some (some (.ref 290))
  typ : typeIn K (.ref 290) = some (.type "function")
  mak : makesIn K 333 = true
  kee : keepIn K (.ref 333) = true
  glo : nsIn K mainGlobals "Unroller" = some (some (.ref 333))
  glb : nsIn K mainGlobals "BoundFault" = some (some (.ref 60))
theorem unK (P : Params) : UnK (hd.heap_1 P) := by
  constructor
  all_goals kernel_rfl
section
variable {prog : Program} {w : World} {P : Params} {A : Around} {E : Value → Shared → Prop} {s : Shared}
theorem unroller_call (hfile : ((prog.main.file : Str) == "/claim/cut.py") = true) (htop : (prog.main.scope.names.lookup ("super" : Str)).isSome = false) (X : (hd.heap_1 P).In s.heap) {p : Program} {loose : List Str} {mg mb : Str → Option Value} (T : TopRead p loose mg mb s.heap)
    (hn : A.handled = none) (hroom : A.depth + 25 < recursionLimit) {vb vv : Value} {many loop : Int} {t1 t2 : Tok} (hm : many = 2 ∨ many = 3 ∨ many = 4) (hl : loop = many ∨ loop = -1)
    {base : Heap} {outer : List Env} (hfr : A.frames = some outer) (hbase : base.StaysIn s.heap) (hff : s.heap.FunFrames base outer) {Q : Value → Shared → Prop}
    (k : ∀ h' tk e t, Heap.FlyingW base outer e (.ref 60) (.ref t) h' → s.heap.UpToSlots h' → E (.ref e) { s with heap := h', toks := tk }) :
    wpAny (model prog w) A (call (.ref 333) [vb, vv, .int many t1, .int loop t2]) Q E s := by
  refine Og.cps fun G kG => ?_
  have Z := unK P
  obtain ⟨hh, g, d, tk, os⟩ := s
  refine kG ?_
  clear kG
  refine wpAny_call (make_core (makes_of X Z.mak) (looks_findIn X Z.ini) (fun self => bind_fn X self Z.typ) (.inl rfl) ?_)
  have k1 : ∀ b o, hh.get? b = some o → ((hh.push emptyDict).push (instObj 333 hh.objs.size)).get? b = some o := fun b o e => Heap.get?_push_of_some _ (Heap.get?_push_of_some _ e)
  refine unroller_raise (w := w) (A := A.under (.builtin "type.__call__" ⟨[.ref 333, vb, vv, .int many t1, .int loop t2], []⟩)) (s := ⟨(hh.push emptyDict).push (instObj 333 hh.objs.size), g, d, tk, os⟩) hfile htop (X.keeps k1) (T.keeps k1) hn ?_ hm hl (base := base) (outer := outer) hfr (fun b o q => k1 _ _ (hbase _ _ q)) (hff.of_keeps fun b o q D0 => ⟨o, k1 _ _ q, rfl⟩) fun h' tk' e t f u => ?_
  · refine (?_ : A.depth + (Code.builtin "type.__call__" ⟨[.ref 333, vb, vv, .int many t1, .int loop t2], []⟩).weight + 20 < _)
    refine (by rfl : (Code.builtin "type.__call__" ⟨[.ref 333, vb, vv, .int many t1, .int loop t2], []⟩).weight = 1) ▸ ?_; (clear hm hl; omega)
  · exact k h' tk' e t f ((Heap.UpToSlots.of_keeps k1).trans u)
theorem refused_call (hfile : ((prog.main.file : Str) == "/claim/cut.py") = true) (htop : (prog.main.scope.names.lookup ("super" : Str)).isSome = false) {base : Heap} (XB : (hd.heap_1 P).In base) {p : Program} {loose : List Str} {mg mb : Str → Option Value} (TB : TopRead p loose mg mb base)
    (hn : A.handled = none) (hroom : A.depth + 30 < recursionLimit) {vb : Value} {many loop : Int} {t1 t2 : Tok} (hm : many = 2 ∨ many = 3 ∨ many = 4) (hl : loop = many ∨ loop = -1)
    {outer : List Env} (hfr : A.frames = some outer) (hbase : base.StaysIn s.heap) (hff : s.heap.FunFrames base outer) {Q : Value → Shared → Prop}
    (k : ∀ h' tk, base.StaysIn h' → s.heap.UpToSlots h' → Q (.bool true) { s with heap := h', toks := tk }) :
    wpAny (model prog w) A (call (.ref 470) [vb, .int many t1, .int loop t2]) Q E s := by
  have Z := unK P
  have X : (hd.heap_1 P).In s.heap := XB.keeps hbase
  have T := TB.keeps hbase
  have fresh : ∀ b, s.heap.get? b = none → base.get? b = none := fun b hb => by
    cases q : base.get? b with
    | none => rfl
    | some o => have := hbase b o q; replace this := hb ▸ this; exact Og.nos this
  refine wpAny_call (codeAny_call_plain (fd := fdO (o470 P).1) (body := (b470 P).1) (binds := [(("bounds" : Str), vb), (("many" : Str), .int many t1), (("loop" : Str), .int loop t2)]) (by (apply k3; assumption)) (X _ _ (k470 P)) rfl T.nolimit (codeRec_of X (by kernel_rfl)) (b470 P).2 (by kernel_rfl) (by rw [sc470]; decide) (by rw [sc470]; intro x hx; simp at hx; rcases hx with rfl | rfl | rfl <;> rfl) (fun h0 hns kk => ?_) (by kernel_rfl) (by kernel_rfl) (by kernel_rfl))
  have hkf : (callEnv (fdO (o470 P).1) s.heap.objs.size 470).scope.kind = .function := by kernel_rfl
  have hkU : (callEnv (fdO (o470 P).1) s.heap.objs.size 470).kindOf "Unroller" = some .globalImplicit := by kernel_rfl
  have hkB : (callEnv (fdO (o470 P).1) s.heap.objs.size 470).kindOf "BoundFault" = some .globalImplicit := by kernel_rfl
  have hkb : (callEnv (fdO (o470 P).1) s.heap.objs.size 470).kindOf "bounds" = some .local := by kernel_rfl
  have hkm : (callEnv (fdO (o470 P).1) s.heap.objs.size 470).kindOf "many" = some .local := by kernel_rfl
  have hkl : (callEnv (fdO (o470 P).1) s.heap.objs.size 470).kindOf "loop" = some .local := by kernel_rfl
  have hfr1 : (A.deeper (callEnv (fdO (o470 P).1) s.heap.objs.size 470)).frames = some (callEnv (fdO (o470 P).1) s.heap.objs.size 470 :: outer) := Around.frames_deeper hfr
  have hef : (callEnv (fdO (o470 P).1) s.heap.objs.size 470).frame = some s.heap.objs.size := rfl
  have hd1 : (A.deeper (callEnv (fdO (o470 P).1) s.heap.objs.size 470)).depth = A.depth + 1 := rfl
  have hm1 : (fun x => [(("bounds" : Str), vb), (("many" : Str), .int many t1), (("loop" : Str), .int loop t2)].reverse.lookup x) "bounds" = some vb := rfl
  have hm2 : (fun x => [(("bounds" : Str), vb), (("many" : Str), .int many t1), (("loop" : Str), .int loop t2)].reverse.lookup x) "many" = some (.int many t1) := rfl
  have hm3 : (fun x => [(("bounds" : Str), vb), (("many" : Str), .int many t1), (("loop" : Str), .int loop t2)].reverse.lookup x) "loop" = some (.int loop t2) := rfl
  have hb0 : base.StaysIn h0 := fun b o q => kk _ _ (hbase _ _ q)
  have hff0 : h0.FunFrames base (callEnv (fdO (o470 P).1) s.heap.objs.size 470 :: outer) := by
    refine ⟨(by rw [hkf]; intro z; exact absurd z (by decide)), ?_, hff.of_keeps fun b o q D0 => ⟨o, kk _ _ q, rfl⟩⟩
    refine O33 hns ?_; clear hns; rintro oL es ep hL hdL _
    exact ⟨_, oL, rfl, fresh _ (dead_size _ (Nat.le_refl _)), hL, fun vs q => by replace q := hdL ▸ q; cases q⟩
  have ldG : ∀ {x : Str} {pos : Pos} {v : Value} {Q : Value → Shared → Prop} {E : Value → Shared → Prop} {A : Around} {s' : Shared}, base.StaysIn s'.heap → (callEnv (fdO (o470 P).1) s.heap.objs.size 470).kindOf x = some .globalImplicit → nsIn (hd.heap_1 P) mainGlobals x = some (some v) → (x == ("__debug__" : Str)) = false → Q v s' →
      wpAny (model prog w) A (eval (.Name x pos) (callEnv (fdO (o470 P).1) s.heap.objs.size 470)) Q E s' := fun {x pos v Q E A s'} hs hx hv hd q =>
    wpAny_Name (ks_loadName_global hkf hx (loadGlobal_global (env := callEnv (fdO (o470 P).1) s.heap.objs.size 470) (TB.keeps hs).g (mg_of (XB.keeps hs) (TB.keeps hs).g hv) q)) hd
  refine wpAny_execs_cons (wpAny_Try_except ?_)
  refine wpAny_execs_cons (wpAny_Expr_any ?_ (by kernel_rfl) (by kernel_rfl))
  refine wpAny_Call_ofName (ldG (s' := { s with heap := h0, toks := s.toks + 3 }) hb0 hkU Z.glo (by kernel_rfl) ?_)
  refine callWith_of (P := fun h => (hd.heap_1 P).In h) (by kernel_rfl) (fun h hp => keeps_K Z.kee h hp) ?_
  refine evalArgs_plain (spliced_cons (ldc hkf hkb hns hm1 (spliced_cons ?_)))
  show wpAny _ _ (eval (.Tuple [.Constant (.int 0) 0 ⟨422, 26, 422, 27⟩] 0 ⟨422, 25, 422, 29⟩) _) _ _ _
  refine wpAny_Tuple_spliced (spliced_cons ?_)
  show wpAny _ _ (eval (.Constant (.int 0) 0 ⟨422, 26, 422, 27⟩) _) _ _ _
  refine wpAny_Constant_int (spliced_nil ⟨(by show 1 ≤ sizeLine; decide), ?_⟩)
  have k1 : ∀ b o, h0.get? b = some o → (h0.push { cls := .type "tuple", data := .seq [Value.int 0 (s.toks + 3)].toArray }).get? b = some o := fun b o q => Heap.get?_push_of_some _ q
  refine spliced_cons (ldc hkf hkm (hns.keeps k1) hm2 (spliced_cons (ldc hkf hkl (hns.keeps k1) hm3 (spliced_nil ⟨X.keeps fun b o q => k1 _ _ (kk _ _ q), ?_⟩))))
  refine unroller_call (A := A.deeper (callEnv (fdO (o470 P).1) s.heap.objs.size 470)) hfile htop (X.keeps fun b o q => k1 _ _ (kk _ _ q)) (T.keeps fun b o q => k1 _ _ (kk _ _ q)) hn (by rw [hd1]; (clear hm hl; omega)) hm hl (base := base) hfr1 (fun b o q => k1 _ _ (hb0 _ _ q)) (hff0.of_keeps fun b o q D0 => ⟨o, k1 _ _ q, rfl⟩) fun h1 tk1 e t f u => ?_
  have u1 : s.heap.UpToSlots h1 := (Heap.UpToSlots.of_keeps fun b o q => k1 _ _ (kk _ _ q)).trans u
  refine wpAny_looks_onW hfr1 hef f fun h2 f2 u2 => ?_
  refine wpAny_landsW f2 fun h3 f3 u3 => ?_
  refine O12 f3.there ?_; rintro oe he hcls
  refine wpAny_handleBy_cons (codeAny_handlers_test (ldG f3.1 hkB Z.glb (by kernel_rfl) ?_)) (by intro q; cases q)
  refine wpAny_excMatches_sub_self (f3.1 _ _ (XB 60 _ (supK P).at60) : h3.get? 60 = some cls60) he hcls (by decide +kernel) (codeAny_handlers_suite ?_)
  refine lands_againW f3 fun h4 f4 u4 => ?_
  refine wpAny_execs_cons (wpAny_Return_some (wpAny_pure ?_))
  exact k h4 tk1 f4.1 (((u1.trans u2).trans u3).trans u4)
end
end Og
end
section
set_option maxRecDepth 1000000
set_option Elab.async false
namespace Og
open PySem PySem.W PyProof.Rows PySem.Calls PySem.Spec
/-! ## the frame of the law when an exception has passed above it -/
section
variable {prog : Program} {w : World} {B : Heap} {P : Addr} {F Fz : Fro} {Pr : Bk} {ρ ρz : List Addr} {st : Sto} {h h' hz : Heap} {env : Env} {cx : Cx} {ow : Str → List Addr}
theorem FR.slots (R : FR prog w P F ρ h env cx ow) (k : ∀ b o, b ≠ env.locals → h.get? b = some o → h'.get? b = some o) (u : h.UpToSlots h') : FR prog w P F ρ h' env cx ow := by
  obtain ⟨m0, hn0⟩ := R.lns
  have hns := u.ns hn0
  refine O33 hn0 ?_; clear hn0; rintro oL es ep hL hdL _
  have kc : ∀ c v, h.IsCell c v → h'.IsCell c v := fun c v C => IsCell.keep C fun o q => k c o (fun z => by
    refine O12 C ?_; clear C; rintro o' q1 q2
    replace q1 := hL ▸ z ▸ q1; (replace q1 := Option.some.inj q1; subst q1); replace q2 := hdL ▸ q2; cases q2) q
  have ka : ∀ b, (∃ o, h.get? b = some o) → ∃ o, h'.get? b = some o := fun b hb => by
    obtain ⟨o, q⟩ := hb
    by_cases z : b = env.locals
    · refine O32 hns ?_; clear hns; rintro o' es' ep' q' _
      exact ⟨o', z ▸ q'⟩
    · exact ⟨o, k b o z q⟩
  refine ⟨R.kind, R.glob, R.ks, R.free, ⟨m0, hns⟩, fun x lv e => ?_, R.lok, fun x e => ?_, R.capart, fun x c e => ka c (R.clt x c e), R.own, R.oinj, fun x a ha => ka a (R.below x a ha), R.lamc⟩
  · refine O12 (R.var x lv e) ?_; rintro v V L
    refine Og.I12 v ?_ (L.keep (fun D0 D1 z => z) (fun D0 D1 z => z) fun a ha ob q => k a ob (R.own x a ha).2.2.2.1 q)
    rcases V with ⟨hk, m, hn, hv⟩ | ⟨hk, c, hc, hv⟩
    · exact .inl ⟨hk, m, u.ns hn, hv⟩
    · exact .inr ⟨hk, c, hc, kc c _ hv⟩
  · refine O23 (R.cell x e) ?_; rintro c v0 e1 e2 e3
    exact Og.I23 c v0 e1 (kc c _ e2) e3
theorem In0.slots (I : In0 prog w B P Fz ρz hz Pr F ρ st h env cx ow) (k : ∀ b o, b ≠ env.locals → h.get? b = some o → h'.get? b = some o) (u : h.UpToSlots h') : In0 prog w B P Fz ρz hz Pr F ρ st h' env cx ow := by
  refine ⟨I.S.touch (· = env.locals) (fun a z => z ▸ (I.T _ (.inl rfl) : hz.get? env.locals = none)) (fun a o n q => k a o n q), I.G.touch (· = env.locals) (fun a z => z ▸ Og.I03 I.R.lok.2.1 I.R.lok.1 I.R.lok.2.2) (fun a o n q => k a o n q), I.R.slots k u, I.T, I.O, fun b o e => ?_, I.M⟩
  refine O06 (I.K b o e) ?_; rintro q1 q2 q3 q4 q5 q6
  exact Og.I06 (k b o (fun z => q5 (.inl z)) q1) q2 q3 q4 q5 q6
end
end Og
end
section
set_option maxRecDepth 100000
set_option Elab.async false
namespace Og
open PySem PySem.W PyProof.Rows PySem.Calls PySem.Spec
/-! ## the end: a call of the law from the top -/
theorem well_int {P : Params} {h : Heap} {v : Value} {i : Int} (e : Well P h v (ofPy (.int i))) : ∃ t, v = .int i t := by
  cases e with
  | int i t => exact ⟨_, rfl⟩
theorem wellAll_ints {P : Params} {h : Heap} {prog : Program} {w : World} {F : Fro} {ρ : List Addr} : ∀ {vs : List Value} {xs : List Int}, WellAll P h vs (ofPys (xs.map PyData.int)) → RelL prog w F ρ vs (xs.map AV.int)
  | vs, [], e => by
    cases e
    exact .nil
  | vs, x :: xs, e => by
    cases e with
    | cons h1 h2 =>
      obtain ⟨t, rfl⟩ := well_int h1
      exact .cons (.int x t) (wellAll_ints h2)
theorem base_of {p : Program} {loose : List Str} {mean : ExcName → Option Value} {prog : Program} {w : World} {K : Frag} {mg mb : Str → Option Value} {h : Heap} (hT : TabsAt [(452, 450)] h) (T : Top p loose mean mg mb h) (X : K.In h) (hK : noTabs K = true) (hm : ∃ o, h.get? sysModules = some o) (hs : sysModules ≠ 450) :
    Base prog w K topProg (loose ++ (recsOf p).map (·.name) ++ (litsOf p).map (·.1) ++ (clssOf p loose).map (·.name)) mg mb (ghostOf h [(452, 450)]) 452 450 := by
  have T' := ghost_top hT T
  have hP := (hT _ (.head _)).2
  refine ⟨ghost_K hT X hK, topRead_of T', ((ghost_code hT).1), ?_, hideAll_none _ (.head _), ?_⟩
  · refine O26 T'.bmain ?_; rintro bm ob b1 b2 b3 b4 b5 b6
    have hbP : bm ≠ 450 := fun q => by
      replace b3 := (hideAll_none _ (.head _) : (ghostOf h [(452, 450)]).get? 450 = none) ▸ q ▸ b3; exact Og.nos b3
    have hbG : bm ≠ mainGlobals := fun q => by
      refine O33 T'.g ?_; rintro o es ep e hd _
      replace b3 := e ▸ q ▸ b3; (replace b3 := Option.some.inj b3; clear b4 b5; subst b3); replace b6 := hd ▸ b6; cases b6
    exact ⟨bm, ob, b1, b2, hbG, hbP, b3, b4, b5, b6⟩
  · obtain ⟨o, e⟩ := hm
    exact ⟨o, ghost_ne e (by simpa using hs)⟩
theorem gr_top {prog : Program} {w : World} {h : Heap} (hT : TabsAt [(452, 450)] h) (hm : ∃ o, h.get? sysModules = some o) (hs : sysModules ≠ 450) :
    GR prog w (ghostOf h [(452, 450)]) 450 (fun a => (ghostOf h [(452, 450)]).get? a) [] [] h := by
  refine ⟨fun D0 D1 e => e, ?_, fun a o e => ⟨of_hideAll _ e, fun q => ?_⟩, rfl, List.nodup_nil, (fun D0 h => nomatch h), (fun i a m e D0 => by exact Og.nos e), Og.I13 (#[]) ((hT _ (.head _)).2) ?_ ?_⟩
  · obtain ⟨o, e⟩ := hm
    exact ⟨o, ghost_ne e (by simpa using hs)⟩
  · replace e := (hideAll_none _ (.head _) : (ghostOf h [(452, 450)]).get? 450 = none) ▸ q ▸ e; exact Og.nos e
  · trivial
  · intro pos cv e; exact Og.nos e
end Og
end
section
set_option maxRecDepth 1000000
set_option Elab.async false
namespace Og
open PySem PySem.W PyProof.Rows PySem.Calls PySem.Spec PySem.SeqAt
/-! ## the frame of the law -/
theorem execs_app {M : Model} {A : Around} {E : Value → Shared → Prop} {env : Env} {l2 : List Stmt} {Q : Flow → Shared → Prop} : ∀ (l1 : List Stmt) {s : Shared}, wpAny M A (execs l1 env) (fun f s' => match f with | .next => wpAny M A (execs l2 env) Q E s' | f => Q f s') E s → wpAny M A (execs (l1 ++ l2) env) Q E s := by
  have key : ∀ l1 : List Stmt, execs (l1 ++ l2) env = (execs l1 env >>= fun f => match f with | .next => execs l2 env | f => pure f) := by
    intro l1
    induction l1 with
    | nil => rw [List.nil_append, execs_nil]; rfl
    | cons x r ih =>
      rw [List.cons_append, execs_cons, execs_cons, bind_assoc]
      congr 1
      funext f
      cases f with
      | next => exact ih
      | _ => rfl
  intro l1 s h
  rw [key]
  refine wpAny_bind (wpAny_mono h (fun f s' q => ?_) fun D0 D1 q => q)
  cases f with
  | next => exact q
  | _ => exact wpAny_pure q
section
variable {prog : Program} {w : World} {B : Heap} {P : Addr} {F Fz : Fro} {Pr : Bk} {ρ ρz : List Addr} {st : Sto} {h h' hz : Heap} {env : Env} {cx cx2 : Cx} {ow : Str → List Addr}
theorem FR.weaken (R : FR prog w P F ρ h env cx ow) (hs : cx2.sc = cx.sc) (hl : cx2.lam = cx.lam) (hv : ∀ x lv, cx2.vars.lookup x = some lv → cx.vars.lookup x = some lv) : FR prog w P F ρ h env cx2 ow :=
  ⟨R.kind, R.glob, hs ▸ R.ks, hs ▸ R.free, R.lns, fun x lv e => R.var x lv (hv x lv e), R.lok, hs ▸ R.cell, hs ▸ R.capart, R.clt, R.own, R.oinj, R.below, R.lamc.mono (fun D0 D1 z => z) fun z => hl ▸ z⟩
theorem In0.weaken (I : In0 prog w B P Fz ρz hz Pr F ρ st h env cx ow) (hs : cx2.sc = cx.sc) (hl : cx2.lam = cx.lam) (hv : ∀ x lv, cx2.vars.lookup x = some lv → cx.vars.lookup x = some lv) : In0 prog w B P Fz ρz hz Pr F ρ st h env cx2 ow := by
  have hT : ∀ a, Touch env cx2 a → Touch env cx a := fun a z => by unfold Touch at z ⊢; replace z := hs ▸ z; exact z
  exact ⟨I.S, I.G, I.R.weaken hs hl hv, fun a z => I.T a (hT a z), I.O, fun b o e => by
    refine O06 (I.K b o e) ?_; rintro k1 k2 k3 k4 k5 k6
    exact Og.I06 k1 k2 k3 k4 (fun z => k5 (hT _ z)) k6, I.M⟩
theorem leaves_look {cx : Cx} {names : List Str} {vals : List (Option LV)} (vs : List (Str × LV)) (h : (names.map fun x => cx.vars.lookup x) = vals) (e : names = vs.map (·.1)) (e2 : vals = vs.map fun p => some p.2) : ∀ x lv, vs.lookup x = some lv → cx.vars.lookup x = some lv := by
  intro x lv q
  rw [e, e2, List.map_map] at h
  exact (List.map_inj_left.mp h) _ (mem_of_lookup q)
end
structure IfP where
  (t : Expr) (n1 n2 : Str) (p1 p2 : Pos) (a1 a2 : List Expr) (c1 c2 u1 u2 q r : Pos) (body : List Stmt)
noncomputable def IfP.stmt (x : IfP) : Stmt := .If (.BoolOp .Or [x.t, .UnaryOp .Not (.Call (.Name x.n1 x.p1) x.a1 [] x.c1) x.u1, .UnaryOp .Not (.Call (.Name x.n2 x.p2) x.a2 [] x.c2) x.u2] x.q) x.body [] x.r
noncomputable def if475 (P : Params) : { x : IfP // (b475 P).1[11]? = some x.stmt } := ⟨⟨_, _, _, _, _, _, _, _, _, _, _, _, _, _⟩, rfl⟩
theorem b475_eq (P : Params) : (b475 P).1 = (b475 P).1.take 1 ++ ((segA P).tail ++ (segB P ++ ((if475 P).1.stmt :: segC P))) := by kernel_rfl
noncomputable def cxI (P : Params) (xs : List Int) (m l : Nat) (rows ins : List AV) : Cx := ⟨sc475 P, [(("draws" : Str), .v (drw xs)), (("many" : Str), .v (nat m)), (("loop" : Str), .v (nat l)), (("line" : Str), .v (.lst rows)), (("bounds" : Str), .v (.inst 274 3)), (("unroller" : Str), .v uI), (("instance" : Str), .v (.lst ins))], false⟩
section
variable {prog : Program} {w : World} {p : Program} {loose : List Str} {mg mb : Str → Option Value} {B : Heap} {cL P : Addr} {F F' Fz : Fro} {Pr : Bk} {ρ ρ' ρz : List Addr} {st st' : Sto} {A : Around} {E : Value → Shared → Prop} {s : Shared} {h h' hz : Heap} {env : Env} {cx : Cx} {ow : Str → List Addr} {U : Params} {n : Nat}
theorem nat_val {v : Value} {m : Nat} (R : Rel prog w F ρ v (nat m)) : ∃ t, v = .int m t := by
  unfold nat at R
  cases R
  exact ⟨_, rfl⟩
theorem int_val {v : Value} {i : Int} (R : Rel prog w F ρ v (.int i)) : ∃ t, v = .int i t := by
  cases R
  exact ⟨_, rfl⟩
theorem ask_none {V : Vu} : SmH V n (fun D0 D1 D2 D3 D4 => False) (fun D0 D1 D2 D3 => failC) := fun D0 D1 D2 D3 => Sm.fail
noncomputable abbrev noC : HdT := fun D0 D1 D2 D3 => failC
theorem run_E {V : Vu} (hK : V.K = hd.heap_1 U) {e : Expr} {cx : Cx} {st : Sto} {a : AV} {st' : Sto} (h : tr (evT (tbP U) noC 16 {} Ans cx e st fun a s => .ret (a, s)) [] [] = some ([], 0, (a, st'))) : Em V n e cx st a st' := by
  obtain ⟨b, s', e, h2⟩ := (evT_sm (hK ▸ tabs_ok U) ask_none 16).1 {} Ans cx e st _ _ (sat_tr _ h (fun D0 h => nomatch h) fun i b h => by simp at h)
  cases h2
  exact e
theorem run_T {V : Vu} (hK : V.K = hd.heap_1 U) {e : Expr} {cx : Cx} {st : Sto} {b : Bool} {st' : Sto} (h : tr (trT (tbP U) noC 16 {} (Bool × Sto) cx e st fun a s => .ret (a, s)) [] [] = some ([], 0, (b, st'))) : Tm' V n e cx st b st' := by
  obtain ⟨b, s', e, h2⟩ := (evT_sm (hK ▸ tabs_ok U) ask_none 16).2.2 {} (Bool × Sto) cx e st _ _ (sat_tr _ h (fun D0 h => nomatch h) fun i b h => by exact Og.nos h)
  cases h2
  exact e
theorem run_L {V : Vu} (hK : V.K = hd.heap_1 U) {es : List Expr} {cx : Cx} {st : Sto} {l : List AV} {st' : Sto} (h : tr (evLT (evT (tbP U) noC 16 {} (List AV × Sto) cx) es st fun a s => .ret (a, s)) [] [] = some ([], 0, (l, st'))) : LsM V n cx es st l st' := by
  obtain ⟨b, s', e, h2⟩ := evL_sm ((evT_sm (hK ▸ tabs_ok U) ask_none 16).1 {} (List AV × Sto) cx) es st _ _ (sat_tr _ h (fun D0 h => nomatch h) fun i b h => by exact Og.nos h)
  cases h2
  exact e
theorem ref_one (hB : Base prog w (hd.heap_1 U) p loose mg mb B cL P) (hh : A.handled = none) (hu : A.units + 20 < cLine) (hroom : A.depth + 30 < recursionLimit)
    (hfile : ((prog.main.file : Str) == "/claim/cut.py") = true) (htop : (prog.main.scope.names.lookup ("super" : Str)).isSome = false) (hfr : A.frames = some [env]) (hef : env.frame = some env.locals)
    {m : Nat} {l : Int} (hm : m = 2 ∨ m = 3 ∨ m = 4) (hl : l = m ∨ l = -1) {nm : Str} {p1 c1 : Pos} {a1 : List Expr}
    (hname : SE prog w B P A (.Name nm p1) cx st (.val (.ref 470)) st) (hargs : LsR (fun e => SE prog w B P A e cx) a1 st [.inst 274 3, nat m, .int l] st)
    (I : In0 prog w B P Fz ρz hz Pr F ρ st s.heap env cx ow) {Q : Value → Shared → Prop} (k : ∀ h' tk F' ρ', In0 prog w B P Fz ρz hz Pr F' ρ' st h' env cx ow → Q (.bool true) { s with heap := h', toks := tk }) :
    wpAny (model prog w) A (eval (.Call (.Name nm p1) a1 [] c1) env) Q E s := by
  have hstar := hargs.star
  refine Call_ (hname.run E s F ρ env ow I.G I.R _ fun fv h1' tk1 F1 ρ1 S1 G1 Rv => ?_) rfl
  have I1 := I.step S1 G1
  cases Rv
  refine callWith_of (P := fun h => (hd.heap_1 U).In h) (by rw [backTo_any hstar]; rfl) (fun h hp => keeps_K (by kernel_rfl) h hp) ?_
  have fin : ∀ vs h' tk F' ρ', Step P NoX F1 ρ1 h1' F' ρ' h' → GR prog w B P F' ρ' st h' → RelL prog w F' ρ' vs [.inst 274 3, nat m, .int l] →
      (hd.heap_1 U).In h' ∧ wpAny (model prog w) A (call (.ref 470) ([] ++ vs)) Q E { s with heap := h', toks := tk } := fun vs h' tk F' ρ' S' G' L => by
    have I2 := I1.step S' G'
    refine ⟨G'.inK hB, ?_⟩
    cases L with
    | cons hb L =>
      cases L with
      | cons h2 L =>
        cases L with
        | cons h3 L =>
          cases L
          obtain ⟨t1, rfl⟩ := nat_val h2
          obtain ⟨t2, rfl⟩ := int_val h3
          have hne : ∀ b o, B.get? b = some o → b ≠ env.locals := fun b o e z => by
            have := I2.G.base b o e
            replace this := I2.R.lok.2.1 ▸ z ▸ this; exact Og.nos this
          have hBb : ∀ b o, B.get? b = some o → (hideAll h' [env.locals]).get? b = some o := fun b o e => hideAll_get _ (I2.G.keepB b o e) (by simpa using hne b o e)
          refine refused_call (s := { s with heap := h', toks := tk }) hfile htop (hB.X.keeps hBb) (hB.T.keeps hBb) hh hroom (hm.imp (congrArg Int.ofNat) (Or.imp (congrArg Int.ofNat) (congrArg Int.ofNat))) hl hfr (fun b o e => of_hideAll _ e) ?_ fun h2 tk2 hk u => ?_
          · refine O43 I2.R.lns ?_; rintro m0 oL es ep hL hdL _
            refine ⟨(by refine I2.R.kind ▸ ?_; intro z; exact absurd z (by decide)), Og.I24 _ oL hef (hideAll_none _ (.head _)) hL (fun vs q => by replace q := hdL ▸ q; cases q), trivial⟩
          · exact k h2 tk2 F' ρ' (I2.slots (fun b o hb e => hk b o (hideAll_get _ e (by simpa using hb))) u)
  have main := evL_sound (pos := c1) (E := E) (s := { s with heap := h1', toks := tk1 }) hargs G1 I1.R (Q := fun vs s' => (hd.heap_1 U).In s'.heap ∧ wpAny (model prog w) A (call (.ref 470) ([] ++ vs)) Q E s') fin
  cases a1 with
  | nil => cases hargs
  | cons e es =>
    rw [List.all_cons, Bool.and_eq_true] at hstar
    rw [starEach_cons hstar.1] at main ⊢
    exact evalArgs_plain main
theorem law_if (hB : Base prog w (hd.heap_1 U) p loose mg mb B cL P) (hR : Room A n) (hroom : A.depth + 30 < recursionLimit)
    (hfile : ((prog.main.file : Str) == "/claim/cut.py") = true) (htop : (prog.main.scope.names.lookup ("super" : Str)).isSome = false) (hfr : A.frames = some [env]) (hef : env.frame = some env.locals)
    {xs : List Int} {m l : Nat} {rows ins : List AV} (hm : m = 2 ∨ m = 3 ∨ m = 4) (I : In0 prog w B P Fz ρz hz Pr F ρ st s.heap env (cxI U xs m l rows ins) ow) {Q : Flow → Shared → Prop}
    (k : ∀ h' tk F' ρ', In0 prog w B P Fz ρz hz Pr F' ρ' st h' env (cxI U xs m l rows ins) ow → Q .next { s with heap := h', toks := tk }) : wpAny (model prog w) A (exec (if475 U).1.stmt env) Q E s := by
  have hE := fun e cx st a st' h => run_E (n := n) (U := U) (V := ⟨prog, w, _, _, _, _, _, _, _, _, hB⟩) rfl (e := e) (cx := cx) (st := st) (a := a) (st' := st') h A hR
  have hL := fun es cx st l st' h => run_L (n := n) (U := U) (V := ⟨prog, w, _, _, _, _, _, _, _, _, hB⟩) rfl (es := es) (cx := cx) (st := st) (l := l) (st' := st') h A hR
  refine wpAny_If ?_
  refine (?_ : wpAny _ _ (allTrue .Or [_, _, _] env) _ _ _)
  rw [arm_allTrue_cons]
  refine wpAny_bind (run_T (n := n) (U := U) (V := ⟨prog, w, _, _, _, _, _, _, _, _, hB⟩) rfl (b := false) (st' := st) (by kernel_rfl) A hR E s F ρ env ow I.G I.R _ fun h1 tk1 F1 ρ1 S1 G1 => ?_)
  refine (?_ : wpAny _ _ (allTrue .Or [_, _] env) _ _ _)
  rw [arm_allTrue_cons]
  refine wpAny_bind ?_
  rw [arm_isTrue_UnaryOp]
  refine wpAny_bind ?_
  rw [isTrue_plain rfl]
  refine wpAny_bind (ref_one (s := { s with heap := h1, toks := tk1 }) hB hR.h hR.u20 hroom hfile htop hfr hef (l := m) hm (.inl rfl) (hE _ _ _ _ _ (by kernel_rfl)) (hL _ _ _ _ _ (by kernel_rfl)) (I.step S1 G1) fun h2 tk2 F2 ρ2 I2 => ?_)
  refine wpAny_bind (wpAny_standAt (wpAny_holding (wpAny_truthy_bool (wpAny_pure ?_))))
  refine (?_ : wpAny _ _ (allTrue .Or [_] env) _ _ _)
  rw [arm_allTrue_cons]
  refine wpAny_bind ?_
  rw [arm_isTrue_UnaryOp]
  refine wpAny_bind ?_
  rw [isTrue_plain rfl]
  refine wpAny_bind (ref_one (s := { s with heap := h2, toks := tk2 }) hB hR.h hR.u20 hroom hfile htop hfr hef (l := -1) hm (.inr rfl) (hE _ _ _ _ _ (by kernel_rfl)) (hL _ _ _ _ _ (by kernel_rfl)) I2 fun h3 tk3 F3 ρ3 I3 => ?_)
  refine wpAny_bind (wpAny_standAt (wpAny_holding (wpAny_truthy_bool (wpAny_pure ?_))))
  refine (?_ : wpAny _ _ (allTrue .Or [] env) _ _ _)
  refine wpAny_pure (wpAny_execs_nil ?_)
  exact k h3 tk3 F3 ρ3 I3
end
end Og
end
section
set_option maxRecDepth 1000000
set_option Elab.async false
namespace Og
open PySem PySem.W PyProof.Rows PySem.Calls PySem.Spec PySem.SeqAt
section
variable {prog : Program} {w : World} {p : Program} {loose : List Str} {mg mb : Str → Option Value} {B : Heap} {P : Addr} {F F' Fz : Fro} {Pr : Bk} {ρ ρ' ρz : List Addr} {st st' : Sto} {A : Around} {E : Value → Shared → Prop} {s : Shared} {h h' hz : Heap} {env : Env} {cx : Cx} {ow : Str → List Addr} {U : Params} {n : Nat}
theorem look_C (U : Params) (xs : List Int) (m l : Nat) (rows ins : List AV) : ∀ x lv, (cxC U xs m l rows ins).vars.lookup x = some lv → (cxI U xs m l rows ins).vars.lookup x = some lv :=
  leaves_look (cx := cxI U xs m l rows ins) (cxC U xs m l rows ins).vars (names := ["draws", "many", "loop", "line", "unroller", "instance"]) (vals := [some (.v (drw xs)), some (.v (nat m)), some (.v (nat l)), some (.v (.lst rows)), some (.v uI), some (.v (.lst ins))]) (by kernel_rfl) rfl rfl
theorem law_body (hB : Base prog w (hd.heap_1 U) p loose mg mb B 452 P) (hR : Room A n) (hn : 66 ≤ n)
    (hfile : ((prog.main.file : Str) == "/claim/cut.py") = true) (htop : (prog.main.scope.names.lookup ("super" : Str)).isSome = false) (hfr : A.frames = some [env]) (hef : env.frame = some env.locals)
    {ys : List Int} (hy : ys.length ≤ 63) (I : In0 prog w B P Fz ρz hz Pr F ρ [] s.heap env (cx0A U (.lst (numsA ys))) ow) {Q : Flow → Shared → Prop}
    (k : ∀ st' v h' tk F' ρ', Step P NoX Fz ρz hz F' ρ' h' → GR prog w B P F' ρ' st' h' → Rel prog w F' ρ' v (.bool true) → Q (.ret v) { s with heap := h', toks := tk }) : wpAny (model prog w) A (execs (b475 U).1 env) Q E s := by
  have hx : (ys.take 48).length ≤ 48 := by refine List.length_take ▸ ?_; omega
  have hroom : A.depth + 30 < recursionLimit := by have := hR.d; omega
  let V : Vu := ⟨prog, w, _, _, _, _, _, _, _, _, hB⟩
  rw [b475_eq]
  refine execs_app _ ?_
  refine exL_ev (M := 0) (seg0_run hy) (V := V) rfl rfl (m := n) (by omega) A hR E s F ρ env ow Fz ρz hz Pr I _ ?_
  intro h1 tk1 F1 ρ1 ow1 I1 _
  refine (?_ : wpAny _ _ (execs ((segA U).tail ++ _) env) _ _ _)
  refine execs_app _ ?_
  refine Og.cps fun G kG => ?_
  obtain ⟨m, l, w', FF, GG, n0, ok, hn0, hw, cxa, q1, q2, q3, q4⟩ := segA_all (P := U) (scr := .lst (numsA ys)) hx
  refine kG ?_
  clear kG
  refine exL_ev q1 (V := V) rfl rfl (m := n) (by (clear hy hx hroom hn0; omega)) A hR E { s with heap := h1, toks := tk1 } F1 ρ1 env ow1 Fz ρz hz Pr I1 _ ?_
  intro h2 tk2 F2 ρ2 ow2 I2 _
  refine (?_ : wpAny _ _ (execs (segB U ++ _) env) _ _ _)
  have I2 := I2.weaken (cx2 := cxB U (ys.take 48) m l w' (rowsF m w' FF GG)) q3.symm q4.symm (leaves_look (cxB U (ys.take 48) m l w' (rowsF m w' FF GG)).vars q2 rfl rfl)
  refine execs_app _ ?_
  refine O14 (segB_all (P := U) (xs := ys.take 48) (n := n0) (F := FF) ok hw) ?_; rintro cxb r1 r2 r3 r4
  refine exL_ev r1 (V := V) rfl rfl (m := n) (by omega) A hR E { s with heap := h2, toks := tk2 } F2 ρ2 env ow2 Fz ρz hz Pr I2 _ ?_
  intro h3 tk3 F3 ρ3 ow3 I3 _
  refine (?_ : wpAny _ _ (execs ((if475 U).1.stmt :: _) env) _ _ _)
  have I3 := I3.weaken (cx2 := cxI U (ys.take 48) m l (rowsF m w' FF GG) (insL m w' (RF FF GG))) r3.symm r4.symm (leaves_look (cxI U (ys.take 48) m l (rowsF m w' FF GG) (insL m w' (RF FF GG))).vars r2 rfl rfl)
  refine wpAny_execs_cons (law_if (s := { s with heap := h3, toks := tk3 }) hB hR hroom hfile htop hfr hef ok.1 I3 fun h4 tk4 F4 ρ4 I4 => ?_)
  refine (?_ : wpAny _ _ (execs (segC U) env) _ _ _)
  have I4 := I4.weaken (cx2 := cxC U (ys.take 48) m l (rowsF m w' FF GG) (insL m w' (RF FF GG))) rfl rfl (look_C _ _ _ _ _ _)
  obtain ⟨n3, z⟩ := segC_all (P := U) (xs := ys.take 48) (n := n0) (w := w') (F := FF) (G := GG) ok hx hn0
  refine exL_ev z.1 (V := V) rfl rfl (m := n) (by assumption) A hR E { s with heap := h4, toks := tk4 } F4 ρ4 env ow3 Fz ρz hz Pr I4 _ ?_
  intro v h5 tk5 F5 ρ5 S5 G5 R5
  exact k _ v h5 tk5 F5 ρ5 S5 G5 R5
theorem fn475 (U : Params) : fnK (hd.heap_1 U) 475 = some (fdO (o475 U).1) := by kernel_rfl
theorem put475 (U : Params) (a : AV) : putArgs ⟨(fdO (o475 U).1).scope, [], false⟩ (fdO (o475 U).1).params.args [a] = some (cx0A U a) := by kernel_rfl
theorem law_call (hB : Base prog w (hd.heap_1 U) p loose mg mb B 452 P) (hR : Room A 120)
    (hfile : ((prog.main.file : Str) == "/claim/cut.py") = true) (htop : (prog.main.scope.names.lookup ("super" : Str)).isSome = false) (hfr : A.frames = some [])
    {ys : List Int} (hy : ys.length ≤ 63) {vals : List Value} (G : GR prog w B P F ρ [] s.heap) (V : RelL prog w F ρ vals [.lst (numsA ys)]) {Q : Value → Shared → Prop}
    (k : ∀ st' v h' tk F' ρ', Step P NoX F ρ s.heap F' ρ' h' → GR prog w B P F' ρ' st' h' → Rel prog w F' ρ' v (.bool true) → Q v { s with heap := h', toks := tk }) : wpAny (model prog w) A (call (.ref 475) vals) Q E s := by
  refine O0_14 (fnK_ok (fn475 U)) ?_; rintro ⟨oc, od, sl, hk⟩ h1 h2 h3 h4 h5 h6 h7 h8 h9 h10 h11 h12 h13
  have X := G.inK hB
  have hd := hR.d
  have hu := hR.u
  refine wpAny_call (codeAny_call_function (by (apply k3; assumption)) (X _ _ hk) rfl h12 h11 (b475 U).2 (codeRec_of X h6) ?_)
  have hlen : vals.length = (fdO (o475 U).1).params.args.length := by rw [V.length, putArgs_len (put475 U (.lst (numsA ys)))]
  refine (bindArgs_plain h7 h9 h8 h10 h4 h5 hlen) ▸ ?_
  refine wpAny_pure ?_
  rw [zip_self (of_decide_eq_true (by kernel_rfl)) (by rw [List.length_map, hlen]), h1, h2, h3]
  refine fun_env G (by kernel_rfl) (fun x hx => ?_) (fun x c z => by exact Og.nos z) (fun x lv z => by exact Og.nos z) (fun L cells z => by cases z) (put475 U (.lst (numsA ys))) V fun h' tk env ow' I hsc hg hf => ?_
  · have hfree : freeNo (fdO (o475 U).1).scope = true := by kernel_rfl
    unfold freeNo at hfree
    have := List.all_eq_true.mp hfree _ hx
    exact Og.ftN this
  · refine ⟨(hB.T.keeps I.G.keepB).nolimit, codeAny_func ?_⟩
    refine law_body (A := A.deeper env) (s := { s with heap := h', toks := tk }) (n := 119) hB (hR.deeper env) (by decide) hfile htop (Around.frames_deeper hfr) hf hy I ?_
    exact k
end
end Og
end
section
set_option maxRecDepth 1000000
set_option Elab.async false
namespace Og
open PySem PySem.W PyProof.Rows PySem.Calls PySem.Spec PySem.SeqAt
section
variable {c : ClaimW} {cl : Str → Option Addr} {mean : ExcName → Option Value} {args : List WData}
theorem law_end {p : Program} {loose : List Str} {mean' : ExcName → Option Value} {mg mb : Str → Option Value} {prog : Program} {w : World} {U : Params} {s : Shared} (hT : TabsAt [(452, 450)] s.heap) (T : Top p loose mean' mg mb s.heap) (X : (hd.heap_1 U).In s.heap) (hK : noTabs (hd.heap_1 U) = true) (hm : ∃ o, s.heap.get? sysModules = some o) (hs : sysModules ≠ 450)
    (hfile : ((prog.main.file : Str) == "/claim/cut.py") = true) (htop : (prog.main.scope.names.lookup ("super" : Str)).isSome = false) {l : Addr} {xs : List Int} {P : Params} (hl : Well P s.heap (.ref l) (ofPy (.list (xs.map .int))))
    (hx : xs.length ≤ 63) (hg : s.gens = #[]) (hr : ∀ cls, c.raises args cls = false) (hp : c.post args (.bool true) args = true) :
    wpAny (model prog w) callerA (call (.ref 475) [.ref l]) (fun v s' => GoodWG c cl mean args s (.ok (.ret v)) s') (fun e s' => GoodWG c cl mean args s (.error e) s') s := by
  obtain ⟨vs, e1, e2⟩ : ∃ vs, s.heap.get? l = some { cls := .type "list", data := .seq vs.toArray } ∧ WellAll P s.heap vs (ofPys (xs.map PyData.int)) := by
    cases hl with
    | list e1 e2 => exact ⟨_, e1, e2⟩
  have hl' : (ghostOf s.heap [(452, 450)]).get? l = some (lstO vs 0) := ghost_get hT e1 (fun q => by cases q)
  refine law_call (s := s) (A := callerA) (ys := xs) (base_of (prog := prog) (w := w) hT T X hK hm hs) ⟨rfl, by decide, by decide⟩ hfile htop rfl hx (gr_top (prog := prog) (w := w) hT hm hs) (.cons (.lst hl' (wellAll_ints e2)) .nil) ?_
  intro st v h' tk F' ρ' S' G' R'
  cases R'
  refine ⟨.inl (Og.I35 _ _ ([]) rfl hr (ReadsW.bool true) hp (fun D0 => ⟨List.nodup_nil, fun D0 hm => (nomatch hm)⟩)), ⟨fun b o e => ?_, fun b o e => ?_⟩, rfl, .of_eq hg⟩
  · by_cases hb : b = 450
    · subst hb
      have e0 := (hT _ (.head _)).2
      have e : s.heap.get? (452, 450).2 = some o := e
      replace e := e0 ▸ e; (replace e := Option.some.inj e; subst e)
      refine O12 G'.tab ?_; rintro ps e3 _
      exact .inr (.inl ⟨((hT _ (.head _)).1.tab e0).isCodeTable, rfl, #[], ps, rfl, by refine Array.empty_append ▸ ?_; exact e3⟩)
    · exact .inl ((fun b o hb e => S'.keep b o e (by simp) hb id : ∀ b o, b ≠ 450 → s.heap.get? b = some o → h'.get? b = some o) b o hb e)
  · exact S'.live b o e
end
end Og
end
open PySem PySem.W PyProof.Rows Og
set_option Elab.async false
set_option maxRecDepth 100000
set_option tactic.hygienic true in
set_option maxHeartbeats 8000000 in
theorem PySem.Challenge.cw_og0200_01_holds : PySem.Challenge.rw_og0200_01.Holds :=
  hd (by
  k_fill
  intro w s₀ s₁ mg mb G Y fa o pm cd doc dV kV ho hd hcd hD hmg hg args vals as hpre hlay hrd hwl hlo
  have KX := km_in_of Y
  km_tabs Y
  have X := (Ground.X G).1
  have V := (Ground.X G).2
  refine Ground.open G ?_
  intro T B D TE TW
  try (refine guard_noD D (by decide +kernel) ?_; clear D)
  km_lay T hmg ho hd cd
  clear hd
  wrow_args hpre hlay hrd hwl hlo
  rename_i xs hs hlay0 hL1 hr1 hl2 _ _ l _ _ hL ra w1 r0 hI hr0 hc1 hc2
  have hfa : fa = 475 := by
    have h1 := mg_of (n := PySem.Str.ofString "law") KX (Top.g T) (v := Value.ref 475) (by kernel_rfl)
    have h2 := hmg.symm.trans h1
    cases h2; rfl
  subst hfa
  refine law_end (U := w.params) hT9 T KX (by kernel_rfl) ?_ (by decide) (by kernel_rfl) (by kernel_rfl) w1 (by omega) hg (fun _ => rfl) ?_
  · exact let ⟨_, ⟨o, _, _, e, _⟩, _⟩ := (T.seer (by decide +kernel)).mods; ⟨o, e⟩
  · wrow_post
    )
