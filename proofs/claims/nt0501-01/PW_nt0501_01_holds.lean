import PyProof.Rows.All

import Wide.All

import OpenK.AllK

import Wide.FinOn

import Lean

import PySem.Challenge.RW_nt0501_01

set_option Elab.async false
set_option linter.all false

-- X01
section
/-! taking ∃ and ∧ apart without writing the goal anew -/
namespace Mine
theorem hide {T : Prop} (h : ∀ P : Prop, (T → P) → P) : T := h T id
theorem xA {p0 : Prop} {p1 : Prop} {G : Prop} (h : p0 ∧ p1) (f : p0 → p1 → G) : G := f h.1 h.2
theorem xE {αa : Type} {p0 : αa → Prop} {G : Prop} (h : ∃ a : αa, p0 a) (f : ∀ a : αa, p0 a → G) : G := h.elim fun a h1 => f a h1
theorem xAA {p0 : Prop} {p1 : Prop} {p2 : Prop} {G : Prop} (h : p0 ∧ p1 ∧ p2) (f : p0 → p1 → p2 → G) : G := f h.1 h.2.1 h.2.2
theorem xAE {αa : Type} {p0 : Prop} {p1 : αa → Prop} {G : Prop} (h : p0 ∧ ∃ a : αa, p1 a) (f : p0 → ∀ a : αa, p1 a → G) : G := (h.2).elim fun a h1 => f h.1 a h1
theorem xEA {αa : Type} {p0 : αa → Prop} {p1 : αa → Prop} {G : Prop} (h : ∃ a : αa, p0 a ∧ p1 a) (f : ∀ a : αa, p0 a → p1 a → G) : G := h.elim fun a h1 => f a h1.1 h1.2
theorem xEE {αa : Type} {αb : Type} {p0 : αa → αb → Prop} {G : Prop} (h : ∃ a : αa, ∃ b : αb, p0 a b) (f : ∀ a : αa, ∀ b : αb, p0 a b → G) : G := h.elim fun a h1 => (h1).elim fun b h2 => f a b h2
theorem xAAA {p0 : Prop} {p1 : Prop} {p2 : Prop} {p3 : Prop} {G : Prop} (h : p0 ∧ p1 ∧ p2 ∧ p3) (f : p0 → p1 → p2 → p3 → G) : G := f h.1 h.2.1 h.2.2.1 h.2.2.2
theorem xAEA {αa : Type} {p0 : Prop} {p1 : αa → Prop} {p2 : αa → Prop} {G : Prop} (h : p0 ∧ ∃ a : αa, p1 a ∧ p2 a) (f : p0 → ∀ a : αa, p1 a → p2 a → G) : G := (h.2).elim fun a h1 => f h.1 a h1.1 h1.2
theorem xEAA {αa : Type} {p0 : αa → Prop} {p1 : αa → Prop} {p2 : αa → Prop} {G : Prop} (h : ∃ a : αa, p0 a ∧ p1 a ∧ p2 a) (f : ∀ a : αa, p0 a → p1 a → p2 a → G) : G := h.elim fun a h1 => f a h1.1 h1.2.1 h1.2.2
theorem xEEA {αa : Type} {αb : Type} {p0 : αa → αb → Prop} {p1 : αa → αb → Prop} {G : Prop} (h : ∃ a : αa, ∃ b : αb, p0 a b ∧ p1 a b) (f : ∀ a : αa, ∀ b : αb, p0 a b → p1 a b → G) : G := h.elim fun a h1 => (h1).elim fun b h2 => f a b h2.1 h2.2
theorem xAAAA {p0 : Prop} {p1 : Prop} {p2 : Prop} {p3 : Prop} {p4 : Prop} {G : Prop} (h : p0 ∧ p1 ∧ p2 ∧ p3 ∧ p4) (f : p0 → p1 → p2 → p3 → p4 → G) : G := f h.1 h.2.1 h.2.2.1 h.2.2.2.1 h.2.2.2.2
theorem xEAAA {αa : Type} {p0 : αa → Prop} {p1 : αa → Prop} {p2 : αa → Prop} {p3 : αa → Prop} {G : Prop} (h : ∃ a : αa, p0 a ∧ p1 a ∧ p2 a ∧ p3 a) (f : ∀ a : αa, p0 a → p1 a → p2 a → p3 a → G) : G := h.elim fun a h1 => f a h1.1 h1.2.1 h1.2.2.1 h1.2.2.2
theorem xEEAA {αa : Type} {αb : Type} {p0 : αa → αb → Prop} {p1 : αa → αb → Prop} {p2 : αa → αb → Prop} {G : Prop} (h : ∃ a : αa, ∃ b : αb, p0 a b ∧ p1 a b ∧ p2 a b) (f : ∀ a : αa, ∀ b : αb, p0 a b → p1 a b → p2 a b → G) : G := h.elim fun a h1 => (h1).elim fun b h2 => f a b h2.1 h2.2.1 h2.2.2
theorem xEEEA {αa : Type} {αb : Type} {αc : Type} {p0 : αa → αb → αc → Prop} {p1 : αa → αb → αc → Prop} {G : Prop} (h : ∃ a : αa, ∃ b : αb, ∃ c : αc, p0 a b c ∧ p1 a b c) (f : ∀ a : αa, ∀ b : αb, ∀ c : αc, p0 a b c → p1 a b c → G) : G := h.elim fun a h1 => (h1).elim fun b h2 => (h2).elim fun c h3 => f a b c h3.1 h3.2
theorem xEEAAA {αa : Type} {αb : Type} {p0 : αa → αb → Prop} {p1 : αa → αb → Prop} {p2 : αa → αb → Prop} {p3 : αa → αb → Prop} {G : Prop} (h : ∃ a : αa, ∃ b : αb, p0 a b ∧ p1 a b ∧ p2 a b ∧ p3 a b) (f : ∀ a : αa, ∀ b : αb, p0 a b → p1 a b → p2 a b → p3 a b → G) : G := h.elim fun a h1 => (h1).elim fun b h2 => f a b h2.1 h2.2.1 h2.2.2.1 h2.2.2.2
theorem xEEEAA {αa : Type} {αb : Type} {αc : Type} {p0 : αa → αb → αc → Prop} {p1 : αa → αb → αc → Prop} {p2 : αa → αb → αc → Prop} {G : Prop} (h : ∃ a : αa, ∃ b : αb, ∃ c : αc, p0 a b c ∧ p1 a b c ∧ p2 a b c) (f : ∀ a : αa, ∀ b : αb, ∀ c : αc, p0 a b c → p1 a b c → p2 a b c → G) : G := h.elim fun a h1 => (h1).elim fun b h2 => (h2).elim fun c h3 => f a b c h3.1 h3.2.1 h3.2.2
theorem xEEEAAA {αa : Type} {αb : Type} {αc : Type} {p0 : αa → αb → αc → Prop} {p1 : αa → αb → αc → Prop} {p2 : αa → αb → αc → Prop} {p3 : αa → αb → αc → Prop} {G : Prop} (h : ∃ a : αa, ∃ b : αb, ∃ c : αc, p0 a b c ∧ p1 a b c ∧ p2 a b c ∧ p3 a b c) (f : ∀ a : αa, ∀ b : αb, ∀ c : αc, p0 a b c → p1 a b c → p2 a b c → p3 a b c → G) : G := h.elim fun a h1 => (h1).elim fun b h2 => (h2).elim fun c h3 => f a b c h3.1 h3.2.1 h3.2.2.1 h3.2.2.2
theorem xEEEEAAA {αa : Type} {αb : Type} {αc : Type} {αd : Type} {p0 : αa → αb → αc → αd → Prop} {p1 : αa → αb → αc → αd → Prop} {p2 : αa → αb → αc → αd → Prop} {p3 : αa → αb → αc → αd → Prop} {G : Prop} (h : ∃ a : αa, ∃ b : αb, ∃ c : αc, ∃ d : αd, p0 a b c d ∧ p1 a b c d ∧ p2 a b c d ∧ p3 a b c d) (f : ∀ a : αa, ∀ b : αb, ∀ c : αc, ∀ d : αd, p0 a b c d → p1 a b c d → p2 a b c d → p3 a b c d → G) : G := h.elim fun a h1 => (h1).elim fun b h2 => (h2).elim fun c h3 => (h3).elim fun d h4 => f a b c d h4.1 h4.2.1 h4.2.2.1 h4.2.2.2
theorem xAEEEEAAA {αa : Type} {αb : Type} {αc : Type} {αd : Type} {p0 : Prop} {p1 : αa → αb → αc → αd → Prop} {p2 : αa → αb → αc → αd → Prop} {p3 : αa → αb → αc → αd → Prop} {p4 : αa → αb → αc → αd → Prop} {G : Prop} (h : p0 ∧ ∃ a : αa, ∃ b : αb, ∃ c : αc, ∃ d : αd, p1 a b c d ∧ p2 a b c d ∧ p3 a b c d ∧ p4 a b c d) (f : p0 → ∀ a : αa, ∀ b : αb, ∀ c : αc, ∀ d : αd, p1 a b c d → p2 a b c d → p3 a b c d → p4 a b c d → G) : G := (h.2).elim fun a h1 => (h1).elim fun b h2 => (h2).elim fun c h3 => (h3).elim fun d h4 => f h.1 a b c d h4.1 h4.2.1 h4.2.2.1 h4.2.2.2
theorem xEEEAAAAA {αa : Type} {αb : Type} {αc : Type} {p0 : αa → αb → αc → Prop} {p1 : αa → αb → αc → Prop} {p2 : αa → αb → αc → Prop} {p3 : αa → αb → αc → Prop} {p4 : αa → αb → αc → Prop} {p5 : αa → αb → αc → Prop} {G : Prop} (h : ∃ a : αa, ∃ b : αb, ∃ c : αc, p0 a b c ∧ p1 a b c ∧ p2 a b c ∧ p3 a b c ∧ p4 a b c ∧ p5 a b c) (f : ∀ a : αa, ∀ b : αb, ∀ c : αc, p0 a b c → p1 a b c → p2 a b c → p3 a b c → p4 a b c → p5 a b c → G) : G := h.elim fun a h1 => (h1).elim fun b h2 => (h2).elim fun c h3 => f a b c h3.1 h3.2.1 h3.2.2.1 h3.2.2.2.1 h3.2.2.2.2.1 h3.2.2.2.2.2
theorem xEAAEAAAAA {αa : Type} {αb : Type} {p0 : αa → Prop} {p1 : αa → Prop} {p2 : αa → αb → Prop} {p3 : αa → αb → Prop} {p4 : αa → αb → Prop} {p5 : αa → αb → Prop} {p6 : αa → αb → Prop} {p7 : αa → αb → Prop} {G : Prop} (h : ∃ a : αa, p0 a ∧ p1 a ∧ ∃ b : αb, p2 a b ∧ p3 a b ∧ p4 a b ∧ p5 a b ∧ p6 a b ∧ p7 a b) (f : ∀ a : αa, p0 a → p1 a → ∀ b : αb, p2 a b → p3 a b → p4 a b → p5 a b → p6 a b → p7 a b → G) : G := h.elim fun a h1 => (h1.2.2).elim fun b h2 => f a h1.1 h1.2.1 b h2.1 h2.2.1 h2.2.2.1 h2.2.2.2.1 h2.2.2.2.2.1 h2.2.2.2.2.2
theorem xEEEEAAAAA {αa : Type} {αb : Type} {αc : Type} {αd : Type} {p0 : αa → αb → αc → αd → Prop} {p1 : αa → αb → αc → αd → Prop} {p2 : αa → αb → αc → αd → Prop} {p3 : αa → αb → αc → αd → Prop} {p4 : αa → αb → αc → αd → Prop} {p5 : αa → αb → αc → αd → Prop} {G : Prop} (h : ∃ a : αa, ∃ b : αb, ∃ c : αc, ∃ d : αd, p0 a b c d ∧ p1 a b c d ∧ p2 a b c d ∧ p3 a b c d ∧ p4 a b c d ∧ p5 a b c d) (f : ∀ a : αa, ∀ b : αb, ∀ c : αc, ∀ d : αd, p0 a b c d → p1 a b c d → p2 a b c d → p3 a b c d → p4 a b c d → p5 a b c d → G) : G := h.elim fun a h1 => (h1).elim fun b h2 => (h2).elim fun c h3 => (h3).elim fun d h4 => f a b c d h4.1 h4.2.1 h4.2.2.1 h4.2.2.2.1 h4.2.2.2.2.1 h4.2.2.2.2.2
theorem xEEEEEEEAAAA {αa : Type} {αb : Type} {αc : Type} {αd : Type} {αe : Type} {αi : Type} {αj : Type} {p0 : αa → αb → αc → αd → αe → αi → αj → Prop} {p1 : αa → αb → αc → αd → αe → αi → αj → Prop} {p2 : αa → αb → αc → αd → αe → αi → αj → Prop} {p3 : αa → αb → αc → αd → αe → αi → αj → Prop} {p4 : αa → αb → αc → αd → αe → αi → αj → Prop} {G : Prop} (h : ∃ a : αa, ∃ b : αb, ∃ c : αc, ∃ d : αd, ∃ e : αe, ∃ i : αi, ∃ j : αj, p0 a b c d e i j ∧ p1 a b c d e i j ∧ p2 a b c d e i j ∧ p3 a b c d e i j ∧ p4 a b c d e i j) (f : ∀ a : αa, ∀ b : αb, ∀ c : αc, ∀ d : αd, ∀ e : αe, ∀ i : αi, ∀ j : αj, p0 a b c d e i j → p1 a b c d e i j → p2 a b c d e i j → p3 a b c d e i j → p4 a b c d e i j → G) : G := h.elim fun a h1 => (h1).elim fun b h2 => (h2).elim fun c h3 => (h3).elim fun d h4 => (h4).elim fun e h5 => (h5).elim fun i h6 => (h6).elim fun j h7 => f a b c d e i j h7.1 h7.2.1 h7.2.2.1 h7.2.2.2.1 h7.2.2.2.2
end Mine
end

-- C01
section
open PySem PySem.W PyProof.Rows PySem.Spec PySem.Calls
set_option linter.all false
set_option maxRecDepth 100000
namespace Mine
/-! wpAny over the contexts whose stack holds no code that could hold a bytearray -/
noncomputable def dangIds : List String := ["bytearray.__contains__", "bytearray.__mod__", "bytearray.__rmod__", "_struct.pack_into.held", "bytearray.find.held"] ++ PySem.Builtin.Bytes.decodersThatHold
noncomputable def dang : Code → Bool
  | .builtin id _ => dangIds.contains id
  | _ => false
noncomputable def CleanL (l : List (Code × Pos)) : Prop := ∀ x ∈ l, dang x.1 = false
noncomputable def wpC {α : Type} (M : Model) (A : Around) (t : Sem α) (Q : α → Shared → Prop) (E : Value → Shared → Prop) (s : Shared) : Prop :=
  ∀ Γ p, Γ.In A → dang Γ.code = false → CleanL Γ.below → Sem.wp M Γ t (fun a _ s' => Q a s') (fun e _ s' => E e s') p s
noncomputable def codeC (M : Model) (A : Around) (c : Code) (R : Result → Shared → Prop) (s : Shared) : Prop :=
  dang c = false ∧ ∀ Γ p, Γ.code = c → Γ.Below A → CleanL Γ.below → wpCode M Γ R p s
section
variable {α β : Type} {M : Model} {A : Around} {E : Value → Shared → Prop} {s : Shared}
theorem wpC.of {t : Sem α} {Q : α → Shared → Prop} (h : wpAny M A t Q E s) : wpC M A t Q E s := fun Γ p hΓ _ _ => h Γ p hΓ
theorem wpC_pure {a : α} {Q : α → Shared → Prop} (h : Q a s) : wpC M A (pure a) Q E s := .of (wpAny_pure h)
theorem wpC_mono {t : Sem α} {Q Q' : α → Shared → Prop} {E' : Value → Shared → Prop} (h : wpC M A t Q E s) (hQ : ∀ a s, Q a s → Q' a s) (hE : ∀ e s, E e s → E' e s) : wpC M A t Q' E' s :=
  fun Γ p hΓ h1 h2 => Sem.wp_mono M Γ t (fun a _ s => hQ a s) (fun e _ s => hE e s) p s (h Γ p hΓ h1 h2)
theorem wpC_bind {m : Sem α} {f : α → Sem β} {Q : β → Shared → Prop} (h : wpC M A m (fun a s' => wpC M A (f a) Q E s') E s) : wpC M A (m >>= f) Q E s := fun Γ p hΓ h1 h2 => by
  rw [Sem.wp_bind']
  exact Sem.wp_mono M Γ m (fun a p' s' h' => h' Γ p' hΓ h1 h2) (fun _ _ _ h' => h') p s (h Γ p hΓ h1 h2)
theorem wpC_bindA {m : Sem α} {f : α → Sem β} {Q : β → Shared → Prop} (h : wpAny M A m (fun a s' => wpC M A (f a) Q E s') E s) : wpC M A (m >>= f) Q E s := wpC_bind (.of h)
theorem wpC_holding {vs : List Value} {m : Sem α} {Q : α → Shared → Prop} (h : wpC M A m Q E s) : wpC M A (holding vs m) Q E s :=
  fun Γ p hΓ h1 h2 => by rw [Sem.wp_holding]; exact h Γ p hΓ h1 h2
theorem wpC_keep {vs : List Value} {m : Sem α} {Q : α → Shared → Prop} (h : wpC M A m Q E s) : wpC M A (m.keep vs) Q E s :=
  fun Γ p hΓ h1 h2 => by rw [Sem.wp_keep]; exact h Γ p hΓ h1 h2
theorem wpC_onRaise {m : Sem α} {k : Value → Sem Unit} {Q : α → Shared → Prop} (h : wpC M A m Q (fun e s' => wpAny M A (k e) (fun _ s'' => E e s'') E s') s) : wpC M A (m.onRaise k) Q E s := fun Γ p hΓ h1 h2 => by
  rw [Sem.wp_onRaise]
  exact Sem.wp_mono M Γ m (fun _ _ _ h' => h') (fun e p' s' h' => h' Γ p' hΓ) p s (h Γ p hΓ h1 h2)
theorem wpC_runValue {c : Code} {Q : Value → Shared → Prop} (hc : codeC M A c (fun r s' => match r with | .ok (.ret v) => Q v s' | .ok _ => False | .error e => E e s') s) : wpC M A (runValue c) Q E s :=
  fun Γ p hΓ h1 h2 => by
    rw [Sem.wp_runValue]
    refine hc.2 _ p rfl (hΓ.enter c none p (by intro x; cases x)) ?_
    intro x hx
    rcases List.mem_cons.mp hx with rfl | hx
    · exact h1
    · exact h2 x hx
theorem wpC_call {f : Value} {pos : List Value} {kw : List (Str × Value)} {Q : Value → Shared → Prop} (hc : codeC M A (.call f ⟨pos, kw⟩) (fun r s' => match r with | .ok (.ret v) => Q v s' | .ok _ => False | .error e => E e s') s) :
    wpC M A (call f pos kw) Q E s := wpC_runValue hc
theorem codeC.of {c : Code} {R : Result → Shared → Prop} (hd : dang c = false) (h : codeAny M A c R s) : codeC M A c R s := ⟨hd, fun Γ p h1 h2 _ => h Γ p h1 h2⟩
theorem codeC_of_tree {c : Code} {R : Result → Shared → Prop} (hd : dang c = false)
    (h : wpC M (A.under c) (M.den c) (fun fin s' => match fin with | .done f => R (.ok f) s' | .again c' => c'.quiet = true ∧ codeC M A c' R s') (fun e s' => R (.error e) s') s) : codeC M A c R s := by
  refine ⟨hd, fun Γ p hc hΓ hcl => ?_⟩
  rw [wpCode_iff_wp, hc]
  refine Sem.wp_mono M Γ _ (fun fin p' s' h' => ?_) (fun _ _ _ h' => h') p s (h Γ p (hc ▸ hΓ.in) (hc ▸ hd) hcl)
  cases fin with
  | done f => exact h'
  | again c' => exact ⟨h'.1, h'.2.2 (Γ.goto c') p' rfl (hΓ.goto c') hcl⟩
theorem codeC_of_treeA {c : Code} {R : Result → Shared → Prop} (hd : dang c = false)
    (h : wpAny M (A.under c) (M.den c) (fun fin s' => match fin with | .done f => R (.ok f) s' | .again c' => c'.quiet = true ∧ codeC M A c' R s') (fun e s' => R (.error e) s') s) : codeC M A c R s := codeC_of_tree hd (.of h)
theorem codeC_mono {c : Code} {R R' : Result → Shared → Prop} (h : codeC M A c R s) (hR : ∀ r s, R r s → R' r s) : codeC M A c R' s := ⟨h.1, fun Γ p h1 h2 h3 => wpCode_mono hR (h.2 Γ p h1 h2 h3)⟩
theorem wpC_stack {Q : List (Code × Pos) → Shared → Prop} (h : ∀ st, CleanL st → Q st s) : wpC M A stack Q E s := fun Γ p hΓ h1 h2 => by
  show Q ((Γ.code, p) :: Γ.below) s
  refine h _ fun x hx => ?_
  rcases List.mem_cons.mp hx with rfl | hx
  · exact h1
  · exact h2 x hx
end
section
variable {M : Model} {A : Around} {E : Value → Shared → Prop} {s : Shared}
theorem wpC_exported {self : Value} {Q : Bool → Shared → Prop} (h : Q false s) : wpC M A (PySem.Builtin.Bytes.exported self) Q E s := by
  unfold PySem.Builtin.Bytes.exported
  refine wpC_bind (wpC_stack fun st hst => wpC_pure ?_)
  refine (congrArg (fun b => Q b s) ?e).mpr h
  rw [List.any_eq_false]
  intro x hx
  have hd := hst x hx
  obtain ⟨c, p⟩ := x
  refine Bool.not_eq_true _ ▸ ?_
  cases c
  case builtin id args =>
    have hn : ∀ y, dangIds.contains y = true → id ≠ y := fun y hy e => by
      subst e
      exact Bool.noConfusion ((show dangIds.contains id = false from hd).symm.trans hy)
    obtain ⟨pos, kw⟩ := args
    delta PySem.Builtin.Bytes.exported.match_1
    refine (dif_neg (hn _ (by decide +kernel))).trans ?_
    refine (dif_neg (hn _ (by decide +kernel))).trans ?_
    refine (dif_neg (hn _ (by decide +kernel))).trans ?_
    refine (dif_neg (hn _ (by decide +kernel))).trans ?_
    refine (dif_neg (hn _ (by decide +kernel))).trans ?_
    cases pos with
    | nil => rfl
    | cons v r =>
      refine (congrArg (fun b => PySem.Builtin.Bytes.sameRef v self && b) ?_).trans (Bool.and_false _)
      cases hc : PySem.Builtin.Bytes.decodersThatHold.contains id with
      | false => rfl
      | true =>
        refine absurd rfl (hn id ?_)
        rw [List.contains_iff_mem] at hc ⊢
        exact List.mem_append_right _ hc
  all_goals rfl
end
end Mine
end

-- C02
section
open PySem PySem.W PyProof.Rows PySem.Spec PySem.Calls
set_option linter.all false
set_option maxRecDepth 100000
set_option pp.maxSteps 4000
namespace Mine
theorem mro_ba : mroOf (.type "bytearray") = pure [.type "bytearray", .type "object"] := by rw [mroOf_type]; kernel_rfl
theorem lookup_ba_new : typeLookup (.type "bytearray") "__new__" = pure (some (.builtin "bytearray.__new__")) := by rw [typeLookup_type, builtinLookup_eq_fast]; kernel_rfl
theorem slot_ba_init : Slot "bytearray" "__init__" "bytearray.__init__" :=
  .of (owner := "bytearray") (n := "__init__") (by rw [typeLookup_type, builtinLookup_eq_fast]; kernel_rfl) (by decide +kernel) (by decide +kernel) (by decide +kernel)
    (by first | exact .inl (by decide +kernel) | exact .inr (by decide +kernel)) (by rw [isSubtype_type]; kernel_rfl)
theorem called_ba : TypeCalled "bytearray" "bytearray.__new__" "bytearray.__init__" :=
  ⟨by decide +kernel, by decide +kernel, ⟨_, _, mro_ba⟩, madeBy_type mro_ba lookup_ba_new (by decide +kernel), by decide +kernel, by rw [isSubtype_type]; kernel_rfl, slot_ba_init⟩
theorem typeCall_ba (a : Value) : checkTypeCall "bytearray" ⟨[a], []⟩ = pure () := by kernel_rfl
theorem newCall_ba (a : Value) : checkBuiltinCall "bytearray.__new__" ⟨[.type "bytearray", a], []⟩ = pure () := by kernel_rfl
theorem entry_ba_new : entryFor table "bytearray.__new__" = some Builtin.«list.__new__» := entryFor_alias (id' := "list.__new__") (by rw [fastTable_eq_tree]; kernel_rfl) (by decide +kernel) (by decide +kernel) (by rw [fastTable_eq_tree]; kernel_rfl)
theorem entry_ba_init : entryFor table "bytearray.__init__" = some Builtin.«bytearray.__init__» := entryFor_of_tree (by kernel_rfl)
theorem plain_ba_new : plainId "bytearray.__new__" = true := by decide +kernel
section
variable {prog : Program} {w : World} {A : Around} {E : Value → Shared → Prop} {s : Shared}
theorem codeC_builtin {id : String} {args : Args} {b : Builtin} {R : Result → Shared → Prop} (hd : dang (.builtin id args) = false) (hb : entryFor table id = some b)
    (h : wpC (model prog w) (A.under (.builtin id args)) (b args)
      (fun fin s' => match fin with | .done f => R (.ok f) s' | .again c' => c'.quiet = true ∧ codeC (model prog w) A c' R s') (fun e s' => R (.error e) s') s) :
    codeC (model prog w) A (.builtin id args) R s := by
  refine codeC_of_tree hd ?_
  show wpC _ _ (match entryFor table id with | some b => b args | none => unsupported ((withoutEnding? id "#data").getD id)) _ _ s
  rw [hb]; exact h

set_option maxRecDepth 1000000 in
set_option maxHeartbeats 4000000 in
theorem owner_ba_new : ("bytearray.__new__".splitOn ".__new__").headD "" = "bytearray" := by rw [show ("bytearray.__new__".splitOn ".__new__") = PySem.W.splitQ "bytearray.__new__" ".__new__" from congrFun (congrFun PySem.W.splitQ_eq _) _]; decide +kernel
theorem code_ba_new (a : Value) {Q₁ : Value → Shared → Prop}
    (h : Q₁ (.ref s.heap.objs.size) { s with heap := s.heap.push { cls := .type "bytearray", data := .bytearray #[] } }) :
    codeAny (model prog w) A (.call (.builtin "bytearray.__new__") ⟨[.type "bytearray", a], []⟩) (wants Q₁ E) s := by
  refine codeAny_of_tree ?_
  show wpAny _ A.in1 (do checkBuiltinCall "bytearray.__new__" ⟨[.type "bytearray", a], []⟩; again (.builtin "bytearray.__new__" ⟨[.type "bytearray", a], []⟩)) _ _ s
  refine wpAny_bind (wpAny_of_eq (newCall_ba a) (wpAny_pure ⟨plainId_quiet plain_ba_new _, codeAny_builtin_stack entry_ba_new rfl fun p st => ?_⟩))
  rw [Around.under_plainId plain_ba_new _]
  have hsub := called_ba.sub
  have hown := owner_ba_new
  dsimp only
  rw [hown]
  refine wpAny_bind (wpAny_of_eq (show isType (Value.type "bytearray") = pure true from rfl) ?_)
  refine wpAny_bind (m := isSubtype (.type "bytearray") (.type "bytearray")) (wpAny_of_eq hsub ?_)
  refine wpAny_bind (m := pure (Data.bytearray #[])) (wpAny_pure ?_)
  show wpAny _ _ (newObj (Value.type "bytearray") (Data.bytearray #[]) >>= fun v => ret v) _ _ _
  exact wpAny_bind (wpAny_newObj_type (wpAny_pure h))
theorem codeC_call_builtin {id : String} {args : Args} {b : Builtin} {R : Result → Shared → Prop} (hd : dang (.builtin id args) = false) (hq : plainId id = true) (hb : entryFor table id = some b)
    (hck : wpAny (model prog w) A.in1 (checkBuiltinCall id args) (fun _ s' => wpC (model prog w) A.in1 (b args) (fun fin s' => match fin with | .done f => R (.ok f) s' | .again c' => c'.quiet = true ∧ codeC (model prog w) A c' R s') (fun e s' => R (.error e) s') s') (fun e s' => R (.error e) s') s) :
    codeC (model prog w) A (.call (.builtin id) args) R s := by
  refine codeC_of_treeA rfl ?_
  show wpAny _ A.in1 (do checkBuiltinCall id args; again (.builtin id args)) _ _ s
  refine wpAny_bind (wpAny_mono hck (fun _ s' h => wpAny_pure ⟨plainId_quiet hq args, codeC_builtin hd hb ?_⟩) fun _ _ h => h)
  rw [Around.under_plainId hq args]
  exact h
theorem wpC_callSpecial_slot {self : Value} {T : String} {name : Str} {id : String} {args : List Value} {kw : List (Str × Value)}
    {Q : Option Value → Shared → Prop} (hT : s.TypeIs self T) (h : Slot T name id)
    (hc : wpC (model prog w) A (call (.builtin id) (self :: args) kw) (fun v => Q (some v)) E s) : wpC (model prog w) A (callSpecial? self name args kw) Q E s := by
  simp only [callSpecial?]
  refine wpC_bindA (wpAny_specialOf hT h.lookup ?_)
  simp only [h.bind]
  exact wpC_holding (wpC_bind (wpC_pure (wpC_bind (wpC_mono hc (fun v s' h' => wpC_pure h') fun _ _ h' => h'))))
theorem write_ba {M : Model} {a : Addr} {b : Array UInt8} {n : Nat} {c : Value} {dd : Option Addr} {sl : Array (Option Value)} {f : Array UInt8 → Array UInt8} {Q : Unit → Shared → Prop} (ho : s.heap.get? a = some ⟨c, dd, .bytearray b n, sl⟩) (hz : (f b).size ≤ sizeLine)
    (h : Q () { s with heap := s.heap.update a (Obj.mapBytearray f) }) : wpAny M A (Builtin.Bytes.write (.ref a) f) Q E s := by
  unfold Builtin.Bytes.write updateBytearray
  refine wpAny_bind (wpAny_load ho ?_)
  refine wpAny_bind (wpAny_update ho ?_)
  refine wpAny_lookBehind (o := ⟨c, dd, .bytearray (f b) n, sl⟩) ?_ ?_ h
  · exact Heap.get?_update_self _ ho rfl
  · exact if_neg (Nat.not_lt_of_le hz)
theorem noIndex_bytes : typeLookup (.type "bytes") "__index__" = pure none := by rw [typeLookup_type, builtinLookup_eq_fast]; kernel_rfl
theorem buf_bytes : typeLookup (.type "bytes") "__buffer__" = pure (some (.builtin "bytes.__buffer__")) := by rw [typeLookup_type, builtinLookup_eq_fast]; kernel_rfl
theorem rel_bytes : typeLookup (.type "bytes") "__release_buffer__" = pure none := by rw [typeLookup_type, builtinLookup_eq_fast]; kernel_rfl
theorem sub_bytes : isSubtype (.type "bytes") (.type "bytes") = pure true := by rw [isSubtype_type]; kernel_rfl
theorem own_bytes {bs : Array UInt8} {t : Tok} {Q : Bool → Shared → Prop} (h : Q false s) : wpAny (model prog w) A (Builtin.Bytes.ownRelease (.bytes bs t)) Q E s := by
  have hT : s.TypeIs (.bytes bs t) "bytes" := rfl
  unfold Builtin.Bytes.ownRelease Builtin.Bytes.slotIsOwn
  exact wpAny_bind (wpAny_bind (wpAny_specialOf hT rel_bytes (wpAny_pure (wpAny_pure h))))
theorem slotOwn_bytes {bs : Array UInt8} {t : Tok} {Q : Bool → Shared → Prop} (h : Q true s) : wpAny (model prog w) A (Builtin.Bytes.slotIsOwn (.bytes bs t) "__buffer__") Q E s := by
  have hT : s.TypeIs (.bytes bs t) "bytes" := rfl
  unfold Builtin.Bytes.slotIsOwn
  refine wpAny_bind (wpAny_specialOf hT buf_bytes ?_)
  show wpAny _ _ (if (!("bytes.__buffer__" : String).endsWith ("." ++ "__buffer__")) = true then pure false else isInstance (.bytes bs t) (.type (("bytes.__buffer__" : String).dropRight ("__buffer__".length + 1)))) _ _ _
  rw [if_neg (by decide +kernel)]
  rw [show (("bytes.__buffer__" : String).dropRight ("__buffer__".length + 1)) = "bytes" from by decide +kernel]
  exact wpAny_isInstance hT sub_bytes h
theorem wpAny_ifF {α : Type} {M : Model} {A : Around} {a b : Sem α} {Q : α → Shared → Prop} {E : Value → Shared → Prop} {s : Shared} (h : wpAny M A b Q E s) : wpAny M A (if false = true then a else b) Q E s := h
theorem buffer_bytes {bs : Array UInt8} {t : Tok} {fl : Bool} {Q : Option (Array UInt8) → Shared → Prop} (h : Q (some bs) s) : wpAny (model prog w) A (Builtin.Bytes.buffer? "bytearray.__init__" (.bytes bs t) fl) Q E s := by
  have hT : s.TypeIs (.bytes bs t) "bytes" := rfl
  unfold Builtin.Bytes.buffer?
  refine wpAny_bind (wpAny_specialOf hT buf_bytes ?_)
  refine wpAny_bind (slotOwn_bytes ?_)
  refine wpAny_ifF ?_
  refine wpAny_bind (wpAny_specialOf hT buf_bytes ?_)
  refine wpAny_bind (own_bytes ?_)
  refine wpAny_ifF ?_
  exact wpAny_bind (wpAny_bind (wpAny_pure (wpAny_pure (wpAny_pure h))))
theorem rel_ba : typeLookup (.type "bytearray") "__release_buffer__" = pure (some (.builtin "bytearray.__release_buffer__")) := by rw [typeLookup_type, builtinLookup_eq_fast]; kernel_rfl
theorem own_ba {self : Value} {Q : Bool → Shared → Prop} (hT : s.TypeIs self "bytearray") (h : Q false s) : wpAny (model prog w) A (Builtin.Bytes.ownRelease self) Q E s := by
  unfold Builtin.Bytes.ownRelease Builtin.Bytes.slotIsOwn
  refine wpAny_bind (wpAny_bind (wpAny_specialOf hT rel_ba ?_))
  show wpAny _ _ (if (!("bytearray.__release_buffer__" : String).endsWith ("." ++ "__release_buffer__")) = true then pure false else isInstance self (.type (("bytearray.__release_buffer__" : String).dropRight ("__release_buffer__".length + 1)))) _ _ _
  rw [if_neg (by decide +kernel)]
  rw [show (("bytearray.__release_buffer__" : String).dropRight ("__release_buffer__".length + 1)) = "bytearray" from by decide +kernel]
  have h4 := called_ba.sub
  repeat (any_goals (first | assumption | wp_step))
theorem opt_ba (x : Value) : Builtin.Bytes.bindOptional "bytearray.__init__" "bytearray" ["source", "encoding", "errors"] [x] [] = pure [some x, none, none] := by kernel_rfl
theorem args_ba_init (a b : Value) : argsOk "bytearray.__init__" ⟨[a, b], []⟩ := by unfold argsOk; kernel_rfl
theorem wpC_ifF {α : Type} {M : Model} {A : Around} {a b : Sem α} {Q : α → Shared → Prop} {E : Value → Shared → Prop} {s : Shared} (h : wpC M A b Q E s) : wpC M A (if false = true then a else b) Q E s := h
theorem wpC_if_false {α : Type} {M : Model} {A : Around} {c : Bool} {a b : Sem α} {Q : α → Shared → Prop} {E : Value → Shared → Prop} {s : Shared} (hc : c = false) (h : wpC M A b Q E s) : wpC M A (if c = true then a else b) Q E s := by subst hc; exact h
theorem wpC_eqA {α β : Type} {M : Model} {A : Around} {m : Sem α} {a : α} {f : α → Sem β} {Q : β → Shared → Prop} {E : Value → Shared → Prop} {s : Shared} (e : m = pure a) (h : wpC M A (f a) Q E s) : wpC M A (m >>= f) Q E s := wpC_bindA (e ▸ wpAny_pure h)
theorem exports_none {A : Around} {s : Shared} {prog : Program} {w : World} {E : Value → Shared → Prop} {a : Addr} {c : Value} {dd : Option Addr} {sl : Array (Option Value)} {b : Array UInt8} {Q : Bool → Shared → Prop} (ho : s.heap.get? a = some ⟨c, dd, .bytearray b 0, sl⟩) (h : Q false s) :
    wpC (model prog w) A (orM (Builtin.Bytes.exported (.ref a)) (do return (← Builtin.Bytes.exportsOf (.ref a)) > 0)) Q E s := by
  unfold orM
  refine wpC_bind (wpC_exported ?_)
  refine wpC.of (wpAny_bind ?_)
  unfold Builtin.Bytes.exportsOf
  exact wpAny_bind (wpAny_load ho (wpAny_pure (wpAny_pure h)))
theorem noStr_bytes {A : Around} {s : Shared} {prog : Program} {w : World} {E : Value → Shared → Prop} {bs : Array UInt8} {t : Tok} {Q : Option Str → Shared → Prop} (h : Q none s) : wpAny (model prog w) A (asStr? (.bytes bs t)) Q E s :=
  wpAny_bind (m := notAStandIn _) (wpAny_pure (wpAny_pure h))
/-- the written __init__, one bytes argument -/
theorem init_ba {prog : Program} {w : World} {A : Around} {E : Value → Shared → Prop} {s : Shared} {a : Addr} {bs : Array UInt8} {t : Tok} {Q : PySem.Fin → Shared → Prop} (hT : s.TypeIs (.ref a) "bytearray") (ho : s.heap.get? a = some { cls := .type "bytearray", data := .bytearray #[] }) (hz : bs.size ≤ sizeLine)
    (hQ : Q (.done (.ret .none)) { s with heap := (s.heap.update a (Obj.mapBytearray fun _ => #[])).update a (Obj.mapBytearray fun _ => bs) }) :
    wpC (model prog w) A (Builtin.«bytearray.__init__» ⟨[.ref a, .bytes bs t], []⟩) Q E s := by
  unfold Builtin.«bytearray.__init__»
  refine wpC_bindA (own_ba hT ?_)
  refine wpC_ifF ?_
  refine wpC_eqA (opt_ba _) ?_
  refine wpC_eqA (a := ()) rfl ?_
  refine wpC_eqA (a := ()) rfl ?_
  refine wpC_bind (exports_none ho ?_)
  refine wpC_ifF ?_
  have ho2 : (s.heap.update a (Obj.mapBytearray fun _ => #[])).get? a = some ⟨.type "bytearray", none, .bytearray #[] 0, #[]⟩ := Heap.get?_update_self _ ho rfl
  refine wpC_bindA (write_ba ho (Nat.zero_le _) ?_)
  refine wpC_bindA (noStr_bytes ?_)
  refine wpC_ifF ?_
  refine wpC_eqA (a := ()) rfl ?_
  refine wpC_bindA (wpAny_specialOf (show ({ s with heap := s.heap.update a (Obj.mapBytearray fun _ => #[]) } : Shared).TypeIs (.bytes bs t) "bytes" from rfl) noIndex_bytes ?_)
  refine wpC_ifF ?_
  refine wpC_bindA (buffer_bytes ?_)
  refine wpC_bindA (wpAny_rule ?_)
  refine wpC_bindA (write_ba ho2 hz ?_)
  exact wpC_pure hQ
theorem call_ba {prog : Program} {w : World} {A : Around} {E : Value → Shared → Prop} {s : Shared} {bs : Array UInt8} {t : Tok} {Q : Value → Shared → Prop} (hz : bs.size ≤ sizeLine)
    (hQ : ∀ h', (∀ b o, s.heap.get? b = some o → h'.get? b = some o) → s.heap.objs.size < h'.objs.size → h'.get? s.heap.objs.size = some { cls := .type "bytearray", data := .bytearray bs } → Q (.ref s.heap.objs.size) { s with heap := h' }) :
    wpC (model prog w) A (call (.type "bytearray") [.bytes bs t]) Q E s := by
  refine wpC_call (codeC_of_treeA rfl ?_)
  refine wpAny_pure (a := Fin.again (.builtin "type.__call__" ⟨[.type "bytearray", .bytes bs t], []⟩)) ⟨Code.quiet_builtin _ (by decide +kernel), ?_⟩
  refine codeC_builtin (by show dangIds.contains "type.__call__" = false; decide +kernel) F.entry_type_call ?_
  rw [Around.under_plain (weight_type_call_type "bytearray" [.bytes bs t] []) rfl]
  unfold Builtin.«type.__call__»
  refine wpC_if_false called_ba.notType ?_
  refine wpC_if_false called_ba.canCreate ?_
  refine wpC_eqA (typeCall_ba _) ?_
  refine wpC_eqA mro_ba ?_
  refine wpC_ifF ?_
  refine wpC_eqA called_ba.made ?_
  refine wpC_eqA (a := .builtin "bytearray.__new__") rfl ?_
  refine wpC_bindA (wpAny_holding (wpAny_call (code_ba_new _ ?_)))
  have ho : (s.heap.push { cls := .type "bytearray", data := .bytearray #[] }).get? s.heap.objs.size = some { cls := .type "bytearray", data := .bytearray #[] } := Heap.get?_push_size _ rfl
  have hT : ({ s with heap := s.heap.push { cls := .type "bytearray", data := .bytearray #[] } } : Shared).TypeIs (.ref s.heap.objs.size) "bytearray" := ⟨_, ho, rfl⟩
  refine wpC_bindA (wpAny_isInstance hT called_ba.sub ?_)
  refine wpC_ifF ?_
  refine wpC_bind (wpC_holding (wpC_callSpecial_slot hT slot_ba_init (wpC_call (codeC_call_builtin (by show dangIds.contains "bytearray.__init__" = false; decide +kernel) slot_ba_init.plain entry_ba_init (slot_ba_init.check _ _ _ _ _ _ _ _ hT (args_ba_init _ _) (init_ba hT ho hz ?_))))))
  have ho2 : ((s.heap.push { cls := .type "bytearray", data := .bytearray #[] }).update s.heap.objs.size (Obj.mapBytearray fun _ => #[])).get? s.heap.objs.size = some ⟨.type "bytearray", none, .bytearray #[] 0, #[]⟩ := Heap.get?_update_self _ ho rfl
  refine wpC_ifF (b := ret (.ref s.heap.objs.size)) (wpC_pure (hQ _ (fun b o e => ?_) ?_ ?_))
  · have hb : b ≠ s.heap.objs.size := Nat.ne_of_lt (Heap.lt_size e)
    rw [Heap.get?_update_ne _ _ _ _ hb, Heap.get?_update_ne _ _ _ _ hb]
    exact Heap.get?_push_of_some _ e
  · exact Nat.lt_of_lt_of_eq (Heap.lt_size ho2) (Heap.SameBut.update ..).1.symm
  · exact Heap.get?_update_self _ ho2 rfl
end
end Mine
end

-- C03
section
open PySem PySem.W PyProof.Rows PySem.Spec PySem.Calls
set_option linter.all false
set_option maxRecDepth 100000
namespace Mine
/-- a run from the caller's own context (its stack is clean) -/
theorem ends_C {prog : Program} {w : World} {t : Sem Fin} {s : Shared} {R : Result → Shared → Prop} (hreg : s.asleep)
    (h : wpC (model prog w) callerA t (fun fin s' => ∃ f, fin = .done f ∧ (R (.ok f) s' ∧ leftWithCleanup s'.gens = false)) (fun e s' => R (.error e) s' ∧ leftWithCleanup s'.gens = false) s) :
    ∃ n r s' s'', runN (denote table) prog w n s ⟨t, .builtin "claim.caller" {}, default, []⟩ = .halted (outcomeOf r) s' ∧
      schedN (denote table) prog w n (.single s ⟨t, .builtin "claim.caller" {}, default, []⟩) = .halted (outcomeOf r) s' ∧ s'.forget = s''.forget ∧ R r s'' := by
  have key := h ⟨.builtin "claim.caller" {}, none, none, [], none⟩ default caller_in (by show dangIds.contains "claim.caller" = false; decide +kernel) (fun _ hx => nomatch hx)
  refine xEEEEAAA (wp_halts_full (M := model prog w) (R := R) hreg
    (Sem.wp_mono _ _ t (fun fin p' s' h' => by obtain ⟨f, rfl, hf⟩ := h'; exact hf) (fun _ _ _ h' => h') default s key)) fun n r s₁ s₂ hs hn hfo hR => ?_
  exact ⟨n, r, s₂, s₁, hn, hs, hfo, hR⟩

/-- the walk that my head asks for: under a clean stack -/
noncomputable abbrev WalkC (q : Program) (loose : List Str) (XP : (Str → Option Value) → Heap → Prop) (YP : World → Heap → Prop) (r : RowW) (d : DefRec) (kwd : List (Str × Expr)) (run : Value → List Value → Sem Value) : Prop :=
  ∀ (w : World) (s₀ s₁ : Shared) (mg mb : Str → Option Value), Ground q loose r.records XP w s₀ mg mb s₁.heap → YP w s₁.heap → ∀ (a : Addr) (o : Obj) (pm cd doc dV kV : Value), s₁.heap.get? a = some o →
    o.data = .func { docDef d.name d.params d.body d.scope pm cd doc with defaults := dV, kwdefaults := kV } → s₁.heap.CodeRec cd d.name → Dflts mg s₁.heap d.params kwd dV kV → mg d.name = some (.ref a) → s₁.gens = #[] →
    ∀ (args : List WData) (vals : List Value) (as : List Addr), r.claim.pre args = true → WData.layableAll args = true → ReadsAllW r.records (classAt s₀.heap) s₁.heap vals args as → WellAll w.params s₁.heap vals args → (∀ a ∈ as, (a == sysModules) = false) →
      wpC (model r.prog w) callerA (run (.ref a) vals) (fun v s' => GoodWG r.claim (classAt s₀.heap) (ExcName.means s₀.heap) args s₁ (.ok (.ret v)) s')
        (fun e s' => GoodWG r.claim (classAt s₀.heap) (ExcName.means s₀.heap) args s₁ (.error e) s') s₁

theorem callFrom_C {c : ClaimW} {tree : List Value → Sem Fin} {w : World} {s : Shared} {free : Addr → Prop} {gens : Prop} {kept : Heap → Prop} (hz : s.asleep) (hgens : s.gens = #[])
    (hspec : ∀ args, c.pre args = true → WData.layableAll args = true → ∀ ord : List DictEntry → List DictEntry, (∀ l, (ord l).Perm l) →
      ∃ vs s₁, layAllW c.records (classAt s.heap) w.params ord args s = some (vs, s₁) ∧
        wpC (model c.prog w) callerA (tree vs) (fun fin s' => ∃ f, fin = .done f ∧ (c.Ends s args vs s₁ (.ok f) s' ∧ s'.os = s.os ∧ AllBare s'.gens ∧ kept s'.heap))
          (fun e s' => c.Ends s args vs s₁ (.error e) s' ∧ s'.os = s.os ∧ AllBare s'.gens ∧ kept s'.heap) s₁) :
    c.CallFrom (fun vs => ⟨tree vs, .builtin "claim.caller" {}, default, []⟩) w free gens kept s := fun args hpre hlay ord hord => by
  refine xEEA (hspec args hpre hlay ord hord) fun vs s₁ hlaid hcode => ?_
  have hal := layAllW_rest _ _ _ hlaid
  refine xEEEEAAAAA (ends_C (prog := c.prog) (w := w) (t := tree vs) (s := s₁) (R := fun r s' => c.Ends s args vs s₁ r s' ∧ s'.os = s.os ∧ kept s'.heap)
    (Shared.asleep_of_life hal.2.2.2 hz)
    (wpC_mono hcode (fun fin s' ⟨f, e, h1, h2, h3, h4⟩ => ⟨f, e, ⟨h1, h2, h4⟩, leftWithCleanup_false_of_bare h3⟩) (fun e s' ⟨h1, h2, h3, h4⟩ => ⟨⟨h1, h2, h4⟩, leftWithCleanup_false_of_bare h3⟩))) fun k r s' s'' hrun hsched hfo hcase hos hkp => ?_
  refine xAAAA (Shared.forget_eq hfo) fun eh _ _ eo _ => ?_
  have hcase := hcase.congr eh
  have hkp : kept s'.heap := by first | exact eh ▸ hkp | (rw [eh] at hkp; exact hkp) | (rw [← eh] at hkp; exact hkp)
  rw [← eo] at hos
  have hlife : s'.heap.life = s.heap.life := (runN_life _ _ _ hrun).trans hal.2.2.2
  refine ⟨vs, s₁, hlaid, k, _, s', hsched, ?_, (fun _ i x hx => by rw [hgens] at hx; simp at hx), hkp, by rw [hlife], Shared.rest_eq hos⟩
  rcases hcase with ⟨v, rfl, d1, d2, d3, d4, d5⟩ | ⟨e, ob, cls, rfl, d1, d2, d3, d4, d5⟩
  · exact .inl ⟨v, rfl, d1, d2, d3, fun b o y _ => d4 b o y, d5⟩
  · exact .inr ⟨e, ob, cls, rfl, d1, d2, d3, d4, fun b o y _ => d5 b o y⟩

/-- what the head is to keep at hand -/
class Carry (T : outParam Prop) : Prop where
  h : T
noncomputable def Keep {T : Prop} (_ : Carry T) (P : Prop) : Prop := P
/-- found ahead of the library's own by o_head's word -/
theorem PySem.W.holds_open {r : OpenRow} {q : Program} {loose : List Str} {Xt : Shared → Bool} {XP : (Str → Option Value) → Heap → Prop} {α : Type} {Yf : Shared → α} {Ya : World → α} {YP : World → Heap → Prop} {d : DefRec} {kwd : List (Str × Expr)} {N : Nat}
    (left : LeftO r.prog q loose Xt Yf Ya N) (hY : ∀ w s, Yf s = Ya w → YP w s.heap) (hYk : ∀ w h h', YP w h → (∀ b o, h.get? b = some o → h'.get? b = some o) → YP w h')
    (hX : ∀ s, Xt s = true → XP (s.heap.nsMap mainGlobals) s.heap) (hXk : ∀ mg h h', XP mg h → (∀ b o, h.get? b = some o → h'.get? b = some o) → XP mg h')
    (hdef : defOf q r.name = some (d, kwd)) (hp : r.prog.theDef r.name = some (d.params, d.body, d.scope)) (hk : kwWritten? d.params.kwonlyargs d.params.kw_defaults = some kwd) (hRf : ∀ s, Xt s = true → RecFacts r.records s.heap) (hwr : (!r.writes || r.records.isEmpty) = true)
    (k1 : r.wellSaid = true) (ok : (chainsOk q && opensWell r.prog && (frees r.toRowW && r.within.isEmpty)) = true) (hb : r.prog.bare) (hw : r.toRowW.promised)
    {T : Prop} [c : Carry T] (call : Keep c (WalkC q loose XP YP r.toRowW d kwd fun f vs => PySem.call f vs)) : r.Holds := by
  refine ⟨k1, hw, ?_⟩
  refine xA (Bool.and_eq_true_iff.mp ok) fun ok k5 => ?_
  refine xA (Bool.and_eq_true_iff.mp ok) fun hch o1 => ?_
  refine xA (Bool.and_eq_true_iff.mp k5) fun k5 k6 => ?_
  refine xAAAA (frees_parts k5) fun hsame hu ha hap hm => ?_
  refine ⟨⟨hb, o1, by show r.makers.map _ = []; rw [hm]; rfl⟩, hw.witness, fun w => ⟨(left.behind hX hch w).1, fun s' hs' => ?_⟩⟩
  refine xEAAEAAAAA ((left.behind (XP := fun mg h => XP mg h ∧ RecFacts r.records h) (fun s hs => ⟨hX s hs, hRf s hs⟩) hch w).2 s' hs') fun s₀ hf hg0 s hT hz hgens hg G00 y => ?_
  have G0 : Ground q loose [] XP w s (s.heap.nsMap mainGlobals) (s.heap.nsMap builtinsNs) s.heap := ⟨G00.T, G00.B, G00.D, G00.TE, G00.TD, G00.W, G00.X.1, G00.cls, G00.has, G00.apart, G00.once, G00.K⟩
  have RF := G00.X.2
  refine ⟨s₀, hf, hg0, s, hT, fun n hn => ?_, RF.1, RF.2.1, ?_⟩
  · obtain rfl : n = r.name := by split at hn <;> simp_all
    exact pinned_of_view hg G0 hdef hp hk
  have hgens : s.gens = #[] := Array.eq_empty_of_size_eq_zero (beq_iff_eq.mp hgens)
  have G : Ground q loose r.records XP w s _ _ s.heap := RF.ground G0
  refine callFrom_C (c := r.claim) hz hgens fun args hpre hlay ord hord => ?_
  (refine xE (Option.isSome_iff_exists.mp (layAllW_isSome (P := w.params) (ord := ord) G.has args r.args s (pre_splitW hpre).1)) fun zn1 hlaid => ?_; obtain ⟨vs, s₁⟩ := zn1)
  have keeps := layAllW_keeps _ _ _ hlaid
  have hal := layAllW_rest _ _ _ hlaid
  refine xEAA (reads_layAllW hord _ _ _ hlaid hlay s₁.heap (fun _ _ e => e)) fun as hrd hin hold => ?_
  have L : Laid r.records w s s₁ args vs as := ⟨⟨ord, hord, hlaid⟩, hrd, hin, hold, keeps, hal.1.trans hgens, hal.2.2.1⟩
  have G₁ := G.keeps hXk keeps
  have hi := ident_freeW hu ha hap
  have hwi : r.claim.within = [] := List.isEmpty_iff.mp k6
  refine xEEEEEEEAAAA (G₁.fn hdef) fun a o pm cd doc dV kV h1 h2 h3 h4 h5 => ?_
  have walk := (call : WalkC q loose XP YP r.toRowW d kwd fun f vs => PySem.call f vs) w s s₁ _ _ G₁ (hYk _ _ _ (hY w s y) keeps) a o pm cd doc dV kV h2 h3 h4 h5 (defOf_name hdef ▸ h1) L.gens args vs as hpre hlay L.reads L.well (L.low G.low)
  refine ⟨vs, s₁, hlaid, ?_⟩
  show wpC (model r.prog w) callerA (do match ← nsGet mainNs r.name with
      | some f => do ret (← PySem.call f vs)
      | none => unsupported "claim.caller:no-such-global") _ _ _
  refine wpC_bindA (wpAny_nsGet G₁.T.g ?_)
  rw [h1]
  refine wpC_bind (wpC_mono walk (fun v s' g => wpC_pure ?_) fun e s' g => ?_)
  · exact ⟨_, rfl, have z := g.laid (c := r.claim) hsame hwi hi L; ⟨z.1, z.2.1, z.2.2, fun q => ⟨namesKept_of hT hg _ keeps g.2.1.old, noTable hwr q⟩⟩⟩
  · exact have z := g.laid (c := r.claim) hsame hwi hi L; ⟨z.1, z.2.1, z.2.2, fun q => ⟨namesKept_of hT hg _ keeps g.2.1.old, noTable hwr q⟩⟩
end Mine
end

-- HEAD
section
open PySem PySem.W PyProof.Rows
set_option maxRecDepth 100000
set_option maxHeartbeats 0
namespace Mine
theorem top.tw2601905985415302144 : True := trivial
theorem top.tw11582926029173025856 : True := trivial
theorem top.tw13160728816969591200 : True := trivial
theorem top.tw13223034962123697568 : True := trivial
theorem top.tw14168018189251442112 : True := trivial
theorem top.tw4597200072644226624 : True := trivial
theorem top.tw1732150942055357024 : True := trivial
theorem top.tw2741389259953327712 : True := trivial
theorem top.tw76412952228603488 : True := trivial
theorem top.tw1971433849790844608 : True := trivial
theorem top.tw7847650389618582240 : True := trivial
theorem top.tw3474246075231452896 : True := trivial
theorem top.tw4468942710605802240 : True := trivial
theorem top.tw16104615914030681952 : True := trivial
theorem top.tw17953984050398360512 : True := trivial
theorem top.tw11613256710310857696 : True := trivial
theorem top.tw2847958352784047137 : True := trivial
theorem top.tw17795014544551873601 : True := trivial
theorem top.tw9953747333497923681 : True := trivial
theorem top.tw1400011881503588481 : True := trivial
theorem top.tw7213333562754528385 : True := trivial
theorem top.tw8507776931139520737 : True := trivial
theorem top.tw2770563814800254177 : True := trivial
theorem top.tw1068965626710143233 : True := trivial
theorem top.tw4859757453598101857 : True := trivial
theorem top.tw1584292188352093569 : True := trivial
theorem top.tw18289109515434150305 : True := trivial
theorem top.tw13985988839938425345 : True := trivial
theorem top.tw6381231289166406305 : True := trivial
theorem top.tw11845233108574324481 : True := trivial
theorem top.tw1601500998369573665 : True := trivial
theorem top.tw9016798869158615873 : True := trivial
theorem top.tw5303079699428457377 : True := trivial
theorem top.tw9272544492142499777 : True := trivial
theorem top.tw2405475915293451298 : True := trivial
theorem top.tw9601329371697537090 : True := trivial
theorem top.tw4177254973167742082 : True := trivial
theorem top.tw2029088862249889922 : True := trivial
theorem top.tw5552270689369575618 : True := trivial
theorem top.tw728428047077509346 : True := trivial
theorem top.tw3217022616335106338 : True := trivial
theorem top.tw16580785732701462914 : True := trivial
theorem top.tw3767615275625035234 : True := trivial
theorem top.tw1291508964198565346 : True := trivial
theorem top.tw17545328352263074274 : True := trivial
theorem top.tw12287388412223808002 : True := trivial
theorem top.tw1016984595167383106 : True := trivial
theorem top.tw15254643099363442306 : True := trivial
theorem top.tw5411213471307467458 : True := trivial
theorem top.tw9739860059890490050 : True := trivial
theorem top.tw5728218623943512802 : True := trivial
theorem top.tw12425085872883035938 : True := trivial
theorem top.tw4392038535549328194 : True := trivial
theorem top.tw17103177528636943170 : True := trivial
theorem top.tw16878204669230926818 : True := trivial
theorem top.tw8321918168302905379 : True := trivial
theorem top.tw2988451766255067171 : True := trivial
theorem top.tw2665807947273092163 : True := trivial
theorem top.tw14235281626263879747 : True := trivial
theorem top.tw9961057766049560675 : True := trivial
theorem top.tw3831935941009654915 : True := trivial
theorem top.tw9503340733035011235 : True := trivial
theorem top.tw10414433010598505635 : True := trivial
theorem top.tw6756868429301003459 : True := trivial
theorem top.tw8311017846404947139 : True := trivial
theorem top.tw6761616313442571491 : True := trivial
theorem top.tw4010397242664982755 : True := trivial
theorem top.tw15687709949711836451 : True := trivial
theorem top.tw10936122117785486979 : True := trivial
theorem top.tw3871027444623705763 : True := trivial
theorem top.tw9149571693438533347 : True := trivial
theorem top.tw15740088241188596515 : True := trivial
theorem top.tw14796646475526232899 : True := trivial
theorem top.tw1297684725254868899 : True := trivial
theorem top.tw16054190913257422852 : True := trivial
theorem top.tw14608685727046917156 : True := trivial
theorem top.tw15212760480394562756 : True := trivial
theorem top.tw16734371015571099844 : True := trivial
theorem top.tw8281120267493503204 : True := trivial
theorem top.tw14450715343900746980 : True := trivial
theorem top.tw13710211086531791108 : True := trivial
theorem top.tw3831216023754155268 : True := trivial
theorem top.tw10694878333477680388 : True := trivial
theorem top.tw401921906979044612 : True := trivial
theorem top.tw16541100652227675460 : True := trivial
theorem top.tw14987219478266130788 : True := trivial
theorem top.tw7033079012710635876 : True := trivial
theorem top.tw1717825165581474212 : True := trivial
theorem top.tw16058212318047004132 : True := trivial
theorem top.tw12764151676501842404 : True := trivial
theorem top.tw15525995667512963556 : True := trivial
theorem top.tw370947364307004932 : True := trivial
theorem top.tw13012589842206080548 : True := trivial
theorem top.tw14459580976405569124 : True := trivial
theorem top.tw13896958669275611876 : True := trivial
theorem top.tw18064794426631996164 : True := trivial
theorem top.tw814325599930780420 : True := trivial
theorem top.tw7671549972530922468 : True := trivial
theorem top.tw4656485037274611717 : True := trivial
theorem top.tw15646934709686841381 : True := trivial
theorem top.tw17810072253543177317 : True := trivial
theorem top.tw6505410396798821541 : True := trivial
theorem top.tw3796891538752321733 : True := trivial
theorem top.tw8892184565913893157 : True := trivial
theorem top.tw2685012915969955173 : True := trivial
theorem top.tw13001836021917841797 : True := trivial
theorem top.tw9227541089923242437 : True := trivial
theorem top.tw3976154599441133093 : True := trivial
theorem top.tw81815255157605957 : True := trivial
theorem top.tw196536941598035525 : True := trivial
theorem top.tw7313339093194340965 : True := trivial
theorem top.tw6388654656322651781 : True := trivial
theorem top.tw9059832203979395877 : True := trivial
theorem top.tw11809222419101719397 : True := trivial
theorem top.tw9685713192446186341 : True := trivial
theorem top.tw8363718466572441477 : True := trivial
theorem top.tw3669314199184481253 : True := trivial
theorem top.tw1294077662247117797 : True := trivial
theorem top.tw10006222313960134694 : True := trivial
theorem top.tw4840481374290595910 : True := trivial
theorem top.tw9377227683167951974 : True := trivial
theorem top.tw16736118626332596326 : True := trivial
theorem top.tw13501252493785611398 : True := trivial
theorem top.tw3140898538269762758 : True := trivial
theorem top.tw11383000496634168614 : True := trivial
theorem top.tw297971269722091814 : True := trivial
theorem top.tw6749217079512962374 : True := trivial
theorem top.tw8435561252592420358 : True := trivial
theorem top.tw5969682004907312646 : True := trivial
theorem top.tw8640399195822439974 : True := trivial
theorem top.tw14042817526060737062 : True := trivial
theorem top.tw10617020205504526918 : True := trivial
theorem top.tw18186074749648716422 : True := trivial
theorem top.tw1736530178072539846 : True := trivial
theorem top.tw7715697345341360870 : True := trivial
theorem top.tw9614876229902214918 : True := trivial
theorem top.tw14526540143163920134 : True := trivial
theorem top.tw4835499133494076262 : True := trivial
theorem top.tw14671331368771545958 : True := trivial
theorem top.tw2506305409684761478 : True := trivial
theorem top.tw10783980745131425670 : True := trivial
theorem top.tw8679839319945467846 : True := trivial
theorem top.tw11189890337720088615 : True := trivial
theorem top.tw6491118196486620199 : True := trivial
theorem top.tw860223938195835975 : True := trivial
theorem top.tw11459358961799972967 : True := trivial
theorem top.tw12256363837256957063 : True := trivial
theorem top.tw953821971998124167 : True := trivial
theorem top.tw8043003576528973991 : True := trivial
theorem top.tw1697544655201012999 : True := trivial
theorem top.tw9759319705405543751 : True := trivial
theorem top.tw6176384092110617959 : True := trivial
theorem top.tw6286779285267259847 : True := trivial
theorem top.tw9165953624949470791 : True := trivial
theorem top.tw12545222027267286695 : True := trivial
theorem top.tw6883741973766446791 : True := trivial
theorem top.tw1209819496270969543 : True := trivial
theorem top.tw13090165191389475591 : True := trivial
theorem top.tw13968125046926948103 : True := trivial
theorem top.tw775762912060472103 : True := trivial
theorem top.tw12819366960792805191 : True := trivial
theorem top.tw13385244156195431271 : True := trivial
theorem top.tw10361075674979980167 : True := trivial
theorem top.tw12317137736924338119 : True := trivial
theorem top.tw14145802354927516647 : True := trivial
theorem top.tw7657828476027519975 : True := trivial
theorem top.tw3484022092364678248 : True := trivial
theorem top.tw13994475860397038760 : True := trivial
theorem top.tw14615657086365298920 : True := trivial
theorem top.tw16439428074185983240 : True := trivial
theorem top.tw13864677062968915208 : True := trivial
theorem top.tw708234853630380328 : True := trivial
theorem top.tw3261557481417251176 : True := trivial
theorem top.tw4205137553216949640 : True := trivial
theorem top.tw18063644159110109576 : True := trivial
theorem top.tw83393220934416808 : True := trivial
theorem top.tw6370870915552960936 : True := trivial
theorem top.tw1486479319815781832 : True := trivial
theorem top.tw12622177474791663080 : True := trivial
theorem top.tw16414630628198896168 : True := trivial
theorem top.tw12638030207367898728 : True := trivial
theorem top.tw10226039269515513512 : True := trivial
theorem top.tw10657950659306570408 : True := trivial
theorem top.tw5667650583090716360 : True := trivial
theorem top.tw10648311167861321448 : True := trivial
theorem top.tw594810645892935528 : True := trivial
theorem top.tw6042063481754889096 : True := trivial
theorem top.tw4916261283513009128 : True := trivial
theorem top.tw6906291655842520137 : True := trivial
theorem top.tw13177472732611162249 : True := trivial
theorem top.tw15878805988109762761 : True := trivial
theorem top.tw15860264024139754761 : True := trivial
theorem top.tw17103585973383926153 : True := trivial
theorem top.tw6786057226368545225 : True := trivial
theorem top.tw2580922434103091657 : True := trivial
theorem top.tw16123964013534891561 : True := trivial
theorem top.tw4555866861457887817 : True := trivial
theorem top.tw15569959144833144457 : True := trivial
theorem top.tw13290321428070320777 : True := trivial
theorem top.tw7845129631348957993 : True := trivial
theorem top.tw9326722878772556681 : True := trivial
theorem top.tw3378803678994701225 : True := trivial
theorem top.tw17788931634197215145 : True := trivial
theorem top.tw4671429814451907529 : True := trivial
theorem top.tw7855079511596107753 : True := trivial
theorem top.tw10915162052029792233 : True := trivial
theorem top.tw2770239361232196585 : True := trivial
theorem top.tw8622502720953521162 : True := trivial
theorem top.tw9990226795618131978 : True := trivial
theorem top.tw339143206060000330 : True := trivial
theorem top.tw9059672392935016618 : True := trivial
theorem top.tw12166907935582030026 : True := trivial
theorem top.tw10187724287525710026 : True := trivial
theorem top.tw8523463495250067690 : True := trivial
theorem top.tw7204493036743257322 : True := trivial
theorem top.tw14317375437502057738 : True := trivial
theorem top.tw9233715247699887402 : True := trivial
theorem top.tw5058314954733539658 : True := trivial
theorem top.tw342308947776675178 : True := trivial
theorem top.tw501154541418245514 : True := trivial
theorem top.tw16004416686337608138 : True := trivial
theorem top.tw14372152842798730730 : True := trivial
theorem top.tw15976228082101565994 : True := trivial
theorem top.tw2369445192022557226 : True := trivial
theorem top.tw8184561461823581802 : True := trivial
theorem top.tw17085176360113175178 : True := trivial
theorem top.tw8335412135813284522 : True := trivial
theorem top.tw9919435345466941130 : True := trivial
theorem top.tw7717162694582976202 : True := trivial
theorem top.tw11285379026988237546 : True := trivial
theorem top.tw17469865338272021226 : True := trivial
theorem top.tw13889309363888878346 : True := trivial
theorem top.tw1321871150748368714 : True := trivial
theorem top.tw14724332232928298890 : True := trivial
theorem top.tw8443935842833279946 : True := trivial
theorem top.tw9951221954081769418 : True := trivial
theorem top.tw5513142621748847562 : True := trivial
theorem top.tw6624316729101989866 : True := trivial
theorem top.tw13370750898655102155 : True := trivial
theorem top.tw2683898200743741643 : True := trivial
theorem top.tw4828031223510198475 : True := trivial
theorem top.tw1430007082597545163 : True := trivial
theorem top.tw3002795768020413707 : True := trivial
theorem top.tw8598144960395782539 : True := trivial
theorem top.tw6431110157172167083 : True := trivial
theorem top.tw13706816188851595723 : True := trivial
theorem top.tw16415559393655328363 : True := trivial
theorem top.tw1522322319653140107 : True := trivial
theorem top.tw7673058066778466091 : True := trivial
theorem top.tw14282377253939248939 : True := trivial
theorem top.tw15271675978053873483 : True := trivial
theorem top.tw9962302188120564619 : True := trivial
theorem top.tw17106077347380383627 : True := trivial
theorem top.tw9233335307524088747 : True := trivial
theorem top.tw13713866747541496747 : True := trivial
theorem top.tw6374012808820230348 : True := trivial
theorem top.tw15744752440731449612 : True := trivial
theorem top.tw2443449257678562572 : True := trivial
theorem top.tw5609151216138764652 : True := trivial
theorem top.tw3331421620988305804 : True := trivial
theorem top.tw3969286963782609292 : True := trivial
theorem top.tw5240762971458559404 : True := trivial
theorem top.tw13799840507378627052 : True := trivial
theorem top.tw6333448901615975916 : True := trivial
theorem top.tw9195894827357321740 : True := trivial
theorem top.tw6503730183909636620 : True := trivial
theorem top.tw11542710104232473196 : True := trivial
theorem top.tw17781115878593249900 : True := trivial
theorem top.tw3254097082911018636 : True := trivial
theorem top.tw4951766788466123468 : True := trivial
theorem top.tw10404823597219466188 : True := trivial
theorem top.tw17323899518341599180 : True := trivial
theorem top.tw13987285891283452908 : True := trivial
theorem top.tw6240723676877644813 : True := trivial
theorem top.tw14453841093610474573 : True := trivial
theorem top.tw13822267516522204269 : True := trivial
theorem top.tw16352630495959832749 : True := trivial
theorem top.tw7527032243904285869 : True := trivial
theorem top.tw17555251805378815213 : True := trivial
theorem top.tw15125931889511115149 : True := trivial
theorem top.tw4047667213573674445 : True := trivial
theorem top.tw3479634599624807885 : True := trivial
theorem top.tw10944031595159391725 : True := trivial
theorem top.tw10774637447528242797 : True := trivial
theorem top.tw283044589724301 : True := trivial
theorem top.tw4940147422707163885 : True := trivial
theorem top.tw16719718919923625709 : True := trivial
theorem top.tw2581206410525282061 : True := trivial
theorem top.tw1814787853859245837 : True := trivial
theorem top.tw12080426169559351053 : True := trivial
theorem top.tw17964300760807480141 : True := trivial
theorem top.tw8265191368974092141 : True := trivial
theorem top.tw10574840078274726829 : True := trivial
theorem top.tw661290744650703789 : True := trivial
theorem top.tw1516213087968936877 : True := trivial
theorem top.tw12427389293880184781 : True := trivial
theorem top.tw13318506193475082254 : True := trivial
theorem top.tw12385144161495827662 : True := trivial
theorem top.tw12209182163369298222 : True := trivial
theorem top.tw15451780782824253742 : True := trivial
theorem top.tw7297446738713254254 : True := trivial
theorem top.tw5476889619067714990 : True := trivial
theorem top.tw2544169868661182894 : True := trivial
theorem top.tw12894197372075662830 : True := trivial
theorem top.tw2462062305354472974 : True := trivial
theorem top.tw1142415686869020238 : True := trivial
theorem top.tw15240379268576122478 : True := trivial
theorem top.tw1803303928475200142 : True := trivial
theorem top.tw6124053682588569230 : True := trivial
theorem top.tw14611434983143301774 : True := trivial
theorem top.tw15299407806266782574 : True := trivial
theorem top.tw12718909917080609646 : True := trivial
theorem top.tw15503665604740900718 : True := trivial
theorem top.tw12958502747184954254 : True := trivial
theorem top.tw15985961358823992270 : True := trivial
theorem top.tw17176029603704830031 : True := trivial
theorem top.tw6898770573198911631 : True := trivial
theorem top.tw11334350811105764591 : True := trivial
theorem top.tw1123975283337734383 : True := trivial
theorem top.tw14697636140705633519 : True := trivial
theorem top.tw17565814175750979855 : True := trivial
theorem top.tw8560541052185303311 : True := trivial
theorem top.tw381845443943030031 : True := trivial
theorem top.tw16900427199656544559 : True := trivial
theorem top.tw9631074621892390191 : True := trivial
theorem top.tw5596365628329696591 : True := trivial
theorem top.tw7198060816514059695 : True := trivial
theorem top.tw13326734554550294991 : True := trivial
theorem top.tw9590735534726013551 : True := trivial
theorem top.tw2103985501979894447 : True := trivial
theorem top.tw8369368087495890639 : True := trivial
theorem top.tw5581607755468803823 : True := trivial
theorem top.tw46980244435833615 : True := trivial
theorem top.tw10567129059001840431 : True := trivial
theorem top.tw11762496359356365647 : True := trivial
theorem top.tw352232786441526191 : True := trivial
theorem top.tw9378254376102152143 : True := trivial
theorem top.tw1040915598704419856 : True := trivial
theorem top.tw1843344800811705456 : True := trivial
theorem top.tw2145171640123136144 : True := trivial
theorem top.tw6893477703608230032 : True := trivial
theorem top.tw11982747722937265360 : True := trivial
theorem top.tw3664424711883983056 : True := trivial
theorem top.tw8538268897159353584 : True := trivial
theorem top.tw7414872774492366064 : True := trivial
theorem top.tw104434173382791472 : True := trivial
theorem top.tw9382581127745807760 : True := trivial
theorem top.tw1585457916280141200 : True := trivial
theorem top.tw8735323631387419056 : True := trivial
theorem top.tw16044733080236030384 : True := trivial
theorem top.tw7444641836354208208 : True := trivial
theorem top.tw17576949682797635024 : True := trivial
theorem top.tw7273676953221729872 : True := trivial
theorem top.tw2968346561183084112 : True := trivial
theorem top.tw14537839394382259888 : True := trivial
theorem top.tw8410488445778877200 : True := trivial
theorem top.tw8833053369097974544 : True := trivial
theorem top.tw7600245330811189008 : True := trivial
theorem top.tw15095372191486117680 : True := trivial
theorem top.tw12342655685612074800 : True := trivial
theorem top.tw14861896470697024400 : True := trivial
theorem top.tw7429413206186439793 : True := trivial
theorem top.tw6196800358849779857 : True := trivial
theorem top.tw2926424126403749041 : True := trivial
theorem top.tw3820434133910038737 : True := trivial
theorem top.tw18086089286151905521 : True := trivial
theorem top.tw10996937224433265937 : True := trivial
theorem top.tw1245559373397905713 : True := trivial
theorem top.tw7250933059871147345 : True := trivial
theorem top.tw8297286125493194097 : True := trivial
theorem top.tw14597223018079223185 : True := trivial
theorem top.tw8823455108540655025 : True := trivial
theorem top.tw7913636548009798097 : True := trivial
theorem top.tw17828378304095215089 : True := trivial
theorem top.tw8204474986945543665 : True := trivial
theorem top.tw11457754044182789617 : True := trivial
theorem top.tw2835187731363253809 : True := trivial
theorem top.tw8693662901424576113 : True := trivial
theorem top.tw1706793611546318481 : True := trivial
theorem top.tw9166809390415177425 : True := trivial
theorem top.tw5225153198818245361 : True := trivial
theorem top.tw2446451932059125521 : True := trivial
theorem top.tw18008055252877512497 : True := trivial
theorem top.tw4076138812419527698 : True := trivial
theorem top.tw12494975220330542130 : True := trivial
theorem top.tw987869383939708018 : True := trivial
theorem top.tw15188630647176887538 : True := trivial
theorem top.tw3855276242980373810 : True := trivial
theorem top.tw15877122091014420850 : True := trivial
theorem top.tw14657780768301432306 : True := trivial
theorem top.tw3033800919411463730 : True := trivial
theorem top.tw427420600052151026 : True := trivial
theorem top.tw8645369167282567922 : True := trivial
theorem top.tw705360758644809490 : True := trivial
theorem top.tw13261893007816960818 : True := trivial
theorem top.tw10987319290404115282 : True := trivial
theorem top.tw15092371282622821202 : True := trivial
theorem top.tw12540527436937284434 : True := trivial
theorem top.tw16550210197400561554 : True := trivial
theorem top.tw2619622883677149074 : True := trivial
theorem top.tw8148004212497801138 : True := trivial
theorem top.tw4699463449715708850 : True := trivial
theorem top.tw17177869089781658578 : True := trivial
theorem top.tw1483126911874232274 : True := trivial
theorem top.tw16795567611416646642 : True := trivial
theorem top.tw4571971715460732019 : True := trivial
theorem top.tw5507162329139097715 : True := trivial
theorem top.tw9229161468869434483 : True := trivial
theorem top.tw16204670001084760307 : True := trivial
theorem top.tw13432635357386499347 : True := trivial
theorem top.tw11141966352661209427 : True := trivial
theorem top.tw5088376156974544275 : True := trivial
theorem top.tw12209373703501877683 : True := trivial
theorem top.tw11133666699803404755 : True := trivial
theorem top.tw6662652255960138227 : True := trivial
theorem top.tw5398424786039705171 : True := trivial
theorem top.tw1275901062530889299 : True := trivial
theorem top.tw13420762306968818387 : True := trivial
theorem top.tw9843949296442739443 : True := trivial
theorem top.tw12117888159696746259 : True := trivial
theorem top.tw7160873610591055699 : True := trivial
theorem top.tw1492452104121835379 : True := trivial
theorem top.tw8874702517807110003 : True := trivial
theorem top.tw7743179893348639699 : True := trivial
theorem top.tw17486766287000646611 : True := trivial
theorem top.tw2758071753971750899 : True := trivial
theorem top.tw1676862907878916244 : True := trivial
theorem top.tw15918733279669447828 : True := trivial
theorem top.tw13975414291046593716 : True := trivial
theorem top.tw12415523145999629524 : True := trivial
theorem top.tw1394568958698188020 : True := trivial
theorem top.tw9442318146202087700 : True := trivial
theorem top.tw84136930442132756 : True := trivial
theorem top.tw14789260269991461300 : True := trivial
theorem top.tw17022078359063049780 : True := trivial
theorem top.tw11760055953109336660 : True := trivial
theorem top.tw1617357707322924660 : True := trivial
theorem top.tw1284575025550258836 : True := trivial
theorem top.tw4159251561096739476 : True := trivial
theorem top.tw12535971307161669396 : True := trivial
theorem top.tw11922380849998532372 : True := trivial
theorem top.tw16759092144687519636 : True := trivial
theorem top.tw6694047246710070196 : True := trivial
theorem top.tw6265701101103706036 : True := trivial
theorem top.tw4784893810139332661 : True := trivial
theorem top.tw10577272966987657301 : True := trivial
theorem top.tw2686433634493928565 : True := trivial
theorem top.tw4796303294375832693 : True := trivial
theorem top.tw2924597203103170677 : True := trivial
theorem top.tw6664487174759623829 : True := trivial
theorem top.tw11994683656316670133 : True := trivial
theorem top.tw7008692893051332821 : True := trivial
theorem top.tw10562855833978642645 : True := trivial
theorem top.tw18374746225686918389 : True := trivial
theorem top.tw14402358008270493973 : True := trivial
theorem top.tw4791253341166991637 : True := trivial
theorem top.tw8817415213059835157 : True := trivial
theorem top.tw3739144386018749749 : True := trivial
theorem top.tw13549259019975226677 : True := trivial
theorem top.tw11960245374511038805 : True := trivial
theorem top.tw1988063486488863061 : True := trivial
theorem top.tw11334203419191126389 : True := trivial
theorem top.tw7386116660499605909 : True := trivial
theorem top.tw2220570432770164149 : True := trivial
theorem top.tw3438876017090070997 : True := trivial
theorem top.tw575894324575664597 : True := trivial
theorem top.tw11203750815551599093 : True := trivial
theorem top.tw72247145696351765 : True := trivial
theorem top.tw16034636559557993077 : True := trivial
theorem top.tw10797620697341660853 : True := trivial
theorem top.tw4058662728301269685 : True := trivial
theorem top.tw864819663365544661 : True := trivial
theorem top.tw13345470168829271861 : True := trivial
theorem top.tw350670483859837877 : True := trivial
theorem top.tw18367679650794681301 : True := trivial
theorem top.tw17342085116792181814 : True := trivial
theorem top.tw8813761850579938390 : True := trivial
theorem top.tw13044034144603486326 : True := trivial
theorem top.tw9800703332001039478 : True := trivial
theorem top.tw8265311939077410998 : True := trivial
theorem top.tw10801874191123338550 : True := trivial
theorem top.tw8054331753737935190 : True := trivial
theorem top.tw5597187220613765494 : True := trivial
theorem top.tw11116745826364501430 : True := trivial
theorem top.tw13264354339760550358 : True := trivial
theorem top.tw15362295582089109014 : True := trivial
theorem top.tw11159431927160009238 : True := trivial
theorem top.tw9366391650621772374 : True := trivial
theorem top.tw15638586536077026902 : True := trivial
theorem top.tw15169761463676818070 : True := trivial
theorem top.tw17050326753033342646 : True := trivial
theorem top.tw4166218997396506358 : True := trivial
theorem top.tw8657480035899644758 : True := trivial
theorem top.tw3584897518013459382 : True := trivial
theorem top.tw2985252069258134486 : True := trivial
theorem top.tw10194810499950245846 : True := trivial
theorem top.tw6438537300738474071 : True := trivial
theorem top.tw11053662475850362967 : True := trivial
theorem top.tw14466935161476858967 : True := trivial
theorem top.tw17492772389151264855 : True := trivial
theorem top.tw620129878449983639 : True := trivial
theorem top.tw7458633546980236471 : True := trivial
theorem top.tw16885616592811714743 : True := trivial
theorem top.tw12318557346453588183 : True := trivial
theorem top.tw7204998973626084599 : True := trivial
theorem top.tw3712731000106771831 : True := trivial
theorem top.tw7381879191629600215 : True := trivial
theorem top.tw3120133295221510679 : True := trivial
theorem top.tw2312856594315299383 : True := trivial
theorem top.tw4299629679881509495 : True := trivial
theorem top.tw15349318334595610263 : True := trivial
theorem top.tw8143265674769528471 : True := trivial
theorem top.tw8139039716903228087 : True := trivial
theorem top.tw7830913209206220567 : True := trivial
theorem top.tw11520865232209809239 : True := trivial
theorem top.tw5868845118606482295 : True := trivial
theorem top.tw5245862010334584759 : True := trivial
theorem top.tw4331257952254489624 : True := trivial
theorem top.tw17594962761535629368 : True := trivial
theorem top.tw9843447840031818808 : True := trivial
theorem top.tw10008474027749305400 : True := trivial
theorem top.tw11199710921928265848 : True := trivial
theorem top.tw1139600151236580504 : True := trivial
theorem top.tw681777741448182936 : True := trivial
theorem top.tw6487610083215253720 : True := trivial
theorem top.tw9063741608606530840 : True := trivial
theorem top.tw2812155379371279736 : True := trivial
theorem top.tw16262243036561855896 : True := trivial
theorem top.tw4498253355057717688 : True := trivial
theorem top.tw12783364522390391256 : True := trivial
theorem top.tw4551080515912023512 : True := trivial
theorem top.tw6211089042160764376 : True := trivial
theorem top.tw13500427573557490136 : True := trivial
theorem top.tw9768079942903668216 : True := trivial
theorem top.tw8107780213005350392 : True := trivial
theorem top.tw2617719716777270872 : True := trivial
theorem top.tw1149218181149386328 : True := trivial
theorem top.tw8810280945414196856 : True := trivial
theorem top.tw18164388396756303480 : True := trivial
theorem top.tw8237333600419904120 : True := trivial
theorem top.tw16713831800681072344 : True := trivial
theorem top.tw6572447435987645144 : True := trivial
theorem top.tw2617181576586992344 : True := trivial
theorem top.tw3995942328266245912 : True := trivial
theorem top.tw17886615442053742456 : True := trivial
theorem top.tw13310400573052568472 : True := trivial
theorem top.tw2722852734226103192 : True := trivial
theorem top.tw15245507539482535896 : True := trivial
theorem top.tw5889316905344633881 : True := trivial
theorem top.tw11546936639936008217 : True := trivial
theorem top.tw16273406610938067001 : True := trivial
theorem top.tw17030962893124633753 : True := trivial
theorem top.tw2596539476470345881 : True := trivial
theorem top.tw13359135706311490777 : True := trivial
theorem top.tw11072019736110318841 : True := trivial
theorem top.tw9851269098105209369 : True := trivial
theorem top.tw8327351992414209593 : True := trivial
theorem top.tw17741875731164886585 : True := trivial
theorem top.tw18394268562011335289 : True := trivial
theorem top.tw9685272918333002393 : True := trivial
theorem top.tw6189502492464219833 : True := trivial
theorem top.tw3874152929960365753 : True := trivial
theorem top.tw795583310449317561 : True := trivial
theorem top.tw11466170419677230873 : True := trivial
theorem top.tw16325430554902658873 : True := trivial
theorem top.tw9178861053002065721 : True := trivial
theorem top.tw16196420915677631385 : True := trivial
theorem top.tw5176459694589498394 : True := trivial
theorem top.tw6058780594550047802 : True := trivial
theorem top.tw11199532085631943738 : True := trivial
theorem top.tw9743097575036673082 : True := trivial
theorem top.tw6973401727384321114 : True := trivial
theorem top.tw7681529838311687354 : True := trivial
theorem top.tw17620759639134147866 : True := trivial
theorem top.tw10079171474624433434 : True := trivial
theorem top.tw1047907039808853306 : True := trivial
theorem top.tw14823308797102314842 : True := trivial
theorem top.tw3195522803047326042 : True := trivial
theorem top.tw10448899703829047738 : True := trivial
theorem top.tw411662067469150650 : True := trivial
theorem top.tw1108800333578037850 : True := trivial
theorem top.tw5702910450625016506 : True := trivial
theorem top.tw16420938139371093754 : True := trivial
theorem top.tw13068111086705522682 : True := trivial
theorem top.tw427269002284569659 : True := trivial
theorem top.tw10187264123177260123 : True := trivial
theorem top.tw4773702212245658779 : True := trivial
theorem top.tw17089494485692210459 : True := trivial
theorem top.tw17981982808018919739 : True := trivial
theorem top.tw10017263926548143515 : True := trivial
theorem top.tw15911569825323301435 : True := trivial
theorem top.tw3422688185749166683 : True := trivial
theorem top.tw16800595933775061595 : True := trivial
theorem top.tw16821654228018055803 : True := trivial
theorem top.tw3337584539547039419 : True := trivial
theorem top.tw7059692629156357883 : True := trivial
theorem top.tw9152664641465651067 : True := trivial
theorem top.tw6127594578889010139 : True := trivial
theorem top.tw13120753694373217308 : True := trivial
theorem top.tw1817607043029479484 : True := trivial
theorem top.tw13134186033006778460 : True := trivial
theorem top.tw11334415319851112604 : True := trivial
theorem top.tw5523086135645875356 : True := trivial
theorem top.tw6912233166142098652 : True := trivial
theorem top.tw18245740138792012028 : True := trivial
theorem top.tw15286249088069653756 : True := trivial
theorem top.tw14826035006057030972 : True := trivial
theorem top.tw2377541652452675900 : True := trivial
theorem top.tw13928562000808390012 : True := trivial
theorem top.tw1869187583165140508 : True := trivial
theorem top.tw12376051458212225564 : True := trivial
theorem top.tw14917401599646851644 : True := trivial
theorem top.tw4321519831107876412 : True := trivial
theorem top.tw8689318265317240412 : True := trivial
theorem top.tw10195997230039290492 : True := trivial
theorem top.tw2727672472851901052 : True := trivial
theorem top.tw4807692442873511580 : True := trivial
theorem top.tw13890846271309207196 : True := trivial
theorem top.tw16453443671601555132 : True := trivial
theorem top.tw216529984938456764 : True := trivial
theorem top.tw1088946173253831356 : True := trivial
theorem top.tw15361541807878343388 : True := trivial
theorem top.tw1124271682379634556 : True := trivial
theorem top.tw18034075008235765660 : True := trivial
theorem top.tw3776753064480771068 : True := trivial
theorem top.tw4547018644641229820 : True := trivial
theorem top.tw956089473029861405 : True := trivial
theorem top.tw11240886729373846589 : True := trivial
theorem top.tw5155950481276406077 : True := trivial
theorem top.tw14163296552016326077 : True := trivial
theorem top.tw668136137496459709 : True := trivial
theorem top.tw5692499903750754813 : True := trivial
theorem top.tw17355269125676882429 : True := trivial
theorem top.tw13899568491130100285 : True := trivial
theorem top.tw15688460231516280413 : True := trivial
theorem top.tw10773188271377071773 : True := trivial
theorem top.tw7325726471975496349 : True := trivial
theorem top.tw16155163154822807229 : True := trivial
theorem top.tw11430207588045935325 : True := trivial
theorem top.tw6044499741508276989 : True := trivial
theorem top.tw18177719399980262173 : True := trivial
theorem top.tw3730354652608582461 : True := trivial
theorem top.tw11423202765487971197 : True := trivial
theorem top.tw47109162367338493 : True := trivial
theorem top.tw14901070454687303710 : True := trivial
theorem top.tw13091174067606910046 : True := trivial
theorem top.tw18237780215024852062 : True := trivial
theorem top.tw14747140909534839006 : True := trivial
theorem top.tw8968299171318014206 : True := trivial
theorem top.tw6930518751129746686 : True := trivial
theorem top.tw9361663168868926718 : True := trivial
theorem top.tw12904532413392791838 : True := trivial
theorem top.tw4046864289407762814 : True := trivial
theorem top.tw14038881264487009662 : True := trivial
theorem top.tw10579768621468169598 : True := trivial
theorem top.tw6859976401760118174 : True := trivial
theorem top.tw2878843996050045342 : True := trivial
theorem top.tw10956490626425055710 : True := trivial
theorem top.tw3486219094355674750 : True := trivial
theorem top.tw105208000716104510 : True := trivial
theorem top.tw1700347112935617374 : True := trivial
theorem top.tw13889484949932952446 : True := trivial
theorem top.tw2867133514656366558 : True := trivial
theorem top.tw5983031951866500094 : True := trivial
theorem top.tw15058813355848621054 : True := trivial
theorem top.tw2267912224990424062 : True := trivial
theorem top.tw14371913498598963198 : True := trivial
theorem top.tw14390669486469195807 : True := trivial
theorem top.tw1754339480302792767 : True := trivial
theorem top.tw7990429038631628895 : True := trivial
theorem top.tw11173010173815179391 : True := trivial
theorem top.tw17428532607074087071 : True := trivial
theorem top.tw2464713573024523455 : True := trivial
theorem top.tw18085771088847121727 : True := trivial
theorem top.tw11584198869435930015 : True := trivial
theorem top.tw4997509813036325311 : True := trivial
theorem top.tw9589608677651300831 : True := trivial
theorem top.tw14762295962024373759 : True := trivial
theorem top.tw5766051744304087583 : True := trivial
theorem top.tw6448850889433096767 : True := trivial
theorem top.tw12094960947251128927 : True := trivial
theorem top.tw8345894832289464959 : True := trivial
theorem top.tw17582957951858275007 : True := trivial
theorem top.tw8999917154711486175 : True := trivial
theorem top.tw13369591340354186047 : True := trivial
theorem top.tw10399464001100048223 : True := trivial
theorem top.tw3207569582813703071 : True := trivial
theorem top.tw5839659824258004927 : True := trivial
theorem top.tw3548060758652744671 : True := trivial
theorem top.tw3515310966923322315 : True := trivial
theorem top.tw1461059730363852999 : True := trivial
set_option Elab.async true in
theorem top : ∃ T : Prop, T → PySem.Challenge.rw_nt0501_01.Holds := by
  refine ⟨?T, ?f⟩
  case f =>
    as_aux_lemma =>
      intro walk
      have c : Carry ?T := ⟨walk⟩
      w_on; o_law; k_head
      (case hw => w_witness2)
      (case hc => exact c.h)
theorem top_waits : True := by
  have h := @top._proof_1_896
  trivial
end Mine
end

-- C04
section
open PySem PySem.W PyProof.Rows PySem.Spec PySem.Calls Builtin
set_option linter.all false
set_option maxRecDepth 100000
set_option maxHeartbeats 4000000
set_option pp.maxSteps 4000
namespace Mine
/-! statements and calls under a clean stack -/
section
variable {M : Model} {A : Around} {E : Value → Shared → Prop} {s : Shared} {env : Env}
theorem wpC_execs_cons {st rest} {Q : Flow → Shared → Prop} (h : wpC M A (exec st env) (fun f s' => match f with | .next => wpC M A (execs rest env) Q E s' | f => Q f s') E s) :
    wpC M A (execs (st :: rest) env) Q E s := by
  rw [execs_cons]
  refine wpC_bind (wpC_mono h (fun f s' h' => ?_) fun _ _ h' => h')
  cases f <;> first | exact h' | exact wpC_pure h'
theorem wpC_Expr {e pos} {Q : Flow → Shared → Prop} (h : wpC M A (eval e env) (fun v s' => match v with | .ref _ => False | _ => Q .next s') E s)
    (hi : interactive env = false) (hs : swapsWith e none pos.line env = pure false) : wpC M A (exec (.Expr e pos) env) Q E s := by
  rw [exec_Expr env e pos hi hs]
  refine wpC_bindA (wpAny_standAt (wpC_bind (wpC_mono h (fun v s' h' => ?_) fun _ _ x => x)))
  have hv : ∀ a, v ≠ .ref a := fun a hva => by subst hva; exact h'
  rw [dropValue_plain hv]
  refine wpC_pure ?_
  cases v <;> first | exact h' | exact (hv _ rfl).elim
theorem wpC_If {test body orelse pos} {Q : Flow → Shared → Prop}
    (h : wpAny M A (isTrue test env (eval test env)) (fun b s₂ => if b then wpC M A (execs body env) Q E s₂ else wpC M A (execs orelse env) Q E s₂) E s) :
    wpC M A (exec (.If test body orelse pos) env) Q E s := by
  rw [exec_If]
  refine wpC_bindA (wpAny_standAt (wpC_bindA (wpAny_mono h (fun b s₂ h₂ => ?_) fun _ _ x => x)))
  cases b <;> exact h₂
theorem wpC_Return_some {e pos} {Q : Flow → Shared → Prop} (h : wpC M A (eval e env) (fun v => Q (.ret v)) E s) : wpC M A (exec (.Return (some e) pos) env) Q E s := by
  rw [exec_Return_some]
  exact wpC_bindA (wpAny_standAt (wpC_bind (wpC_mono h (fun _ _ h' => wpC_pure h') fun _ _ x => x)))
theorem wpC_Assign_Attr {o attr pos' value pos} {Q : Flow → Shared → Prop}
    (h : wpC M A (eval value env) (fun v s₁ => wpAny M A (eval o env) (fun ov s₂ => wpAny M A (setAttr ov attr v) (fun _ => Q .next) E s₂) E s₁) E s)
    (hs : swapsWith value (some (.Attribute o attr pos')) pos.line env = pure false) : wpC M A (exec (.Assign [.Attribute o attr pos'] value pos) env) Q E s := fun Γ p hΓ g1 g2 => by
  simp only [plainObj_exec_Assign_Attribute o attr pos' value pos hs, assign_Attribute, Sem.wp_bind', Sem.wp_holding, Sem.wp_cmd_standAt, Sem.wp_release, Sem.wp_pure']
  exact Sem.wp_mono M Γ _ (fun v p₁ s₁ h₁ => Sem.wp_mono M Γ _ (fun ov _ s₂ h₂ => h₂ Γ _ hΓ) (fun _ _ _ h' => h') _ _ (h₁ Γ p₁ hΓ)) (fun _ _ _ h' => h') _ _ (h Γ _ hΓ g1 g2)
theorem wpC_MethodCall {o : Expr} {name : Str} {apos pos : Pos} {args : List Expr} {pl : Sem Bool} {Q : Value → Shared → Prop}
    (h : wpAny M A (eval o env) (fun ov s₁ => wpAny M A (getMethod ov name pl) (fun fx s₂ => wpC M A (callWith pos fx.1 fx.2 (backTo pos (starEach args env)) []) Q E s₂) E s₁) E s)
    (he : eval (.Call (.Attribute o name apos) args [] pos) env = (do
      let ov ← eval o env
      standAt apos.atName
      let (f, first) ← holding [ov] (getMethod ov name pl)
      callWith pos f first (backTo pos (starEach args env)) [])) :
    wpC M A (eval (.Call (.Attribute o name apos) args [] pos) env) Q E s := by
  rw [he]
  refine wpC_bindA (wpAny_mono h (fun ov s₁ h₁ => wpC_bindA (wpAny_standAt (wpC_bindA (wpAny_holding (wpAny_mono h₁ (fun fx s₂ h₂ => ?_) fun _ _ x => x))))) fun _ _ x => x)
  exact h₂
theorem wpC_Call {func : Expr} {args : List Expr} {pos : Pos} {Q : Value → Shared → Prop}
    (h : wpAny M A (eval func env) (fun f s₁ => wpC M A (callWith pos f [] (backTo pos (starEach args env)) []) Q E s₁) E s)
    (he : eval (.Call func args [] pos) env = (do callWith pos (← eval func env) [] (backTo pos (starEach args env)) [])) :
    wpC M A (eval (.Call func args [] pos) env) Q E s := by
  rw [he]
  exact wpC_bindA h
theorem wpC_items_cons {pos : Pos} {e : Expr} {rest : List Expr} {Q : List Value → Shared → Prop}
    (h : wpC M A (eval e env) (fun v s₁ => wpC M A (spliced (backTo pos (starEach rest env))) (fun vs s₂ => Q (v :: vs) s₂) E s₁) E s)
    (he : starEach (e :: rest) env = (false, eval e env) :: starEach rest env) : wpC M A (spliced (backTo pos (starEach (e :: rest) env))) Q E s := by
  rw [he]
  show wpC M A (do
    let v ← eval e env
    let here ← (pure [v] : Sem (List Value))
    return here ++ (← holding here (spliced (backTo pos (starEach rest env))))) Q E s
  exact wpC_bind (wpC_mono h (fun v s₁ h₁ => wpC_bind (wpC_pure (wpC_bind (wpC_holding (wpC_mono h₁ (fun vs s₂ h₂ => wpC_pure h₂) fun _ _ x => x)))) ) fun _ _ x => x)
theorem wpC_Tuple {elts : List Expr} {k : Nat} {pos : Pos} {Q : Value → Shared → Prop}
    (h : wpC M A (spliced (backTo pos (starEach elts env)))
      (fun vs s₁ => vs.length ≤ sizeLine ∧ Q (.ref s₁.heap.objs.size) { s₁ with heap := s₁.heap.push { cls := .type "tuple", data := .seq vs.toArray } }) E s) : wpC M A (eval (.Tuple elts k pos) env) Q E s := by
  rw [arm_eval_Tuple]
  exact wpC_bindA (wpAny_standAt (wpC_bind (wpC_mono h (fun vs s₁ h₁ => .of (wpAny_newObj_type h₁.2 (by show vs.toArray.size ≤ sizeLine; rw [List.size_toArray]; exact h₁.1))) fun _ _ x => x)))
theorem evalArgsC_plain {f : Value} {x : Sem Value} {rest : List (Bool × Sem Value)} {Q : Args → Shared → Prop}
    (h : wpC M A (spliced ((false, x) :: rest)) (fun vs s' => Q ⟨vs, []⟩ s') E s) : wpC M A (evalArgs f true ((false, x) :: rest) []) Q E s := by
  unfold evalArgs
  show wpC M A (spliced ((false, x) :: rest) >>= _) Q E s
  refine wpC_bind (wpC_mono h (fun vs s' h' => ?_) fun _ _ x => x)
  refine wpC_holding ?_
  exact wpC_bind (wpC_pure (wpC_bind (wpC_pure (wpC_pure h'))))
theorem wpC_if2 {α : Type} {M : Model} {A : Around} {E : Value → Shared → Prop} {s : Shared} {c : Prop} [Decidable c] {a b : Sem α} {Q : α → Shared → Prop} (h : wpC M A a Q E s) (h' : wpC M A b Q E s) : wpC M A (if c then a else b) Q E s := by by_cases q : c; rw [if_pos q]; exact h; rw [if_neg q]; exact h'
theorem callWithC_of {P : Heap → Prop} {f : Value} {pos : Pos} {first : List Value} {Q : Value → Shared → Prop} {args : List (Bool × Sem Value)} {keywords : List (Option Str × Sem Value)} (hplain : (args.any (·.1) || keywords.any (·.1.isNone)) = false)
    (hk : ∀ h, P h → ∃ k, (k = Keeper.frame ∨ k = Keeper.machine ∨ k = Keeper.boundFrame) ∧ Looks M h (keeperOf f) k)
    (h : wpC M A (evalArgs f true args keywords) (fun a s₁ => P s₁.heap ∧ wpC M A (call f (first ++ a.pos) a.kw) Q E s₁) E s) : wpC M A (callWith pos f first args keywords) Q E s := by
  delta callWith
  refine wpC_bind (wpC_holding (wpC_mono h (fun a s₁ h₁ => wpC_bindA (wpAny_standAt ?_)) fun _ _ x => x))
  refine xEA (hk _ h₁.1) fun k hk' L => ?_
  dsimp only
  rw [hplain]
  refine wpC_bindA (L.here ?_)
  have tail : ∀ {t : Sem Value}, wpC M A t Q E s₁ → wpC M A (t >>= fun r => holding [r] point >>= fun _ => pure r) Q E s₁ :=
    fun ht => wpC_bind (wpC_mono ht (fun r s₂ hr => .of (wpAny_bind (wpAny_holding (wpAny_point (wpAny_pure hr))))) fun _ _ x => x)
  have marked (mk : Value) : wpC M A (callMarked mk f (first ++ a.pos) a.kw) Q E s₁ := by unfold callMarked; exact wpC_keep h₁.2
  rcases hk' with rfl | rfl | rfl <;> dsimp only <;> first | exact tail h₁.2 | exact wpC_if2 (tail h₁.2) (tail (marked _))
theorem callWithC_K {K : Frag} {h₀ : Heap} {f : Value} {pos : Pos} {first : List Value} {Q : Value → Shared → Prop} {e : Expr} {rest : List Expr} (_X : K.In h₀) (hk : keepIn K f = true) (h : wpC M A (spliced (backTo pos (starEach (e :: rest) env))) (fun vs s₁ => K.In s₁.heap ∧ wpC M A (call f (first ++ vs)) Q E s₁) E s)
    (he : starEach (e :: rest) env = (false, eval e env) :: starEach rest env) (hplain : (backTo pos (starEach rest env)).any (·.1) = false) :
    wpC M A (callWith pos f first (backTo pos (starEach (e :: rest) env)) []) Q E s := by
  rw [he] at h ⊢
  exact callWithC_of (by show ((false || (backTo pos (starEach rest env)).any (·.1)) || false) = false; rw [hplain]; rfl) (keeps_K hk) (evalArgsC_plain h)
theorem callWithC_builtin {pos : Pos} {id : String} {first : List Value} {args : List (Bool × Sem Value)} {Q : Value → Shared → Prop} (hplain : args.any (·.1) = false)
    (h : wpC M A (evalArgs (.builtin id) true args []) (fun a s₁ => wpC M A (call (.builtin id) (first ++ a.pos) a.kw) Q E s₁) E s) :
    wpC M A (callWith pos (.builtin id) first args []) Q E s := by
  delta callWith
  refine wpC_bind (wpC_holding (wpC_mono h (fun a s₁ h₁ => wpC_bindA (wpAny_standAt ?_)) fun _ _ x => x))
  dsimp only
  rw [show (args.any (·.1) || ([] : List (Option Str × Sem Value)).any (·.1.isNone)) = false by rw [hplain]; rfl]
  refine wpC_bindA (wpAny_pure ?_)
  exact wpC_bind (wpC_mono h₁ (fun r s₂ hr => .of (wpAny_bind (wpAny_holding (wpAny_point (wpAny_pure hr))))) fun _ _ x => x)
theorem callWithC_type {pos : Pos} {T : String} {e : Expr} {rest : List Expr} {Q : Value → Shared → Prop}
    (h : wpC M A (spliced (backTo pos (starEach (e :: rest) env))) (fun vs s₁ => wpC M A (call (.type T) vs) Q E s₁) E s)
    (he : starEach (e :: rest) env = (false, eval e env) :: starEach rest env) (hplain : (backTo pos (starEach rest env)).any (·.1) = false) :
    wpC M A (callWith pos (.type T) [] (backTo pos (starEach (e :: rest) env)) []) Q E s := by
  rw [he] at h ⊢
  exact callWithC_of (P := fun _ => True) (by show ((false || (backTo pos (starEach rest env)).any (·.1)) || false) = false; rw [hplain]; rfl) (fun _ _ => ⟨_, .inr (.inl rfl), Looks.of_pure rfl⟩) (evalArgsC_plain (wpC_mono h (fun vs s₁ h₁ => ⟨trivial, h₁⟩) fun _ _ x => x))
theorem wpC_run {c : Code} {h : Option Value} {Q : Flow → Shared → Prop}
    (hc : codeC M (A.mark h) c (fun r s' => match r with | .ok f => Q f s' | .error e => E e s') s) (hnb : h ≠ some byPass) : wpC M A (run c h) Q E s :=
  fun Γ p hΓ g1 g2 => by
    rw [Sem.wp_run]
    refine hc.2 _ p rfl (hΓ.enter c h p hnb) ?_
    intro x hx
    rcases List.mem_cons.mp hx with rfl | hx
    · exact g1
    · exact g2 x hx
theorem wpC_runOwn {c : Code} {h : Option Value} {Q : Flow → Shared → Prop}
    (hc : codeC M (A.mark h) c (fun r s' => match r with | .ok f => Q f s' | .error e => cameBackBy M A env E e s') s) (hnb : h ≠ some byPass) : wpC M A (runOwn c env h) Q E s := by
  unfold runOwn
  exact wpC_onRaise (wpC_run hc hnb)
theorem wpC_For {target iter body orelse pos} {Q : Flow → Shared → Prop}
    (h : wpAny M A (eval iter env) (fun x s₁ => wpAny M A (pyIter x) (fun it s₂ =>
      codeC M A (.forLoop target it body orelse env) (fun r s' => match r with | .ok f => Q f s' | .error e => cameBackBy M A env E e s') s₂) E s₁) E s)
    (hs : ∀ x, foldedSetIterable iter env x = pure x) :
    wpC M A (exec (.For target iter body orelse pos) env) Q E s := by
  rw [exec_For]
  exact wpC_bindA (wpAny_standAt (wpC_bindA (wpAny_mono h (fun x s₁ h₁ => wpC_bindA (wpAny_of_eq (hs x) (wpC_bindA (wpAny_standAt (wpC_bindA (wpAny_holding
    (wpAny_mono h₁ (fun it s₂ h₂ => wpC_runOwn (h := none) h₂ (by intro x; cases x)) fun _ _ h' => h'))))))) fun _ _ h' => h')))
end
section
variable {prog : Program} {w : World} {A : Around} {E : Value → Shared → Prop} {s : Shared} {env : Env} {R : Result → Shared → Prop}
theorem wpC_noted {α : Type} {m : Sem α} {Q : α → Shared → Prop} (h : wpC (model prog w) A m Q (notedBy (model prog w) A env E) s) : wpC (model prog w) A (m.onRaise fun x => do noteFrame x env; theTreesLotGoes x) Q E s :=
  wpC_onRaise (wpC_mono h (fun _ _ q => q) fun _ _ hx => wpAny_bind (wpAny_mono hx (fun _ _ e => wpAny_theTreesLotGoes e) fun _ _ e => e))
/-- one turn of a for loop -/
theorem codeC_forTurn {target it body orelse}
    (turn : wpAny (model prog w) A (pyNext it) (fun r s₁ => match r with
      | none => wpAny (model prog w) A (execs orelse env) (fun f s₃ => R (.ok f) s₃) (notedBy (model prog w) A env fun e s' => R (.error e) s') s₁
      | some v => wpAny (model prog w) A (assign target env v) (fun _ s₂ => wpC (model prog w) A (execs body env) (fun f s₃ => match f with
          | .next | .cont => codeC (model prog w) A (.forLoop target it body orelse env) R s₃
          | .brk => R (.ok .next) s₃
          | .ret v => R (.ok (.ret v)) s₃) (notedBy (model prog w) A env fun e s' => R (.error e) s') s₂) (notedBy (model prog w) A env fun e s' => R (.error e) s') s₁) (notedBy (model prog w) A env fun e s' => R (.error e) s') s)
    (ht : ∀ v, letOwnedTupleGo target it v = pure ()) : codeC (model prog w) A (.forLoop target it body orelse env) R s := by
  refine codeC_of_tree rfl ?_
  show wpC _ _ ((forTurn target it body orelse env).onRaise (fun x => do noteFrame x env; theTreesLotGoes x)) _ _ s
  refine wpC_noted ?_
  simp only [forTurn]
  refine wpC_bindA (wpAny_standAt (wpC_bindA (wpAny_onRaise (wpAny_mono turn (fun r s₁ h₁ => ?_) fun _ _ h' => wpAny_standAt h'))))
  cases r with
  | none => exact wpC_pure ⟨rfl, codeC.of rfl (codeAny_block h₁)⟩
  | some v =>
    refine wpC_bindA (wpAny_of_eq (ht v) ?_)
    refine wpC_bindA (wpAny_mono h₁ (fun _ s₂ h₂ => wpC_bind (wpC_mono h₂ (fun f s₃ h₃ => ?_) fun _ _ h' => h')) fun _ _ h' => h')
    cases f with
    | next => exact wpC_pure ⟨rfl, h₃⟩
    | cont => exact wpC_pure ⟨rfl, h₃⟩
    | brk => exact wpC_pure h₃
    | ret v => exact wpC_pure h₃
theorem codeAny_forTurn {target it body orelse}
    (turn : wpAny (model prog w) A (pyNext it) (fun r s₁ => match r with
      | none => wpAny (model prog w) A (execs orelse env) (fun f s₃ => R (.ok f) s₃) (notedBy (model prog w) A env fun e s' => R (.error e) s') s₁
      | some v => wpAny (model prog w) A (assign target env v) (fun _ s₂ => wpAny (model prog w) A (execs body env) (fun f s₃ => match f with
          | .next | .cont => codeAny (model prog w) A (.forLoop target it body orelse env) R s₃
          | .brk => R (.ok .next) s₃
          | .ret v => R (.ok (.ret v)) s₃) (notedBy (model prog w) A env fun e s' => R (.error e) s') s₂) (notedBy (model prog w) A env fun e s' => R (.error e) s') s₁) (notedBy (model prog w) A env fun e s' => R (.error e) s') s)
    (ht : ∀ v, letOwnedTupleGo target it v = pure ()) : codeAny (model prog w) A (.forLoop target it body orelse env) R s := by
  refine codeAny_of_tree ?_
  show wpAny _ _ ((forTurn target it body orelse env).onRaise (fun x => do noteFrame x env; theTreesLotGoes x)) _ _ s
  refine wpAny_noted ?_
  simp only [forTurn]
  refine wpAny_bind (wpAny_standAt (wpAny_bind (wpAny_onRaise (wpAny_mono turn (fun r s₁ h₁ => ?_) fun _ _ h' => wpAny_standAt h'))))
  cases r with
  | none => exact wpAny_pure ⟨rfl, (codeAny_block h₁)⟩
  | some v =>
    refine wpAny_bind (wpAny_of_eq (ht v) ?_)
    refine wpAny_bind (wpAny_mono h₁ (fun _ s₂ h₂ => wpAny_bind (wpAny_mono h₂ (fun f s₃ h₃ => ?_) fun _ _ h' => h')) fun _ _ h' => h')
    cases f with
    | next => exact wpAny_pure ⟨rfl, h₃⟩
    | cont => exact wpAny_pure ⟨rfl, h₃⟩
    | brk => exact wpAny_pure h₃
    | ret v => exact wpAny_pure h₃
theorem codeC_func {body : List Stmt}
    (h : wpC (model prog w) (A.deeper env) (execs body env) (fun f s' => R (.ok (.ret (match f with | .ret v => v | _ => .none))) s')
      (fun e s' => wpAny (model prog w) (A.deeper env) (leaving env e) (fun _ s'' => R (.error e) s'') (fun e' s'' => R (.error e') s'') s') s) :
    codeC (model prog w) A (.func body env) R s := by
  refine codeC_of_tree rfl ?_
  show wpC _ (A.deeper env) (do point; match ← (execs body env).onRaise (leaving env) with | .ret v => ret v | _ => ret .none) _ _ s
  refine wpC_bindA (wpAny_point (wpC_bind (wpC_onRaise (wpC_mono h (fun f s' h' => ?_) fun _ _ h' => h'))))
  cases f <;> exact wpC_pure h'
theorem codeC_call_function {a : Addr} {args : Args} {o : Obj} {fd : FuncData} {body : List Stmt} (hroom : A.depth < recursionLimit)
    (ho : s.heap.get? a = some o)
    (hd' : o.data = .func fd) (hco : fd.scope.isCoroutine = false) (hgen : fd.scope.isGenerator = false) (hbody : fd.body = .stmts body) (hcd : s.heap.CodeRec fd.code fd.qualname)
    (h : wpAny (model prog w) A.in1 (bindArgs fd args) (fun binds s₁ =>
      wpAny (model prog w) A.in1 (newFunctionEnv fd.scope fd.globals fd.closure binds (fd.qualname ++ ".<locals>.") (some a) fd.code none fd.builtins)
        (fun env s₂ => s₂.heap.NoLimit ∧ codeC (model prog w) A (.func body env) R s₂) (fun e s' => R (.error e) s') s₁) (fun e s' => R (.error e) s') s) :
    codeC (model prog w) A (.call (.ref a) args) R s := by
  refine codeC_of_treeA rfl ?_
  show wpAny _ A.in1 (callAny (.ref a) args) _ _ s
  delta callAny; dsimp only
  refine wpAny_bind (wpAny_load ho ?_)
  (refine xEEEEAAA hcd fun c oc vs tq hc hoc hdc hq => ?_; clear hcd)
  rw [hd']
  delta callFunction
  dsimp only
  rw [hc]
  dsimp only
  rw [hco, hgen, hbody]
  rw [hc] at h
  refine wpAny_bind (m := field (.ref c) 1) (wpAny_field hoc hdc hq (wpAny_bind (wpAny_pure ?_)))
  exact wpAny_bind (wpAny_mono h (fun binds s₁ h₁ => wpAny_bind (wpAny_mono h₁ (fun env s₂ h₂ => wpAny_bind (wpAny_enterFrame h₂.1 hroom
    (wpAny_pure (And.intro rfl h₂.2)))) fun _ _ h' => h')) fun _ _ h' => h')
theorem codeC_call_def {a : Addr} {o : Obj} {fd : FuncData} {body : List Stmt} {args : Args} {binds : List (Str × Value)}
    (hroom : A.depth < recursionLimit) (ho : s.heap.get? a = some o) (hdata : o.data = .func fd) (hlim : s.heap.NoLimit) (hcd : s.heap.CodeRec fd.code fd.qualname)
    (hbody : fd.body = .stmts body) (hbind : BindsTo s fd args binds)
    (hcell : ∀ x ∈ fd.scope.names, x.2 ≠ .cell) (hloc : ∀ x ∈ binds, fd.scope.names.lookup x.1 = some .local)
    (h : ∀ h₀, h₀.Ns s.heap.objs.size (fun x => binds.reverse.lookup x) → (∀ b o, s.heap.get? b = some o → h₀.get? b = some o) →
      wpC (model prog w) (A.deeper (callEnv fd s.heap.objs.size a)) (execs body (callEnv fd s.heap.objs.size a)) (fun f s' => R (.ok (.ret (match f with | .ret v => v | _ => .none))) s')
        (fun e s' => wpAny (model prog w) (A.deeper (callEnv fd s.heap.objs.size a)) (leaving (callEnv fd s.heap.objs.size a) e) (fun _ s'' => R (.error e) s'') (fun e' s'' => R (.error e') s'') s')
        { s with heap := h₀, toks := s.toks + binds.length })
    (hco : fd.scope.isCoroutine = false) (hgen : fd.scope.isGenerator = false) (hk : fd.scope.kind = .function) :
    codeC (model prog w) A (.call (.ref a) args) R s := by
  refine codeC_call_function hroom ho hdata hco hgen hbody hcd (hbind _ _ _ _ ?_)
  refine wpAny_newFunctionEnv hcell hloc (fun h₀ hns₀ hsb₀ => ⟨hlim.fresh _ hsb₀, codeC_func (h h₀ hns₀ fun b o e => ?_)⟩) hk
  exact hsb₀.extBut b o (Nat.ne_of_lt (Heap.lt_size e)) (Heap.get?_push_of_some _ e)
end
section
variable {prog : Program} {w : World} {A₀ A : Around} {s : Shared} {base h₀ : Heap} {outer : List Env} {L : Addr} {m : Str → Option Value} {env : Env} {news : List (Addr × Obj)} {K : Frag} {p : Program} {loose : List Str} {mean : ExcName → Option Value} {mg mb : Str → Option Value}
  {R : Result → Shared → Prop} {name qual : Str} {params : Arguments} {body : List Stmt} {scope : Scope} {cl : List (Str × Addr)} {dV kV doc pm cdv ct oc : Value} {an od : Option Addr} {osl : Array (Option Value)} {fo : Obj} {f : Addr} {args : Args} {binds : List (Str × Value)}
theorem codeC_def (B : Below A₀ base outer h₀) (F : Fr h₀ L s.heap m) (X₀ : K.In h₀) (N : News h₀ L s.heap news) (T : Top p loose mean mg mb h₀) (hA : A.frames = some (env :: outer)) (hf : env.frame = some L) (hke : env.scope.kind = .function)
    (ho' : K.lookup f = some ⟨oc, od, .func (fnOf name qual params body scope dV kV doc pm an cdv ct), osl⟩) (hcd' : codeIn K cdv qual = true) (hroom : A.depth < recursionLimit)
    (hbind : BindsTo s (fnOf name qual params body scope dV kV doc pm an cdv ct) args binds) (hloc : ∀ y ∈ binds, scope.names.lookup y.1 = some .local)
    (h : ∀ g L' h₁, Fr h₀ L g m → Fr g L' h₁ (fun y => binds.reverse.lookup y) → News g L' h₁ news → Below A base (env :: outer) g → K.In g → Top p loose mean mg mb g →
      wpC (model prog w) (A.deeper (envOf qual scope L' f cdv)) (execs body (envOf qual scope L' f cdv))
        (fun fl s' => LeaveK h₀ L m g R (match fl with | .ret v => v | _ => .none) s')
        (fun e s' => wpAny (model prog w) (A.deeper (envOf qual scope L' f cdv)) (leaving (envOf qual scope L' f cdv) e) (fun _ s'' => R (.error e) s'') (fun e' s'' => R (.error e') s'') s')
        { s with heap := h₁, toks := s.toks + binds.length })
    (hco : scope.isCoroutine = false) (hgen : scope.isGenerator = false) (hk : scope.kind = .function)
    (hcell : ∀ x ∈ scope.names, x.2 ≠ .cell) : codeC (model prog w) A (.call (.ref f) args) R s := by
  have ho := (X₀.keeps F.keep) _ _ ho'
  have hcd := codeRec_of (X₀.keeps F.keep) hcd'
  have hlim := T.nolimit
  refine xAAA (groundX (R := R) B F N hA hf hke) fun FG BG st lv => ?_
  refine codeC_call_def (fd := fnX name qual params body scope [] dV kV doc pm an cdv ct) (body := body) (binds := binds) hroom ho rfl (hlim.keeps F.keep) hcd rfl hbind hcell hloc (fun h₁ hns hk₁ => ?_) hco hgen hk
  exact wpC_mono (h _ s.heap.objs.size h₁ FG ⟨hns, fun b o e => hk₁ b o (of_hideAll _ e), Nat.le_of_eq (hideAll_size _ _)⟩
    (fun p hp => ⟨hk₁ _ _ (N p hp).1, Nat.ne_of_lt (Heap.lt_size (N p hp).1), hideAll_none _ (List.mem_map_of_mem hp)⟩) BG (X₀.keeps st) (T.keeps st)) (fun fl s' hl => lv _ _ hl) fun _ _ y => y
end
section
variable {prog : Program} {w : World} {A : Around} {K : Frag} {C : Addr} {R : Result → Shared → Prop} {h : Heap} {g : Array GenState} {d : Drawn} {t : Nat} {os : OsState}
theorem codeC_call_builtin_at {s : Shared} {id : String} {args : Args} {b : Builtin} (hd : dang (.builtin id args) = false) (hq : (Code.builtin id args).quiet = true) (hb : entryFor table id = some b)
    (h : wpAny (model prog w) A.in1 (checkBuiltinCall id args) (fun _ s₁ => wpC (model prog w) (A.under (.builtin id args)) (b args)
      (fun fin s' => match fin with | .done f => R (.ok f) s' | .again c' => c'.quiet = true ∧ codeC (model prog w) A c' R s') (fun e s' => R (.error e) s') s₁)
      (fun e s' => R (.error e) s') s) : codeC (model prog w) A (.call (.builtin id) args) R s := by
  refine codeC_of_treeA rfl ?_
  show wpAny _ A.in1 (do checkBuiltinCall id args; again (.builtin id args)) _ _ s
  refine wpAny_bind (wpAny_mono h (fun _ s₁ h₁ => wpAny_pure (And.intro hq (codeC_builtin hd hb h₁))) fun _ _ h' => h')
theorem make_coreC {rest : List Value} {kw : List (Str × Value)} {init : Value} (Y : Makes (model prog w) h C) (hi : Looks (model prog w) h (typeLookup (.ref C) "__init__") (some init))
    (hb : ∀ self, Looks (model prog w) h (bindSpecial init self) (init, [self])) (hne : (some init != some (Value.builtin "object.__init__")) = true)
    (hq : codeC (model prog w) (A.under (.builtin "type.__call__" ⟨.ref C :: rest, kw⟩)) (.call init ⟨.ref (h.objs.size + 1) :: rest, kw⟩) (InitBack (h.objs.size + 1) R) ⟨(h.push emptyDict).push (instObj C h.objs.size), g, d, t, os⟩) :
    codeC (model prog w) A (.call (.ref C) ⟨rest, kw⟩) R ⟨h, g, d, t, os⟩ := by
  have Y' := Y
  obtain ⟨⟨oc, od, cd, sl, hC, e1, e2, e4⟩, made, base, self, top, call, typ⟩ := Y
  refine codeC_of_treeA rfl ?_
  show wpAny _ _ (callAny (.ref C) _) _ _ _
  refine nd_load hC ?_
  show wpAny _ _ (callAny.viaDunder (.ref C) _) _ _ _
  delta callAny.viaDunder
  refine wpAny_bind (call.at ?_)
  dsimp only
  rw [tc_bind]
  refine wpAny_bind (wpAny_pure (wpAny_bind (wpAny_pure ?_)))
  refine wpAny_pure (a := Fin.again (.call (.builtin "type.__call__") ⟨.ref C :: rest, kw⟩)) (And.intro rfl ?_)
  refine codeC_call_builtin_at (by show dangIds.contains "type.__call__" = false; decide +kernel) (Code.quiet_builtin _ (by decide +kernel)) entry_typeCall (check_slot tc_kind tc_split typ (tc_args _ _ _) ?_)
  unfold Builtin.«type.__call__»
  have hm : Looks (model prog w) h (mroOf (.ref C)) cd.mro := ((Looks.ld (part := none) hC).andThen .now).andThen .now
  show wpC _ _ (mroOf (.ref C) >>= _) _ _ _
  refine wpC_bindA (hm.here ?_)
  simp only [e4, Bool.false_eq_true, if_false]
  refine wpC_bindA (made.here ?_)
  dsimp only
  refine wpC_bindA (wpAny_pure ?_)
  refine wpC_bindA (wpAny_holding (wpAny_call (new_K Y' hi (.inl hne) ?_)))
  dsimp only
  have k : ∀ b o, h.get? b = some o → ((h.push emptyDict).push (instObj C h.objs.size)).get? b = some o := fun b o e => Heap.get?_push_of_some _ (Heap.get?_push_of_some _ e)
  have hx : ((h.push emptyDict).push (instObj C h.objs.size)).get? (h.objs.size + 1) = some (instObj C h.objs.size) := by heap_get
  have t1 : Looks (model prog w) ((h.push emptyDict).push (instObj C h.objs.size)) (typeOf (.ref (h.objs.size + 1))) (.ref C) := (Looks.ld hx).andThen .now
  have s1 := self.keeps k
  have i1 := hi.keeps k
  have b1 := (hb (.ref (h.objs.size + 1))).keeps k
  have ii : Looks (model prog w) ((h.push emptyDict).push (instObj C h.objs.size)) (isInstance (.ref (h.objs.size + 1)) (.ref C)) true := by unfold isInstance; exact t1.andThen s1
  refine wpC_bindA (ii.here ?_)
  simp only [Bool.not_true, Bool.false_eq_true, if_false]
  refine wpC_bind (wpC_holding ?_)
  simp only [callSpecial?]
  refine wpC_bindA ((t1.andThen i1).here ?_)
  dsimp only
  refine wpC_holding (wpC_bindA (b1.here (wpC_bind (wpC_call (codeC_mono hq fun r s' z => ?_)))))
  rcases r with e | (v | _ | _ | _) <;> first | exact z | exact z.elim | skip
  (revert z; intro zo; refine xA zo fun zr1 z => ?_; clear zo; subst zr1)
  exact wpC_pure (wpC_pure z)
end
section
variable {prog : Program} {w : World} {A : Around} {K : Frag} {C x : Addr} {s : Shared} {h₀ : Heap} {L : Addr} {m : Str → Option Value} {news : List (Addr × Obj)} {R : Result → Shared → Prop} {E : Value → Shared → Prop}
theorem callC_cls {Q : Value → Shared → Prop} {rest : List Value} {kw : List (Str × Value)} {fI : Addr} (F : Fr h₀ L s.heap m) (X₀ : K.In h₀) (N : News h₀ L s.heap news) (hm : makesIn K C = true)
    (hi : findIn K (.ref C) "__init__" = some (some (.ref fI))) (hf : isFn K (.ref fI) = true)
    (h : ∀ x dx h', Fr h₀ L h' m → News h₀ L h' ((x, instObj C dx) :: (dx, dictOf [] 0) :: news) → (∀ p ∈ news, p.1 < dx) → dx < x →
      codeC (model prog w) (A.under (.builtin "type.__call__" ⟨.ref C :: rest, kw⟩)) (.call (.ref fI) ⟨.ref x :: rest, kw⟩) (InitBack x fun r s' => match r with | .ok (.ret v) => Q v s' | .ok _ => False | .error e => E e s') { s with heap := h' }) :
    wpC (model prog w) A (call (.ref C) rest kw) Q E s := by
  have X := X₀.keeps F.keep
  refine wpC_call ?_
  obtain ⟨hh, g, d, t, os⟩ := s
  refine make_coreC (makes_of X hm) (looks_findIn X hi) (fun self => bind_fn X self (beq_iff_eq.mp hf)) rfl (h _ hh.objs.size _ ((F.push _).push _) ?_ (fun p hp => Heap.lt_size (N p hp).1) (Nat.lt_succ_self _))
  have := (N.push F emptyDict).push (F.push _) (instObj C hh.objs.size)
  rwa [Heap.size_push] at this
end
end Mine
end

-- D01
section
open PySem PySem.W PyProof.Rows PySem.Spec PySem.Calls
set_option linter.all false
set_option maxRecDepth 100000
set_option maxHeartbeats 4000000
set_option pp.maxSteps 4000
namespace Mine
/-! dicts whose keys are ints or tuples of a str and ints -/
inductive DK where
  | num (i : Int)
  | tup (x : Str) (l : List Int)
  deriving DecidableEq
noncomputable def DK.py : DK → PyData
  | .num i => .int i
  | .tup x l => .tuple (.str x :: l.map .int)
noncomputable def DK.wd : DK → WData
  | .num i => .int i
  | .tup x l => .tuple (.str x :: l.map .int)
noncomputable abbrev tupOf (vs : Array Value) : Obj := { cls := .type "tuple", data := .seq vs }
noncomputable def DK.At (h : Heap) : DK → Value → Prop
  | .num i, v => ∃ t, v = .int i t
  | .tup x l, v => ∃ a t us, v = .ref a ∧ h.get? a = some (tupOf (.str x t :: us).toArray) ∧ IntsAre us l ∧ PyData.strOk x = true
noncomputable abbrev khash (w : World) (k : DK) : Int := hashW w.params k.wd
theorem ints_inj : ∀ {us : List Value} {l l' : List Int}, IntsAre us l → IntsAre us l' → l = l'
  | [], _, _, h, h' => by cases h; cases h'; rfl
  | _ :: us, _, _, h, h' => by cases h with | cons i t r => cases h' with | cons _ _ r' => rw [ints_inj r r']
theorem DK.inj {h : Heap} {v : Value} {x y : DK} (p : x.At h v) (q : y.At h v) : x = y := by
  cases x with
  | num i =>
    (refine xE p fun _ e => ?_; clear p)
    cases y with
    | num j => (refine xE q fun _ e' => ?_; clear q); rw [e] at e'; cases e'; rfl
    | tup n l => (refine xEEEA q fun _ _ _ e' _ => ?_; clear q); rw [e] at e'; cases e'
  | tup n l =>
    (refine xEEEAAA p fun _ _ _ e g i _ => ?_; clear p)
    cases y with
    | num j => (refine xE q fun _ e' => ?_; clear q); rw [e] at e'; cases e'
    | tup n' l' =>
      (refine xEEEAAA q fun _ _ _ e' g' i' _ => ?_; clear q)
      rw [e] at e'; cases e'
      rw [g] at g'; cases g'
      rw [ints_inj i i']
theorem readsInts {h : Heap} {us : List Value} {l : List Int} (x : IntsAre us l) : ReadsAll h us (l.map .int) [] := by
  induction x with
  | nil => exact .nil
  | cons i t r ih => exact .cons (bs := []) (.int i t) ih
theorem DK.At.reads {h : Heap} {k : DK} {v : Value} (x : k.At h v) : Reads h v k.py [] := by
  cases k with
  | num i => (refine xE x fun t zr1 => ?_; clear x; subst zr1); exact .int _ _
  | tup n l => (refine xEEEAAA x fun a t us zr2 g i _ => ?_; clear x; subst zr2); exact .tuple g rfl rfl (.cons (bs := []) (.str _ t) (readsInts i))
theorem wellInts {P : Params} {h : Heap} {us : List Value} {l : List Int} (x : IntsAre us l) : WellAll P h us (l.map .int) := by
  induction x with
  | nil => exact .nil
  | cons i t r ih => exact .cons (.int i t) ih
theorem DK.At.well {P : Params} {h : Heap} : ∀ {k : DK} {v : Value}, k.At h v → Well P h v k.wd
  | .num _, _, ⟨t, rfl⟩ => .int _ t
  | .tup _ _, _, ⟨a, t, us, rfl, g, i, _⟩ => .tuple g (.cons (.str _ t) (wellInts i))
theorem canLayInts : ∀ l : List Int, PyData.canLayAll0 (l.map .int) = true
  | [] => rfl
  | _ :: l => by rw [List.map_cons]; simp [PyData.canLayAll0, PyData.canLay0, canLayInts l]
theorem DK.At.canLay {h : Heap} {v : Value} : ∀ {k : DK}, k.At h v → k.py.canLay0 = true
  | .num _, _ => rfl
  | .tup _ l, ⟨_, _, _, _, _, _, z⟩ => by simp [DK.py, PyData.canLay0, PyData.canLayAll0, canLayInts l, z]
theorem depthInts : ∀ l : List Int, PyData.depthAll (l.map .int) ≤ 1
  | [] => by simp [PyData.depthAll]
  | _ :: l => by rw [List.map_cons]; simp only [PyData.depthAll, PyData.depth]; have := depthInts l; omega
theorem DK.depth : ∀ k : DK, k.py.depth ≤ 2
  | .num _ => by simp [DK.py, PyData.depth]
  | .tup _ l => by simp only [DK.py, PyData.depth, PyData.depthAll]; have := depthInts l; omega
theorem depthIntsW : ∀ l : List Int, WData.depthAll (l.map .int) ≤ 1
  | [] => by simp [WData.depthAll]
  | _ :: l => by rw [List.map_cons]; simp only [WData.depthAll, WData.depth]; have := depthIntsW l; omega
theorem DK.depthW : ∀ k : DK, k.wd.depth ≤ 2
  | .num _ => by simp [DK.wd, WData.depth]
  | .tup _ l => by simp only [DK.wd, WData.depth, WData.depthAll]; have := depthIntsW l; omega
theorem keysInts : ∀ l : List Int, WData.areDKeys (l.map .int) = true
  | [] => rfl
  | _ :: l => by rw [List.map_cons]; simp [WData.areDKeys, WData.isDKey, keysInts l]
theorem DK.isKey : ∀ k : DK, k.wd.isDKey = true
  | .num _ => rfl
  | .tup _ l => by simp [DK.wd, WData.isDKey, WData.areDKeys, keysInts l]
theorem eqvInts : ∀ l l' : List Int, PyData.eqvAll (l.map .int) (l'.map .int) = decide (l = l')
  | [], [] => rfl
  | [], _ :: _ => by simp [PyData.eqvAll]
  | _ :: _, [] => by simp [PyData.eqvAll]
  | a :: l, b :: l' => by
    rw [List.map_cons, List.map_cons, PyData.eqvAll, eqvInts l l']
    simp only [PyData.eqv, List.cons.injEq, Bool.decide_and]
    first | rfl | (congr 1; simp [eq_comm]; done) | (by_cases h : a = b <;> simp [h])
theorem DK.eqv : ∀ x y : DK, PyData.eqv x.py y.py = decide (x = y)
  | .num a, .num b => by simp only [DK.py, PyData.eqv, DK.num.injEq]; by_cases h : a = b <;> simp [h]
  | .num _, .tup _ _ => by simp [DK.py, PyData.eqv]
  | .tup _ _, .num _ => by simp [DK.py, PyData.eqv]
  | .tup x l, .tup y l' => by
    simp only [DK.py, PyData.eqv, PyData.eqvAll, eqvInts, DK.tup.injEq, Bool.decide_and]
    by_cases h : x = y <;> simp [h]
section
variable {prog : Program} {w : World} {A : Around} {E : Value → Shared → Prop} {s : Shared}
theorem key_eq {x y : DK} {u v : Value} {Q : Bool → Shared → Prop} (hu : A.units + 2 < cLine) (hx : x.At s.heap u) (hy : y.At s.heap v) (h : Q (decide (x = y)) s) : wpAny (model prog w) A (eqBool u v) Q E s :=
  SeqAt.eqBoolOverData prog w A E s u v x.py y.py [] [] Q hx.reads hy.reads hx.canLay hy.canLay (by have := x.depth; have := y.depth; omega) (by rw [DK.eqv]; exact h)
theorem key_hash {x : DK} {u : Value} {Q : Int → Shared → Prop} (hu : A.units + 2 < cLine) (hx : x.At s.heap u) (h : ∀ tk, Q (khash w x) { s with toks := tk }) : wpAny (model prog w) A (pyHash u) Q E s :=
  pyHash_laid x.wd u A s Q x.isKey hx.well (by have := x.depthW; omega) h
theorem ints_byValue {us : List Value} {l : List Int} (x : IntsAre us l) : ∀ v ∈ us, carriedByValue v = true := by
  induction x with
  | nil => exact fun _ h => nomatch h
  | cons i t r ih =>
    intro v hv
    rcases List.mem_cons.mp hv with rfl | hv
    · rfl
    · exact ih v hv
theorem key_quiet {x : DK} {u : Value} {Q : Bool → Shared → Prop} (hx : x.At s.heap u) (h : Q true s) : wpAny (model prog w) A (eqIsQuiet 8 u) Q E s := by
  cases x with
  | num i =>
    (refine xE hx fun t zr3 => ?_; clear hx; subst zr3)
    rw [eqIsQuiet_byValue 8 rfl]
    exact wpAny_pure h
  | tup n l =>
    (refine xEEEAAA hx fun a t us zr4 g i _ => ?_; clear hx; subst zr4)
    have hT : s.TypeIs (.ref a) "tuple" := ⟨_, g, rfl⟩
    unfold eqIsQuiet
    refine wpAny_bind (wpAny_specialOf hT F.slot_tuple_eq.lookup ?_)
    show wpAny _ _ (isInstance (.ref a) (.type "tuple") >>= _) _ _ s
    refine wpAny_bind (wpAny_isInstance hT isSubtype_tuple_tuple ?_)
    simp only [Bool.not_true, Bool.false_eq_true, if_false]
    refine wpAny_bind (wpAny_seqItems g rfl ?_)
    refine wpAny_bind ?_
    show wpAny _ _ (forIn _ _ _) _ _ s
    rw [← Array.forIn_toList]
    refine wpAny_forIn_list _ (fun rest r s' => r.1 = none ∧ s' = s ∧ ∀ v ∈ rest, carriedByValue v = true) _ ?_ ?_ _ _ ⟨rfl, rfl, ?_⟩
    · rintro v rest r s' ⟨hr, rfl, hall⟩
      rw [eqIsQuiet_byValue _ (hall v List.mem_cons_self)]
      refine wpAny_bind (wpAny_pure ?_)
      simp only [Bool.not_true, Bool.false_eq_true, if_false]
      exact wpAny_pure ⟨rfl, rfl, fun u hu' => hall u (List.mem_cons_of_mem _ hu')⟩
    · rintro ⟨r1, r2⟩ s' ⟨hr, rfl, _⟩
      simp only at hr
      subst hr
      exact wpAny_pure h
    · intro v hv
      rcases List.mem_cons.mp hv with rfl | hv
      · rfl
      · exact ints_byValue i v hv
theorem table_quiet {k : DK} {key : Value} {stored : List Value} {Q : Bool → Shared → Prop} (hkey : k.At s.heap key) (hst : ∀ v ∈ stored, ∃ k' : DK, k'.At s.heap v) (h : Q false s) : wpAny (model prog w) A (tableMayTell key stored) Q E s := by
  unfold tableMayTell
  split
  · exact wpAny_pure h
  · refine wpAny_bind (key_quiet hkey ?_)
    simp only [Bool.not_true, Bool.false_eq_true, if_false]
    refine wpAny_bind ?_
    refine wpAny_forIn_list _ (fun rest r s' => s' = s ∧ r = (none, ()) ∧ ∀ v ∈ rest, ∃ k' : DK, k'.At s.heap v) _ ?_ ?_ _ _ ⟨rfl, rfl, hst⟩
    · rintro x rest r s' ⟨rfl, rfl, hr⟩
      refine xE (hr x List.mem_cons_self) fun k' hb => ?_
      refine wpAny_bind (key_quiet hb ?_)
      simp only [Bool.not_true, Bool.false_eq_true, if_false]
      exact wpAny_pure ⟨rfl, rfl, fun v hv => hr v (List.mem_cons_of_mem _ hv)⟩
    · rintro r s' ⟨rfl, rfl, _⟩
      exact wpAny_pure h
end
end Mine
end

-- D02
section
open PySem PySem.W PyProof.Rows PySem.Spec PySem.Calls
set_option linter.all false
set_option maxRecDepth 100000
set_option maxHeartbeats 4000000
set_option pp.maxSteps 4000
namespace Mine
noncomputable abbrev KX := DK × Value × Value
noncomputable def ent (w : World) (x : KX) : DictEntry := ⟨khash w x.1, x.2.1, x.2.2⟩
noncomputable abbrev kdict (w : World) (xs : List KX) (n : Nat) : Obj := dictOf (xs.map (ent w)) n
noncomputable def KeysAt (h : Heap) (xs : List KX) : Prop := ∀ x ∈ xs, x.1.At h x.2.1
noncomputable def KNd (xs : List KX) : Prop := (xs.map (·.1)).Nodup
noncomputable def kidx (xs : List KX) (k : DK) : Option Nat := xs.findIdx? (fun x => decide (x.1 = k))
noncomputable def kget (k : DK) : List KX → Option Value
  | [] => none
  | x :: r => if x.1 = k then some x.2.2 else kget k r
noncomputable def kput (k : DK) (key v : Value) : List KX → List KX
  | [] => [(k, key, v)]
  | x :: r => if x.1 = k then (x.1, x.2.1, v) :: r else x :: kput k key v r
noncomputable def kdel (k : DK) : List KX → List KX
  | [] => []
  | x :: r => if x.1 = k then r else x :: kdel k r
theorem kidx_cons (x : KX) (r : List KX) (k : DK) : kidx (x :: r) k = if x.1 = k then some 0 else (kidx r k).map (· + 1) := by
  unfold kidx
  rw [List.findIdx?_cons]
  by_cases h : x.1 = k <;> simp [h]
theorem kidx_none {k : DK} : ∀ {xs : List KX}, (∀ (i : Nat) (x : KX), xs[i]? = some x → x.1 ≠ k) → kidx xs k = none
  | [], _ => rfl
  | x :: r, h => by
    rw [kidx_cons, if_neg (h 0 x rfl), kidx_none (xs := r) fun i y e => h (i + 1) y (by simpa using e)]
    rfl
theorem kidx_some {k : DK} : ∀ {xs : List KX} {i : Nat} {x : KX}, KNd xs → xs[i]? = some x → x.1 = k → kidx xs k = some i
  | [], _, _, _, e, _ => by simp at e
  | y :: r, 0, x, _, e, hk => by
    simp only [List.getElem?_cons_zero, Option.some.injEq] at e
    subst e
    rw [kidx_cons, if_pos hk]
  | y :: r, i + 1, x, hn, e, hk => by
    simp only [List.getElem?_cons_succ] at e
    unfold KNd at hn
    rw [List.map_cons, List.nodup_cons] at hn
    have hne : ¬ y.1 = k := fun q => hn.1 (List.mem_map.mpr ⟨x, List.mem_of_getElem? e, hk.trans q.symm⟩)
    rw [kidx_cons, if_neg hne, kidx_some (xs := r) hn.2 e hk]
    rfl
theorem knd_unique {xs : List KX} (hn : KNd xs) {i j : Nat} {x y : KX} (hi : xs[i]? = some x) (hj : xs[j]? = some y) (e : x.1 = y.1) : i = j := by
  have a := kidx_some hn hi rfl
  have b := kidx_some hn hj rfl
  rw [e, b] at a
  exact (Option.some.inj a).symm
theorem kget_of_idx {k : DK} : ∀ {xs : List KX}, kget k xs = ((kidx xs k).bind fun i => xs[i]?).map (·.2.2)
  | [] => rfl
  | x :: r => by
    rw [kidx_cons, kget]
    by_cases h : x.1 = k
    · rw [if_pos h, if_pos h]; rfl
    · rw [if_neg h, if_neg h, kget_of_idx (xs := r)]
      cases kidx r k <;> simp
theorem kput_none {k : DK} {key v : Value} : ∀ {xs : List KX}, kidx xs k = none → kput k key v xs = xs ++ [(k, key, v)]
  | [], _ => rfl
  | x :: r, h => by
    rw [kidx_cons] at h
    by_cases hk : x.1 = k
    · rw [if_pos hk] at h; cases h
    · rw [if_neg hk] at h
      rw [kput, if_neg hk, kput_none (xs := r) (by cases q : kidx r k with | none => rfl | some _ => rw [q] at h; cases h)]
      rfl
theorem kput_some (w : World) {k : DK} {key v : Value} : ∀ {xs : List KX} {i : Nat}, kidx xs k = some i → (kput k key v xs).map (ent w) = (xs.map (ent w)).modify i fun e => { e with val := v }
  | [], _, h => by cases h
  | x :: r, i, h => by
    rw [kidx_cons] at h
    by_cases hk : x.1 = k
    · rw [if_pos hk] at h
      obtain rfl := Option.some.inj h
      rw [kput, if_pos hk]
      rfl
    · rw [if_neg hk] at h
      (refine xEA (Option.map_eq_some_iff.mp h) fun j hj zr1 => ?_; subst zr1)
      rw [kput, if_neg hk, List.map_cons, List.map_cons, kput_some w (xs := r) hj]
      rfl
theorem kdel_some {k : DK} : ∀ {xs : List KX} {i : Nat}, kidx xs k = some i → kdel k xs = xs.eraseIdx i
  | [], _, h => by cases h
  | x :: r, i, h => by
    rw [kidx_cons] at h
    by_cases hk : x.1 = k
    · rw [if_pos hk] at h
      obtain rfl := Option.some.inj h
      rw [kdel, if_pos hk]
      rfl
    · rw [if_neg hk] at h
      (refine xEA (Option.map_eq_some_iff.mp h) fun j hj zr2 => ?_; subst zr2)
      rw [kdel, if_neg hk, kdel_some (xs := r) hj]
      rfl
section
variable {prog : Program} {w : World} {A : Around} {E : Value → Shared → Prop} {s : Shared}
theorem ite_wpT {α : Type} {M : Model} {A : Around} {c : Prop} [Decidable c] {a b : Sem α} {Q : α → Shared → Prop} {E : Value → Shared → Prop} {s : Shared} (hc : c) (h : wpAny M A a Q E s) : wpAny M A (if c then a else b) Q E s := by rw [if_pos hc]; exact h
theorem ite_wpF {α : Type} {M : Model} {A : Around} {c : Prop} [Decidable c] {a b : Sem α} {Q : α → Shared → Prop} {E : Value → Shared → Prop} {s : Shared} (hc : ¬ c) (h : wpAny M A b Q E s) : wpAny M A (if c then a else b) Q E s := by rw [if_neg hc]; exact h
inductive FK (xs : List KX) (k : DK) (places : List Nat) (s : Shared) : List Nat → (Option (Option Nat) × Option Nat) → Shared → Prop
  | mk {rest : List Nat} (hit : Option Nat) (pre : List Nat) (hp : places = pre ++ rest) (hH : (hit = none ∧ ∀ i ∈ pre, ∀ x : KX, xs[i]? = some x → x.1 ≠ k) ∨ ∃ j x, hit = some j ∧ j ∈ pre ∧ xs[j]? = some x ∧ x.1 = k) : FK xs k places s rest (none, hit) s
theorem find_key {d : Addr} {o : Obj} {es ep} {xs : List KX} {k : DK} {key : Value} {Q : Option Nat → Shared → Prop} (hu : A.units + 2 < cLine) (hkey : k.At s.heap key)
    (ho : s.heap.get? d = some o) (hd : o.data = .dict es ep) (he : es.toList = xs.map (ent w)) (his : KeysAt s.heap xs) (hn : KNd xs) (h : Q (kidx xs k) s) :
    wpAny (model prog w) A (dictFind d key (khash w k)) Q E s := by
  have hat : ∀ i, es[i]? = (xs[i]?).map (ent w) := fun i => by rw [← Array.getElem?_toList, he, List.getElem?_map]
  have hsz : es.size = xs.length := by rw [← Array.length_toList, he, List.length_map]
  have hmem : ∀ i, i ∈ placesWithHash es.size (fun i => es[i]?.map (·.hash)) (khash w k) ↔ ∃ x, xs[i]? = some x ∧ khash w x.1 = khash w k := by
    intro i
    unfold placesWithHash
    rw [List.mem_filter, List.mem_range, hsz]
    dsimp only
    rw [hat]
    constructor
    · rintro ⟨h1, h2⟩
      rw [List.getElem?_eq_getElem h1] at h2 ⊢
      exact ⟨_, rfl, by simpa [ent] using h2⟩
    · rintro ⟨x, hx, hh⟩
      exact ⟨(List.getElem?_eq_some_iff.mp hx).1, by rw [hx]; simp [ent, hh]⟩
  have hnd : (placesWithHash es.size (fun i => es[i]?.map (·.hash)) (khash w k)).Nodup := List.Nodup.sublist List.filter_sublist List.nodup_range
  have hst : ∀ v ∈ (placesWithHash es.size (fun i => es[i]?.map (·.hash)) (khash w k)).filterMap (fun i => es[i]?.map (·.key)), ∃ k' : DK, k'.At s.heap v := by
    intro v hv
    refine xEA (List.mem_filterMap.mp hv) fun i _ hi => ?_
    rw [hat] at hi
    cases hx : xs[i]? with
    | none => rw [hx] at hi; cases hi
    | some x =>
      rw [hx] at hi
      obtain rfl : x.2.1 = v := by simpa [ent] using hi
      exact ⟨x.1, his x (List.mem_of_getElem? hx)⟩
  have hany : ∀ a, key = .ref a → ¬ (es.any fun e => e.key == key && e.hash != khash w k) = true := by
    intro a _
    rw [← Array.any_toList, List.any_eq_true, he]
    rintro ⟨e, hin, hc⟩
    (refine xEA (List.mem_map.mp hin) fun x hx zr3 => ?_; subst zr3)
    simp only [ent, Bool.and_eq_true, beq_iff_eq, bne_iff_ne, ne_eq] at hc
    (refine xA hc fun hxa hne => ?_; clear hc)
    have := his x hx
    rw [hxa] at this
    exact hne (by rw [DK.inj this hkey])
  generalize hpl : placesWithHash es.size (fun i => es[i]?.map (·.hash)) (khash w k) = places at hmem hnd hst
  have hnone : (∀ i ∈ places, ∀ x : KX, xs[i]? = some x → x.1 ≠ k) → kidx xs k = none := fun q => kidx_none fun i x hx e => q i ((hmem i).mpr ⟨x, hx, by rw [e]⟩) x hx e
  have walkA : wpAny (model prog w) A (dictWalkPlain d key (khash w k) es places) Q E s := by
    unfold dictWalkPlain
    refine wpAny_bind ?_
    refine wpAny_forIn_list _ (fun rest b s' => s' = s ∧ b = (none, ()) ∧ ∃ pre, places = pre ++ rest ∧ ∀ i ∈ pre, ∀ x : KX, xs[i]? = some x → x.1 ≠ k) _ ?_ ?_ _ _ ⟨rfl, rfl, [], rfl, fun _ h => nomatch h⟩
    · rintro i rest b s' ⟨rfl, rfl, pre, hp, hno⟩
      refine xEA ((hmem i).mp (by rw [hp]; simp)) fun x hx hh => ?_
      rw [hat i, hx]
      dsimp only [Option.map_some]
      rw [if_pos (by simp [ent, hh])]
      refine wpAny_bind (wpAny_dictEpoch ho hd (wpAny_bind (key_eq hu (his x (List.mem_of_getElem? hx)) hkey (wpAny_bind (wpAny_dictEpoch ho hd ?_)))))
      show wpAny _ _ (if (ep != ep) = true then _ else _) _ E _
      rw [if_neg (by simp)]
      by_cases hk : x.1 = k
      · rw [decide_eq_true hk]
        rw [kidx_some hn hx hk] at h
        exact wpAny_bind (wpAny_rule (wpAny_pure (wpAny_pure h)))
      · rw [decide_eq_false hk]
        refine wpAny_bind (wpAny_rule (wpAny_pure ⟨rfl, rfl, pre ++ [i], by simp [hp], fun j hj y hy => ?_⟩))
        rcases List.mem_append.mp hj with hj | hj
        · exact hno j hj y hy
        · obtain rfl := List.mem_singleton.mp hj
          rw [hx] at hy
          obtain rfl := Option.some.inj hy
          exact hk
    · rintro b s' ⟨rfl, rfl, pre, hp, hno⟩
      rw [List.append_nil] at hp
      subst hp
      rw [hnone hno] at h
      exact wpAny_pure h
  have hform : (∃ i t, key = .int i t) ∨ ∃ a, key = .ref a := by
    cases k with
    | num i => (refine xE hkey fun t zr4 => ?_; clear hkey; subst zr4); exact .inl ⟨i, t, rfl⟩
    | tup n l => (refine xEEEA hkey fun a _ _ zr5 _ => ?_; clear hkey; subst zr5); exact .inr ⟨a, rfl⟩
  unfold dictFind
  try with_reducible refine wpAny_holding ?_
  refine wpAny_bind (wpAny_dictEntries ho hd ?_)
  rw [hpl]
  extract_lets -underBinder +onlyGivenNames jp0
  have h0 : wpAny (model prog w) A (jp0 PUnit.unit) Q E s := by
    by_cases hall : ((key :: places.filterMap fun i => es[i]?.map (·.key)).all carriedByValue) = true
    · exact ite_wpT hall walkA
    · refine ite_wpF hall ?_
      extract_lets -underBinder +onlyGivenNames jp1
      have h1 : wpAny (model prog w) A (jp1 PUnit.unit) Q E s := by
        dsimp -zeta only [jp1]
        extract_lets -underBinder +onlyGivenNames jp2
        have h2 : wpAny (model prog w) A (jp2 false) Q E s := by
          show wpAny _ _ (forIn _ _ _ >>= _) _ _ _
          refine wpAny_bind ?_
          refine wpAny_forIn_list _ (FK xs k places s) _ ?_ ?_ _ _ (FK.mk none [] rfl (.inl ⟨rfl, fun _ h => nomatch h⟩))
          · rintro i rest b s' ⟨hit, pre, hp, hH⟩
            refine xEA ((hmem i).mp (by rw [hp]; simp)) fun x hx hh => ?_
            rw [hat i, hx]
            dsimp only [Option.map_some]
            rw [if_pos (by simp [ent, hh])]
            refine wpAny_bind (wpAny_dictEpoch ho hd (wpAny_bind (key_eq hu (his x (List.mem_of_getElem? hx)) hkey (wpAny_bind (wpAny_dictEpoch ho hd ?_)))))
            show wpAny _ _ (if (ep != ep) = true then _ else _) _ E _
            rw [if_neg (by simp)]
            by_cases hk : x.1 = k
            · rw [decide_eq_true hk]
              rcases hH with ⟨rfl, hno⟩ | ⟨j, y, rfl, hj, hy, hyk⟩
              · first | rw [if_pos rfl] | skip
                simp only [Option.isSome_none, Bool.false_eq_true, if_false]
                first | refine wpAny_bind (wpAny_pure ?_) | skip
                refine wpAny_bind (wpAny_rule ?_)
                rw [kidx_some hn hx hk] at h
                split
                · exact wpAny_pure (wpAny_pure h)
                · exact wpAny_pure (FK.mk (some i) (pre ++ [i]) (by simp [hp]) (.inr ⟨i, x, rfl, by simp, hx, hk⟩))
              · obtain rfl : j = i := knd_unique hn hy hx (hyk.trans hk.symm)
                rw [hp] at hnd
                exact absurd rfl ((List.nodup_append.mp hnd).2.2 j hj j (by simp))
            · rw [decide_eq_false hk]
              simp only [Bool.false_eq_true, if_false]
              have hstay : (hit = none ∧ ∀ i' ∈ pre ++ [i], ∀ x : KX, xs[i']? = some x → x.1 ≠ k) ∨ ∃ j x, hit = some j ∧ j ∈ pre ++ [i] ∧ xs[j]? = some x ∧ x.1 = k := by
                rcases hH with ⟨rfl, hno⟩ | ⟨j, y, rfl, hj, hy, hyk⟩
                · refine .inl ⟨rfl, fun j hj y hy => ?_⟩
                  rcases List.mem_append.mp hj with hj | hj
                  · exact hno j hj y hy
                  · obtain rfl := List.mem_singleton.mp hj
                    rw [hx] at hy
                    obtain rfl := Option.some.inj hy
                    exact hk
                · exact .inr ⟨j, y, rfl, List.mem_append_left _ hj, hy, hyk⟩
              refine wpAny_bind (wpAny_rule ?_)
              first
                | exact wpAny_pure (FK.mk hit (pre ++ [i]) (by simp [hp]) hstay)
                | exact wpAny_bind (wpAny_pure (wpAny_pure (FK.mk hit (pre ++ [i]) (by simp [hp]) hstay)))
          · rintro b s' ⟨hit, pre, hp, hH⟩
            rw [List.append_nil] at hp
            subst hp
            rcases hH with ⟨rfl, hno⟩ | ⟨j, y, rfl, hj, hy, hyk⟩
            · rw [hnone hno] at h
              exact wpAny_pure h
            · rw [kidx_some hn hy hyk] at h
              exact wpAny_pure h
        by_cases hone : ((places.filterMap fun i => es[i]?.map (·.key)) == [key]) = true
        · exact ite_wpT hone (wpAny_bind (wpAny_pure h2))
        · exact ite_wpF hone (wpAny_bind (table_quiet hkey hst h2))
      rcases hform with ⟨i₀, t₀, rfl⟩ | ⟨a₀, rfl⟩
      · exact h1
      · exact ite_wpF (hany a₀ rfl) h1
  rcases hform with ⟨i₀, t₀, rfl⟩ | ⟨a₀, rfl⟩ <;> exact h0
end
end Mine
end

-- D03
section
open PySem PySem.W PyProof.Rows PySem.Spec PySem.Calls
set_option linter.all false
set_option maxRecDepth 100000
set_option maxHeartbeats 4000000
set_option pp.maxSteps 4000
namespace Mine
theorem kput_length_le {k : DK} {key v : Value} : ∀ xs : List KX, (kput k key v xs).length ≤ xs.length + 1
  | [] => Nat.le_refl _
  | x :: r => by
    rw [kput]
    split
    · simp
    · simp only [List.length_cons]; have := kput_length_le (k := k) (key := key) (v := v) r; omega
theorem eraseIdx_mapK {α β : Type} (f : α → β) : ∀ (l : List α) (i : Nat), (l.map f).eraseIdx i = (l.eraseIdx i).map f
  | [], _ => rfl
  | _ :: _, 0 => rfl
  | x :: l, i + 1 => by rw [List.map_cons, List.eraseIdx_cons_succ, List.eraseIdx_cons_succ, List.map_cons, eraseIdx_mapK f l i]
section
variable {prog : Program} {w : World} {A : Around} {E : Value → Shared → Prop} {s : Shared} {d : Addr} {xs : List KX} {n : Nat} {k : DK} {key v : Value}
theorem dget_key {Q : Option Value → Shared → Prop} (hu : A.units + 2 < cLine) (hkey : k.At s.heap key) (ho : s.heap.get? d = some (kdict w xs n)) (his : KeysAt s.heap xs) (hn : KNd xs) (h : ∀ tk, Q (kget k xs) { s with toks := tk }) :
    wpAny (model prog w) A (dictGet d key) Q E s := by
  unfold dictGet
  try with_reducible refine wpAny_holding ?_
  refine wpAny_bind (key_hash hu hkey fun tk => wpAny_bind (find_key (s := { s with toks := tk }) hu hkey ho rfl rfl his hn ?_))
  have h' := h tk
  rw [kget_of_idx] at h'
  cases hi : kidx xs k with
  | none => rw [hi] at h'; exact wpAny_pure h'
  | some i =>
    rw [hi] at h'
    refine wpAny_bind (wpAny_dictEntries (s := { s with toks := tk }) ho rfl (wpAny_pure ?_))
    have e : ((xs.map (ent w)).toArray[i]?).map (·.val) = (xs[i]?).map (·.2.2) := by
      rw [List.getElem?_toArray, List.getElem?_map]; cases xs[i]? <;> rfl
    rw [e]
    exact h'
theorem dset_key {Q : Unit → Shared → Prop} (hu : A.units + 2 < cLine) (hkey : k.At s.heap key) (ho : s.heap.get? d = some (kdict w xs n)) (his : KeysAt s.heap xs) (hn : KNd xs) (hz : xs.length ≤ 10000)
    (h : ∀ h' tk n', Heap.SameBut d s.heap h' → h'.get? d = some (kdict w (kput k key v xs) n') → Q () { s with heap := h', toks := tk }) :
    wpAny (model prog w) A (dictSet d key v) Q E s := by
  have hz' : xs.length ≤ sizeLine := by rw [sizeLine_eq]; omega
  unfold dictSet
  try with_reducible refine wpAny_holding ?_
  refine wpAny_bind (key_hash hu hkey fun tk => ?_)
  unfold dictSetHashed
  try with_reducible refine wpAny_holding ?_
  refine wpAny_bind (find_key (s := { s with toks := tk }) hu hkey ho rfl rfl his hn ?_)
  cases hi : kidx xs k with
  | none =>
    refine wpAny_bind (wpAny_rule (wpAny_updateDictKeys (hz := by simpa using hz') (s := { s with toks := tk }) ho rfl (h _ tk (n + 1) (Heap.SameBut.update ..) ?_)))
    have q := Heap.get?_update_self (Obj.mapDictKeys (·.push ⟨khash w k, key, v⟩)) ho rfl
    rw [q, kput_none hi]
    delta Obj.mapDictKeys kdict
    dsimp only
    simp [ent]
  | some i =>
    refine wpAny_bind (wpAny_rule (wpAny_bind (wpAny_updateDict (s := { s with toks := tk }) ho rfl (wpAny_point (h _ tk n (Heap.SameBut.update ..) ?_)))))
    have q := Heap.get?_update_self (Obj.mapDict (·.modify i fun e => { e with val := v })) ho rfl
    rw [q]
    unfold kdict
    rw [kput_some w hi]
    delta Obj.mapDict
    dsimp only
    simp
theorem dout_key {Q : Option DictEntry → Shared → Prop} (hu : A.units + 2 < cLine) (hkey : k.At s.heap key) (ho : s.heap.get? d = some (kdict w xs n)) (his : KeysAt s.heap xs) (hn : KNd xs) (hz : xs.length ≤ 10000) (hv : kget k xs = some v)
    (h : ∀ h' tk n' e, e.val = v → Heap.SameBut d s.heap h' → h'.get? d = some (kdict w (kdel k xs) n') → Q (some e) { s with heap := h', toks := tk }) :
    wpAny (model prog w) A (Builtin.Dict.takeOut d key) Q E s := by
  have hz' : xs.length ≤ sizeLine := by rw [sizeLine_eq]; omega
  unfold Builtin.Dict.takeOut
  try with_reducible refine wpAny_holding ?_
  refine wpAny_bind (key_hash hu hkey fun tk => wpAny_bind (find_key (s := { s with toks := tk }) hu hkey ho rfl rfl his hn ?_))
  rw [kget_of_idx] at hv
  cases hi : kidx xs k with
  | none => rw [hi] at hv; cases hv
  | some i =>
    rw [hi] at hv
    dsimp only
    refine wpAny_bind (wpAny_dictEntries (s := { s with toks := tk }) ho rfl ?_)
    cases hx : xs[i]? with
    | none => simp [hx] at hv
    | some x =>
      have e : (xs.map (ent w)).toArray[i]? = some (ent w x) := by rw [List.getElem?_toArray, List.getElem?_map, hx]; rfl
      rw [e]
      have hxv : x.2.2 = v := by simpa [hx] using hv
      dsimp only
      refine wpAny_bind (wpAny_updateDictKeys (hz := by simpa using hz') (s := { s with toks := tk }) ho rfl (wpAny_pure (h _ tk (n + 1) (ent w x) hxv (Heap.SameBut.update ..) ?_)) (by
        have : (((xs.map (ent w)).toArray).eraseIdxIfInBounds i).size ≤ ((xs.map (ent w)).toArray).size := by
          unfold Array.eraseIdxIfInBounds; split
          · rw [Array.size_eraseIdx]; omega
          · exact Nat.le_refl _
        omega))
      have q := Heap.get?_update_self (Obj.mapDictKeys (·.eraseIdxIfInBounds i)) ho rfl
      rw [q, kdel_some hi]
      have hlt : i < xs.length := (List.getElem?_eq_some_iff.mp hx).1
      delta Obj.mapDictKeys
      dsimp only
      unfold kdict
      have e2 : ((xs.map (ent w)).toArray).eraseIdxIfInBounds i = ((xs.eraseIdx i).map (ent w)).toArray := by
        unfold Array.eraseIdxIfInBounds
        rw [dif_pos (by simpa using hlt)]
        apply Array.toList_inj.mp
        rw [Array.toList_eraseIdx]
        rw [List.toList_toArray, List.toList_toArray, eraseIdx_mapK]
      rw [e2]
theorem typeIs_kdict (ho : s.heap.get? d = some (kdict w xs n)) : s.TypeIs (.ref d) "dict" := ⟨_, ho, rfl⟩
theorem getItem_key {Q : Value → Shared → Prop} (hu : A.units + 3 < cLine) (hkey : k.At s.heap key) (ho : s.heap.get? d = some (kdict w xs n)) (his : KeysAt s.heap xs) (hn : KNd xs) (hv : kget k xs = some v) (h : ∀ tk, Q v { s with toks := tk }) :
    wpAny (model prog w) A (getItem (.ref d) key) Q E s := by
  have hT := typeIs_kdict ho
  unfold getItem
  try with_reducible refine wpAny_holding ?_
  refine wpAny_bind (wpAny_sequenceKey hT (by decide) ?_)
  refine wpAny_bind (wpAny_callSpecial?_slot (name := Str.ofString "__getitem__") hT slot_dict_getitem
    (wpAny_call_entry slot_dict_getitem hT entry_dict_getitem ?_ (args_dict_getitem _ _)))
  show wpAny _ _ (dictGet d key >>= _) _ _ s
  refine wpAny_bind (dget_key (by rw [Around.in1_units]; omega) hkey ho his hn fun tk => ?_)
  rw [hv]
  exact wpAny_pure ⟨v, rfl, wpAny_pure (h tk)⟩
theorem contains_key {Q : Bool → Shared → Prop} (hu : A.units + 3 < cLine) (hkey : k.At s.heap key) (hd : (d == sysModules) = false) (ho : s.heap.get? d = some (kdict w xs n)) (his : KeysAt s.heap xs) (hn : KNd xs) (h : ∀ tk, Q (kget k xs).isSome { s with toks := tk }) :
    wpAny (model prog w) A (contains (.ref d) key) Q E s := by
  have hT := typeIs_kdict ho
  unfold contains
  try with_reducible refine wpAny_holding ?_
  refine wpAny_bind (wpAny_specialOf hT slot_dict_contains.lookup ?_)
  show wpAny _ _ (if (some (Value.builtin "dict.__contains__") == some Value.none) = true then _ else _) _ E s
  rw [if_neg (by rw [beq_builtin_none]; exact Bool.false_ne_true)]
  refine wpAny_bind (wpAny_callSpecialUnlessNone?_slot (name := Str.ofString "__contains__") hT slot_dict_contains
    (wpAny_call_entry slot_dict_contains hT entry_dict_contains ?_ (args_dict_contains _ _)))
  show wpAny _ _ (dictGet d key >>= _) _ _ s
  refine wpAny_bind (dget_key (by rw [Around.in1_units]; omega) hkey ho his hn fun tk => ?_)
  have h := h tk
  cases hf : kget k xs with
  | some v =>
    rw [hf] at h
    show wpAny _ _ (ret (.bool true)) _ _ _
    exact wpAny_pure ⟨_, rfl, wpAny_truthy_bool h⟩
  | none =>
    rw [hf] at h
    show wpAny _ _ (Builtin.Dict.pendingKey? d key >>= _) _ _ _
    exact wpAny_bind (wpAny_pendingKey_other hd (wpAny_pure ⟨_, rfl, wpAny_truthy_bool h⟩))
theorem in_key {Q : Value → Shared → Prop} (hu : A.units + 3 < cLine) (hkey : k.At s.heap key) (hd : (d == sysModules) = false) (ho : s.heap.get? d = some (kdict w xs n)) (his : KeysAt s.heap xs) (hn : KNd xs) (h : ∀ tk, Q (.bool (kget k xs).isSome) { s with toks := tk }) :
    wpAny (model prog w) A (compareOp .In key (.ref d)) Q E s := by
  show wpAny _ _ (do return .bool (← contains (.ref d) key)) Q E s
  exact wpAny_bind (contains_key hu hkey hd ho his hn fun tk => wpAny_pure (h tk))
theorem notin_key {Q : Value → Shared → Prop} (hu : A.units + 3 < cLine) (hkey : k.At s.heap key) (hd : (d == sysModules) = false) (ho : s.heap.get? d = some (kdict w xs n)) (his : KeysAt s.heap xs) (hn : KNd xs) (h : ∀ tk, Q (.bool (!(kget k xs).isSome)) { s with toks := tk }) :
    wpAny (model prog w) A (compareOp .NotIn key (.ref d)) Q E s := by
  show wpAny _ _ (do return .bool (!(← contains (.ref d) key))) Q E s
  exact wpAny_bind (contains_key hu hkey hd ho his hn fun tk => wpAny_pure (h tk))
theorem setItem_key {Q : Unit → Shared → Prop} (hu : A.units + 3 < cLine) (hkey : k.At s.heap key) (ho : s.heap.get? d = some (kdict w xs n)) (his : KeysAt s.heap xs) (hn : KNd xs) (hz : xs.length ≤ 10000)
    (h : ∀ h' tk n', Heap.SameBut d s.heap h' → h'.get? d = some (kdict w (kput k key v xs) n') → Q () { s with heap := h', toks := tk }) :
    wpAny (model prog w) A (setItem (.ref d) key v) Q E s := by
  have hT := typeIs_kdict ho
  unfold setItem
  try with_reducible refine wpAny_holding ?_
  refine wpAny_bind (wpAny_sequenceKey hT (by decide) ?_)
  refine wpAny_bind (wpAny_callSpecial?_slot (name := Str.ofString "__setitem__") hT slot_dict_setitem
    (wpAny_call_entry slot_dict_setitem hT entry_dict_setitem ?_ (args_dict_setitem _ _ _)))
  show wpAny _ _ (Builtin.Dict.notOrdered "__setitem__" ⟨[.ref d, key, v], []⟩ >>= _) _ _ s
  refine wpAny_bind (wpAny_notOrdered_dict hT ?_)
  show wpAny _ _ (dictSet d key v >>= _) _ _ s
  exact wpAny_bind (dset_key (by rw [Around.in1_units]; omega) hkey ho his hn hz fun h' tk n' hs hg => wpAny_pure ⟨.none, rfl, wpAny_pure (h h' tk n' hs hg)⟩)
theorem pop_key {Q : Value → Shared → Prop} (hu : A.units + 3 < cLine) (hkey : k.At s.heap key) (ho : s.heap.get? d = some (kdict w xs n)) (his : KeysAt s.heap xs) (hn : KNd xs) (hz : xs.length ≤ 10000) (hv : kget k xs = some v)
    (h : ∀ h' tk n', Heap.SameBut d s.heap h' → h'.get? d = some (kdict w (kdel k xs) n') → Q v { s with heap := h', toks := tk }) :
    wpAny (model prog w) A (call (.builtin "dict.pop") [.ref d, key]) Q E s := by
  have hT := typeIs_kdict ho
  refine wpAny_call_entry F.slot_dict_pop hT F.entry_dict_pop ?_ (F.args_dict_pop_2 _ _)
  unfold Builtin.«dict.pop»
  refine wpAny_bind ?_
  unfold Builtin.Dict.keyAndDefault
  refine wpAny_bind (wpAny_notOrdered_dict hT ?_)
  show wpAny _ _ (pure (d, key, none)) _ _ s
  refine wpAny_pure ?_
  have tail : ∀ {P : Fin → Shared → Prop}, (∀ h' tk n', Heap.SameBut d s.heap h' → h'.get? d = some (kdict w (kdel k xs) n') → P (.done (.ret v)) { s with heap := h', toks := tk }) →
      wpAny (model prog w) A.in1 (Builtin.Dict.takeOut d key >>= fun old => (do
        if old.isNone then Builtin.Dict.missedRemoval d key
        match old, (none : Option Value) with
        | some e, _ => letGo [e.key] [e.val]; ret e.val
        | none, some x => rule "dict.pop.default"; ret x
        | none, none => rule "dict.pop.keyerror"; raiseNew (← newExc (.type "KeyError") [key]))) P E s := by
    intro P hP
    refine wpAny_bind (dout_key (by rw [Around.in1_units]; omega) hkey ho his hn hz hv fun h' tk n' e he hs hg => ?_)
    simp only [Option.isNone_some, Bool.false_eq_true, if_false]
    subst he
    exact wpAny_bind (wpAny_letGo (wpAny_pure (hP h' tk n' hs hg)))
  have hne : (xs.map (ent w)).toArray.isEmpty = false := by
    cases xs with
    | nil => cases hv
    | cons _ _ => simp
  by_cases hp : (keyPart key).isSome = true
  · simp only [hp, if_true]
    refine wpAny_bind (wpAny_pure ?_)
    simp only [Bool.false_eq_true, if_false]
    exact tail fun h' tk n' hs hg => ⟨v, rfl, h h' tk n' hs hg⟩
  · simp only [hp, Bool.false_eq_true, if_false]
    refine wpAny_bind (wpAny_dictEntries ho rfl ?_)
    refine wpAny_bind (wpAny_pure ?_)
    rw [hne]
    simp only [Bool.false_eq_true, if_false]
    exact tail fun h' tk n' hs hg => ⟨v, rfl, h h' tk n' hs hg⟩
theorem len_key {Q : Value → Shared → Prop} (hd : (d == sysModules) = false) (ho : s.heap.get? d = some (kdict w xs n)) (hz : xs.length ≤ 10000) (h : ∀ t tk, Q (.int xs.length t) { s with toks := tk }) :
    wpAny (model prog w) A (call (.builtin "len") [.ref d]) Q E s := by
  have hT := typeIs_kdict ho
  refine Calls.call_function_entry kind_len plain_len entry_len (args_len1 _) ?_
  unfold Builtin.«len»
  refine wpAny_bind (m := oneArg "len" _) (wpAny_pure ?_)
  refine wpAny_bind (m := callSpecial? (.ref d) (Str.ofString "__len__")) (wpAny_callSpecial?_slot (name := Str.ofString "__len__") hT F.slot_dict_len
    (wpAny_call_entry F.slot_dict_len hT F.entry_dict_len ?_ (F.args_dict_len_1 _)))
  show wpAny _ _ (dictSize d >>= _) _ _ s
  unfold dictSize
  refine wpAny_bind (wpAny_bind (wpAny_dictEntries ho rfl (wpAny_pure ?_)))
  show wpAny _ _ (Builtin.Dict.pendingCount d >>= _) _ _ s
  refine wpAny_bind (wpAny_pendingCount_other hd ?_)
  have hsz : (xs.map (ent w)).toArray.size = xs.length := by simp
  rw [hsz]
  refine wpAny_ret_mkInt ?_
  rw [show ((xs.length : Nat) : Int) + ((0 : Nat) : Int) = ((xs.length : Nat) : Int) by omega]
  refine wpAny_bind (wpAny_holding (wpAny_pure ?_))
  refine wpAny_bind (wpAny_letGo ?_)
  show wpAny _ _ (if ((xs.length : Nat) : Int) < 0 then _ else _) _ _ _
  rw [if_neg (by omega)]
  show wpAny _ _ (if ((xs.length : Nat) : Int) ≥ 2 ^ 63 then _ else _) _ _ _
  rw [if_neg (by omega)]
  exact wpAny_bind (wpAny_mkInt (wpAny_pure ⟨_, rfl, h _ _⟩))
end
end Mine
end

-- D04
section
open PySem PySem.W PyProof.Rows PySem.Spec PySem.Calls
set_option linter.all false
set_option maxRecDepth 100000
set_option maxHeartbeats 4000000
set_option pp.maxSteps 4000
namespace Mine
section
variable {prog : Program} {w : World} {A : Around} {E : Value → Shared → Prop} {s : Shared} {d it : Addr} {xs : List KX} {n i : Nat}
noncomputable abbrev keyIter (d : Addr) (i m n : Nat) : Obj := { cls := .type "dict_keyiterator", data := .fields #[.ref d, .int i 0, .int m 0, .int n 0] }
theorem iter_kdict {Q : Value → Shared → Prop} (hd : (d == sysModules) = false) (ho : s.heap.get? d = some (kdict w xs n)) (hQ : Q (.ref s.heap.objs.size) { s with heap := s.heap.push (keyIter d 0 xs.length n) }) :
    wpAny (model prog w) A (pyIter (.ref d)) Q E s := by
  have hT := typeIs_kdict ho
  refine wpAny_pyIter_slot hT F.slot_dict_iter (wpAny_call_entry F.slot_dict_iter hT F.entry_dict_iter ?_ (F.args_dict_iter_1 _))
  unfold Builtin.«dict.__iter__»
  refine wpAny_bind ?_
  unfold Builtin.Dict.dictSlotNone
  refine wpAny_bind (wpAny_notOrdered_dict hT ?_)
  show wpAny _ _ (pure (Value.ref d)) _ _ s
  refine wpAny_pure ?_
  show wpAny _ _ (Builtin.Dict.showsAll d >>= _) _ _ s
  unfold Builtin.Dict.showsAll
  rw [if_neg (by rw [hd]; exact Bool.false_ne_true)]
  refine wpAny_bind (wpAny_pure ?_)
  refine wpAny_bind (wpAny_dictEntries ho rfl ?_)
  refine wpAny_bind (wpAny_dictEpoch ho rfl ?_)
  have hsz : (xs.map (ent w)).toArray.size = xs.length := by simp
  refine wpAny_bind (wpAny_newObj_type (wpAny_pure ⟨_, rfl, "dict_keyiterator", _, ⟨_, Heap.get?_push_size _ rfl, rfl⟩, F.slot_dict_keyiterator_next.lookup, ?_⟩))
  simpa [rawInt, hsz, keyIter] using hQ
theorem next_kdict {Q : Option Value → Shared → Prop} {x : KX} (hit : s.heap.IsKeyIter it d i xs.length n) (hod : s.heap.get? d = some (kdict w xs n)) (hx : xs[i]? = some x)
    (hQ : ∀ h', h'.IsKeyIter it d (i + 1) xs.length n → Heap.SameBut it s.heap h' → Q (some x.2.1) { s with heap := h' }) : wpAny (model prog w) A (pyNext (.ref it)) Q E s := by
  refine xEAA (id hit) fun o ho hc hd => ?_
  unfold pyNext
  refine wpAny_bind (wpAny_attempt (wpAny_callSpecial?_slot (name := Str.ofString "__next__") hit.typeIs F.slot_dict_keyiterator_next
    (wpAny_call_entry F.slot_dict_keyiterator_next hit.typeIs F.entry_dict_keyiterator_next ?_ (F.args_dict_keyiterator_next_1 _))))
  refine wpAny_bind (wpAny_pure ?_)
  refine wpAny_bind ?_
  refine wpAny_bind ?_
  first | refine wpAny_bind (wpAny_typeNameOfWhole_keyiter hit.typeIs (wpAny_pure ?_)) | refine wpAny_bind (wpAny_typeNameOf_keyiter hit.typeIs (wpAny_pure ?_))
  refine wpAny_bind (wpAny_fieldsOf ho hd ?_)
  have hown : Builtin.Dict_items.ownsTuple "dict_keyiterator" = false := by decide
  rw [if_neg (show ¬ (Builtin.Dict_items.ownsTuple "dict_keyiterator" = true) from fun e => Bool.false_ne_true (hown.symm.trans e))]
  show wpAny _ _ (if (Value.ref d == Value.none) = true then _ else _) _ _ s
  rw [if_neg (show ¬ ((Value.ref d == Value.none) = true) from Bool.false_ne_true)]
  refine wpAny_bind (wpAny_pure ?_)
  refine wpAny_bind (wpAny_dictEntries hod rfl ?_)
  have hsz : (xs.map (ent w)).toArray.size = xs.length := by simp
  rw [if_neg (by rw [hsz]; simp)]
  refine wpAny_bind (wpAny_pure ?_)
  refine wpAny_bind (wpAny_dictEpoch hod rfl ?_)
  rw [if_neg (by simp)]
  refine wpAny_pure ?_
  have he : (xs.map (ent w)).toArray[i]? = some (ent w x) := by rw [List.getElem?_toArray, List.getElem?_map, hx]; rfl
  dsimp only
  generalize hz : (if (i : Int) < 0 then none else (xs.map (ent w)).toArray[(i : Int).toNat]?) = z
  obtain rfl : z = some (ent w x) := hz.symm.trans ((if_neg (show ¬ ((i : Int) < 0) from by omega)).trans he)
  refine wpAny_bind ?_
  first | refine wpAny_bind (wpAny_typeNameOfWhole_keyiter hit.typeIs (wpAny_pure ?_)) | refine wpAny_bind (wpAny_typeNameOf_keyiter hit.typeIs (wpAny_pure ?_))
  refine wpAny_bind (wpAny_isOneOf_keyiter hit.typeIs ?_)
  show wpAny _ _ (setField (.ref it) 1 (rawInt ((i : Int) + 1)) >>= _) _ _ s
  refine wpAny_bind (wpAny_setField ho hd (by simp) ?_)
  have hit' : (s.heap.update it (Obj.mapFields (·.setIfInBounds 1 (rawInt ((i : Int) + 1))))).IsKeyIter it d (i + 1) xs.length n :=
    ⟨_, Heap.get?_update_self _ ho (Obj.isFreed_of_fields (Obj.data_mapFields hd _)), (Obj.cls_mapFields ..).trans hc, by rw [Obj.data_mapFields hd]; simp [rawInt]⟩
  refine wpAny_bind (wpAny_holding ?_)
  refine wpAny_bind (wpAny_isOneOf_keyiter (s := { s with heap := s.heap.update it (Obj.mapFields (·.setIfInBounds 1 (rawInt ((i : Int) + 1)))) }) hit'.typeIs ?_)
  show wpAny _ _ (pure x.2.1) _ _ _
  exact wpAny_pure (wpAny_pure ⟨_, rfl, wpAny_pure (hQ _ hit' (Heap.SameBut.update ..))⟩)
theorem end_kdict {Q : Option Value → Shared → Prop} (hh : A.handled = none) (hit : s.heap.IsKeyIter it d i xs.length n) (hod : s.heap.get? d = some (kdict w xs n)) (hx : xs[i]? = none)
    (hQ : ∀ h', Heap.ExtBut it s.heap h' → Q none { s with heap := h' }) : wpAny (model prog w) A (pyNext (.ref it)) Q E s := by
  refine xEAA (id hit) fun o ho hc hd => ?_
  unfold pyNext
  refine wpAny_bind (wpAny_attempt (wpAny_callSpecial?_slot (name := Str.ofString "__next__") hit.typeIs F.slot_dict_keyiterator_next
    (wpAny_call_entry F.slot_dict_keyiterator_next hit.typeIs F.entry_dict_keyiterator_next ?_ (F.args_dict_keyiterator_next_1 _))))
  refine wpAny_bind (wpAny_pure ?_)
  refine wpAny_bind ?_
  refine wpAny_bind ?_
  first | refine wpAny_bind (wpAny_typeNameOfWhole_keyiter hit.typeIs (wpAny_pure ?_)) | refine wpAny_bind (wpAny_typeNameOf_keyiter hit.typeIs (wpAny_pure ?_))
  refine wpAny_bind (wpAny_fieldsOf ho hd ?_)
  have hown : Builtin.Dict_items.ownsTuple "dict_keyiterator" = false := by decide
  rw [if_neg (show ¬ (Builtin.Dict_items.ownsTuple "dict_keyiterator" = true) from fun e => Bool.false_ne_true (hown.symm.trans e))]
  show wpAny _ _ (if (Value.ref d == Value.none) = true then _ else _) _ _ s
  rw [if_neg (show ¬ ((Value.ref d == Value.none) = true) from Bool.false_ne_true)]
  refine wpAny_bind (wpAny_pure ?_)
  refine wpAny_bind (wpAny_dictEntries hod rfl ?_)
  have hsz : (xs.map (ent w)).toArray.size = xs.length := by simp
  rw [if_neg (by rw [hsz]; simp)]
  refine wpAny_bind (wpAny_pure ?_)
  refine wpAny_bind (wpAny_dictEpoch hod rfl ?_)
  rw [if_neg (by simp)]
  refine wpAny_pure ?_
  have he : (xs.map (ent w)).toArray[i]? = none := by rw [List.getElem?_toArray, List.getElem?_map, hx]; rfl
  dsimp only
  generalize hz : (if (i : Int) < 0 then none else (xs.map (ent w)).toArray[(i : Int).toNat]?) = z
  obtain rfl : z = none := hz.symm.trans ((if_neg (show ¬ ((i : Int) < 0) from by omega)).trans he)
  refine wpAny_bind ?_
  first | refine wpAny_bind (wpAny_typeNameOfWhole_keyiter hit.typeIs (wpAny_pure ?_)) | refine wpAny_bind (wpAny_typeNameOf_keyiter hit.typeIs (wpAny_pure ?_))
  show wpAny _ _ (setField (.ref it) 0 .none >>= _) _ _ s
  refine wpAny_bind (wpAny_setField ho hd (by simp) ?_)
  show wpAny _ _ (newExc (.type "StopIteration") [] >>= _) _ _ _
  refine wpAny_bind ?_
  simp only [newExc, newTuple]
  refine wpAny_bind (wpAny_newObj_type ?_ (by size_fits))
  refine wpAny_bind (m := firstArgMember _ _) (wpAny_of_eq (a := Value.none) (by first | rfl | (simp only [firstArgMember]; rfl)) ?_)
  refine wpAny_newObj_type ?_ (by size_fits)
  delta raiseNew
  dsimp only
  refine wpAny_bind (wpAny_handled ?_)
  rw [show A.in1.handled = none from hh]
  refine wpAny_bind (wpAny_pure (wpAny_throw ?_))
  refine wpAny_bind (wpAny_isInstance (T := "StopIteration") (b := true) ⟨_, Heap.get?_push_size _ rfl, rfl⟩ isSubtype_stop ?_)
  exact wpAny_pure (hQ _ (((Heap.SameBut.update ..).extBut.push _).push _))
theorem walks_kdict (hh : A.handled = none) (I d : Addr) (hne : d ≠ I) (xs : List KX) (n : Nat) :
    Walks prog w A I [I, d] [I] xs.length (fun i v => ∃ x, xs[i]? = some x ∧ v = x.2.1) (fun i h => h.IsKeyIter I d i xs.length n ∧ h.get? d = some (kdict w xs n)) where
  sub := fun b hb => by simp at hb; simp [hb]
  frame := fun _ _ _ st hk => ⟨let ⟨o, ho, r⟩ := st.1; ⟨o, hk I (by simp) o ho, r⟩, hk d (by simp) _ st.2⟩
  item := fun i s Q E hi st hQ => by
    obtain ⟨x, hx⟩ : ∃ p, xs[i]? = some p := ⟨xs[i], by simp [hi]⟩
    refine next_kdict st.1 st.2 hx fun h' hit' hs' => ?_
    exact hQ _ h' s.toks ⟨x, hx, rfl⟩ ⟨hit', (hs'.2 d hne).trans st.2⟩ fun b o hb e => hs'.extBut b o (fun h => hb (by simp [h])) e
  done := fun s Q E st hQ => end_kdict hh st.1 st.2 (by simp) fun h' he' => hQ h' s.toks fun b o hb e => he' b o (fun h => hb (by simp [h])) e
  self := fun _ _ _ _ st hQ => wpAny_pyIter_keyiter st.1 hQ
theorem src_kdict (w : World) (xs : List KX) (n : Nat) (lo : (d == sysModules) = false) : KdlSrc prog w "dict" d d xs.length (fun i v => ∃ x, xs[i]? = some x ∧ v = x.2.1) (fun h => h.get? d = some (kdict w xs n)) where
  type := fun _ hm => ⟨_, hm, rfl⟩
  there := fun _ hm => ⟨Heap.lt_size hm, Heap.lt_size hm⟩
  keep := fun _ _ hm hk => hk d (.inl rfl) _ hm
  notList := by decide
  notTuple := by decide
  hint := fun _ _ _ _ hm hq => kdl_hint_dict ⟨_, hm, rfl⟩ hq
  iter := fun _ _ hh hm => ⟨_, _, (fun _ _ hq => iter_kdict lo hm hq), walks_kdict hh _ d (Nat.ne_of_lt (Heap.lt_size hm)) xs n, ⟨⟨_, Heap.get?_push_size _ rfl, rfl, rfl⟩, Heap.get?_push_of_some _ hm⟩⟩
end

/-! over a ledger -/
noncomputable abbrev Led := List (Addr × Obj)
noncomputable def DK.In (led : Led) : DK → Value → Prop
  | .num i, v => ∃ t, v = .int i t
  | .tup x l, v => ∃ a t us, v = .ref a ∧ (a, tupOf (.str x t :: us).toArray) ∈ led ∧ IntsAre us l ∧ PyData.strOk x = true
theorem DK.In.at {h₀ h : Heap} {L : Addr} {led : Led} (N : News h₀ L h led) : ∀ {k : DK} {v : Value}, k.In led v → k.At h v
  | .num _, _, x => x
  | .tup _ _, _, ⟨a, t, us, e, g, i, z⟩ => ⟨a, t, us, e, (N _ g).1, i, z⟩
theorem DK.In.mono {led led' : Led} (q : ∀ p ∈ led, (∀ es n, p.2 ≠ dictOf es n) → p ∈ led') : ∀ {k : DK} {v : Value}, k.In led v → k.In led' v
  | .num _, _, x => x
  | .tup _ _, _, ⟨a, t, us, e, g, i, z⟩ => ⟨a, t, us, e, q _ g (fun es n h => nomatch (congrArg Obj.data h)), i, z⟩
noncomputable def KeysIn (led : Led) (xs : List KX) : Prop := ∀ x ∈ xs, x.1.In led x.2.1
theorem KeysIn.at {h₀ h : Heap} {L : Addr} {led : Led} {xs : List KX} (N : News h₀ L h led) (x : KeysIn led xs) : KeysAt h xs := fun p hp => (x p hp).at N
theorem KeysIn.mono {led led' : Led} {xs : List KX} (q : ∀ p ∈ led, (∀ es n, p.2 ≠ dictOf es n) → p ∈ led') (x : KeysIn led xs) : KeysIn led' xs := fun p hp => (x p hp).mono q
/-- the ledger in which the object at d is o -/
noncomputable def setL (d : Addr) (o : Obj) (led : Led) : Led := (d, o) :: led.filter fun p => decide (p.1 ≠ d)
theorem mem_setL {d : Addr} {o : Obj} {led : Led} {p : Addr × Obj} : p ∈ setL d o led ↔ p = (d, o) ∨ (p ∈ led ∧ p.1 ≠ d) := by
  unfold setL
  rw [List.mem_cons, List.mem_filter]
  simp
theorem mem_setL_self {d : Addr} {o : Obj} {led : Led} : (d, o) ∈ setL d o led := mem_setL.mpr (.inl rfl)
theorem mem_setL_of {d : Addr} {o : Obj} {led : Led} {p : Addr × Obj} (h : p ∈ led) (hn : p.1 ≠ d) : p ∈ setL d o led := mem_setL.mpr (.inr ⟨h, hn⟩)
theorem fr_news_setL {h₀ h h' : Heap} {L d : Addr} {m : Str → Option Value} {o o' : Obj} {led : Led} (F : Fr h₀ L h m) (N : News h₀ L h led) (hm : (d, o) ∈ led) (hs : Heap.SameBut d h h') (ho : h'.get? d = some o') :
    Fr h₀ L h' m ∧ News h₀ L h' (setL d o' led) := by
  have q := N _ hm
  refine ⟨F.change hs q.2.1 q.2.2, fun p hp => ?_⟩
  rcases mem_setL.mp hp with rfl | ⟨h1, h2⟩
  · exact ⟨ho, q.2⟩
  · exact ⟨(hs.2 _ h2).trans (N p h1).1, (N p h1).2⟩
theorem news_func {h₀ h : Heap} {L a : Addr} {led : Led} (N : News h₀ L h led) {o o' : Obj} (h1 : (a, o) ∈ led) (h2 : (a, o') ∈ led) : o = o' := Option.some.inj ((N _ h1).1.symm.trans (N _ h2).1)
theorem news_ne {h₀ h : Heap} {L a b : Addr} {led : Led} (N : News h₀ L h led) {o o' : Obj} (h1 : (a, o) ∈ led) (h2 : (b, o') ∈ led) (hn : o ≠ o') : a ≠ b := fun e => hn (news_func N h1 (e ▸ h2))
section
variable {prog : Program} {w : World} {A : Around} {E : Value → Shared → Prop} {s : Shared} {h₀ : Heap} {L d : Addr} {m : Str → Option Value} {led : Led} {xs : List KX} {n : Nat} {k : DK} {key v : Value}
theorem kd_item {value slice : PySem.Expr} {Q : Value → Shared → Prop} (N : News h₀ L s.heap led) (hm : (d, kdict w xs n) ∈ led) (his : KeysIn led xs) (hn : KNd xs) (hkey : k.In led key) (hv : kget k xs = some v) (hu : A.units + 3 < cLine) (h : ∀ tk, Q v { s with toks := tk })
    (hs : subscripted slice false (.ref d) key = operate [.ref d, key] (getItem (.ref d) key)) (hg : ∀ r, letTemporaryGo value (.ref d) r = pure ()) :
    wpAny (model prog w) A (subscriptTail value slice (.ref d) key) Q E s :=
  subscriptTail_builtin (typeIs_kdict (N _ hm).1) slot_dict_getitem.lookup (getItem_key hu (hkey.at N) (N _ hm).1 (his.at N) hn hv h) hs hg
theorem kd_in {Q : Value → Shared → Prop} (N : News h₀ L s.heap led) (hm : (d, kdict w xs n) ∈ led) (lo : (d == sysModules) = false) (his : KeysIn led xs) (hn : KNd xs) (hkey : k.In led key) (hu : A.units + 3 < cLine) (h : ∀ tk, Q (.bool (kget k xs).isSome) { s with toks := tk }) :
    wpAny (model prog w) A (compareOp .In key (.ref d)) Q E s := in_key hu (hkey.at N) lo (N _ hm).1 (his.at N) hn h
theorem kd_notin {Q : Value → Shared → Prop} (N : News h₀ L s.heap led) (hm : (d, kdict w xs n) ∈ led) (lo : (d == sysModules) = false) (his : KeysIn led xs) (hn : KNd xs) (hkey : k.In led key) (hu : A.units + 3 < cLine) (h : ∀ tk, Q (.bool (!(kget k xs).isSome)) { s with toks := tk }) :
    wpAny (model prog w) A (compareOp .NotIn key (.ref d)) Q E s := notin_key hu (hkey.at N) lo (N _ hm).1 (his.at N) hn h
theorem kd_set {Q : Unit → Shared → Prop} (F : Fr h₀ L s.heap m) (N : News h₀ L s.heap led) (hm : (d, kdict w xs n) ∈ led) (hkey : k.In led key) (his : KeysIn led xs) (hn : KNd xs) (hz : xs.length ≤ 10000) (hu : A.units + 3 < cLine)
    (h : ∀ h' tk n', Fr h₀ L h' m → News h₀ L h' (setL d (kdict w (kput k key v xs) n') led) → Q () { s with heap := h', toks := tk }) : wpAny (model prog w) A (setItem (.ref d) key v) Q E s :=
  setItem_key hu (hkey.at N) (N _ hm).1 (his.at N) hn hz fun h' tk n' hs ho => let ⟨F', N'⟩ := fr_news_setL F N hm hs ho; h h' tk n' F' N'
theorem kd_pop {Q : Value → Shared → Prop} (F : Fr h₀ L s.heap m) (N : News h₀ L s.heap led) (hm : (d, kdict w xs n) ∈ led) (hkey : k.In led key) (his : KeysIn led xs) (hn : KNd xs) (hz : xs.length ≤ 10000) (hv : kget k xs = some v) (hu : A.units + 3 < cLine)
    (h : ∀ h' tk n', Fr h₀ L h' m → News h₀ L h' (setL d (kdict w (kdel k xs) n') led) → Q v { s with heap := h', toks := tk }) : wpAny (model prog w) A (call (.builtin "dict.pop") [.ref d, key]) Q E s :=
  pop_key hu (hkey.at N) (N _ hm).1 (his.at N) hn hz hv fun h' tk n' hs ho => let ⟨F', N'⟩ := fr_news_setL F N hm hs ho; h h' tk n' F' N'
theorem kd_len {Q : Value → Shared → Prop} (N : News h₀ L s.heap led) (hm : (d, kdict w xs n) ∈ led) (lo : (d == sysModules) = false) (hz : xs.length ≤ 10000) (h : ∀ t tk, Q (.int xs.length t) { s with toks := tk }) :
    wpAny (model prog w) A (call (.builtin "len") [.ref d]) Q E s := len_key lo (N _ hm).1 hz h
theorem kd_method {name : Str} {id : String} {pl : Sem Bool} {Q : Value × List Value → Shared → Prop} (slot : Slot "dict" name id) (ty : typeOf (.builtin id) = pure (.type "method_descriptor")) (N : News h₀ L s.heap led) (hm : (d, kdict w xs n) ∈ led) (h : Q (.builtin id, [.ref d]) s) :
    wpAny (model prog w) A (getMethod (.ref d) name pl) Q E s :=
  getMethod_builtin ⟨_, (N _ hm).1, rfl⟩ PySem.F.plainAttrs_dict slot ty (fun a e => by cases e; exact ⟨_, (N _ hm).1, rfl⟩) h
theorem kd_list {Q : Value → Shared → Prop} (hh : A.handled = none) (F : Fr h₀ L s.heap m) (N : News h₀ L s.heap led) (hm : (d, kdict w xs n) ∈ led) (lo : (d == sysModules) = false) (hz : xs.length ≤ 10000)
    (h : ∀ (D : Addr) c h' tk, Fr h₀ L h' m → News h₀ L h' ((D, listOf (xs.map (·.2.1)).toArray c) :: led) → (∀ q ∈ led, q.1 < D) → Q (.ref D) { s with heap := h', toks := tk }) :
    wpAny (model prog w) A (call (.type "list") [.ref d]) Q E s :=
  kdl_N (src_kdict w xs n lo) hh F N (N _ hm).1 (by rw [sizeLine_eq]; omega) fun D c h' tk vs F' N' l1 hl hv => by
    have e : vs = xs.map (·.2.1) := by
      apply List.ext_getElem?
      intro j
      rw [List.getElem?_map]
      cases hvj : vs[j]? with
      | none =>
        have : xs.length ≤ j := by rw [← hl]; exact List.getElem?_eq_none_iff.mp hvj
        rw [List.getElem?_eq_none this]; rfl
      | some v =>
        (refine xEA (hv j v hvj) fun x hx zr1 => ?_; subst zr1)
        rw [hx]; rfl
    subst e
    exact h D c h' tk F' N' l1
end
end Mine
end

-- C05
section
open PySem PySem.W PyProof.Rows PySem.Spec PySem.Calls
set_option linter.all false
set_option maxRecDepth 100000
namespace Mine
theorem enter_callC {M : Model} {A : Around} {s : Shared} {f : Value} {pos : List Value} {kw : List (Str × Value)} {c : ClaimW} {cl : Str → Option Addr} {mean : ExcName → Option Value} {args : List WData} {s₁ : Shared}
    (h : codeC M A (.call f ⟨pos, kw⟩) (GoodWG c cl mean args s₁) s) : wpC M A (PySem.call f pos kw) (fun v s' => GoodWG c cl mean args s₁ (.ok (.ret v)) s') (fun e s' => GoodWG c cl mean args s₁ (.error e) s') s :=
  wpC_call (codeC_mono h fun res s' g => by rcases g.1 with ⟨v, _, _, rfl, _⟩ | ⟨e, _, _, rfl, _⟩ <;> exact g)
theorem call_cellsC {prog : Program} {w : World} {A : Around} {R : Result → Shared → Prop} {s : Shared} {name : Str} {params : Arguments} {body : List Stmt} {scope : Scope}
    {pm cd doc : Value} {a : Addr} {o : Obj} {args : List Value} {binds : List (Str × Value)}
    (hroom : A.depth < recursionLimit) (ho : s.heap.get? a = some o) (hdata : o.data = .func (Calls.docDef name params body scope pm cd doc)) (hlim : s.heap.NoLimit) (hcd : s.heap.CodeRec cd name)
    (hbind : bindArgs (Calls.docDef name params body scope pm cd doc) ⟨args, []⟩ = pure binds)
    (hkind : ∀ x ∈ binds, scope.names.lookup x.1 = some .local ∨ (scope.names.lookup x.1 = some .cell ∧ ((cellsFrom (s.heap.objs.size + 1) scope.names []).lookup x.1).isSome = true))
    (hnd : ((cellsFrom 0 scope.names []).map (·.1)).Nodup)
    (h : ∀ h₁ tk cells, Fr s.heap s.heap.objs.size h₁ (bindL (envOfC name scope s.heap.objs.size a cd).kindOf binds fun _ => none) → News s.heap s.heap.objs.size h₁ cells →
      CellsAre (bindC (envOfC name scope s.heap.objs.size a cd).kindOf binds fun _ => none) (cellsFrom (s.heap.objs.size + 1) scope.names []) cells →
      wpC (model prog w) (A.deeper (envOfC name scope s.heap.objs.size a cd)) (execs body (envOfC name scope s.heap.objs.size a cd))
        (fun f s' => R (.ok (.ret (match f with | .ret v => v | _ => .none))) s')
        (fun e s' => wpAny (model prog w) (A.deeper (envOfC name scope s.heap.objs.size a cd)) (leaving (envOfC name scope s.heap.objs.size a cd) e)
          (fun _ s'' => R (.error e) s'') (fun e' s'' => R (.error e') s'') s')
        { s with heap := h₁, toks := tk })
    (hco : scope.isCoroutine = false) (hgen : scope.isGenerator = false) (hk : scope.kind = .function) :
    codeC (model prog w) A (.call (.ref a) ⟨args, []⟩) R s := by
  refine codeC_call_function (fd := Calls.docDef name params body scope pm cd doc) hroom ho hdata hco hgen rfl hcd ?_
  rw [hbind, show (Calls.docDef name params body scope pm cd doc).closure = [] from rfl]
  refine wpAny_pure (wpAny_newFunctionEnv_cells hk hkind fun env he s' x => ?_)
  subst he
  refine ⟨hlim.keeps x.toInCall.keep, codeC_func ?_⟩
  (refine xEEA (x.done) fun h₁ tk zr1 _ => ?_; subst zr1)
  let ⟨cells, N, Y⟩ := Cl.news (h₀ := s.heap) (Nat.le_refl _) fun n c hm => ⟨x.cell n c (lookup_of_mem_nodup (cellsFrom_names scope.names 0 (s.heap.objs.size + 1) [] [] rfl ▸ hnd) hm), x.above n c hm⟩
  exact h h₁ tk cells ⟨x.toInCall.ns, x.toInCall.keep, x.toInCall.fresh⟩ N Y
end Mine
end

-- G01
section
open PySem PySem.W PyProof.Rows
set_option linter.all false
namespace Mine
/-! the two depth-first walks, in plain words -/
inductive Reach (E : Nat → Nat → Prop) (S : Nat → Prop) : Nat → Prop
  | base {j} : S j → Reach E S j
  | step {j k} : Reach E S j → E j k → Reach E S k
theorem Reach.congr {E E' : Nat → Nat → Prop} {S S' : Nat → Prop} (hE : ∀ j k, E j k → E' j k) (hS : ∀ j, S j → S' j) {j : Nat} (h : Reach E S j) : Reach E' S' j := by
  induction h with
  | base h => exact .base (hS _ h)
  | step _ h ih => exact .step ih (hE _ _ h)
structure Dfs (E : Nat → Nat → Prop) (S : Nat → Prop) (found : List Nat) (ws : List (Option Nat)) : Prop where
  fnd : ∀ j ∈ found, Reach E S j
  wts : ∀ j, some j ∈ ws → Reach E S j
  beg : ∀ j, S j → j ∈ found ∨ some j ∈ ws
  clo : ∀ j ∈ found, ∀ k, E j k → k ∈ found ∨ some k ∈ ws
  nod : found.Nodup
theorem Dfs.init {E : Nat → Nat → Prop} {S : Nat → Prop} {ws : List (Option Nat)} (h : ∀ j, S j ↔ some j ∈ ws) : Dfs E S [] ws :=
  ⟨(fun _ h => nomatch h), fun j hj => .base ((h j).mpr hj), fun j hj => .inr ((h j).mp hj), (fun _ h => nomatch h), .nil⟩
theorem Dfs.skip {E : Nat → Nat → Prop} {S : Nat → Prop} {found : List Nat} {ws : List (Option Nat)} {o : Option Nat} (h : Dfs E S found (ws ++ [o])) (ho : ∀ j, o = some j → j ∈ found) : Dfs E S found ws where
  fnd := h.fnd
  wts := fun j hj => h.wts j (List.mem_append_left _ hj)
  beg := fun j hj => by
    rcases h.beg j hj with h | h
    · exact .inl h
    · rcases List.mem_append.mp h with h | h
      · exact .inr h
      · exact .inl (ho j (List.mem_singleton.mp h).symm)
  clo := fun j hj k hk => by
    rcases h.clo j hj k hk with h | h
    · exact .inl h
    · rcases List.mem_append.mp h with h | h
      · exact .inr h
      · exact .inl (ho k (List.mem_singleton.mp h).symm)
  nod := h.nod
theorem Dfs.add {E : Nat → Nat → Prop} {S : Nat → Prop} {found : List Nat} {ws l : List (Option Nat)} {j : Nat} (h : Dfs E S found (ws ++ [some j])) (hj : j ∉ found) (hl : ∀ k, E j k ↔ some k ∈ l) : Dfs E S (found ++ [j]) (ws ++ l) where
  fnd := fun i hi => by
    rcases List.mem_append.mp hi with hi | hi
    · exact h.fnd i hi
    · rw [List.mem_singleton.mp hi]; exact h.wts j (by simp)
  wts := fun i hi => by
    rcases List.mem_append.mp hi with hi | hi
    · exact h.wts i (List.mem_append_left _ hi)
    · exact .step (h.wts j (by simp)) ((hl i).mpr hi)
  beg := fun i hi => by
    rcases h.beg i hi with h | h
    · exact .inl (List.mem_append_left _ h)
    · rcases List.mem_append.mp h with h | h
      · exact .inr (List.mem_append_left _ h)
      · exact .inl (by simp at h; simp [h])
  clo := fun i hi k hk => by
    rcases List.mem_append.mp hi with hi | hi
    · rcases h.clo i hi k hk with h | h
      · exact .inl (List.mem_append_left _ h)
      · rcases List.mem_append.mp h with h | h
        · exact .inr (List.mem_append_left _ h)
        · exact .inl (by simp at h; simp [h])
    · rw [List.mem_singleton.mp hi] at hk
      exact .inr (List.mem_append_right _ ((hl k).mp hk))
  nod := by
    rw [List.nodup_append]
    exact ⟨h.nod, by simp, fun a ha b hb e => hj (by rw [List.mem_singleton.mp hb] at e; exact e ▸ ha)⟩
theorem Dfs.done {E : Nat → Nat → Prop} {S : Nat → Prop} {found : List Nat} (h : Dfs E S found []) (j : Nat) : j ∈ found ↔ Reach E S j := by
  constructor
  · exact h.fnd j
  · intro r
    induction r with
    | base hs => exact (h.beg _ hs).resolve_right (by simp)
    | step _ he ih => exact (h.clo _ ih _ he).resolve_right (by simp)
/-- distinct numbers below n are at most n -/
theorem nodup_le : ∀ (n : Nat) (l : List Nat), l.Nodup → (∀ j ∈ l, j < n) → l.length ≤ n
  | 0, [], _, _ => Nat.le_refl _
  | 0, x :: _, _, hb => absurd (hb x (List.mem_cons_self)) (Nat.not_lt_zero _)
  | n + 1, l, hn, hb => by
    have h := nodup_le n (l.erase n) (hn.erase n) fun j hj => by
      have h1 := hb j (List.mem_of_mem_erase hj)
      have h2 : j ≠ n := fun e => by subst e; exact (hn.mem_erase_iff.mp hj).1 rfl
      omega
    rw [List.length_erase] at h
    split at h <;> omega
theorem sorted_unique : ∀ {a b : List Int}, a.Perm b → a.Pairwise (· ≤ ·) → b.Pairwise (· ≤ ·) → a = b
  | [], b, p, _, _ => (List.nil_perm.mp p).symm ▸ rfl
  | x :: a, [], p, _, _ => absurd p.length_eq (by simp)
  | x :: a, y :: b, p, ha, hb => by
    have hx : x = y := by
      rcases List.mem_cons.mp (p.mem_iff.mp (List.mem_cons_self)) with h | h
      · exact h
      · rcases List.mem_cons.mp (p.symm.mem_iff.mp (List.mem_cons_self)) with h' | h'
        · exact h'.symm
        · exact Int.le_antisymm ((List.pairwise_cons.mp ha).1 _ h') ((List.pairwise_cons.mp hb).1 _ h)
    subst hx
    rw [sorted_unique (List.Perm.cons_inv p) (List.pairwise_cons.mp ha).2 (List.pairwise_cons.mp hb).2]
theorem perm_of_mem {a b : List Nat} (ha : a.Nodup) (hb : b.Nodup) (h : ∀ j, j ∈ a ↔ j ∈ b) : a.Perm b := (List.perm_ext_iff_of_nodup ha hb).mpr h
end Mine
end

-- G02
section
open PySem PySem.W PyProof.Rows
set_option linter.all false
namespace Mine
theorem perm_succ {found : List Nat} {a b : List Int} (h1 : a.Perm (found.map fun j : Nat => (j : Int))) (h2 : b.Perm (a.map (· + 1))) : b.Perm (found.map fun j : Nat => (j : Int) + 1) := by
  refine h2.trans ?_
  have := h1.map (· + 1)
  rwa [List.map_map] at this
/-- both walks come to the same bodies -/
theorem told_same {adj ladj : Nat → List (Option Nat)} {js : List Nat} {found found' : List Nat} {nc nr nd : List Int} (hl : ∀ j, j < 5 → ∀ k, some k ∈ adj j ↔ some k ∈ ladj j)
    (h1 : nc.Perm (found.map fun j : Nat => (j : Int) + 1)) (s1 : nc.Pairwise (· ≤ ·)) (n1 : found.Nodup) (r1 : ∀ j, j ∈ found ↔ Reach (fun j k => some k ∈ adj j ∧ j < 5) (fun j => some j ∈ js.map some ++ [none, none]) j)
    (h2 : nr.Perm (found'.map fun j : Nat => (j : Int))) (n2 : found'.Nodup) (r2 : ∀ j, j ∈ found' ↔ Reach (fun j k => some k ∈ ladj j ∧ j < 5) (fun j => some j ∈ js.map some) j)
    (h3 : nd.Perm (nr.map (· + 1))) (s3 : nd.Pairwise (· ≤ ·)) : nc = nd := by
  have hp : found.Perm found' := perm_of_mem n1 n2 fun j => by
    rw [r1, r2]
    constructor
    · exact fun h => Reach.congr (fun j k ⟨h, hj⟩ => ⟨(hl j hj k).mp h, hj⟩) (fun j hj => by simpa using hj) h
    · exact fun h => Reach.congr (fun j k ⟨h, hj⟩ => ⟨(hl j hj k).mpr h, hj⟩) (fun j hj => by simpa using hj) h
  exact sorted_unique (h1.trans ((hp.map _).trans (perm_succ h2 h3).symm)) s1 s3
/-- the three bodies made last -/
noncomputable def adj3 (adj : Nat → List (Option Nat)) (j : Nat) : List (Option Nat) := if j = 5 then [none] else if j = 6 then [some 5, none] else if j = 7 then [none, some 6] else adj j
theorem told_top {adj : Nat → List (Option Nat)} {found : List Nat} {nc nd : List Int} (h1 : nc.Perm (found.map fun j : Nat => (j : Int) + 1)) (s1 : nc.Pairwise (· ≤ ·)) (n1 : found.Nodup)
    (r1 : ∀ j, j ∈ found ↔ Reach (fun j k => some k ∈ adj3 adj j ∧ j < 8) (fun j => some j ∈ [some 7]) j) (h3 : nd.Perm [6, 7, 8]) (s3 : nd.Pairwise (· ≤ ·)) : nc = nd := by
  have hp : found.Perm [5, 6, 7] := perm_of_mem n1 (by decide) fun j => by
    rw [r1]
    constructor
    · intro h
      induction h with
      | base h => simp at h; subst h; simp
      | step _ h ih =>
        (revert h; intro zo; refine xA zo fun h _ => ?_; clear zo)
        simp only [List.mem_cons, List.not_mem_nil, or_false] at ih
        rcases ih with rfl | rfl | rfl <;> simp [adj3] at h <;> simp [h]
    · have a7 : Reach (fun j k => some k ∈ adj3 adj j ∧ j < 8) (fun j => some j ∈ [some 7]) 7 := .base (by simp)
      have a6 : Reach (fun j k => some k ∈ adj3 adj j ∧ j < 8) (fun j => some j ∈ [some 7]) 6 := .step a7 ⟨by simp [adj3], by omega⟩
      have a5 : Reach (fun j k => some k ∈ adj3 adj j ∧ j < 8) (fun j => some j ∈ [some 7]) 5 := .step a6 ⟨by simp [adj3], by omega⟩
      intro h
      simp only [List.mem_cons, List.not_mem_nil, or_false] at h
      rcases h with rfl | rfl | rfl
      · exact a5
      · exact a6
      · exact a7
  refine sorted_unique (h1.trans ?_) s1 s3
  refine (hp.map fun j : Nat => (j : Int) + 1).trans ?_
  exact h3.symm
/-- a name leads nowhere -/
theorem told_none {E : Nat → Nat → Prop} {found : List Nat} {nc : List Int} (h1 : nc.Perm (found.map fun j : Nat => (j : Int) + 1)) (r1 : ∀ j, j ∈ found ↔ Reach E (fun j => some j ∈ [none]) j) : nc = [] := by
  have hf : found = [] := by
    rw [List.eq_nil_iff_forall_not_mem]
    intro j hj
    have h := (r1 j).mp hj
    induction h with
    | base h => simp at h
    | step a b ih => exact ih ((r1 _).mpr a)
  subst hf
  simpa using h1
end Mine
end

-- Base
section
open PySem PySem.W PyProof.Rows PySem.Spec PySem.Calls
set_option maxRecDepth 100000
namespace Mine
open PySem.SeqAt
section
variable {prog : Program} {w : World} {A : Around} {E : Value → Shared → Prop} {s : Shared} {a b D : Addr} {xs p : List Value} {y : Value} {Q : Value → Shared → Prop} {h₀ : Heap} {L : Addr} {m : Str → Option Value} {news news' : List (Addr × Obj)} {n k : Nat}
theorem ne_nil_f (N : News h₀ L s.heap news) (ha : (a, listOf #[] n) ∈ news) (hb : (b, listOf #[] k) ∈ news) (hu : A.units < cLine) (h : Q (.bool false) s) :
    wpAny (model prog w) A (compareOp .NotEq (.ref a) (.ref b)) Q E s := 
  RcNeAt.lists (items := #[]) (items2 := #[]) (e := fun _ => true) ⟨_, (N _ ha).1, rfl, _, rfl⟩ ⟨_, (N _ hb).1, rfl, _, rfl⟩ rfl hu (fun _ h1 _ => absurd h1 (Nat.not_lt_zero _)) prog w E Q h
theorem ne_nil_t (N : News h₀ L s.heap news) (ha : (a, listOf (p ++ [y]).toArray n) ∈ news) (hb : (b, listOf #[] k) ∈ news) (hu : A.units < cLine) (h : Q (.bool true) s) :
    wpAny (model prog w) A (compareOp .NotEq (.ref a) (.ref b)) Q E s :=
  RcNeAt.lists_lengths (items := (p ++ [y]).toArray) (items2 := #[]) ⟨_, (N _ ha).1, rfl, _, rfl⟩ ⟨_, (N _ hb).1, rfl, _, rfl⟩ (by simp) hu prog w E Q h
theorem pop_last (F : Fr h₀ L s.heap m) (N : News h₀ L s.heap news) (U : Upd D (listOf (p ++ [y]).toArray n) (listOf p.toArray (n + 1)) news news')
    (hz : p.length < sizeLine) (h : ∀ h', Fr h₀ L h' m → News h₀ L h' news' → Q y { s with heap := h' }) : wpAny (model prog w) A (call (.builtin "list.pop") [.ref D]) Q E s :=
  kl_pop F N (kpa_last y p) U (by simp; omega) h
end
theorem ints_concat {us : List Value} {y : Value} {ns : List Int} (h : IntsAre (us ++ [y]) ns) : ∃ ms v, ns = ms ++ [v] ∧ IntsAre us ms ∧ ∃ t, y = .int v t := by
  induction us generalizing ns with
  | nil =>
    cases h with
    | cons i t r => cases r; exact ⟨[], i, rfl, .nil, t, rfl⟩
  | cons x us ih =>
    cases h with
    | cons i t r => exact (ih r).elim fun ms q => q.elim fun v z => ⟨i :: ms, v, congrArg _ z.1, .cons i t z.2.1, z.2.2⟩
theorem ints_snoc {us : List Value} {ms : List Int} {v : Int} {t : Tok} (h : IntsAre us ms) : IntsAre (us ++ [.int v t]) (ms ++ [v]) := by
  induction h with
  | nil => exact .cons v t .nil
  | cons i u _ ih => exact .cons i u ih

/-! the ledger's parts -/
/-- no object of the part stands at a -/
noncomputable abbrev Off (a : Addr) (l : Led) : Prop := ∀ p ∈ l, p.1 ≠ a
noncomputable def Apart (l r : Led) : Prop := ∀ x ∈ l, Off x.1 r
theorem Apart.off {l r : Led} {a : Addr} {o : Obj} (h : Apart l r) (hm : (a, o) ∈ l) : Off a r := h _ hm
theorem Apart.nil {r : Led} : Apart [] r := fun _ h => nomatch h
theorem Apart.cons {a : Addr} {o : Obj} {l r : Led} (h : Off a r) (t : Apart l r) : Apart ((a, o) :: l) r := fun x hx => by
  rcases List.mem_cons.mp hx with rfl | hx
  · exact h
  · exact t x hx
theorem Apart.congr {l r r' : Led} (h : Apart l r) (e : r'.map (·.1) = r.map (·.1)) : Apart l r' := fun x hx p hp hq => by
  have : p.1 ∈ r.map (·.1) := e ▸ List.mem_map_of_mem hp
  refine xEA (List.mem_map.mp this) fun q hq' e' => ?_
  exact h x hx q hq' (e'.trans hq)
theorem Apart.append {l l' r : Led} (h : Apart l r) (h' : Apart l' r) : Apart (l ++ l') r := fun x hx => (List.mem_append.mp hx).elim (h x) (h' x)
theorem Apart.symm {l r : Led} (h : Apart l r) : Apart r l := fun x hx p hp e => h p hp x hx e.symm
theorem allLt_off {a : Addr} : ∀ {l : Led}, AllLt a l → Off a l
  | [], _ => fun _ h => nomatch h
  | x :: l, h => fun p hp => by
    rcases List.mem_cons.mp hp with rfl | hp
    · exact Nat.ne_of_lt h.1
    · exact allLt_off h.2 p hp
theorem off_left {a : Addr} {l r : Led} (h : Off a (l ++ r)) : Off a l := fun p hp => h p (List.mem_append_left _ hp)
theorem off_right {a : Addr} {l r : Led} (h : Off a (l ++ r)) : Off a r := fun p hp => h p (List.mem_append_right _ hp)
theorem off_tail {a : Addr} {x} {r : Led} (h : Off a (x :: r)) : Off a r := fun p hp => h p (List.mem_cons_of_mem _ hp)
theorem off_app {a : Addr} {l r : Led} (h : Off a l) (h' : Off a r) : Off a (l ++ r) := fun p hp => (List.mem_append.mp hp).elim (h p) (h' p)
inductive Tail (t : Led) : Led → Led → Prop where
  | nil : Tail t t []
  | app (l : Led) : Tail t (l ++ t) l
  | cons {x l lits} : Tail t l lits → Tail t (x :: l) (x :: lits)
theorem Tail.eq {t l lits : Led} (h : Tail t l lits) : l = lits ++ t := by
  induction h with
  | nil => rfl
  | app l => rfl
  | cons _ ih => rw [ih]; rfl

/-- the deck: its dict and its list of cells; turn at most n -/
inductive DeckOk (w : World) (d : Nat) (dk : Led) (n : Nat) : Prop
  | mk (c : Nat) (od : Obj) (k : Nat) (mi tn : Int) (t1 t2 : Tok) (vs : List Value) (ns : List Int) (q1 : dk = [(d, od), (c, listOf vs.toArray k)]) (q2 : d ≠ c) (q3 : od.IsDictOf (strKind PySem.Challenge.rw_nt0501_01.row.prog w) [(Str.ofString "cells", .ref c), (Str.ofString "mixed", .int mi t1), (Str.ofString "turn", .int tn t2)]) (q4 : IntsAre vs ns) (q5 : vs.length ≤ 16) (q6 : 0 ≤ mi) (q7 : mi < 2147483587) (q8 : 0 ≤ tn) (q9 : tn ≤ n) : DeckOk w d dk n
section
variable {prog : Program} {w : World} {A : Around} {E : Value → Shared → Prop} {s : Shared} {l : Addr} {its : List Value} {Q : Value → Shared → Prop} {h₀ : Heap} {L : Addr} {news : List (Addr × Obj)} {n : Nat}
theorem item_at {value slice : PySem.Expr} {r : Int} {u : Tok} {v : Value} (N : News h₀ L s.heap news) (hm : (l, listOf its.toArray n) ∈ news) (hv : its[r.toNat]? = some v) (h0 : 0 ≤ r) (hz : r < 2 ^ 63) (h : Q v s)
    (hs : subscripted slice false (.ref l) (.int r u) = operate [.ref l, .int r u] (getItem (.ref l) (.int r u))) :
    wpAny (model prog w) A (subscriptTail value slice (.ref l) (.int r u)) Q E s :=
  tail_any (N.isList hm).typeIs slot_list_getitem.lookup (wpAny_getItem_list (N.isList hm) h0 hz (by simpa using hv) h) hs
theorem item_any {value slice : PySem.Expr} {r : Int} {u : Tok} (N : News h₀ L s.heap news) (hm : (l, listOf its.toArray n) ∈ news) (h0 : 0 ≤ r) (h1 : r < its.length) (hz : its.length < 10000) (h : ∀ v, its[r.toNat]? = some v → Q v s)
    (hs : subscripted slice false (.ref l) (.int r u) = operate [.ref l, .int r u] (getItem (.ref l) (.int r u))) :
    wpAny (model prog w) A (subscriptTail value slice (.ref l) (.int r u)) Q E s := by
  have hlt : r.toNat < its.length := by omega
  exact item_at N hm (List.getElem?_eq_getElem hlt) h0 (by omega) (h _ (List.getElem?_eq_getElem hlt)) hs
theorem len_at (N : News h₀ L s.heap news) (hm : (l, listOf its.toArray n) ∈ news) (hz : its.length < 10000) (h : Q (.int its.length (s.toks + 1)) { s with toks := s.toks + 1 + 1 }) :
    wpAny (model prog w) A (call (.builtin "len") [.ref l]) Q E s :=
  len_list (N.isList hm) (by simp; omega) (by simpa using h)
end

/-! the instances' dicts, as their classes lay them -/
noncomputable abbrev spanD (h1 h2 h3 : Int) (t1 t2 t3 : Tok) (bd st mn : Value) : Obj := dictOf [⟨h1, .str (Str.ofString "body") t1, bd⟩, ⟨h2, .str (Str.ofString "start") t2, st⟩, ⟨h3, .str (Str.ofString "many") t3, mn⟩] 3
noncomputable abbrev thingD (h1 h2 h3 h4 : Int) (t1 t2 t3 t4 : Tok) (kd v ex ac : Value) : Obj := dictOf [⟨h1, .str (Str.ofString "kind") t1, kd⟩, ⟨h2, .str (Str.ofString "value") t2, v⟩, ⟨h3, .str (Str.ofString "is_exec") t3, ex⟩, ⟨h4, .str (Str.ofString "access") t4, ac⟩] 4
noncomputable abbrev rowD (h1 h2 h3 h4 : Int) (t1 t2 t3 t4 : Tok) (nu th gl lv : Value) : Obj := dictOf [⟨h1, .str (Str.ofString "number") t1, nu⟩, ⟨h2, .str (Str.ofString "things") t2, th⟩, ⟨h3, .str (Str.ofString "is_global") t3, gl⟩, ⟨h4, .str (Str.ofString "level") t4, lv⟩] 4
noncomputable abbrev textD (h1 h2 h3 h4 : Int) (t1 t2 t3 t4 : Tok) (nu oc gl lv : Value) : Obj := dictOf [⟨h1, .str (Str.ofString "number") t1, nu⟩, ⟨h2, .str (Str.ofString "octets") t2, oc⟩, ⟨h3, .str (Str.ofString "is_global") t3, gl⟩, ⟨h4, .str (Str.ofString "level") t4, lv⟩] 4
noncomputable abbrev dictD (h1 h2 h3 h4 h5 h6 : Int) (t1 t2 t3 t4 t5 t6 : Tok) (nu mo gl lv ac en : Value) : Obj := dictOf [⟨h1, .str (Str.ofString "number") t1, nu⟩, ⟨h2, .str (Str.ofString "most") t2, mo⟩, ⟨h3, .str (Str.ofString "is_global") t3, gl⟩, ⟨h4, .str (Str.ofString "level") t4, lv⟩, ⟨h5, .str (Str.ofString "access") t5, ac⟩, ⟨h6, .str (Str.ofString "entries") t6, en⟩] 6
/-- keys that are ints -/
noncomputable def AllNum (xs : List KX) : Prop := ∀ x ∈ xs, ∃ i t, x.1 = .num i ∧ x.2.1 = .int i t
theorem AllNum.keysIn {xs : List KX} {led : Led} (h : AllNum xs) : KeysIn led xs := fun x hx => by
  refine xEEA (h x hx) fun i t h1 h2 => ?_
  rw [h1, h2]
  exact ⟨t, rfl⟩
theorem kput_mem {k : DK} {key v : Value} : ∀ {xs : List KX} {x : KX}, x ∈ kput k key v xs → x = (k, key, v) ∨ ∃ y ∈ xs, x.1 = y.1 ∧ x.2.1 = y.2.1
  | [], x, h => .inl (List.mem_singleton.mp h)
  | y :: r, x, h => by
    rw [kput] at h
    split at h
    · rcases List.mem_cons.mp h with rfl | h
      · exact .inr ⟨y, .head _, rfl, rfl⟩
      · exact .inr ⟨x, .tail _ h, rfl, rfl⟩
    · rcases List.mem_cons.mp h with rfl | h
      · exact .inr ⟨x, .head _, rfl, rfl⟩
      · rcases kput_mem h with h | ⟨z, hz, e⟩
        · exact .inl h
        · exact .inr ⟨z, .tail _ hz, e⟩
theorem kput_keys {k : DK} {key v : Value} : ∀ xs : List KX, (kput k key v xs).map (·.1) = if k ∈ xs.map (·.1) then xs.map (·.1) else xs.map (·.1) ++ [k]
  | [] => rfl
  | x :: r => by
    rw [kput]
    by_cases h : x.1 = k
    · rw [if_pos h]; simp [h]
    · rw [if_neg h, List.map_cons, kput_keys r]
      have h' : ¬ k = x.1 := fun e => h e.symm
      by_cases hm : k ∈ r.map (·.1)
      · simp only [List.map_cons, List.mem_cons, hm, or_true, if_true]
      · simp only [List.map_cons, List.mem_cons, hm, h', or_false, if_false]; rfl
theorem KNd.put {xs : List KX} {k : DK} {key v : Value} (h : KNd xs) : KNd (kput k key v xs) := by
  unfold KNd at *
  rw [kput_keys]
  split
  · exact h
  · rename_i hm
    rw [List.nodup_append]
    exact ⟨h, by simp, fun a ha b hb e => hm (by rw [List.mem_singleton.mp hb] at e; exact e ▸ ha)⟩
theorem kdel_sub {k : DK} : ∀ xs : List KX, List.Sublist (kdel k xs) xs
  | [] => .slnil
  | x :: r => by
    rw [kdel]
    split
    · exact .cons _ (List.Sublist.refl _)
    · exact .cons₂ _ (kdel_sub r)
theorem KNd.del {xs : List KX} {k : DK} (h : KNd xs) : KNd (kdel k xs) := h.sublist ((kdel_sub xs).map _)
theorem AllNum.put {xs : List KX} {i : Int} {t : Tok} {v : Value} (h : AllNum xs) : AllNum (kput (.num i) (.int i t) v xs) := fun x hx => by
  rcases kput_mem hx with rfl | ⟨y, hy, e1, e2⟩
  · exact ⟨i, t, rfl, rfl⟩
  · refine xEEA (h y hy) fun j u h1 h2 => ?_
    exact ⟨j, u, e1.trans h1, e2.trans h2⟩
theorem KeysIn.put {xs : List KX} {led : Led} {k : DK} {key v : Value} (h : KeysIn led xs) (hk : k.In led key) : KeysIn led (kput k key v xs) := fun x hx => by
  rcases kput_mem hx with rfl | ⟨y, hy, e1, e2⟩
  · exact hk
  · rw [e1, e2]; exact h y hy
theorem KeysIn.del {xs : List KX} {led : Led} {k : DK} (h : KeysIn led xs) : KeysIn led (kdel k xs) := fun x hx => h x ((kdel_sub xs).subset hx)
theorem kd_new {prog : Program} {w : World} {A : Around} {E : Value → Shared → Prop} {s : Shared} {h₀ : Heap} {L : Addr} {m : Str → Option Value} {led : Led} {env : Env} {pos : Pos} {Q : Value → Shared → Prop} (F : Fr h₀ L s.heap m) (N : News h₀ L s.heap led) (hbig : h₀.NoLimit)
    (k : ∀ d h', Fr h₀ L h' m → News h₀ L h' ((d, dictOf [] 0) :: led) → (∀ p ∈ led, p.1 < d) → (d == sysModules) = false → Q (.ref d) { s with heap := h' }) : wpAny (model prog w) A (eval (.Dict [] [] pos) env) Q E s :=
  wpAny_Dict_empty (k _ _ (F.push _) (News.push F N _) (fun p hp => Heap.lt_size (N p hp).1) (F.notModules (modules_low hbig)))
theorem kd_setU {prog : Program} {w : World} {A : Around} {s : Shared} {E : Value → Shared → Prop} {h₀ : Heap} {L d : Addr} {m : Str → Option Value} {led : Led} {g : Obj → Led} {xs : List KX} {n : Nat} {k : DK} {key v : Value} {Q : Unit → Shared → Prop} (F : Fr h₀ L s.heap m) (N : News h₀ L s.heap led) (U : UpdF d (kdict w xs n) led g) (his : KeysIn led xs) (hn : KNd xs) (hkey : k.In led key) (hz : xs.length ≤ 10000) (hu : A.units + 3 < cLine)
    (h : ∀ h' tk n', Fr h₀ L h' m → News h₀ L h' (g (kdict w (kput k key v xs) n')) → Q () { s with heap := h', toks := tk }) : wpAny (model prog w) A (setItem (.ref d) key v) Q E s := by
  (refine xEEAAA (U.split) fun pre post zr1 hg a b => ?_; subst zr1)
  have hm := N (d, kdict w xs n) (List.mem_append_right _ (.head _))
  refine setItem_key hu (hkey.at N) hm.1 (his.at N) hn hz fun h' tk n' hs ho => h h' tk n' (F.change hs hm.2.1 hm.2.2) (hg _ ▸ N.setIn a b hs ho)
noncomputable abbrev limD (w : World) (t1 t2 t3 t4 t5 t6 t7 t8 t9 t10 t11 t12 t13 t14 : Tok) : Obj := dictOf [⟨PyData.keyHash w.params (Str.ofString "operands"), .str (Str.ofString "operands") t1, .int 500 585⟩, ⟨PyData.keyHash w.params (Str.ofString "dicts"), .str (Str.ofString "dicts") t2, .int 20 586⟩, ⟨PyData.keyHash w.params (Str.ofString "frames"), .str (Str.ofString "frames") t3, .int 250 587⟩, ⟨PyData.keyHash w.params (Str.ofString "saves"), .str (Str.ofString "saves") t4, .int 15 588⟩, ⟨PyData.keyHash w.params (Str.ofString "gstates"), .str (Str.ofString "gstates") t5, .int 31 589⟩, ⟨PyData.keyHash w.params (Str.ofString "text"), .str (Str.ofString "text") t6, .int 65535 590⟩, ⟨PyData.keyHash w.params (Str.ofString "row"), .str (Str.ofString "row") t7, .int 65535 591⟩, ⟨PyData.keyHash w.params (Str.ofString "entries"), .str (Str.ofString "entries") t8, .int 65535 592⟩, ⟨PyData.keyHash w.params (Str.ofString "word"), .str (Str.ofString "word") t9, .int 127 593⟩, ⟨PyData.keyHash w.params (Str.ofString "path"), .str (Str.ofString "path") t10, .int 1500 594⟩, ⟨PyData.keyHash w.params (Str.ofString "dash"), .str (Str.ofString "dash") t11, .int 11 595⟩, ⟨PyData.keyHash w.params (Str.ofString "files"), .str (Str.ofString "files") t12, .int 15 596⟩, ⟨PyData.keyHash w.params (Str.ofString "system"), .str (Str.ofString "system") t13, .int 600 597⟩, ⟨PyData.keyHash w.params (Str.ofString "vm"), .str (Str.ofString "vm") t14, .int 16777216 571⟩] 14
noncomputable abbrev memD (w : World) (t1 t2 t3 t4 t5 t6 t7 t8 t9 t10 : Tok) (v1 v2 v3 v4 v5 v6 v7 v8 v9 v10 : Value) : Obj := dictOf [⟨PyData.keyHash w.params (Str.ofString "limits"), .str (Str.ofString "limits") t1, v1⟩, ⟨PyData.keyHash w.params (Str.ofString "is_global"), .str (Str.ofString "is_global") t2, v2⟩, ⟨PyData.keyHash w.params (Str.ofString "saves"), .str (Str.ofString "saves") t3, v3⟩, ⟨PyData.keyHash w.params (Str.ofString "journal"), .str (Str.ofString "journal") t4, v4⟩, ⟨PyData.keyHash w.params (Str.ofString "made"), .str (Str.ofString "made") t5, v5⟩, ⟨PyData.keyHash w.params (Str.ofString "freed"), .str (Str.ofString "freed") t6, v6⟩, ⟨PyData.keyHash w.params (Str.ofString "used"), .str (Str.ofString "used") t7, v7⟩, ⟨PyData.keyHash w.params (Str.ofString "used_global"), .str (Str.ofString "used_global") t8, v8⟩, ⟨PyData.keyHash w.params (Str.ofString "last_body"), .str (Str.ofString "last_body") t9, v9⟩, ⟨PyData.keyHash w.params (Str.ofString "last_save"), .str (Str.ofString "last_save") t10, v10⟩] 10
theorem rm0 {x b n : Nat} (h : x + b < n) : x < n := Nat.lt_of_le_of_lt (Nat.le_add_right x b) h
theorem rm1 {x a b n : Nat} (h : x + b < n) (c : Nat.ble a b = true) : x + a < n := Nat.lt_of_le_of_lt (Nat.add_le_add_left (Nat.le_of_ble_eq_true c) x) h
theorem rm2 {x a b c n : Nat} (h : x + b < n) (k : Nat.ble (a + c) b = true) : x + a + c < n := Nat.add_assoc x a c ▸ rm1 h k
theorem rm3 {x a b c d n : Nat} (h : x + b < n) (k : Nat.ble (a + c + d) b = true) : x + a + c + d < n := by rw [Nat.add_assoc x, Nat.add_assoc x]; exact rm1 h (Nat.add_assoc a c d ▸ k)
end Mine
end

-- B2
section
open PySem PySem.W PyProof.Rows PySem.Spec PySem.Calls
set_option linter.all false
set_option maxRecDepth 100000
namespace Mine
noncomputable abbrev Sub (l l' : Led) : Prop := ∀ p ∈ l, p ∈ l'
theorem Sub.refl {l : Led} : Sub l l := fun _ h => h
theorem Sub.nil {l : Led} : Sub [] l := fun _ h => nomatch h
theorem Sub.cons {x : Addr × Obj} {l l' : Led} (h : x ∈ l') (t : Sub l l') : Sub (x :: l) l' := fun p hp => by
  rcases List.mem_cons.mp hp with rfl | hp
  · exact h
  · exact t p hp
theorem Sub.app {a b l : Led} (h : Sub a l) (t : Sub b l) : Sub (a ++ b) l := fun p hp => (List.mem_append.mp hp).elim (h p) (t p)
theorem Sub.skip {x : Addr × Obj} {l l' : Led} (h : Sub l l') : Sub l (x :: l') := fun p hp => List.mem_cons_of_mem _ (h p hp)
theorem Sub.inl {l a b : Led} (h : Sub l a) : Sub l (a ++ b) := fun p hp => List.mem_append_left _ (h p hp)
theorem Sub.inr {l a b : Led} (h : Sub l b) : Sub l (a ++ b) := fun p hp => List.mem_append_right _ (h p hp)
theorem news_sub {h₀ h : Heap} {L : Addr} {l l' : Led} (N : News h₀ L h l) (q : Sub l' l) : News h₀ L h l' := fun p hp => N p (q p hp)
theorem Apart.sub {l l' r r' : Led} (h : Apart l r) (a : Sub l' l) (b : Sub r' r) : Apart l' r' := fun x hx p hp => h x (a x hx) p (b p hp)
theorem Apart.app_right {l a b : Led} (h : Apart l a) (h' : Apart l b) : Apart l (a ++ b) := fun x hx => off_app (h x hx) (h' x hx)
theorem Apart.off' {l r : Led} {x : Addr × Obj} (h : Apart l r) (hm : x ∈ l) : Off x.1 r := h _ hm
theorem allLt_sub {d : Nat} {a b : Led} (h : AllLt d b) (q : Sub a b) : AllLt d a := allLt_of fun p hp => by
  have : ∀ {l : Led}, AllLt d l → ∀ p ∈ l, p.1 < d := by
    intro l
    induction l with
    | nil => intro _ p hp; cases hp
    | cons x l ih =>
      intro h p hp
      rcases List.mem_cons.mp hp with rfl | hp
      · exact h.1
      · exact ih h.2 p hp
  exact this h p (q p hp)
theorem allLt_trans {d e : Nat} : ∀ {l : Led}, AllLt d l → d < e → AllLt e l
  | [], _, _ => trivial
  | _ :: _, h, q => ⟨Nat.lt_trans h.1 q, allLt_trans h.2 q⟩
theorem off_nil {a : Addr} : Off a [] := fun _ h => nomatch h
theorem off_cons {a : Addr} {p : Addr × Obj} {l : Led} (h : @Ne Nat p.1 a) (t : Off a l) : Off a (p :: l) := fun q hq => by
  rcases List.mem_cons.mp hq with rfl | hq
  · exact h
  · exact t q hq
/-- the memory: its objects, with nb bodies made -/
inductive Mem (w : World) (mm : Nat) : Led → Nat → Prop
  | mk {dm lim dlim sv md n nb : Nat} {a1 a2 a3 a4 a5 a6 a7 a8 a9 a10 a11 a12 a13 a14 b1 b2 b3 b4 b5 b6 b7 b8 b9 b10 tu tg tb : Tok} {jr fr ls : Value} {u : Int} {xs : List KX}
    (c1 : dlim < lim) (c2 : lim < dm) (c3 : dm < mm) (c4 : mm < sv) (c5 : sv < md) (lo : (md == sysModules) = false) (hxs : AllNum xs) (hnd : KNd xs) (hlen : xs.length ≤ nb) (hu0 : 0 ≤ u) (hu1 : u ≤ 200 * nb) :
    Mem w mm [(mm, instObj 594 dm), (dm, memD w b1 b2 b3 b4 b5 b6 b7 b8 b9 b10 (.ref lim) (.bool false) (.ref sv) jr (.ref md) fr (.int u tu) (.int 0 tg) (.int nb tb) ls),
      (lim, instObj 313 dlim), (dlim, limD w a1 a2 a3 a4 a5 a6 a7 a8 a9 a10 a11 a12 a13 a14), (sv, listOf #[] 0), (md, kdict w xs n)] nb
end Mine
namespace Mine
theorem inNum {led : Led} {i : Int} {t : Tok} : DK.In led (.num i) (.int i t) := ⟨t, rfl⟩
end Mine
end

-- B3
section
open PySem PySem.W PyProof.Rows PySem.Spec PySem.Calls
set_option linter.all false
set_option maxRecDepth 100000
namespace Mine
section
variable {prog : Program} {w : World} {A : Around} {E : Value → Shared → Prop} {s : Shared} {h₀ : Heap} {L D l b : Addr} {m : Str → Option Value} {led : Led} {g : Obj → Led} {xs ys : List Value} {n n2 k : Nat} {y v : Value}
theorem lst_turn {f : Array Value → Array Value} (F : Fr h₀ L s.heap m) (N : News h₀ L s.heap led) (U : UpdF D (listOf xs.toArray n) led g) (he : f xs.toArray = ys.toArray) :
    ∃ k', Fr h₀ L (s.heap.update D (Obj.mapSeq f)) m ∧ News h₀ L (s.heap.update D (Obj.mapSeq f)) (g (listOf ys.toArray k')) := by
  (refine xEEAAA (U.split) fun pre post zr1 hg a c => ?_; subst zr1)
  have z := N (D, listOf xs.toArray n) (List.mem_append.mpr (.inr (.head _)))
  have q := PySem.IsL.update z.1 f
  rw [he] at q
  exact ⟨_, F.change (Heap.SameBut.update ..) z.2.1 z.2.2, hg _ ▸ news_set N a c (Heap.SameBut.update ..) q⟩
theorem lst_mem (U : UpdF D (listOf xs.toArray n) led g) : (D, listOf xs.toArray n) ∈ led := by
  (refine xEEAAA (U.split) fun pre post zr2 _ _ _ => ?_; subst zr2)
  exact List.mem_append.mpr (.inr (.head _))
theorem lst_append {Q : Value → Shared → Prop} (F : Fr h₀ L s.heap m) (N : News h₀ L s.heap led) (U : UpdF D (listOf xs.toArray n) led g) (hz : xs.length < 100000)
    (h : ∀ h' k', Fr h₀ L h' m → News h₀ L h' (g (listOf (xs ++ [y]).toArray k')) → Q .none { s with heap := h' }) : wpAny (model prog w) A (call (.builtin "list.append") [.ref D, y]) Q E s := by
  refine xEA (lst_turn (ys := xs ++ [y]) (f := fun x => x.push y) F N U (by simp)) fun k' F' N' => ?_
  have z := N _ (lst_mem U)
  exact call_meets PySem.F.slot_list_append ⟨_, z.1, rfl⟩ PySem.F.entry_list_append (PySem.F.args_list_append_2 _ _) (list_append D _ n y (by rw [List.size_toArray, sizeLine_eq]; omega)) ⟨z.1, h _ k' F' N'⟩
theorem lst_extend {Q : Value → Shared → Prop} (F : Fr h₀ L s.heap m) (N : News h₀ L s.heap led) (U : UpdF D (listOf xs.toArray n) led g) (hb : (b, listOf ys.toArray n2) ∈ led) (hz : xs.length + ys.length < 100000)
    (h : ∀ h' k', Fr h₀ L h' m → News h₀ L h' (g (listOf (xs ++ ys).toArray k')) → Q .none { s with heap := h' }) : wpAny (model prog w) A (call (.builtin "list.extend") [.ref D, .ref b]) Q E s := by
  refine xEA (lst_turn (ys := xs ++ ys) (f := fun x => x ++ ys.toArray) F N U (by simp)) fun k' F' N' => ?_
  have z := N _ (lst_mem U)
  exact call_meets PySem.F.slot_list_extend ⟨_, z.1, rfl⟩ PySem.F.entry_list_extend (PySem.F.args_list_extend_2 _ _) (PySem.AutoSeq1.list_extend_list_list_0 D _ n b _ n2 (by simp [Builtin.List.listTooLong, sizeLine]; omega) (by rw [List.size_toArray, sizeLine_eq]; omega) (by simp only [List.size_toArray]; rw [sizeLine_eq]; omega)) ⟨z.1, (N _ hb).1, h _ k' F' N'⟩
theorem lst_pop {Q : Value → Shared → Prop} (F : Fr h₀ L s.heap m) (N : News h₀ L s.heap led) (U : UpdF D (listOf (xs ++ [y]).toArray n) led g) (hz : xs.length < 100000)
    (h : ∀ h' k', Fr h₀ L h' m → News h₀ L h' (g (listOf xs.toArray k')) → Q y { s with heap := h' }) : wpAny (model prog w) A (call (.builtin "list.pop") [.ref D]) Q E s := by
  (refine xEEAAA (U.split) fun pre post zr3 hg a c => ?_; subst zr3)
  have U' : ∀ {o o' : Obj} (pre post : Led), (∀ p ∈ pre, p.1 ≠ D) → (∀ p ∈ post, p.1 ≠ D) → Upd D o o' (pre ++ (D, o) :: post) (pre ++ (D, o') :: post) := by
    intro o o' pre post a c
    induction pre with
    | nil => exact .head c
    | cons x pre ih => exact .tail (a x (.head _)) (ih fun p hp => a p (.tail _ hp))
  exact pop_last F N (U' pre post a c) (by rw [sizeLine_eq]; omega) fun h' F' N' => h h' (n + 1) F' (hg _ ▸ N')
theorem lst_set {Q : Unit → Shared → Prop} {i : Int} {t : Tok} (F : Fr h₀ L s.heap m) (N : News h₀ L s.heap led) (U : UpdF D (listOf xs.toArray n) led g) (h0 : 0 ≤ i) (h1 : i < xs.length) (hz : xs.length < 100000)
    (h : ∀ h' k', Fr h₀ L h' m → News h₀ L h' (g (listOf (xs.set i.toNat v).toArray k')) → Q () { s with heap := h' }) : wpAny (model prog w) A (setItem (.ref D) (.int i t) v) Q E s := by
  refine xEA (lst_turn (ys := xs.set i.toNat v) (f := fun x => x.setIfInBounds i.toNat v) F N U (by simp)) fun k' F' N' => ?_
  have z := N _ (lst_mem U)
  exact ki_setAt z.1 h0 (by omega) (by simpa using h1) (h _ k' F' N')
theorem lst_copy {Q : Value → Shared → Prop} (F : Fr h₀ L s.heap m) (N : News h₀ L s.heap led) (hm : (l, listOf xs.toArray n) ∈ led) (hz : xs.length < 100000)
    (h : ∀ (D : Addr) c h', Fr h₀ L h' m → News h₀ L h' ((D, listOf xs.toArray c) :: led) → (∀ q ∈ led, q.1 < D) → Q (.ref D) { s with heap := h' }) : wpAny (model prog w) A (call (.type "list") [.ref l]) Q E s :=
  list_copyK F N (News.isList N hm) h (by rw [List.size_toArray, sizeLine_eq]; omega)
theorem lst_mul {Q : Value → Shared → Prop} {i : Int} {t : Tok} (F : Fr h₀ L s.heap m) (N : News h₀ L s.heap led) (hm : (l, listOf #[v] n) ∈ led) (h0 : 0 ≤ i) (hz : i < 10000)
    (h : ∀ (D : Addr) h', Fr h₀ L h' m → News h₀ L h' ((D, listOf (List.replicate i.toNat v).toArray 0) :: led) → (∀ q ∈ led, q.1 < D) → Q (.ref D) { s with heap := h' }) : wpAny (model prog w) A (binaryOp .Mult (.ref l) (.int i t)) Q E s := by
  refine mul_list F N (N _ hm).1 (by omega) (by omega) (by simp; omega) fun h' F' N' => h _ h' F' ?_ fun q hq => Heap.lt_size (N q hq).1
  have e : ∀ n : Nat, ∀ acc : Array Value, List.foldl (fun x1 x2 => x1 ++ x2) acc (List.replicate n #[v]) = acc ++ (List.replicate n v).toArray := by
    intro n
    induction n with
    | zero => intro acc; simp
    | succ n ih =>
      intro acc
      rw [List.replicate_succ, List.foldl_cons, ih, List.replicate_succ]
      apply Array.toList_inj.mp
      simp
  have e2 : (if (#[v] : Array Value).isEmpty = true then 0 else i.toNat) = i.toNat := if_neg (by simp)
  rw [e2, e, Array.empty_append] at N'
  exact N'
end
end Mine
end

-- B5
section
open PySem PySem.W PyProof.Rows PySem.Spec PySem.Calls
set_option linter.all false
set_option maxRecDepth 100000
namespace Mine
noncomputable abbrev baObj (bs : Array UInt8) : Obj := { cls := .type "bytearray", data := .bytearray bs }
theorem slot_ba_len : Slot "bytearray" "__len__" "bytearray.__len__" :=
  .of (owner := "bytearray") (n := "__len__") (by rw [typeLookup_type, builtinLookup_eq_fast]; kernel_rfl) (by decide +kernel) (by decide +kernel) (by decide +kernel)
    (by first | exact .inl (by decide +kernel) | exact .inr (by decide +kernel)) (by rw [isSubtype_type]; kernel_rfl)
theorem entry_ba_len : entryFor table "bytearray.__len__" = some Builtin.«bytearray.__len__» := entryFor_of_tree (by kernel_rfl)
theorem args_ba_len (a : Value) : argsOk "bytearray.__len__" ⟨[a], []⟩ := by unfold argsOk; kernel_rfl
theorem slotArgs_len (a : Value) : PySem.slotArgs "__len__" 0 ⟨[a], []⟩ = pure (a, []) := by kernel_rfl
section
variable {prog : Program} {w : World} {A : Around} {E : Value → Shared → Prop} {s : Shared} {d : Addr} {bs : Array UInt8}
theorem len_ba {Q : Value → Shared → Prop} (ho : s.heap.get? d = some (baObj bs)) (hz : bs.size ≤ 10000) (h : ∀ t tk, Q (.int bs.size t) { s with toks := tk }) :
    wpAny (model prog w) A (call (.builtin "len") [.ref d]) Q E s := by
  have hT : s.TypeIs (.ref d) "bytearray" := ⟨_, ho, rfl⟩
  refine Calls.call_function_entry kind_len plain_len entry_len (args_len1 _) ?_
  unfold Builtin.«len»
  refine wpAny_bind (m := oneArg "len" _) (wpAny_pure ?_)
  refine wpAny_bind (m := callSpecial? (.ref d) (Str.ofString "__len__")) (wpAny_callSpecial?_slot (name := Str.ofString "__len__") hT slot_ba_len
    (wpAny_call_entry slot_ba_len hT entry_ba_len ?_ (args_ba_len _)))
  unfold Builtin.«bytearray.__len__»
  rw [slotArgs_len]
  refine wpAny_bind (wpAny_pure ?_)
  unfold Builtin.Bytes.payload Builtin.Bytes.payload?
  refine wpAny_bind (wpAny_bind (wpAny_bind (wpAny_load ho (wpAny_pure (wpAny_pure ?_)))))
  refine wpAny_ret_mkInt ?_
  refine wpAny_bind (wpAny_holding (wpAny_pure ?_))
  refine wpAny_bind (wpAny_letGo ?_)
  show wpAny _ _ (if ((bs.size : Nat) : Int) < 0 then _ else _) _ _ _
  rw [if_neg (by omega)]
  show wpAny _ _ (if ((bs.size : Nat) : Int) ≥ 2 ^ 63 then _ else _) _ _ _
  rw [if_neg (by omega)]
  exact wpAny_bind (wpAny_mkInt (wpAny_pure ⟨_, rfl, h _ _⟩))
theorem len_ba_at {h₀ : Heap} {L : Addr} {led : Led} {Q : Value → Shared → Prop} (N : News h₀ L s.heap led) (hm : (d, baObj bs) ∈ led) (hz : bs.size ≤ 10000) (h : ∀ t tk, Q (.int bs.size t) { s with toks := tk }) :
    wpAny (model prog w) A (call (.builtin "len") [.ref d]) Q E s := len_ba (N _ hm).1 hz h
end
end Mine
end

-- E01
section
open PySem PySem.W PyProof.Rows PySem.Spec PySem.Calls PyProof.Rows.LCg
set_option linter.all false
set_option maxRecDepth 100000
namespace Mine
/-! list comprehensions over any iterator, told turn by turn -/
noncomputable abbrev testsOf (ifs : List Expr) (env : Env) : Sem Bool := forIn ifs true fun c r => if r = true then do let ok ← isTrue c env (eval c env); pure (ForInStep.yield ok) else pure (ForInStep.yield r)
theorem comp_loop {prog : Program} {w : World} {A : Around} {elt target iter : Expr} {ifs : List Expr} {scope : Scope} {pos : Pos} {it acc : Value} {env : Env} {R : Result → Shared → Prop} (I : Nat → Shared → Prop)
    (turn : ∀ n s, I n s → wpAny (model prog w) A (pyNext it) (fun r s₁ => match r with
      | none => R (.ok .next) s₁
      | some v => wpAny (model prog w) A (letOwnedTupleGo target it v) (fun _ s₀ => wpAny (model prog w) A (assign target env v) (fun _ s₂ =>
          wpAny (model prog w) A (testsOf ifs env) (fun ok s₃ => if ok = true then wpAny (model prog w) A (eval elt env) (fun x s₄ =>
            wpAny (model prog w) A (call (.builtin "list.append") [acc, x]) (fun _ s₅ => ∃ m, m < n ∧ I m s₅) (notedBy (model prog w) A env fun e s' => R (.error e) s') s₄) (notedBy (model prog w) A env fun e s' => R (.error e) s') s₃
            else ∃ m, m < n ∧ I m s₃) (notedBy (model prog w) A env fun e s' => R (.error e) s') s₂)
          (notedBy (model prog w) A env fun e s' => R (.error e) s') s₀) (notedBy (model prog w) A env fun e s' => R (.error e) s') s₁) (notedBy (model prog w) A env fun e s' => R (.error e) s') s)
    (n : Nat) {s : Shared} (h : I n s) : codeAny (model prog w) A (.compLoop (.ListComp elt [⟨target, iter, ifs, 0⟩] scope pos) 0 it acc env) R s := by
  refine codeAny_loop rfl I (fun n s hI => ?_) n h
  show wpAny _ A ((compTurn (.ListComp elt [⟨target, iter, ifs, 0⟩] scope pos) 0 it acc env).onRaise (fun x => do noteFrame x env; theTreesLotGoes x)) _ _ s
  refine wpAny_noted ?_
  rw [compTurn_list]
  refine wpAny_bind (wpAny_standAt (wpAny_bind (wpAny_mono (turn n s hI) (fun r s₁ h₁ => ?_) fun _ _ h' => h')))
  cases r with
  | none => exact wpAny_pure h₁
  | some v =>
    refine wpAny_bind (wpAny_mono h₁ (fun _ s₀ h₀' => ?_) fun _ _ h' => h')
    refine wpAny_bind (wpAny_mono h₀' (fun _ s₂ h₂ => ?_) fun _ _ h' => h')
    refine wpAny_bind (wpAny_mono h₂ (fun okb s₃ h₃ => ?_) fun _ _ h' => h')
    cases okb with
    | false => exact wpAny_pure ⟨rfl, h₃⟩
    | true => exact wpAny_bind (wpAny_bind (wpAny_mono h₃ (fun x s₄ h₄ => wpAny_bind (wpAny_mono h₄ (fun _ s₅ h₅ => wpAny_pure (wpAny_pure ⟨rfl, h₅⟩)) fun _ _ h' => h')) fun _ _ h' => h'))
/-- a turn's end -/
inductive CEnd (h₀ : Heap) (L : Addr) (m : Str → Option Value) (wr : List Addr) (own : Led) (C : Addr) (oC : Obj) (D : Addr) (ys : List Value) (Jn : Led → Prop) (s₁ s' : Shared) : Prop
  | mk (h' : Heap) (tk : Nat) (led' : Led) (q1 : s' = { s₁ with heap := h', toks := tk }) (q2 : Fr h₀ L h' m) (q3 : News h₀ L h' (own ++ (C, oC) :: (D, lst ys) :: led')) (q4 : (∀ p ∈ led', p.1 ≠ C ∧ p.1 ≠ D ∧ p.1 ∉ wr)) (q5 : Jn led') : CEnd h₀ L m wr own C oC D ys Jn s₁ s'
section
variable {prog : Program} {w : World} {A : Around} {E : Value → Shared → Prop} {s : Shared} {h₀ : Heap} {L : Addr} {m : Str → Option Value} {env : Env} {target elt iter : Expr} {ifs : List Expr} {scope : Scope} {cl : List (Str × Addr)} {pos : Pos} {I : Addr} {fp wr : List Addr} {n : Nat} {P Md : Nat → Value → Heap → Prop} {St : Nat → Heap → Prop}
/-- the turn's own story -/
noncomputable abbrev CTurn (prog : Program) (w : World) (A : Around) (h₀ : Heap) (L : Addr) (m : Str → Option Value) (env : Env) (elt : Expr) (ifs : List Expr) (scope : Scope) (cl : List (Str × Addr)) (fp wr : List Addr) (n : Nat) (Bd : Nat → (Str → Option Value) → Prop) (J : Nat → List Value → Led → Prop) (s₂ : Shared) : Prop :=
  ∀ i ys led₁ h₁ tk₁ own C oC D mC (E' : Value → Shared → Prop), i < n → Bd i mC → J i ys led₁ → NsObj oC mC → (∀ p ∈ own, p.1 ∈ fp) → (∀ x ∈ wr, ∃ o, (x, o) ∈ own) → (∀ p ∈ led₁, p.1 ≠ C ∧ p.1 ≠ D ∧ p.1 ∉ wr) → C ∉ fp → D ∉ fp → C ≠ D →
    Fr h₀ L h₁ m → News h₀ L h₁ (own ++ (C, oC) :: (D, lst ys) :: led₁) →
    wpAny (model prog w) A (testsOf ifs (compEnvC scope cl C env)) (fun ok s₃ => if ok = true then wpAny (model prog w) A (eval elt (compEnvC scope cl C env)) (fun y s₄ => CEnd h₀ L m wr own C oC D ys (J (i + 1) (ys ++ [y])) { s₂ with heap := h₁, toks := tk₁ } s₄) E' s₃
      else CEnd h₀ L m wr own C oC D ys (J (i + 1) ys) { s₂ with heap := h₁, toks := tk₁ } s₃) E' { s₂ with heap := h₁, toks := tk₁ }
inductive CJ (h₀ : Heap) (L : Addr) (m : Str → Option Value) (wr : List Addr) (n : Nat) (St : Nat → Heap → Prop) (J : Nat → List Value → Led → Prop) (s₂ : Shared) (C D : Nat) (k : Nat) (s' : Shared) : Prop
  | mk (h' : Heap) (tk : Nat) (i : Nat) (ys : List Value) (m' : Str → Option Value) (led' : Led) (q1 : s' = { s₂ with heap := h', toks := tk }) (q2 : i ≤ n) (q3 : k = n + 1 - i) (q4 : ys.length ≤ i) (q5 : St i h') (q6 : Fr h₀ L h' m) (q7 : h'.Ns C m')
      (q8 : News h₀ L h' ((D, lst ys) :: led')) (q9 : ∀ p ∈ led', p.1 ≠ C ∧ p.1 ≠ D ∧ p.1 ∉ wr) (q10 : J i ys led') : CJ h₀ L m wr n St J s₂ C D k s'
theorem comp_block {led : Led} {s₂ : Shared} (Bd : Nat → (Str → Option Value) → Prop) (J : Nat → List Value → Led → Prop) {RR : Value → Addr → Result → Shared → Prop}
    (W : KTurns prog w A target I fp wr n P Md St) (hsz : n < 10000) (hcell : ∀ y ∈ scope.names, y.2 ≠ .cell) (hkind : scope.kind = .function) (hst : St 0 s₂.heap) (hfp : ∀ b ∈ fp, b < s₂.heap.objs.size) (hLf : L ∉ fp) (hwr : ∀ b ∈ wr, h₀.get? b = none) (hex : ∀ i h, St i h → ∀ b ∈ wr, ∃ o, h.get? b = some o)
    (F : Fr h₀ L s₂.heap m) (N : News h₀ L s₂.heap led) (off : ∀ p ∈ led, p.1 ∉ wr) (h0 : J 0 [] led)
    (hself : ∀ i (s : Shared) (Q : Value → Shared → Prop) (E : Value → Shared → Prop), St i s.heap → Q (.ref I) s → wpAny (model prog w) A (pyIter (.ref I)) Q E s)
    (hasg : ∀ i v C (s : Shared) (Q : Unit → Shared → Prop) (E : Value → Shared → Prop) mC, P i v s.heap → s.heap.Ns C mC → (∀ h' tk mC', h'.Ns C mC' → Bd i mC' → (∀ c o, c ≠ C → s.heap.get? c = some o → h'.get? c = some o) → Q () { s with heap := h', toks := tk }) →
      wpAny (model prog w) A (assign target (compEnvC scope cl C env) v) Q E s)
    (turn : CTurn prog w A h₀ L m env elt ifs scope cl fp wr n Bd J s₂)
    (hRR : ∀ D C h tk m' ys led', Fr h₀ L h m → News h₀ L h ((D, lst ys) :: led') → (∀ p ∈ led', p.1 ≠ D) → h.Ns C m' → h₀.get? C = none → h₀.get? D = none → C ≠ L → D ≠ L → C ≠ D → (∀ p ∈ led', p.1 ≠ C) → J n ys led' → RR (.ref D) C (.ok .next) { s₂ with heap := h, toks := tk }) :
    wpAny (model prog w) A (newList []) (fun acc s₃ => wpAny (model prog w) A (newFunctionEnv scope env.globals cl [] env.qual none .none (some env)) (fun cenv s₄ =>
      codeAny (model prog w) A (.compStart (.ListComp elt [⟨target, iter, ifs, 0⟩] scope pos) 0 (.ref I) acc { cenv with scope := relabel scope env }) (RR acc cenv.locals) s₄) E s₃) E s₂ := by
  refine wpAny_newObj_type (wpAny_newFunctionEnv hcell (by intro y hy; simp at hy) (fun h₁ hns₁ hsb₁ => ?_) hkind)
  dsimp only at hns₁ hsb₁ ⊢
  generalize hH2 : s₂.heap.push { cls := .type "list", dict := none, data := .seq ([] : List Value).toArray } = H2 at hns₁ hsb₁ ⊢
  have hC : H2.objs.size = s₂.heap.objs.size + 1 := by rw [← hH2, Heap.size_push]
  have hDC : s₂.heap.objs.size ≠ H2.objs.size := by rw [hC]; exact Nat.ne_of_lt (Nat.lt_succ_self _)
  have below : ∀ b, b < s₂.heap.objs.size → b ≠ H2.objs.size ∧ b ≠ s₂.heap.objs.size := fun b hb => ⟨by rw [hC]; exact Nat.ne_of_lt (Nat.lt_succ_of_lt hb), Nat.ne_of_lt hb⟩
  have hDf : s₂.heap.objs.size ∉ fp := fun hm => Nat.lt_irrefl _ (hfp _ hm)
  have hCf : H2.objs.size ∉ fp := fun hm => by have := hfp _ hm; rw [hC] at this; exact Nat.lt_irrefl _ (Nat.lt_of_succ_lt this)
  have old : ∀ b o, s₂.heap.get? b = some o → h₁.get? b = some o := fun b o e => hsb₁.extBut b o (below b (Heap.lt_size e)).1 (Heap.get?_push_of_some _ (hH2 ▸ Heap.get?_push_of_some _ e))
  have hacc : h₁.get? s₂.heap.objs.size = some (lst []) := hsb₁.extBut _ _ hDC (Heap.get?_push_of_some _ (hH2 ▸ Heap.get?_push_size _ rfl))
  have hst₁ : St 0 h₁ := W.frame _ _ _ hst fun b _ o e => old b o e
  have fresh₀ : ∀ a, s₂.heap.objs.size ≤ a → h₀.get? a = none := fun a ha => by
    cases e : h₀.get? a with
    | none => rfl
    | some o' => exact absurd (Heap.lt_size (F.keep a o' e)) (Nat.not_lt.mpr ha)
  have hD₀ : h₀.get? s₂.heap.objs.size = none := fresh₀ _ (Nat.le_refl _)
  have hC₀ : h₀.get? H2.objs.size = none := fresh₀ _ (by rw [hC]; exact Nat.le_succ _)
  have hLlt : L < s₂.heap.objs.size := F.ns.lt
  have hDL : s₂.heap.objs.size ≠ L := Ne.symm (below L hLlt).2
  have hCL : H2.objs.size ≠ L := Ne.symm (below L hLlt).1
  have hDw : s₂.heap.objs.size ∉ wr := fun h => hDf (W.sub _ h)
  have hCw : H2.objs.size ∉ wr := fun h => hCf (W.sub _ h)
  have hLw : L ∉ wr := fun h => hLf (W.sub _ h)
  have old0 : ∀ b o, h₀.get? b = some o → b ∉ wr := fun b o e hb => by rw [hwr b hb] at e; cases e
  have loop : ∀ s₃ : Shared, s₃ = { s₂ with heap := h₁, toks := s₂.toks + ([] : List (Str × Value)).length } →
      codeAny (model prog w) A (.compLoop (.ListComp elt [⟨target, iter, ifs, 0⟩] scope pos) 0 (.ref I) (.ref s₂.heap.objs.size) (compEnvC scope cl H2.objs.size env)) (RR (.ref s₂.heap.objs.size) H2.objs.size) s₃ := by
    rintro s₃ rfl
    refine comp_loop
      (CJ h₀ L m wr n St J s₂ H2.objs.size s₂.heap.objs.size) ?_ (n + 1)
      ⟨h₁, _, 0, [], _, led, rfl, Nat.zero_le _, rfl, Nat.le_refl _, hst₁, F.keeps old, hns₁, fun p hp => ?_, fun p hp => ⟨(below _ (Heap.lt_size (N p hp).1)).1, (below _ (Heap.lt_size (N p hp).1)).2, off p hp⟩, h0⟩
    · rintro k s' ⟨h', tk, i, ys, m', led', rfl, hi, rfl, hyl, hst', F', hn', N', off', hJ⟩
      have N'' : News h₀ L h' led' := fun p hp => N' p (List.mem_cons_of_mem _ hp)
      have next : ∀ h₂ : Heap, (∀ b o, b ∉ wr → h'.get? b = some o → h₂.get? b = some o) → Fr h₀ L h₂ m ∧ h₂.Ns H2.objs.size m' ∧ News h₀ L h₂ ((s₂.heap.objs.size, lst ys) :: led') := fun h₂ hk =>
        ⟨⟨F'.ns.at' fun o e => hk _ o hLw e, fun b o e => hk b o (old0 b o e) (F'.keep b o e), F'.above⟩, hn'.at' fun o e => hk _ o hCw e, fun p hp => by
          refine ⟨hk _ _ ?_ (N' p hp).1, (N' p hp).2⟩
          rcases List.mem_cons.mp hp with rfl | hp
          · exact hDw
          · exact (off' p hp).2.2⟩
      by_cases hlt : i < n
      · refine W.item i _ _ _ hlt hst' fun v h₂ tk₂ hMd hk₂ => ?_
        refine W.go i v _ _ _ hMd fun h₃ hP hst₃ hk₃ => ?_
        refine xAA (next h₃ fun b o hb e => hk₃ b o hb (hk₂ b o hb e)) fun F₃ hn₃ N₃ => ?_
        refine hasg i v H2.objs.size _ _ _ _ hP hn₃ fun h₄ tk₄ mC hn₄ hB hk₄ => ?_
        refine xEA (ns_obj hn₄) fun oC heC hoC => ?_
        have F₄ : Fr h₀ L h₄ m := ⟨F₃.ns.at' fun o e => hk₄ _ o (Ne.symm hCL) e, fun b o e => hk₄ b o (fun q => by rw [q, hC₀] at e; cases e) (F₃.keep b o e), F₃.above⟩
        have hst₄ : St (i + 1) h₄ := W.frame _ _ _ hst₃ fun b hb o e => hk₄ b o (fun q => hCf (q ▸ hb)) e
        have N₄ : News h₀ L h₄ (ownOf h₀ fp h₄ ++ (H2.objs.size, oC) :: (s₂.heap.objs.size, lst ys) :: led') := (news_ownOf hLf).append fun p hp => by
          rcases List.mem_cons.mp hp with rfl | hp
          · exact ⟨heC, hCL, hC₀⟩
          · refine ⟨hk₄ _ _ ?_ (N₃ p hp).1, (N₃ p hp).2⟩
            rcases List.mem_cons.mp hp with rfl | hp
            · exact hDC
            · exact (off' p hp).1
        have keepSt : ∀ h₅ : Heap, Fr h₀ L h₅ m → News h₀ L h₅ (ownOf h₀ fp h₄) → St (i + 1) h₅ := fun h₅ F₅ N₅ => W.frame _ _ _ hst₄ fun b hb o e => by
          cases hn : h₀.get? b with
          | some o₀ =>
            have : o₀ = o := by have q := F₄.keep b o₀ hn; rw [e] at q; exact (Option.some.inj q).symm
            exact this ▸ F₅.keep b o₀ hn
          | none => exact (N₅ _ (mem_ownOf hb hn e)).1
        refine wpAny_mono (turn i ys led' h₄ tk₄ (ownOf h₀ fp h₄) H2.objs.size oC s₂.heap.objs.size mC _ hlt hB hJ hoC ownOf_sub (fun x hx => (hex (i + 1) h₄ hst₄ x hx).elim fun o e => ⟨o, mem_ownOf (W.sub _ hx) (hwr x hx) e⟩) off' hCf hDf (Ne.symm hDC) F₄ N₄) (fun ok s₅ h₅ => ?_) fun _ _ e => e
        cases ok with
        | false =>
          simp only [Bool.false_eq_true, if_false] at h₅ ⊢
          obtain ⟨h₅, tk₅, led₅, rfl, F₅, N₅, off₅, J₅⟩ := h₅
          have zC := N₅ (H2.objs.size, oC) (List.mem_append_right _ List.mem_cons_self)
          exact ⟨n + 1 - (i + 1), Nat.sub_lt_sub_left (Nat.lt_succ_of_lt hlt) (Nat.lt_succ_self i), h₅, tk₅, i + 1, ys, mC, led₅, rfl, hlt, rfl, Nat.le_succ_of_le (by assumption), keepSt h₅ F₅ fun p hp => N₅ p (List.mem_append_left _ hp), F₅, hoC.ns zC.1, fun p hp => N₅ p (List.mem_append_right _ (List.mem_cons_of_mem _ hp)), off₅, J₅⟩
        | true =>
          simp only [if_true] at h₅ ⊢
          refine wpAny_mono h₅ (fun y s₆ h₆ => ?_) fun _ _ e => e
          obtain ⟨h₆, tk₆, led₆, rfl, F₆, N₆, off₆, J₆⟩ := h₆
          have zC := N₆ (H2.objs.size, oC) (List.mem_append_right _ List.mem_cons_self)
          have zD := N₆ (s₂.heap.objs.size, lst ys) (List.mem_append_right _ (List.mem_cons_of_mem _ List.mem_cons_self))
          refine append_at (hsz := by show ys.toArray.size ≤ sizeLine; rw [List.size_toArray, sizeLine_eq]; exact Nat.le_trans (by assumption : ys.length ≤ i) (Nat.le_of_lt (Nat.lt_trans hlt (Nat.lt_trans (by assumption : n < 10000) (by decide))))) zD.1 fun h₇ hs₇ hD₇ => ?_
          have F₇ : Fr h₀ L h₇ m := F₆.change hs₇ hDL hD₀
          refine ⟨n + 1 - (i + 1), Nat.sub_lt_sub_left (Nat.lt_succ_of_lt hlt) (Nat.lt_succ_self i), h₇, tk₆, i + 1, ys ++ [y], mC, led₆, rfl, hlt, rfl, by rw [List.length_append, List.length_singleton]; exact Nat.succ_le_succ (by assumption), keepSt h₇ F₇ fun p hp => ⟨hs₇.extBut _ _ ?_ (N₆ p (List.mem_append_left _ hp)).1, (N₆ p (List.mem_append_left _ hp)).2⟩, F₇,
            (hoC.ns zC.1).sameBut hs₇ (Ne.symm hDC), fun p hp => ?_, off₆, J₆⟩
          · exact fun q => hDf (q ▸ ownOf_sub p hp)
          · rcases List.mem_cons.mp hp with rfl | hp
            · exact ⟨hD₇.trans (congrArg some (lst_snoc ys y)), hDL, hD₀⟩
            · have z := N₆ p (List.mem_append_right _ (List.mem_cons_of_mem _ (List.mem_cons_of_mem _ hp)))
              exact ⟨hs₇.extBut _ _ (off₆ p hp).2.1 z.1, z.2⟩
      · obtain rfl : i = n := Nat.le_antisymm hi (Nat.not_lt.mp hlt)
        refine W.done _ _ _ hst' fun h₂ tk₂ hk₂ => ?_
        refine xAA (next h₂ hk₂) fun F₂ hn₂ N₂ => ?_
        exact hRR _ _ h₂ tk₂ _ ys led' F₂ N₂ (fun p hp => (off' p hp).2.1) hn₂ hC₀ hD₀ hCL hDL (Ne.symm hDC) (fun p hp => (off' p hp).1) hJ
    · rcases List.mem_cons.mp hp with rfl | hp
      · exact ⟨hacc, hDL, hD₀⟩
      · exact ⟨old _ _ (N p hp).1, (N p hp).2⟩
  exact codeAny_compStart_list (loop _ rfl) (hself 0 _ _ _ hst₁ (loop _ rfl))
end
end Mine
end

-- E02
section
open PySem PySem.W PyProof.Rows PySem.Spec PySem.Calls PyProof.Rows.LCg
set_option linter.all false
set_option maxRecDepth 100000
namespace Mine
inductive CompAt (prog : Program) (w : World) (A : Around) (h₀ : Heap) (L : Addr) (m : Str → Option Value) (env : Env) (target elt : Expr) (ifs : List Expr) (scope : Scope) (cl : List (Str × Addr)) (mf : Addr → Str → Option Value) (Q : Value → Shared → Prop) (it : Value) (s₂ : Shared) : Prop
  | mk (I : Addr) (fp wr : List Addr) (n : Nat) (P Md : Nat → Value → Heap → Prop) (St : Nat → Heap → Prop) (led : Led) (Bd : Nat → (Str → Option Value) → Prop) (J : Nat → List Value → Led → Prop) (q1 : it = .ref I) (q2 : KTurns prog w A target I fp wr n P Md St) (q3 : n < 10000) (q4 : St 0 s₂.heap) (q5 : (∀ b ∈ fp, b < s₂.heap.objs.size)) (q6 : L ∉ fp) (q7 : (∀ b ∈ wr, h₀.get? b = none)) (q8 : (∀ i h, St i h → ∀ b ∈ wr, ∃ o, h.get? b = some o)) (q9 : Fr h₀ L s₂.heap m) (q10 : News h₀ L s₂.heap led) (q11 : (∀ p ∈ led, p.1 ∉ wr)) (q12 : J 0 [] led) (q13 : (∀ i (s : Shared) (Q : Value → Shared → Prop) (E : Value → Shared → Prop), St i s.heap → Q (.ref I) s → wpAny (model prog w) A (pyIter (.ref I)) Q E s)) (q14 : (∀ i v C (s : Shared) (Q : Unit → Shared → Prop) (E : Value → Shared → Prop) mC, P i v s.heap → s.heap.Ns C mC → (∀ h' tk mC', h'.Ns C mC' → Bd i mC' → (∀ c o, c ≠ C → s.heap.get? c = some o → h'.get? c = some o) → Q () { s with heap := h', toks := tk }) → wpAny (model prog w) A (assign target (compEnvC scope cl C env) v) Q E s)) (q15 : CTurn prog w A h₀ L m env elt ifs scope cl fp wr n Bd J s₂) (q16 : ∀ D h tk ys led', Fr h₀ L h (mf D) → News h₀ L h ((D, lst ys) :: led') → (∀ p ∈ led', p.1 ≠ D) → J n ys led' → Q (.ref D) { s₂ with heap := h, toks := tk }) : CompAt prog w A h₀ L m env target elt ifs scope cl mf Q it s₂
section
variable {prog : Program} {w : World} {A : Around} {E : Value → Shared → Prop} {s : Shared} {h₀ : Heap} {L : Addr} {m : Str → Option Value} {env : Env} {target elt iter : Expr} {ifs : List Expr} {scope : Scope} {cl : List (Str × Addr)} {pos : Pos}
theorem comp_expr {Q : Value → Shared → Prop} (F₀ : Fr h₀ L s.heap m) (hclos : closureFor scope env = pure cl) (hcell : ∀ y ∈ scope.names, y.2 ≠ .cell) (hkind : scope.kind = .function)
    (hnames : ∀ y ∈ scope.names, y.2 = .local → scope.names.lookup y.1 = some .local)
    (h : wpAny (model prog w) A (eval iter env) (fun xv s₁ => wpAny (model prog w) A (pyIter xv) (fun it s₂ => CompAt prog w A h₀ L m env target elt ifs scope cl (fun _ => m) Q it s₂) E s₁) E s)
    (hs : ∀ x, foldedSetIterable iter env x = pure x) :
    wpAny (model prog w) A (eval (.ListComp elt [⟨target, iter, ifs, 0⟩] scope pos) env) Q E s := by
  rw [eval_ListComp]
  refine wpAny_comprehension_free (use := none) rfl hs hclos hkind hnames (wpAny_mono h (fun xv s₁ h₁ => wpAny_mono h₁ (fun it s₂ h₂ => ?_) fun _ _ e => e) fun _ _ e => e)
  obtain ⟨I, fp, wr, n, P, Md, St, led, Bd, J, rfl, W, hn, hst, hfp, hLf, hwr, hex, F, N, off, h0, hself, hasg, turn, fin⟩ := h₂
  refine comp_block Bd J W hn hcell hkind hst hfp hLf hwr hex F N off h0 hself hasg turn ?_
  intro D C h tk m' ys led' F' N' oD hns hC₀ hD₀ hCL hDL hCD oC hJ
  refine ⟨m', hns, fun h'' hs'' => fin D h'' tk ys led' (F'.change hs'' hCL hC₀) (fun p hp => ?_) oD hJ⟩
  refine ⟨hs''.extBut _ _ ?_ (N' p hp).1, (N' p hp).2⟩
  rcases List.mem_cons.mp hp with rfl | hp
  · exact Ne.symm hCD
  · exact oC p hp
theorem comp_assign {y : Str} {py : Pos} {spos : Pos} {Q : Flow → Shared → Prop} (F₀ : Fr h₀ L s.heap m) (hLe : env.locals = L)
    (hsw : swapsWith (.ListComp elt [⟨target, iter, ifs, 0⟩] scope pos) (some (.Name y py)) spos.line env = pure true)
    (hclos : closureFor scope env = pure cl) (hcell : ∀ y ∈ scope.names, y.2 ≠ .cell) (hkind : scope.kind = .function)
    (hnames : ∀ y ∈ scope.names, y.2 = .local → scope.names.lookup y.1 = some .local)
    (hy : env.kindOf y = some .local) (hp : (env.scope.kind == .class || (env.scope.kind == .module && env.locals != env.globals)) = false)
    (h : wpAny (model prog w) A (eval iter env) (fun xv s₁ => wpAny (model prog w) A (pyIter xv) (fun it s₂ => CompAt prog w A h₀ L m env target elt ifs scope cl (fun D z => if z = y then some (.ref D) else m z) (fun _ => Q .next) it s₂) E s₁) E s)
    (hs : ∀ x, foldedSetIterable iter env x = pure x) :
    wpAny (model prog w) A (exec (.Assign [.Name y py] (.ListComp elt [⟨target, iter, ifs, 0⟩] scope pos) spos) env) Q E s := by
  subst hLe
  rw [exec_Assign_Name_used _ _ _ _ hsw]
  refine wpAny_bind (wpAny_standAt (wpAny_bind ?_))
  show wpAny _ A (do let _ ← comprehension (.ListComp elt [⟨target, iter, ifs, 0⟩] scope pos) scope env _ (newList []) false (eval iter env) (some (assign (.Name y py) env))) _ _ s
  refine wpAny_bind (wpAny_mono (wpAny_comprehension_free (use := some (assign (.Name y py) env)) (Q := fun _ s' => Q .next s') rfl hs hclos hkind hnames
    (wpAny_mono h (fun xv s₁ h₁ => wpAny_mono h₁ (fun it s₂ h₂ => ?_) fun _ _ e => e) fun _ _ e => e)) (fun _ s' hq => wpAny_pure (wpAny_pure hq)) fun _ _ e => e)
  obtain ⟨I, fp, wr, n, P, Md, St, led, Bd, J, rfl, W, hn, hst, hfp, hLf, hwr, hex, F, N, off, h0, hself, hasg, turn, fin⟩ := h₂
  refine comp_block Bd J W hn hcell hkind hst hfp hLf hwr hex F N off h0 hself hasg turn ?_
  intro D C h tk m' ys led' F' N' oD hns hC₀ hD₀ hCL hDL hCD oC hJ
  show wpAny _ A (assign (.Name y py) env (.ref D)) _ _ _
  refine wpAny_assign_Name (wpAny_storeName_local hy F'.ns (fun h₂ hn₂ hs₂ => ?_) hp)
  have hL₀ : h₀.get? env.locals = none := Heap.get?_none_of_le F'.above
  have F₂ : Fr h₀ env.locals h₂ (fun z => if z = y then some (.ref D) else m z) := ⟨hn₂, fun b o e => hs₂.extBut b o (fun q => by rw [q, hL₀] at e; cases e) (F'.keep b o e), F'.above⟩
  refine ⟨m', hns.sameBut hs₂ hCL, fun h'' hs'' => fin D h'' _ ys led' (F₂.change hs'' hCL hC₀) (fun p hp => ?_) oD hJ⟩
  have z : h₂.get? p.1 = some p.2 := hs₂.extBut _ _ (N' p hp).2.1 (N' p hp).1
  refine ⟨hs''.extBut _ _ ?_ z, (N' p hp).2⟩
  rcases List.mem_cons.mp hp with rfl | hp
  · exact Ne.symm hCD
  · exact oC p hp
end
end Mine
end

-- E03
section
open PySem PySem.W PyProof.Rows PySem.Spec PySem.Calls PyProof.Rows.LCg
set_option linter.all false
set_option maxRecDepth 100000
namespace Mine
section
variable {prog : Program} {w : World} {A : Around} {E : Value → Shared → Prop} {s : Shared} {h₀ : Heap} {L : Addr} {m : Str → Option Value} {env : Env} {elt : Expr} {ifs : List Expr} {scope : Scope} {cl : List (Str × Addr)} {mf : Addr → Str → Option Value} {Q : Value → Shared → Prop} {led : Led}
theorem nexts (F : Fr h₀ L s.heap m) (b : Nat) (h : s.heap.objs.size ≤ b) : h₀.get? b = none := by
  cases e : h₀.get? b with
  | none => rfl
  | some o' => exact absurd (Heap.lt_size (F.keep b o' e)) (Nat.not_lt.mpr h)
theorem src_enum {l k : Nat} {vs : List Value} {a b : Str} {pa pb tp : Pos} {kk : Nat} (J : Nat → List Value → Led → Prop) (hh : A.handled = none) (F : Fr h₀ L s.heap m) (N : News h₀ L s.heap led) (hm : (l, listOf vs.toArray k) ∈ led) (hz : vs.length < 10000)
    (ha : scope.names.lookup a = some .local) (hb : scope.names.lookup b = some .local) (hab : ¬ a = b) (hkind : scope.kind = .function) (h0 : J 0 [] led)
    (turn : ∀ s₂ : Shared, (∃ h tk, s₂ = { s with heap := h, toks := tk }) → ∀ fp wr : List Addr, (∀ x ∈ fp, x = l ∨ s.heap.objs.size ≤ x) → CTurn prog w A h₀ L m env elt ifs scope cl fp wr vs.length (fun i mC => ∃ t v, vs[i]? = some v ∧ mC a = some (.int i t) ∧ mC b = some v) J s₂)
    (fin : ∀ D h tk ys led', Fr h₀ L h (mf D) → News h₀ L h ((D, lst ys) :: led') → (∀ p ∈ led', p.1 ≠ D) → J vs.length ys led' → Q (.ref D) { s with heap := h, toks := tk }) :
    wpAny (model prog w) A (call (.type "enumerate") [.ref l]) (fun xv s₁ => wpAny (model prog w) A (pyIter xv) (fun it s₂ => CompAt prog w A h₀ L m env (.Tuple [.Name a pa, .Name b pb] kk tp) elt ifs scope cl mf Q it s₂) E s₁) E s := by
  have hl : s.heap.IsList l vs.toArray := News.isList N hm
  have hlt : l < s.heap.objs.size := Heap.lt_size (N _ hm).1
  refine call_enumerate_list hl fun h' hE hI hsz hk => ?_
  refine wpAny_pyIter_enum hE ?_
  have W0 := (WalksT.enumerate (prog := prog) (w := w) (A := A) hh (s.heap.objs.size + 1) s.heap.objs.size l (Nat.succ_ne_self _) (Nat.ne_of_lt (Nat.lt_succ_of_lt hlt)) (Nat.ne_of_lt hlt) vs.toArray).toU
  rw [List.size_toArray] at W0
  have W := KTurns.ofWalksU (elts := [.Name a pa, .Name b pb]) (k := kk) (pos := tp) W0
  refine ⟨s.heap.objs.size + 1, [s.heap.objs.size + 1, s.heap.objs.size, l], [s.heap.objs.size + 1, s.heap.objs.size], vs.length, _, _, _, led, _, J, rfl, W, hz, ⟨⟨_, hE⟩, hI, hl.at fun o e => hk _ _ e⟩, ?_, ?_, ?_, (fun i h st b hb => by
    (refine xAA st fun zn1 hi _ => ?_; clear st; obtain ⟨old, he⟩ := zn1)
    simp only [List.mem_cons, List.not_mem_nil, or_false] at hb
    rcases hb with rfl | rfl
    · exact ⟨_, he⟩
    · (refine xEA hi fun o ho _ => ?_; clear hi); exact ⟨o, ho⟩), F.keeps hk, N.grown hk, ?_, h0, ?_, ?_,
    turn { s with heap := h' } ⟨_, _, rfl⟩ [s.heap.objs.size + 1, s.heap.objs.size, l] [s.heap.objs.size + 1, s.heap.objs.size] ?_, fun D h tk ys led' F' N' o hJ => fin D h tk ys led' F' N' o hJ⟩
  · intro b hb
    show b < h'.objs.size
    rw [hsz]
    simp only [List.mem_cons, List.not_mem_nil, or_false] at hb
    rcases hb with rfl | rfl | rfl
    · exact Nat.lt_succ_self _
    · exact Nat.lt_succ_of_lt (Nat.lt_succ_self _)
    · exact Nat.lt_succ_of_lt (Nat.lt_succ_of_lt hlt)
  · have := F.ns.lt
    simp only [List.mem_cons, List.not_mem_nil, or_false, not_or]
    refine ⟨Nat.ne_of_lt (Nat.lt_succ_of_lt this), Nat.ne_of_lt this, fun q => (N _ hm).2.1 q.symm⟩
  · intro b hb
    simp only [List.mem_cons, List.not_mem_nil, or_false] at hb
    rcases hb with rfl | rfl
    · exact nexts F _ (Nat.le_succ _)
    · exact nexts F _ (Nat.le_refl _)
  · intro p hp
    have := Heap.lt_size (N p hp).1
    simp only [List.mem_cons, List.not_mem_nil, or_false, not_or]
    exact ⟨Nat.ne_of_lt (Nat.lt_succ_of_lt this), Nat.ne_of_lt this⟩
  · intro i s' Q' E' st hQ
    (refine xAA st fun zn2 _ _ => ?_; clear st; obtain ⟨old, he⟩ := zn2)
    exact wpAny_pyIter_enum he hQ
  · intro i v C s' Q' E' mC hP hn hQ
    (refine xEEAA hP fun T vals zr3 zn4 hT => ?_; clear hP; subst zr3; obtain ⟨t, x, hx, rfl⟩ := zn4)
    refine kcp_assign (env := compEnvC scope cl C env) hh hT (lookup_relabel_local ha) (lookup_relabel_local hb) (by simp [compEnvC, relabel, hkind]) hn fun h₂ tk₂ hn₂ hk₂ => hQ h₂ tk₂ _ hn₂ ⟨t, x, by simpa using hx, ?_, ?_⟩ hk₂
    · simp [hab]
    · simp
  · intro x hx
    simp only [List.mem_cons, List.not_mem_nil, or_false] at hx
    rcases hx with rfl | rfl | rfl
    · exact .inr (Nat.le_succ _)
    · exact .inr (Nat.le_refl _)
    · exact .inl rfl
theorem src_list {l k : Nat} {vs : List Value} {a : Str} {pa : Pos} (J : Nat → List Value → Led → Prop) (hh : A.handled = none) (F : Fr h₀ L s.heap m) (N : News h₀ L s.heap led) (hm : (l, listOf vs.toArray k) ∈ led) (hz : vs.length < 10000)
    (ha : scope.names.lookup a = some .local) (hkind : scope.kind = .function) (h0 : J 0 [] led)
    (turn : ∀ s₂ : Shared, (∃ h tk, s₂ = { s with heap := h, toks := tk }) → ∀ fp wr : List Addr, (∀ x ∈ fp, x = l ∨ x ∈ wr) → CTurn prog w A h₀ L m env elt ifs scope cl fp wr vs.length (fun i mC => ∃ v, vs[i]? = some v ∧ mC a = some v) J s₂)
    (fin : ∀ D h tk ys led', Fr h₀ L h (mf D) → News h₀ L h ((D, lst ys) :: led') → (∀ p ∈ led', p.1 ≠ D) → J vs.length ys led' → Q (.ref D) { s with heap := h, toks := tk }) :
    wpAny (model prog w) A (pyIter (.ref l)) (fun it s₂ => CompAt prog w A h₀ L m env (.Name a pa) elt ifs scope cl mf Q it s₂) E s := by
  have hl : s.heap.IsList l vs.toArray := News.isList N hm
  have hlt : l < s.heap.objs.size := Heap.lt_size (N _ hm).1
  refine wpAny_pyIter_list hl ?_
  have up : ∀ b o, s.heap.get? b = some o → (s.heap.push { cls := .type "list_iterator", data := .fields #[.ref l, .int 0 0] }).get? b = some o := fun b o e => Heap.get?_push_of_some _ e
  have W0 := Walks.list (prog := prog) (w := w) (A := A) hh s.heap.objs.size l (Nat.ne_of_lt hlt) vs.toArray
  rw [List.size_toArray] at W0
  have W := KTurns.ofWalks (target := .Name a pa) W0 (fun i v s' Q' E' _ q => wpAny_pure q)
  refine ⟨s.heap.objs.size, [s.heap.objs.size, l], [s.heap.objs.size], vs.length, _, _, _, led, _, J, rfl, W, hz, ⟨⟨_, Heap.get?_push_size _ rfl, rfl, rfl⟩, hl.push _⟩, ?_, ?_, ?_, (fun i h st b hb => by
    obtain rfl := List.mem_singleton.mp hb
    (refine xA st fun zn5 _ => ?_; clear st; obtain ⟨o, ho, _⟩ := zn5); exact ⟨o, ho⟩), F.keeps up, N.grown up, ?_, h0, ?_, ?_,
    turn { s with heap := _ } ⟨_, _, rfl⟩ [s.heap.objs.size, l] [s.heap.objs.size] ?_, fun D h tk ys led' F' N' o hJ => fin D h tk ys led' F' N' o hJ⟩
  · intro b hb
    show b < (s.heap.push _).objs.size
    rw [Heap.size_push]
    simp only [List.mem_cons, List.not_mem_nil, or_false] at hb
    rcases hb with rfl | rfl
    · exact Nat.lt_succ_self _
    · exact Nat.lt_succ_of_lt hlt
  · have := F.ns.lt
    simp only [List.mem_cons, List.not_mem_nil, or_false, not_or]
    exact ⟨Nat.ne_of_lt this, fun q => (N _ hm).2.1 q.symm⟩
  · intro b hb
    obtain rfl := List.mem_singleton.mp hb
    exact nexts F _ (Nat.le_refl _)
  · intro p hp
    have := Heap.lt_size (N p hp).1
    simpa using Nat.ne_of_lt this
  · intro i s' Q' E' st hQ
    exact wpAny_pyIter_listiter st.1 hQ
  · intro i v C s' Q' E' mC hP hn hQ
    exact wpAny_assign_Name (wpAny_storeName_local (lookup_relabel_local ha) hn (fun h₃ hn₃ hs₃ => hQ h₃ _ _ hn₃ ⟨v, by simpa using hP, by simp⟩ fun c o hc e => hs₃.extBut c o hc e) (by simp [compEnvC, relabel, hkind]))
  · intro x hx
    simp only [List.mem_cons, List.not_mem_nil, or_false] at hx
    rcases hx with rfl | rfl
    · exact .inr (.head _)
    · exact .inl rfl
theorem src_dict {d n : Nat} {xs : List KX} {a : Str} {pa : Pos} (J : Nat → List Value → Led → Prop) (hh : A.handled = none) (F : Fr h₀ L s.heap m) (N : News h₀ L s.heap led) (hm : (d, kdict w xs n) ∈ led) (lo : (d == sysModules) = false) (hz : xs.length < 10000)
    (ha : scope.names.lookup a = some .local) (hkind : scope.kind = .function) (h0 : J 0 [] led)
    (turn : ∀ s₂ : Shared, (∃ h tk, s₂ = { s with heap := h, toks := tk }) → ∀ fp wr : List Addr, (∀ x ∈ fp, x = d ∨ s.heap.objs.size ≤ x) → CTurn prog w A h₀ L m env elt ifs scope cl fp wr xs.length (fun i mC => ∃ x, xs[i]? = some x ∧ mC a = some x.2.1) J s₂)
    (fin : ∀ D h tk ys led', Fr h₀ L h (mf D) → News h₀ L h ((D, lst ys) :: led') → (∀ p ∈ led', p.1 ≠ D) → J xs.length ys led' → Q (.ref D) { s with heap := h, toks := tk }) :
    wpAny (model prog w) A (pyIter (.ref d)) (fun it s₂ => CompAt prog w A h₀ L m env (.Name a pa) elt ifs scope cl mf Q it s₂) E s := by
  have hd := (N _ hm).1
  have hlt : d < s.heap.objs.size := Heap.lt_size hd
  refine iter_kdict lo hd ?_
  have up : ∀ b o, s.heap.get? b = some o → (s.heap.push (keyIter d 0 xs.length n)).get? b = some o := fun b o e => Heap.get?_push_of_some _ e
  refine ⟨s.heap.objs.size, [s.heap.objs.size, d], [s.heap.objs.size], xs.length, _, _, _, led, _, J, rfl,
    KTurns.ofWalks (walks_kdict hh s.heap.objs.size d (Nat.ne_of_lt hlt) xs n) (fun i v s' Q' E' _ q => wpAny_pure q), hz, ⟨⟨_, Heap.get?_push_size _ rfl, rfl, rfl⟩, Heap.get?_push_of_some _ hd⟩, ?_, ?_, ?_, (fun i h st b hb => by
    obtain rfl := List.mem_singleton.mp hb
    (refine xA st fun zn6 _ => ?_; clear st; obtain ⟨o, ho, _⟩ := zn6); exact ⟨o, ho⟩), F.keeps up, N.grown up, ?_, h0, ?_, ?_,
    turn { s with heap := _ } ⟨_, _, rfl⟩ [s.heap.objs.size, d] [s.heap.objs.size] ?_, fun D h tk ys led' F' N' o hJ => fin D h tk ys led' F' N' o hJ⟩
  · intro b hb
    show b < (s.heap.push _).objs.size
    rw [Heap.size_push]
    simp only [List.mem_cons, List.not_mem_nil, or_false] at hb
    rcases hb with rfl | rfl
    · exact Nat.lt_succ_self _
    · exact Nat.lt_succ_of_lt hlt
  · have := F.ns.lt
    simp only [List.mem_cons, List.not_mem_nil, or_false, not_or]
    exact ⟨Nat.ne_of_lt this, fun q => (N _ hm).2.1 q.symm⟩
  · intro b hb
    obtain rfl := List.mem_singleton.mp hb
    exact nexts F _ (Nat.le_refl _)
  · intro p hp
    have := Heap.lt_size (N p hp).1
    simpa using Nat.ne_of_lt this
  · intro i s' Q' E' st hQ
    exact wpAny_pyIter_keyiter st.1 hQ
  · intro i v C s' Q' E' mC hP hn hQ
    (refine xEA hP fun x hx zr7 => ?_; clear hP; subst zr7)
    exact wpAny_assign_Name (wpAny_storeName_local (lookup_relabel_local ha) hn (fun h₃ hn₃ hs₃ => hQ h₃ _ _ hn₃ ⟨x, hx, by simp⟩ fun c o hc e => hs₃.extBut c o hc e) (by simp [compEnvC, relabel, hkind]))
  · intro x hx
    simp only [List.mem_cons, List.not_mem_nil, or_false] at hx
    rcases hx with rfl | rfl
    · exact .inr (Nat.le_refl _)
    · exact .inl rfl
end
end Mine
end

-- E04
section
open PySem PySem.W PyProof.Rows PySem.Spec PySem.Calls PyProof.Rows.LCg
set_option linter.all false
set_option maxRecDepth 100000
namespace Mine
/-- a turn's end that leaves the ledger as it was -/
inductive PEnd (h₀ : Heap) (L : Addr) (m : Str → Option Value) (led : Led) (Kn : Prop) (s₁ s' : Shared) : Prop
  | mk (h' : Heap) (tk : Nat) (q1 : s' = { s₁ with heap := h', toks := tk }) (q2 : Fr h₀ L h' m) (q3 : News h₀ L h' led) (q4 : Kn) : PEnd h₀ L m led Kn s₁ s'
noncomputable abbrev PTurn (prog : Program) (w : World) (A : Around) (h₀ : Heap) (L : Addr) (m : Str → Option Value) (env : Env) (elt : Expr) (ifs : List Expr) (scope : Scope) (cl : List (Str × Addr)) (n : Nat) (Bd : Nat → (Str → Option Value) → Prop) (led : Led) (K : Nat → List Value → Prop) (s : Shared) : Prop :=
  ∀ i ys h₁ tk₁ (own : Led) (C : Nat) oC (D : Nat) mC (E' : Value → Shared → Prop), i < n → Bd i mC → K i ys → NsObj oC mC → C ≠ D → Fr h₀ L h₁ m → News h₀ L h₁ ((C, oC) :: (D, lst ys) :: (led ++ own)) →
    wpAny (model prog w) A (testsOf ifs (compEnvC scope cl C env)) (fun ok s₃ => if ok = true then wpAny (model prog w) A (eval elt (compEnvC scope cl C env)) (fun y s₄ => PEnd h₀ L m ((C, oC) :: (D, lst ys) :: (led ++ own)) (K (i + 1) (ys ++ [y])) { s with heap := h₁, toks := tk₁ } s₄) E' s₃
      else PEnd h₀ L m ((C, oC) :: (D, lst ys) :: (led ++ own)) (K (i + 1) ys) { s with heap := h₁, toks := tk₁ } s₃) E' { s with heap := h₁, toks := tk₁ }
section
variable {prog : Program} {w : World} {A : Around} {E : Value → Shared → Prop} {s : Shared} {h₀ : Heap} {L : Addr} {m : Str → Option Value} {env : Env} {elt : Expr} {ifs : List Expr} {scope : Scope} {cl : List (Str × Addr)} {mf : Addr → Str → Option Value} {Q : Value → Shared → Prop} {led : Led}
theorem pturn {fp wr : List Addr} {n : Nat} {Bd : Nat → (Str → Option Value) → Prop} {K : Nat → List Value → Prop} (T : PTurn prog w A h₀ L m env elt ifs scope cl n Bd led K s) {s₂ : Shared} (h : ∃ h tk, s₂ = { s with heap := h, toks := tk }) :
    CTurn prog w A h₀ L m env elt ifs scope cl fp wr n Bd (fun i ys X => K i ys ∧ X = led) s₂ := by
  (revert h; intro zo; refine xEE zo fun h tk zr1 => ?_; clear zo; subst zr1)
  rintro i ys led₁ h₁ tk₁ own C oC D mC E' hi hB ⟨hK, rfl⟩ hoC hown hex off hC hD hCD F₁ N₁
  have N₂ : News h₀ L h₁ ((C, oC) :: (D, lst ys) :: (led₁ ++ own)) := fun p hp => by
    refine N₁ p ?_
    simp only [List.mem_cons, List.mem_append] at hp ⊢
    rcases hp with h | h | h | h <;> simp [h]
  have back : ∀ (ys' : List Value) (s' : Shared), PEnd h₀ L m ((C, oC) :: (D, lst ys) :: (led₁ ++ own)) (K (i + 1) ys') { s with heap := h₁, toks := tk₁ } s' → CEnd h₀ L m wr own C oC D ys (fun X => K (i + 1) ys' ∧ X = led₁) { s with heap := h₁, toks := tk₁ } s' := by
    rintro ys' s' ⟨h', tk', e, F', N', k⟩
    refine ⟨h', tk', led₁, e, F', fun p hp => ?_, off, k, rfl⟩
    refine N' p ?_
    simp only [List.mem_cons, List.mem_append] at hp ⊢
    rcases hp with h | h | h | h <;> simp [h]
  refine wpAny_mono (T i ys h₁ tk₁ own C oC D mC E' hi hB hK hoC hCD F₁ N₂) (fun ok s₃ h₃ => ?_) fun _ _ e => e
  cases ok with
  | false => simp only [Bool.false_eq_true, if_false] at h₃ ⊢; exact back _ _ h₃
  | true => simp only [if_true] at h₃ ⊢; exact wpAny_mono h₃ (fun y s₄ h₄ => back _ _ h₄) fun _ _ e => e
theorem psrc_enum {l k : Nat} {vs : List Value} {a b : Str} {pa pb tp : Pos} {kk : Nat} (K : Nat → List Value → Prop) (hh : A.handled = none) (F : Fr h₀ L s.heap m) (N : News h₀ L s.heap led) (hm : (l, listOf vs.toArray k) ∈ led) (hz : vs.length < 10000)
    (ha : scope.names.lookup a = some .local) (hb : scope.names.lookup b = some .local) (hab : ¬ a = b) (hkind : scope.kind = .function) (h0 : K 0 [])
    (turn : PTurn prog w A h₀ L m env elt ifs scope cl vs.length (fun i mC => ∃ t v, vs[i]? = some v ∧ mC a = some (.int i t) ∧ mC b = some v) led K s)
    (fin : ∀ (D : Nat) h tk ys, Fr h₀ L h (mf D) → News h₀ L h ((D, lst ys) :: led) → (∀ p ∈ led, p.1 ≠ D) → K vs.length ys → Q (.ref D) { s with heap := h, toks := tk }) :
    wpAny (model prog w) A (call (.type "enumerate") [.ref l]) (fun xv s₁ => wpAny (model prog w) A (pyIter xv) (fun it s₂ => CompAt prog w A h₀ L m env (.Tuple [.Name a pa, .Name b pb] kk tp) elt ifs scope cl mf Q it s₂) E s₁) E s :=
  src_enum (fun i ys X => K i ys ∧ X = led) hh F N hm hz ha hb hab hkind ⟨h0, rfl⟩ (fun s₂ h fp wr _ => pturn turn h) fun D h tk ys led' F' N' o hJ => by (refine xA hJ fun hK zr2 => ?_; clear hJ; subst zr2); exact fin D h tk ys F' N' o hK
theorem psrc_list {l k : Nat} {vs : List Value} {a : Str} {pa : Pos} (K : Nat → List Value → Prop) (hh : A.handled = none) (F : Fr h₀ L s.heap m) (N : News h₀ L s.heap led) (hm : (l, listOf vs.toArray k) ∈ led) (hz : vs.length < 10000)
    (ha : scope.names.lookup a = some .local) (hkind : scope.kind = .function) (h0 : K 0 [])
    (turn : PTurn prog w A h₀ L m env elt ifs scope cl vs.length (fun i mC => ∃ v, vs[i]? = some v ∧ mC a = some v) led K s)
    (fin : ∀ (D : Nat) h tk ys, Fr h₀ L h (mf D) → News h₀ L h ((D, lst ys) :: led) → (∀ p ∈ led, p.1 ≠ D) → K vs.length ys → Q (.ref D) { s with heap := h, toks := tk }) :
    wpAny (model prog w) A (pyIter (.ref l)) (fun it s₂ => CompAt prog w A h₀ L m env (.Name a pa) elt ifs scope cl mf Q it s₂) E s :=
  src_list (fun i ys X => K i ys ∧ X = led) hh F N hm hz ha hkind ⟨h0, rfl⟩ (fun s₂ h fp wr _ => pturn turn h) fun D h tk ys led' F' N' o hJ => by (refine xA hJ fun hK zr3 => ?_; clear hJ; subst zr3); exact fin D h tk ys F' N' o hK
theorem psrc_dict {d n : Nat} {xs : List KX} {a : Str} {pa : Pos} (K : Nat → List Value → Prop) (hh : A.handled = none) (F : Fr h₀ L s.heap m) (N : News h₀ L s.heap led) (hm : (d, kdict w xs n) ∈ led) (lo : (d == sysModules) = false) (hz : xs.length < 10000)
    (ha : scope.names.lookup a = some .local) (hkind : scope.kind = .function) (h0 : K 0 [])
    (turn : PTurn prog w A h₀ L m env elt ifs scope cl xs.length (fun i mC => ∃ x, xs[i]? = some x ∧ mC a = some x.2.1) led K s)
    (fin : ∀ (D : Nat) h tk ys, Fr h₀ L h (mf D) → News h₀ L h ((D, lst ys) :: led) → (∀ p ∈ led, p.1 ≠ D) → K xs.length ys → Q (.ref D) { s with heap := h, toks := tk }) :
    wpAny (model prog w) A (pyIter (.ref d)) (fun it s₂ => CompAt prog w A h₀ L m env (.Name a pa) elt ifs scope cl mf Q it s₂) E s :=
  src_dict (fun i ys X => K i ys ∧ X = led) hh F N hm lo hz ha hkind ⟨h0, rfl⟩ (fun s₂ h fp wr _ => pturn turn h) fun D h tk ys led' F' N' o hJ => by (refine xA hJ fun hK zr4 => ?_; clear hJ; subst zr4); exact fin D h tk ys F' N' o hK
theorem kget_at {xs : List KX} {i : Nat} {x : KX} (hn : KNd xs) (h : xs[i]? = some x) : kget x.1 xs = some x.2.2 := by
  rw [kget_of_idx, kidx_some hn h rfl]
  simp [h]
theorem take_map_succ {α β : Type} (f : α → β) {xs : List α} {i : Nat} {x : α} (h : xs[i]? = some x) : (xs.take (i + 1)).map f = (xs.take i).map f ++ [f x] := by
  rw [List.take_add_one, h]; simp
end
end Mine
end

-- B6
section
open PySem PySem.W PyProof.Rows PySem.Spec PySem.Calls
set_option linter.all false
set_option maxRecDepth 100000
namespace Mine
/-- v is a Thing of the ledger; it leads to the body at o, or nowhere -/
inductive Den (led : Led) : Value → Option Addr → Prop
  | leaf {x dx : Nat} {h1 h2 h3 h4 : Int} {t1 t2 t3 t4 : Tok} {kd : Str} {tk : Tok} {vv ex ac : Value} (m1 : (x, instObj 72 dx) ∈ led) (m2 : (dx, thingD h1 h2 h3 h4 t1 t2 t3 t4 (.str kd tk) vv ex ac) ∈ led)
    (hk : kd = Str.ofString "null" ∨ kd = Str.ofString "integer" ∨ kd = Str.ofString "name") : Den led (.ref x) none
  | dict {x dx b : Nat} {h1 h2 h3 h4 : Int} {t1 t2 t3 t4 : Tok} {tk : Tok} {ex ac : Value} (m1 : (x, instObj 72 dx) ∈ led) (m2 : (dx, thingD h1 h2 h3 h4 t1 t2 t3 t4 (.str (Str.ofString "dict") tk) (.ref b) ex ac) ∈ led) : Den led (.ref x) (some b)
  | span {x dx b y dy : Nat} {h1 h2 h3 h4 : Int} {t1 t2 t3 t4 : Tok} {kd : Str} {tk : Tok} {ex ac : Value} {i1 i2 i3 : Int} {v1 v2 v3 : Tok} {st mn : Value} (m1 : (x, instObj 72 dx) ∈ led) (m2 : (dx, thingD h1 h2 h3 h4 t1 t2 t3 t4 (.str kd tk) (.ref y) ex ac) ∈ led)
    (m3 : (y, instObj 168 dy) ∈ led) (m4 : (dy, spanD i1 i2 i3 v1 v2 v3 (.ref b) st mn) ∈ led)
    (hk : kd = Str.ofString "array" ∨ kd = Str.ofString "packed" ∨ kd = Str.ofString "string") : Den led (.ref x) (some b)
theorem Den.mono {led led' : Led} {v : Value} {o : Option Addr} (h : Den led v o) (q : Sub led led') : Den led' v o := by
  cases h with
  | leaf m1 m2 hk => exact .leaf (q _ m1) (q _ m2) hk
  | dict m1 m2 => exact .dict (q _ m1) (q _ m2)
  | span m1 m2 m3 m4 hk => exact .span (q _ m1) (q _ m2) (q _ m3) (q _ m4) hk
noncomputable def optRef : Option Addr → Value
  | none => .none
  | some b => .ref b
end Mine
end

-- F01
section
open PySem PySem.W PyProof.Rows PySem.Spec PySem.Calls
set_option linter.all false
set_option maxRecDepth 100000
namespace Mine
/-! for loops over lists, told turn by turn -/
inductive LEndI (h₀ : Heap) (L : Addr) (own : Led) (wr : List Addr) (Jn : (Str → Option Value) → Led → Prop) (s s' : Shared) : Prop
  | mk (h' : Heap) (tk : Nat) (m₂ : Str → Option Value) (led₂ : Led) (q1 : s' = { s with heap := h', toks := tk }) (q2 : Fr h₀ L h' m₂) (q3 : News h₀ L h' (own ++ led₂)) (q4 : (∀ p ∈ led₂, p.1 ∉ wr)) (q5 : Jn m₂ led₂) : LEndI h₀ L own wr Jn s s'
noncomputable def LEnd (h₀ : Heap) (L : Addr) (own : Led) (wr : List Addr) (Jn : (Str → Option Value) → Led → Prop) (Q : Flow → Shared → Prop) (s : Shared) (f : Flow) (s' : Shared) : Prop :=
  match f with
  | .next | .cont => LEndI h₀ L own wr Jn s s'
  | .brk => Q .next s'
  | .ret v => Q (.ret v) s'
section
variable {prog : Program} {w : World} {A : Around} {E : Value → Shared → Prop} {s : Shared} {env : Env} {h₀ : Heap} {body : List Stmt} {Q : Flow → Shared → Prop}
theorem kindOf_fn (hk : env.scope.kind = .function) : (env.scope.kind == .class || (env.scope.kind == .module && env.locals != env.globals)) = false := by rw [hk]; rfl
theorem own_of {fp : List Addr} {own all : Led} {h : Heap} (hs : ∀ p ∈ own, p.1 ∈ fp) (hg : ∀ p ∈ own, h.get? p.1 = some p.2) (ha : ∀ b ∈ fp, ∃ o, (b, o) ∈ all ∧ h.get? b = some o) : Sub own all := fun p hp => by
  refine xEA (ha p.1 (hs p hp)) fun o ho hq => ?_
  have : p.2 = o := Option.some.inj ((hg p hp).symm.trans hq)
  rw [← this] at ho
  exact ho
inductive LsAt (prog : Program) (w : World) (A : Around) (E : Value → Shared → Prop) (s : Shared) (env : Env) (h₀ : Heap) (body : List Stmt) (Q : Flow → Shared → Prop) (target : Expr) (vs : List Value) (m : Str → Option Value) (J : Nat → (Str → Option Value) → Led → Prop) (xv : Value) (s₁ : Shared) : Prop
  | mk (l k : Nat) (led : Led) (h : Heap) (tk : Nat) (q1 : xv = .ref l) (q2 : s₁ = { s with heap := h, toks := tk }) (F : Fr h₀ env.locals h m) (N : News h₀ env.locals h led) (Nl : News h₀ env.locals h [(l, listOf vs.toArray k)]) (hz : vs.length < 10000) (h0 : J 0 m led)
      (step : ∀ i v m₁ led₁ h₁ tk₁ (I : Nat) oI, vs[i]? = some v → J i m₁ led₁ → (∀ p ∈ led₁, p.1 ∉ [I]) → (∀ p ∈ led, p.1 < I) → Fr h₀ env.locals h₁ m₁ → News h₀ env.locals h₁ ([(I, oI), (l, listOf vs.toArray k)] ++ led₁) →
        wpAny (model prog w) A (assign target env v) (fun _ s₂ => wpAny (model prog w) A (execs body env) (LEnd h₀ env.locals [(I, oI), (l, listOf vs.toArray k)] [I] (J (i + 1)) Q s) E s₂) E { s with heap := h₁, toks := tk₁ })
      (fin : ∀ h' tk' m' led', Fr h₀ env.locals h' m' → News h₀ env.locals h' led' → J vs.length m' led' → Q .next { s with heap := h', toks := tk' }) : LsAt prog w A E s env h₀ body Q target vs m J xv s₁
/-- the iterator over a list, with the list; any target -/
theorem for_lst {target : Expr} {pos : Pos} {iter : Expr} {vs : List Value} {m : Str → Option Value} (J : Nat → (Str → Option Value) → Led → Prop) (hh : A.handled = none) (F₀ : Fr h₀ env.locals s.heap m)
    (hlet : ∀ (I l : Addr) (i : Nat) v (s : Shared) (Q : Unit → Shared → Prop) (E : Value → Shared → Prop), s.heap.IsListIter I l i → Q () s → wpAny (model prog w) A (letOwnedTupleGo target (.ref I) v) Q E s)
    (h : wpAny (model prog w) A (eval iter env) (LsAt prog w A E s env h₀ body Q target vs m J) E s)
    (hs : ∀ x, foldedSetIterable iter env x = pure x) (hE : PassesOwn (model prog w) A env E) :
    wpAny (model prog w) A (exec (.For target iter body [] pos) env) Q E s := by
  refine For_turns (target := target) F₀ (wpAny_mono h (fun xv s₁ h₁ => ?_) fun _ _ e => e) hs hE
  obtain ⟨l, k, led, h, tk, rfl, rfl, F, N, Nl, hz, h0, step, fin⟩ := h₁
  have hl : h.IsList l vs.toArray := News.isList Nl (.head _)
  have hlt : l < h.objs.size := Heap.lt_size (Nl _ (.head _)).1
  have N1 : News h₀ env.locals h ((l, listOf vs.toArray k) :: led) := fun p hp => (List.mem_cons.mp hp).elim (fun e => e ▸ Nl _ (.head _)) (N p)
  refine wpAny_pyIter_list hl ?_
  have up : ∀ b o, h.get? b = some o → (h.push { cls := .type "list_iterator", data := .fields #[.ref l, .int 0 0] }).get? b = some o := fun b o e => Heap.get?_push_of_some _ e
  have W0 := Walks.list (prog := prog) (w := w) (A := A) hh h.objs.size l (Nat.ne_of_lt hlt) vs.toArray
  rw [List.size_toArray] at W0
  have W := KTurns.ofWalks (target := target) W0 (fun i v s' Q' E' st q => hlet _ _ _ v s' Q' E' st.1 q)
  have hI : h₀.get? h.objs.size = none := nexts (s := { s with heap := h, toks := tk }) F _ (Nat.le_refl _)
  refine ⟨h.objs.size, [h.objs.size, l], [h.objs.size], vs.length, _, _, _, m, (l, listOf vs.toArray k) :: led, (fun i m X => ∃ led₁, X = (l, listOf vs.toArray k) :: led₁ ∧ J i m led₁), rfl, W, ?_, ?_, ?_, ⟨⟨_, Heap.get?_push_size _ rfl, rfl, rfl⟩, hl.push _⟩, F.keeps up, N1.grown up, ⟨led, rfl, h0⟩, ?_, ?_⟩
  · have := F.ns.lt
    simp only [List.mem_cons, List.not_mem_nil, or_false, not_or]
    exact ⟨Nat.ne_of_lt this, fun q => (Nl _ (.head _)).2.1 q.symm⟩
  · intro b hb
    obtain rfl := List.mem_singleton.mp hb
    exact hI
  · intro p hp
    have := Heap.lt_size (N1 p hp).1
    simpa using Nat.ne_of_lt this
  · rintro i v m₁ X h₁ tk₁ own hi hP ⟨led₁, rfl, hJ⟩ hoff hsub hown hmem hst F₁ N₁
    have hv : vs[i]? = some v := by simpa using hP
    refine xEA (hst.1) fun oI heI _ => ?_
    have hIo : (h.objs.size, oI) ∈ own := hmem _ (by simp) hI _ heI
    have z := N₁ (l, listOf vs.toArray k) (List.mem_append_right _ (.head _))
    have hall : Sub own [(h.objs.size, oI), (l, listOf vs.toArray k)] := own_of hsub hown fun b hb => by
      simp only [List.mem_cons, List.not_mem_nil, or_false] at hb
      rcases hb with rfl | rfl
      · exact ⟨oI, .head _, heI⟩
      · exact ⟨_, .tail _ (.head _), z.1⟩
    have hn1 : ∀ p ∈ led₁, p.1 ∉ [h.objs.size] := fun p hp => hoff p (List.mem_cons_of_mem _ hp)
    refine wpAny_mono (step i v m₁ led₁ h₁ _ h.objs.size oI hv hJ hn1 (fun p hp => Heap.lt_size (N p hp).1) F₁ ?_) (fun _ s₂ h₂ => wpAny_mono h₂ (fun f s₃ h₃ => ?_) fun _ _ e => e) fun _ _ e => e
    · intro p hp
      rcases List.mem_cons.mp hp with rfl | hp
      · exact N₁ _ (List.mem_append_left _ hIo)
      · rcases List.mem_cons.mp hp with rfl | hp
        · exact z
        · exact N₁ _ (List.mem_append_right _ (List.mem_cons_of_mem _ hp))
    · have out : ∀ s' : Shared, LEndI h₀ env.locals [(h.objs.size, oI), (l, listOf vs.toArray k)] [h.objs.size] (J (i + 1)) s s' →
          LoopStepU h₀ env.locals [h.objs.size] own (fun m X => ∃ led₁, X = (l, listOf vs.toArray k) :: led₁ ∧ J (i + 1) m led₁) { s with heap := h₁, toks := tk₁ } .next s' := by
        rintro s' ⟨h', tk', m₂, led₂, rfl, F₂, N₂, o₂, J₂⟩
        refine ⟨rfl, h', tk', m₂, (l, listOf vs.toArray k) :: led₂, rfl, F₂, fun p hp => ?_, fun p hp => ?_, led₂, rfl, J₂⟩
        · rcases List.mem_append.mp hp with hp | hp
          · exact N₂ p (List.mem_append_left _ (hall p hp))
          · rcases List.mem_cons.mp hp with rfl | hp
            · exact N₂ _ (List.mem_append_left _ (.tail _ (.head _)))
            · exact N₂ p (List.mem_append_right _ hp)
        · rcases List.mem_cons.mp hp with rfl | hp
          · simpa using Nat.ne_of_lt hlt
          · exact o₂ p hp
      cases f with
      | next => exact .next (out _ h₃)
      | cont => exact .cont (out _ h₃)
      | brk => exact .brk h₃
      | ret v => exact .ret h₃
  · rintro h' tk' m' X F' N' _ ⟨led₁, rfl, hJ⟩
    exact fin h' tk' m' led₁ F' (fun p hp => N' p (List.mem_cons_of_mem _ hp)) hJ
inductive ListAt1 (prog : Program) (w : World) (A : Around) (E : Value → Shared → Prop) (s : Shared) (env : Env) (h₀ : Heap) (body : List Stmt) (Q : Flow → Shared → Prop) (x : Str) (vs : List Value) (m : Str → Option Value) (J : Nat → (Str → Option Value) → Led → Prop) (xv : Value) (s₁ : Shared) : Prop
  | mk (l : Nat) (k : Nat) (led : Led) (h : Heap) (tk : Nat) (q1 : xv = .ref l) (q2 : s₁ = { s with heap := h, toks := tk }) (q3 : Fr h₀ env.locals h m) (q4 : News h₀ env.locals h led) (q5 : News h₀ env.locals h [(l, listOf vs.toArray k)]) (q6 : vs.length < 10000) (q7 : J 0 m led) (q8 : (∀ i v m₁ led₁ h₁ tk₁ (I : Nat) oI, vs[i]? = some v → J i m₁ led₁ → (∀ p ∈ led₁, p.1 ∉ [I]) → (∀ p ∈ led, p.1 < I) → Fr h₀ env.locals h₁ (fun z => if z = x then some v else m₁ z) → News h₀ env.locals h₁ ([(I, oI), (l, listOf vs.toArray k)] ++ led₁) → wpAny (model prog w) A (execs body env) (LEnd h₀ env.locals [(I, oI), (l, listOf vs.toArray k)] [I] (J (i + 1)) Q s) E { s with heap := h₁, toks := tk₁ })) (q9 : (∀ h' tk' m' led', Fr h₀ env.locals h' m' → News h₀ env.locals h' led' → J vs.length m' led' → Q .next { s with heap := h', toks := tk' })) : ListAt1 prog w A E s env h₀ body Q x vs m J xv s₁
/-- over a list, one name -/
theorem for_list {x : Str} {px pos : Pos} {iter : Expr} {vs : List Value} {m : Str → Option Value} (J : Nat → (Str → Option Value) → Led → Prop) (hh : A.handled = none) (F₀ : Fr h₀ env.locals s.heap m) (hx : env.kindOf x = some .local) (hk : env.scope.kind = .function)
    (h : wpAny (model prog w) A (eval iter env) (ListAt1 prog w A E s env h₀ body Q x vs m J) E s)
    (hs : ∀ x, foldedSetIterable iter env x = pure x) (hE : PassesOwn (model prog w) A env E) :
    wpAny (model prog w) A (exec (.For (.Name x px) iter body [] pos) env) Q E s := by
  refine for_lst (vs := vs) J hh F₀ (fun _ _ _ _ _ _ _ _ q => wpAny_pure q) (wpAny_mono h (fun xv s₁ h₁ => ?_) fun _ _ e => e) hs hE
  obtain ⟨l, k, led, h, tk, e1, e2, F, N, Nl, hz, h0, step, fin⟩ := h₁
  refine ⟨l, k, led, h, tk, e1, e2, F, N, Nl, hz, h0, fun i v m₁ led₁ h₁ tk₁ I oI hv hJ hn1 hl F₁ N₁ => ?_, fin⟩
  refine wpAny_assign_Name (wpAny_storeName_local hx F₁.ns (fun h₂ hn₂ hs₂ => step i v m₁ led₁ h₂ _ I oI hv hJ hn1 hl (F₁.set hn₂ hs₂) (News.set N₁ hs₂)) (kindOf_fn hk))
/-- enumerate over a list, unpacked into two names -/
theorem for_enum {x y : Str} {px py tp pos : Pos} {kk : Nat} {iter : Expr} {vs : List Value} {m : Str → Option Value} (J : Nat → (Str → Option Value) → Led → Prop) (hh : A.handled = none) (F₀ : Fr h₀ env.locals s.heap m) (hx : env.kindOf x = some .local) (hy : env.kindOf y = some .local) (hk : env.scope.kind = .function)
    {l k : Nat} {led : Led} {h : Heap} {tk : Nat}
    (hev : ∀ Q' : Value → Shared → Prop, wpAny (model prog w) A (call (.type "enumerate") [.ref l]) Q' E { s with heap := h, toks := tk } → wpAny (model prog w) A (eval iter env) Q' E s)
    (F : Fr h₀ env.locals h m) (N : News h₀ env.locals h led) (hm : (l, listOf vs.toArray k) ∈ led) (hz : vs.length < 10000) (h0 : J 0 m led)
    (step : ∀ i v m₁ led₁ h₁ tk₁ t (I I' : Nat) oI oI', vs[i]? = some v → J i m₁ led₁ → (∀ p ∈ led₁, p.1 ∉ [I', I]) → (∀ p ∈ led, p.1 < I) → I < I' → Fr h₀ env.locals h₁ (fun z => if z = y then some v else if z = x then some (.int i t) else m₁ z) → News h₀ env.locals h₁ ([(I', oI'), (I, oI), (l, listOf vs.toArray k)] ++ led₁) →
        wpAny (model prog w) A (execs body env) (LEnd h₀ env.locals [(I', oI'), (I, oI), (l, listOf vs.toArray k)] [I', I] (J (i + 1)) Q s) E { s with heap := h₁, toks := tk₁ })
    (fin : ∀ h' tk' m' led', Fr h₀ env.locals h' m' → News h₀ env.locals h' led' → J vs.length m' led' → Q .next { s with heap := h', toks := tk' })
    (hs : ∀ x, foldedSetIterable iter env x = pure x) (hE : PassesOwn (model prog w) A env E) :
    wpAny (model prog w) A (exec (.For (.Tuple [.Name x px, .Name y py] kk tp) iter body [] pos) env) Q E s := by
  refine For_turns (target := .Tuple [.Name x px, .Name y py] kk tp) F₀ (hev _ ?_) hs hE
  have hl : h.IsList l vs.toArray := News.isList N hm
  have hlt : l < h.objs.size := Heap.lt_size (N _ hm).1
  refine call_enumerate_list hl fun h1 hE1 hI1 hsz hk1 => ?_
  refine wpAny_pyIter_enum hE1 ?_
  have W0 := (WalksT.enumerate (prog := prog) (w := w) (A := A) hh (h.objs.size + 1) h.objs.size l (Nat.succ_ne_self _) (Nat.ne_of_lt (Nat.lt_succ_of_lt hlt)) (Nat.ne_of_lt hlt) vs.toArray).toU
  rw [List.size_toArray] at W0
  have W := KTurns.ofWalksU (elts := [.Name x px, .Name y py]) (k := kk) (pos := tp) W0
  have hI : h₀.get? h.objs.size = none := nexts (s := { s with heap := h, toks := tk }) F _ (Nat.le_refl _)
  have hI' : h₀.get? (h.objs.size + 1) = none := nexts (s := { s with heap := h, toks := tk }) F _ (Nat.le_succ _)
  refine ⟨h.objs.size + 1, [h.objs.size + 1, h.objs.size, l], [h.objs.size + 1, h.objs.size], vs.length, _, _, _, m, (l, listOf vs.toArray k) :: led, (fun i m X => ∃ led₁, X = (l, listOf vs.toArray k) :: led₁ ∧ J i m led₁), rfl, W, ?_, ?_, ?_, ⟨⟨_, hE1⟩, hI1, hl.at fun o e => hk1 _ _ e⟩, F.keeps hk1, news_sub (N.grown hk1) (Sub.cons hm Sub.refl), ⟨led, rfl, h0⟩, ?_, ?_⟩
  · have := F.ns.lt
    simp only [List.mem_cons, List.not_mem_nil, or_false, not_or]
    exact ⟨Nat.ne_of_lt (Nat.lt_succ_of_lt this), Nat.ne_of_lt this, fun q => (N _ hm).2.1 q.symm⟩
  · intro b hb
    simp only [List.mem_cons, List.not_mem_nil, or_false] at hb
    rcases hb with rfl | rfl
    · exact hI'
    · exact hI
  · intro p hp
    have := Heap.lt_size (N p ((Sub.cons hm Sub.refl) p hp)).1
    simp only [List.mem_cons, List.not_mem_nil, or_false, not_or]
    exact ⟨Nat.ne_of_lt (Nat.lt_succ_of_lt this), Nat.ne_of_lt this⟩
  · rintro i v m₁ X h₁ tk₁ own hi ⟨T, vals, rfl, ⟨t, u, hu, rfl⟩, hT⟩ ⟨led₁, rfl, hJ⟩ hoff hsub hown hmem hst F₁ N₁
    have hv : vs[i]? = some u := by simpa using hu
    (refine xAA hst fun zn1 zn2 _ => ?_; clear hst; obtain ⟨old, heE⟩ := zn1; obtain ⟨oI, heI, _⟩ := zn2)
    obtain ⟨oE, heE⟩ : ∃ oE, h₁.get? (h.objs.size + 1) = some oE := ⟨_, heE⟩
    have hEo : (h.objs.size + 1, oE) ∈ own := hmem _ (by simp) hI' _ heE
    have hIo : (h.objs.size, oI) ∈ own := hmem _ (by simp) hI _ heI
    have z := N₁ (l, listOf vs.toArray k) (List.mem_append_right _ (.head _))
    have hall : Sub own [(h.objs.size + 1, oE), (h.objs.size, oI), (l, listOf vs.toArray k)] := own_of hsub hown fun b hb => by
      simp only [List.mem_cons, List.not_mem_nil, or_false] at hb
      rcases hb with rfl | rfl | rfl
      · exact ⟨oE, .head _, heE⟩
      · exact ⟨oI, .tail _ (.head _), heI⟩
      · exact ⟨_, .tail _ (.tail _ (.head _)), z.1⟩
    refine kcp_assign hh hT hx hy (kindOf_fn hk) F₁.ns fun h₂ tk₂ hn₂ hs₂ => ?_
    have hL₀ : h₀.get? env.locals = none := Heap.get?_none_of_le F₁.above
    have hn1 : ∀ p ∈ led₁, p.1 ∉ [h.objs.size + 1, h.objs.size] := fun p hp => hoff p (List.mem_cons_of_mem _ hp)
    have F₂ : Fr h₀ env.locals h₂ (fun z => if z = y then some u else if z = x then some (.int i t) else m₁ z) := ⟨hn₂, fun b o e => hs₂ b o (fun q => by rw [q, hL₀] at e; cases e) (F₁.keep b o e), F₁.above⟩
    refine wpAny_mono (step i u m₁ led₁ h₂ _ t h.objs.size (h.objs.size + 1) oI oE hv hJ hn1 (fun p hp => Heap.lt_size (N p hp).1) (Nat.lt_succ_self _) F₂ ?_) (fun f s₃ h₃ => ?_) fun _ _ e => e
    · have N₁' : News h₀ env.locals h₁ ([(h.objs.size + 1, oE), (h.objs.size, oI), (l, listOf vs.toArray k)] ++ led₁) := fun p hp => by
        simp only [List.cons_append, List.nil_append, List.mem_cons] at hp
        rcases hp with rfl | rfl | rfl | hp
        · exact N₁ _ (List.mem_append_left _ hEo)
        · exact N₁ _ (List.mem_append_left _ hIo)
        · exact z
        · exact N₁ _ (List.mem_append_right _ (List.mem_cons_of_mem _ hp))
      exact fun p hp => ⟨hs₂ _ _ (N₁' p hp).2.1 (N₁' p hp).1, (N₁' p hp).2⟩
    · have out : ∀ s' : Shared, LEndI h₀ env.locals [(h.objs.size + 1, oE), (h.objs.size, oI), (l, listOf vs.toArray k)] [h.objs.size + 1, h.objs.size] (J (i + 1)) s s' →
          LoopStepU h₀ env.locals [h.objs.size + 1, h.objs.size] own (fun m X => ∃ led₁, X = (l, listOf vs.toArray k) :: led₁ ∧ J (i + 1) m led₁) { s with heap := h₁, toks := tk₁ } .next s' := by
        rintro s' ⟨h', tk', m₂, led₂, rfl, F₂, N₂, o₂, J₂⟩
        refine ⟨rfl, h', tk', m₂, (l, listOf vs.toArray k) :: led₂, rfl, F₂, fun p hp => ?_, fun p hp => ?_, led₂, rfl, J₂⟩
        · rcases List.mem_append.mp hp with hp | hp
          · exact N₂ p (List.mem_append_left _ (hall p hp))
          · rcases List.mem_cons.mp hp with rfl | hp
            · exact N₂ _ (List.mem_append_left _ (.tail _ (.tail _ (.head _))))
            · exact N₂ p (List.mem_append_right _ hp)
        · rcases List.mem_cons.mp hp with rfl | hp
          · simp only [List.mem_cons, List.not_mem_nil, or_false, not_or]
            exact ⟨Nat.ne_of_lt (Nat.lt_succ_of_lt hlt), Nat.ne_of_lt hlt⟩
          · exact o₂ p hp
      cases f with
      | next => exact .next (out _ h₃)
      | cont => exact .cont (out _ h₃)
      | brk => exact .brk h₃
      | ret v => exact .ret h₃
  · rintro h' tk' m' X F' N' _ ⟨led₁, rfl, hJ⟩
    exact fin h' tk' m' led₁ F' (fun p hp => N' p (List.mem_cons_of_mem _ hp)) hJ
end
end Mine
end

-- F02
section
open PySem PySem.W PyProof.Rows PySem.Spec PySem.Calls
set_option linter.all false
set_option maxRecDepth 100000
namespace Mine
section
variable {prog : Program} {w : World} {A : Around} {E : Value → Shared → Prop} {s : Shared} {env : Env} {h₀ : Heap} {body : List Stmt} {Q : Flow → Shared → Prop}
theorem for_one {x : Str} {px pos : Pos} {iter : Expr} {v : Value} {m : Str → Option Value} {l k : Nat} {led : Led} {h : Heap} {tk : Nat} (hh : A.handled = none) (F₀ : Fr h₀ env.locals s.heap m) (hx : env.kindOf x = some .local) (hk : env.scope.kind = .function)
    (F : Fr h₀ env.locals h m) (N : News h₀ env.locals h led) (hm : (l, listOf #[v] k) ∈ led)
    (hev : ∀ Q' : Value → Shared → Prop, Q' (.ref l) { s with heap := h, toks := tk } → wpAny (model prog w) A (eval iter env) Q' E s)
    (step : ∀ h₁ tk₁ (I : Nat) oI, (∀ p ∈ led, p.1 < I) → Fr h₀ env.locals h₁ (fun z => if z = x then some v else m z) → News h₀ env.locals h₁ ((I, oI) :: (l, listOf #[v] k) :: led) →
      wpAny (model prog w) A (execs body env) (LEnd h₀ env.locals [(I, oI), (l, listOf #[v] k)] [I] (fun m₂ led₂ => ∀ h' tk', Fr h₀ env.locals h' m₂ → News h₀ env.locals h' led₂ → Q .next { s with heap := h', toks := tk' }) Q s) E { s with heap := h₁, toks := tk₁ })
    (hs : ∀ x, foldedSetIterable iter env x = pure x) (hE : PassesOwn (model prog w) A env E) :
    wpAny (model prog w) A (exec (.For (.Name x px) iter body [] pos) env) Q E s := by
  refine for_list (vs := [v]) (fun i m₁ led₁ => (i = 0 → m₁ = m ∧ led₁ = led) ∧ (i = 1 → ∀ h' tk', Fr h₀ env.locals h' m₁ → News h₀ env.locals h' led₁ → Q .next { s with heap := h', toks := tk' })) hh F₀ hx hk (hev _ ⟨l, k, led, h, tk, rfl, rfl, F, N, fun p hp => by rw [List.mem_singleton.mp hp]; exact N _ hm, by simp, ⟨fun _ => ⟨rfl, rfl⟩, fun q => absurd q (by decide)⟩, ?_, ?_⟩) hs hE
  · rintro i u m₁ led₁ h₁ tk₁ I oI hu hJ off lt F₁ N₁
    have hi : i = 0 := by
      have : i < 1 := by
        have := (List.getElem?_eq_some_iff.mp hu).1
        simpa using this
      omega
    subst hi
    obtain rfl : v = u := by simpa using hu
    (refine xA (hJ.1 rfl) fun zr1 zr2 => ?_; subst zr1; subst zr2)
    refine wpAny_mono (step h₁ tk₁ I oI lt F₁ N₁) (fun f s' hf => ?_) fun _ _ e => e
    cases f with
    | next => obtain ⟨h', tk', m₂, led₂, e, F₂, N₂, o₂, J₂⟩ := hf; exact ⟨h', tk', m₂, led₂, e, F₂, N₂, o₂, fun q => absurd q (by decide), fun _ => J₂⟩
    | cont => obtain ⟨h', tk', m₂, led₂, e, F₂, N₂, o₂, J₂⟩ := hf; exact ⟨h', tk', m₂, led₂, e, F₂, N₂, o₂, fun q => absurd q (by decide), fun _ => J₂⟩
    | brk => exact hf
    | ret r => exact hf
  · intro h' tk' m' led' F' N' hJ
    exact hJ.2 rfl h' tk' F' N'
theorem enum_one {x y : Str} {px py tp pos : Pos} {kk : Nat} {iter : Expr} {v : Value} {m : Str → Option Value} {l k : Nat} {led : Led} {h : Heap} {tk : Nat} (hh : A.handled = none) (F₀ : Fr h₀ env.locals s.heap m) (hx : env.kindOf x = some .local) (hy : env.kindOf y = some .local) (hk : env.scope.kind = .function)
    (F : Fr h₀ env.locals h m) (N : News h₀ env.locals h led) (hm : (l, listOf #[v] k) ∈ led)
    (hev : ∀ Q' : Value → Shared → Prop, wpAny (model prog w) A (call (.type "enumerate") [.ref l]) Q' E { s with heap := h, toks := tk } → wpAny (model prog w) A (eval iter env) Q' E s)
    (step : ∀ h₁ tk₁ t (I I' : Nat) oI oI', (∀ p ∈ led, p.1 < I) → I < I' → Fr h₀ env.locals h₁ (fun z => if z = y then some v else if z = x then some (.int 0 t) else m z) → News h₀ env.locals h₁ ((I', oI') :: (I, oI) :: (l, listOf #[v] k) :: led) →
      wpAny (model prog w) A (execs body env) (LEnd h₀ env.locals [(I', oI'), (I, oI), (l, listOf #[v] k)] [I', I] (fun m₂ led₂ => ∀ h' tk', Fr h₀ env.locals h' m₂ → News h₀ env.locals h' led₂ → Q .next { s with heap := h', toks := tk' }) Q s) E { s with heap := h₁, toks := tk₁ })
    (hs : ∀ x, foldedSetIterable iter env x = pure x) (hE : PassesOwn (model prog w) A env E) :
    wpAny (model prog w) A (exec (.For (.Tuple [.Name x px, .Name y py] kk tp) iter body [] pos) env) Q E s := by
  refine for_enum (vs := [v]) (fun i m₁ led₁ => (i = 0 → m₁ = m ∧ led₁ = led) ∧ (i = 1 → ∀ h' tk', Fr h₀ env.locals h' m₁ → News h₀ env.locals h' led₁ → Q .next { s with heap := h', toks := tk' })) hh F₀ hx hy hk hev F N hm (by simp) ⟨fun _ => ⟨rfl, rfl⟩, fun q => absurd q (by decide)⟩ ?_ ?_ hs hE
  · rintro i u m₁ led₁ h₁ tk₁ t I I' oI oI' hu hJ off lt hII F₁ N₁
    have hi : i = 0 := by
      have : i < 1 := by
        have := (List.getElem?_eq_some_iff.mp hu).1
        simpa using this
      omega
    subst hi
    obtain rfl : v = u := by simpa using hu
    (refine xA (hJ.1 rfl) fun zr3 zr4 => ?_; subst zr3; subst zr4)
    refine wpAny_mono (step h₁ tk₁ t I I' oI oI' lt hII F₁ N₁) (fun f s' hf => ?_) fun _ _ e => e
    cases f with
    | next => obtain ⟨h', tk', m₂, led₂, e, F₂, N₂, o₂, J₂⟩ := hf; exact ⟨h', tk', m₂, led₂, e, F₂, N₂, o₂, fun q => absurd q (by decide), fun _ => J₂⟩
    | cont => obtain ⟨h', tk', m₂, led₂, e, F₂, N₂, o₂, J₂⟩ := hf; exact ⟨h', tk', m₂, led₂, e, F₂, N₂, o₂, fun q => absurd q (by decide), fun _ => J₂⟩
    | brk => exact hf
    | ret r => exact hf
  · intro h' tk' m' led' F' N' hJ
    exact hJ.2 rfl h' tk' F' N'
end
end Mine
namespace Mine
theorem off_one {I : Nat} {led : Led} (h : AllLt I led) : ∀ p ∈ led, p.1 ∉ [I] := fun p hp => by simpa using allLt_off h p hp
theorem off_two {I I' : Nat} {led : Led} (h : AllLt I led) (q : I < I') : ∀ p ∈ led, p.1 ∉ [I', I] := fun p hp => by
  simp only [List.mem_cons, List.not_mem_nil, or_false, not_or]
  exact ⟨allLt_off (allLt_trans h q) p hp, allLt_off h p hp⟩
end Mine
end

-- B7
section
open PySem PySem.W PyProof.Rows PySem.Spec PySem.Calls
set_option linter.all false
set_option maxRecDepth 100000
namespace Mine
/-- the Thing at x is a key: a small number, or an array -/
inductive KeyTh (led : Led) (x : Nat) : Str → List Int → Prop
  | num {dx : Nat} {h1 h2 h3 h4 : Int} {t1 t2 t3 t4 tk ti : Tok} {ex ac : Value} {i : Int} (m1 : (x, instObj 72 dx) ∈ led) (m2 : (dx, thingD h1 h2 h3 h4 t1 t2 t3 t4 (.str (Str.ofString "integer") tk) (.int i ti) ex ac) ∈ led) (h0 : 0 ≤ i) (hi : i < 1000) : KeyTh led x (Str.ofString "number") [i * 1000000]
  | arr {dx y dy b db : Nat} {h1 h2 h3 h4 : Int} {t1 t2 t3 t4 tk : Tok} {ex ac : Value} {i1 i2 i3 : Int} {v1 v2 v3 : Tok} {g1 g2 g3 g4 u1 u2 u3 u4} {th gl lv : Value} {st mn nu : Int} {ts tm tn : Tok} (m1 : (x, instObj 72 dx) ∈ led) (m2 : (dx, thingD h1 h2 h3 h4 t1 t2 t3 t4 (.str (Str.ofString "array") tk) (.ref y) ex ac) ∈ led)
    (m3 : (y, instObj 168 dy) ∈ led) (m4 : (dy, spanD i1 i2 i3 v1 v2 v3 (.ref b) (.int st ts) (.int mn tm)) ∈ led) (m5 : (b, instObj 114 db) ∈ led) (m6 : (db, rowD g1 g2 g3 g4 u1 u2 u3 u4 (.int nu tn) th gl lv) ∈ led) : KeyTh led x (Str.ofString "array") [nu, st, mn]
theorem KeyTh.mono {led led' : Led} {x : Nat} {nm : Str} {l : List Int} (h : KeyTh led x nm l) (q : Sub led led') : KeyTh led' x nm l := by
  cases h with
  | num m1 m2 h0 hi => exact .num (q _ m1) (q _ m2) h0 hi
  | arr m1 m2 m3 m4 m5 m6 => exact .arr (q _ m1) (q _ m2) (q _ m3) (q _ m4) (q _ m5) (q _ m6)
theorem KeyTh.ok {led : Led} {x : Nat} {nm : Str} {l : List Int} (h : KeyTh led x nm l) : PyData.strOk nm = true := by
  cases h with
  | num => decide +kernel
  | arr => decide +kernel
theorem inTup {led : Led} {a : Nat} {x : Str} {t : Tok} {us : List Value} {l : List Int} (hm : (a, tupOf (.str x t :: us).toArray) ∈ led) (hi : IntsAre us l) (hz : PyData.strOk x = true) : DK.In led (.tup x l) (.ref a) := ⟨a, t, us, rfl, hm, hi, hz⟩
theorem keysIn_sub {l l' : Led} {xs : List KX} (h : KeysIn l xs) (q : Sub l l') : KeysIn l' xs := h.mono fun p hp _ => q p hp
end Mine
namespace Mine
section
variable {prog : Program} {w : World} {A : Around} {E : Value → Shared → Prop} {s : Shared} {h₀ : Heap} {L d : Addr} {led : Led} {xs : List KX} {n : Nat} {k : DK} {key v : Value} {Q : Value → Shared → Prop}
theorem kd_in_n (N : News h₀ L s.heap led) (hm : (d, kdict w xs n) ∈ led) (lo : (d == sysModules) = false) (his : KeysIn led xs) (hn : KNd xs) (hkey : k.In led key) (hg : kget k xs = none) (hu : A.units + 3 < cLine) (h : ∀ tk, Q (.bool false) { s with toks := tk }) : wpAny (model prog w) A (compareOp .In key (.ref d)) Q E s :=
  kd_in N hm lo his hn hkey hu (by rw [hg]; exact h)
theorem kd_in_s (N : News h₀ L s.heap led) (hm : (d, kdict w xs n) ∈ led) (lo : (d == sysModules) = false) (his : KeysIn led xs) (hn : KNd xs) (hkey : k.In led key) (hg : kget k xs = some v) (hu : A.units + 3 < cLine) (h : ∀ tk, Q (.bool true) { s with toks := tk }) : wpAny (model prog w) A (compareOp .In key (.ref d)) Q E s :=
  kd_in N hm lo his hn hkey hu (by rw [hg]; exact h)
theorem kd_notin_n (N : News h₀ L s.heap led) (hm : (d, kdict w xs n) ∈ led) (lo : (d == sysModules) = false) (his : KeysIn led xs) (hn : KNd xs) (hkey : k.In led key) (hg : kget k xs = none) (hu : A.units + 3 < cLine) (h : ∀ tk, Q (.bool true) { s with toks := tk }) : wpAny (model prog w) A (compareOp .NotIn key (.ref d)) Q E s :=
  kd_notin N hm lo his hn hkey hu (by rw [hg]; exact h)
theorem kd_notin_s (N : News h₀ L s.heap led) (hm : (d, kdict w xs n) ∈ led) (lo : (d == sysModules) = false) (his : KeysIn led xs) (hn : KNd xs) (hkey : k.In led key) (hg : kget k xs = some v) (hu : A.units + 3 < cLine) (h : ∀ tk, Q (.bool false) { s with toks := tk }) : wpAny (model prog w) A (compareOp .NotIn key (.ref d)) Q E s :=
  kd_notin N hm lo his hn hkey hu (by rw [hg]; exact h)
end
end Mine
namespace Mine
theorem kd_popU {prog : Program} {w : World} {A : Around} {s : Shared} {E : Value → Shared → Prop} {h₀ : Heap} {L d : Addr} {m : Str → Option Value} {led : Led} {g : Obj → Led} {xs : List KX} {n : Nat} {k : DK} {key v : Value} {Q : Value → Shared → Prop} (F : Fr h₀ L s.heap m) (N : News h₀ L s.heap led) (U : UpdF d (kdict w xs n) led g) (his : KeysIn led xs) (hn : KNd xs) (hkey : k.In led key) (hz : xs.length ≤ 10000) (hv : kget k xs = some v) (hu : A.units + 3 < cLine)
    (h : ∀ h' tk n', Fr h₀ L h' m → News h₀ L h' (g (kdict w (kdel k xs) n')) → Q v { s with heap := h', toks := tk }) : wpAny (model prog w) A (call (.builtin "dict.pop") [.ref d, key]) Q E s := by
  (refine xEEAAA (U.split) fun pre post zr1 hg a b => ?_; subst zr1)
  have hm := N (d, kdict w xs n) (List.mem_append_right _ (.head _))
  exact pop_key hu (hkey.at N) hm.1 (his.at N) hn hz hv fun h' tk n' hs ho => h h' tk n' (F.change hs hm.2.1 hm.2.2) (hg _ ▸ N.setIn a b hs ho)
theorem kdict_ne {w : World} {xs : List KX} {n k : Nat} {led : Led} {h : Int} {nm : Str} {t : Tok} {v : Value} {es : List DictEntry} (his : KeysIn led xs) : dictOf (⟨h, .str nm t, v⟩ :: es) k ≠ kdict w xs n := by
  intro e
  have e2 : (⟨h, .str nm t, v⟩ :: es : List DictEntry) = xs.map (ent w) := by
    have := congrArg Obj.data e
    simp only [dictOf, Data.dict.injEq] at this
    exact List.toArray_inj this.1
  cases xs with
  | nil => cases e2
  | cons x xs =>
    rw [List.map_cons] at e2
    have e3 := congrArg DictEntry.key (List.cons.inj e2).1
    have := his x (.head _)
    have e4 : x.2.1 = .str nm t := e3.symm
    rw [e4] at this
    obtain ⟨k, key, v⟩ := x
    cases k with
    | num i => (refine xE this fun _ q => ?_; clear this); cases q
    | tup y l => (refine xEEEA this fun _ _ _ q _ => ?_; clear this); cases q
/-- all but the one dict -/
noncomputable abbrev restL (d : Nat) (led : Led) : Led := led.filter fun p => decide (p.1 ≠ d)
theorem rest_of {d : Nat} {led : Led} {p : Addr × Obj} (hp : p ∈ led) (hn : p.1 ≠ d) : p ∈ restL d led := List.mem_filter.mpr ⟨hp, by simpa using hn⟩
theorem rest_off {d : Nat} {led : Led} : Off d (restL d led) := fun p hp => by simpa using (List.mem_filter.mp hp).2
theorem rest_sub {d : Nat} {led : Led} : Sub (restL d led) led := fun p hp => (List.mem_filter.mp hp).1
section
variable {h₀ h : Heap} {L : Addr} {led : Led} {w : World} {xs : List KX} {d n : Nat}
theorem rest_ne (N : News h₀ L h led) {o o' : Obj} (hd : (d, o') ∈ led) {a : Nat} (hp : (a, o) ∈ led) (hn : o ≠ o') : (a, o) ∈ restL d led := rest_of hp (news_ne N hp hd hn)
theorem rest_inst (N : News h₀ L h led) (hd : (d, kdict w xs n) ∈ led) {a c x : Nat} (hp : (a, instObj c x) ∈ led) : (a, instObj c x) ∈ restL d led := rest_ne N hd hp (by intro e; cases congrArg Obj.data e)
theorem rest_tup (N : News h₀ L h led) (hd : (d, kdict w xs n) ∈ led) {a : Nat} {vs : Array Value} (hp : (a, tupOf vs) ∈ led) : (a, tupOf vs) ∈ restL d led := rest_ne N hd hp (by intro e; cases congrArg Obj.data e)
theorem rest_dict (N : News h₀ L h led) (hd : (d, kdict w xs n) ∈ led) (his : KeysIn led xs) {a k : Nat} {hh : Int} {nm : Str} {t : Tok} {v : Value} {es : List DictEntry} (hp : (a, dictOf (⟨hh, .str nm t, v⟩ :: es) k) ∈ led) : (a, dictOf (⟨hh, .str nm t, v⟩ :: es) k) ∈ restL d led := rest_ne N hd hp (kdict_ne his)
theorem rest_keys (N : News h₀ L h led) (hd : (d, kdict w xs n) ∈ led) {ys : List KX} (his : KeysIn led ys) : KeysIn (restL d led) ys := his.mono fun p hp hn => rest_of hp fun e => hn _ _ (news_func N (a := p.1) hp (e ▸ hd))
theorem rest_key (N : News h₀ L h led) (hd : (d, kdict w xs n) ∈ led) (his : KeysIn led xs) {x : Nat} {nm : Str} {l : List Int} (hK : KeyTh led x nm l) : KeyTh (restL d led) x nm l := by
  cases hK with
  | num m1 m2 h0 hi => exact .num (rest_inst N hd m1) (rest_dict N hd his m2) h0 hi
  | arr m1 m2 m3 m4 m5 m6 => exact .arr (rest_inst N hd m1) (rest_dict N hd his m2) (rest_inst N hd m3) (rest_dict N hd his m4) (rest_inst N hd m5) (rest_dict N hd his m6)
end
end Mine
namespace Mine
theorem inSub {l l' : Led} {k : DK} {v : Value} (h : k.In l v) (q : Sub l l') : k.In l' v := h.mono fun p hp _ => q p hp
end Mine
end

-- B8
section
open PySem PySem.W PyProof.Rows PySem.Spec PySem.Calls
set_option linter.all false
set_option maxRecDepth 100000
namespace Mine
/-- the entries' pairs, one behind the other -/
inductive Ents (led : Led) : List KX → List Value → Prop
  | nil : Ents led [] []
  | cons {x : KX} {xs : List KX} {tt : Nat} {kept th : Value} {its : List Value} (e : x.2.2 = .ref tt) (hm : (tt, tupOf #[kept, th]) ∈ led) (r : Ents led xs its) : Ents led (x :: xs) (kept :: th :: its)
theorem Ents.length {led : Led} {xs : List KX} {its : List Value} (h : Ents led xs its) : its.length = 2 * xs.length := by
  induction h with
  | nil => rfl
  | cons _ _ _ ih => rw [List.length_cons, List.length_cons, List.length_cons, ih, Nat.mul_add]
theorem Ents.mono {led led' : Led} {xs : List KX} {its : List Value} (h : Ents led xs its) (q : ∀ p ∈ led, (∀ vs, p.2 = tupOf vs → p ∈ led')) : Ents led' xs its := by
  induction h with
  | nil => exact .nil
  | cons e hm _ ih => exact .cons e (q _ hm _ rfl) ih
/-- what a body holds -/
inductive HoldsB (w : World) (led : Led) (b : Nat) (num : Int) : List Value → Prop
  | row {db c k : Nat} {its : List Value} {g1 g2 g3 g4 u1 u2 u3 u4} {tn : Tok} {gl lv : Value} (m1 : (b, instObj 114 db) ∈ led) (m2 : (db, rowD g1 g2 g3 g4 u1 u2 u3 u4 (.int num tn) (.ref c) gl lv) ∈ led) (m3 : (c, listOf its.toArray k) ∈ led) (hz : its.length < 1000) : HoldsB w led b num its
  | dict {db en n : Nat} {xs : List KX} {its : List Value} {g1 g2 g3 g4 g5 g6 u1 u2 u3 u4 u5 u6} {tn : Tok} {mo gl lv ac : Value} (m1 : (b, instObj 147 db) ∈ led) (m2 : (db, dictD g1 g2 g3 g4 g5 g6 u1 u2 u3 u4 u5 u6 (.int num tn) mo gl lv ac (.ref en)) ∈ led) (m3 : (en, kdict w xs n) ∈ led) (lo : (en == sysModules) = false) (his : KeysIn led xs) (hn : KNd xs) (hz : xs.length < 500) (hE : Ents led xs its) : HoldsB w led b num its
  | text {db : Nat} {g1 g2 g3 g4 u1 u2 u3 u4} {tn : Tok} {oc gl lv : Value} (m1 : (b, instObj 93 db) ∈ led) (m2 : (db, textD g1 g2 g3 g4 u1 u2 u3 u4 (.int num tn) oc gl lv) ∈ led) : HoldsB w led b num []
end Mine
namespace Mine
theorem Ents.at {led : Led} {xs : List KX} {its : List Value} (e : Ents led xs its) {i : Nat} {v : Value} (h : (xs.map (·.2.2))[i]? = some v) : ∃ (tt : Nat) (u u' : Value), v = .ref tt ∧ (tt, tupOf #[u, u']) ∈ led ∧ its.take (2 * (i + 1)) = its.take (2 * i) ++ [u, u'] := by
  induction e generalizing i with
  | nil => simp at h
  | @cons x xs tt u u' its e hm r ih =>
    cases i with
    | zero =>
      simp only [List.map_cons, List.getElem?_cons_zero, Option.some.injEq] at h
      exact ⟨tt, u, u', by rw [← h, e], hm, by simp⟩
    | succ i =>
      simp only [List.map_cons, List.getElem?_cons_succ] at h
      refine xEEEAA (ih h) fun tt a a' e2 hm2 ht => ?_
      refine ⟨tt, a, a', e2, hm2, ?_⟩
      rw [show 2 * (i + 1 + 1) = (2 * (i + 1) + 1) + 1 by omega, show 2 * (i + 1) = (2 * i + 1) + 1 by omega, List.take_succ_cons, List.take_succ_cons, List.take_succ_cons, List.take_succ_cons, show 2 * i + 1 + 1 = 2 * (i + 1) by omega, ht]
      simp
theorem News.one {h₀ h : Heap} {L : Addr} {p : Addr × Obj} {led : Led} (N : News h₀ L h led) (hm : p ∈ led) : News h₀ L h [p] := fun q hq => by rw [List.mem_singleton.mp hq]; exact N _ hm
end Mine
end

-- F03
section
open PySem PySem.W PyProof.Rows PySem.Spec PySem.Calls
set_option linter.all false
set_option maxRecDepth 100000
namespace Mine
section
variable {prog : Program} {w : World} {A : Around} {E : Value → Shared → Prop} {s : Shared} {env : Env} {h₀ : Heap} {body : List Stmt} {Q : Flow → Shared → Prop}
inductive PairsAt1 (prog : Program) (w : World) (A : Around) (E : Value → Shared → Prop) (s : Shared) (env : Env) (h₀ : Heap) (body : List Stmt) (Q : Flow → Shared → Prop) (x y : Str) (vs : List Value) (m : Str → Option Value) (J : Nat → (Str → Option Value) → Led → Prop) (xv : Value) (s₁ : Shared) : Prop
  | mk (l : Nat) (k : Nat) (led : Led) (h : Heap) (tk : Nat) (q1 : xv = .ref l) (q2 : s₁ = { s with heap := h, toks := tk }) (q3 : Fr h₀ env.locals h m) (q4 : News h₀ env.locals h led) (q5 : News h₀ env.locals h [(l, listOf vs.toArray k)]) (q6 : vs.length < 10000) (q7 : J 0 m led) (q8 : (∀ i v m₁ led₁, vs[i]? = some v → J i m₁ led₁ → ∃ (T : Nat) (u u' : Value), v = .ref T ∧ (T, tupOf #[u, u']) ∈ led₁)) (q9 : (∀ i (T : Nat) u u' m₁ led₁ h₁ tk₁ (I : Nat) oI, vs[i]? = some (.ref T) → (T, tupOf #[u, u']) ∈ led₁ → J i m₁ led₁ → (∀ p ∈ led₁, p.1 ∉ [I]) → (∀ p ∈ led, p.1 < I) → Fr h₀ env.locals h₁ (fun z => if z = y then some u' else if z = x then some u else m₁ z) → News h₀ env.locals h₁ ([(I, oI), (l, listOf vs.toArray k)] ++ led₁) → wpAny (model prog w) A (execs body env) (LEnd h₀ env.locals [(I, oI), (l, listOf vs.toArray k)] [I] (J (i + 1)) Q s) E { s with heap := h₁, toks := tk₁ })) (q10 : (∀ h' tk' m' led', Fr h₀ env.locals h' m' → News h₀ env.locals h' led' → J vs.length m' led' → Q .next { s with heap := h', toks := tk' })) : PairsAt1 prog w A E s env h₀ body Q x y vs m J xv s₁
/-- over a list of pairs -/
theorem for_pairs {x y : Str} {px py tp pos : Pos} {kk : Nat} {iter : Expr} {vs : List Value} {m : Str → Option Value} (J : Nat → (Str → Option Value) → Led → Prop) (hh : A.handled = none) (F₀ : Fr h₀ env.locals s.heap m) (hx : env.kindOf x = some .local) (hy : env.kindOf y = some .local) (hk : env.scope.kind = .function)
    (h : wpAny (model prog w) A (eval iter env) (PairsAt1 prog w A E s env h₀ body Q x y vs m J) E s)
    (hs : ∀ x, foldedSetIterable iter env x = pure x) (hE : PassesOwn (model prog w) A env E) :
    wpAny (model prog w) A (exec (.For (.Tuple [.Name x px, .Name y py] kk tp) iter body [] pos) env) Q E s := by
  refine for_lst (vs := vs) J hh F₀ (fun I l i v s' Q' E' st q => by cases v <;> first | exact wpAny_letOwnedTupleGo_listiter st q | exact wpAny_pure q) (wpAny_mono h (fun xv s₁ h₁ => ?_) fun _ _ e => e) hs hE
  obtain ⟨l, k, led, h, tk, e1, e2, F, N, Nl, hz, h0, tups, step, fin⟩ := h₁
  refine ⟨l, k, led, h, tk, e1, e2, F, N, Nl, hz, h0, fun i v m₁ led₁ h₁ tk₁ I oI hv hJ hn1 hl F₁ N₁ => ?_, fin⟩
  have hL₀ : h₀.get? env.locals = none := Heap.get?_none_of_le F₁.above
  (refine xEEEA (tups i v m₁ led₁ hv hJ) fun T u u' zr1 hT => ?_; subst zr1)
  have hTT : h₁.IsTuple T #[u, u'] := ⟨_, (N₁ _ (List.mem_append_right _ hT)).1, rfl, 0, rfl⟩
  exact kcp_assign hh hTT hx hy (kindOf_fn hk) F₁.ns fun h₂ tk₂ hn₂ hs₂ => step i T u u' m₁ led₁ h₂ _ I oI hv hT hJ hn1 hl
    ⟨hn₂, fun b o e => hs₂ b o (fun q => by rw [q, hL₀] at e; cases e) (F₁.keep b o e), F₁.above⟩ fun p hp => ⟨hs₂ _ _ (N₁ p hp).2.1 (N₁ p hp).1, (N₁ p hp).2⟩
end
end Mine
end

-- F04
section
open PySem PySem.W PyProof.Rows PySem.Spec PySem.Calls
set_option linter.all false
set_option maxRecDepth 100000
namespace Mine
section
variable {prog : Program} {w : World} {A : Around} {E : Value → Shared → Prop} {s : Shared} {env : Env} {h₀ : Heap} {body : List Stmt} {Q : Flow → Shared → Prop}
inductive LEndI2 (h₀ : Heap) (L : Addr) (own : Led) (wr : List Addr) (m : Str → Option Value) (Kn : Led → Prop) (s s' : Shared) : Prop
  | mk (h' : Heap) (tk : Nat) (led₂ : Led) (q1 : s' = { s with heap := h', toks := tk }) (q2 : Fr h₀ L h' m) (q3 : News h₀ L h' (own ++ led₂)) (q4 : (∀ p ∈ led₂, p.1 ∉ wr)) (q5 : Kn led₂) : LEndI2 h₀ L own wr m Kn s s'
/-- the end of a turn that stores no name -/
noncomputable def LEnd2 (h₀ : Heap) (L : Addr) (own : Led) (wr : List Addr) (m : Str → Option Value) (Kn : Led → Prop) (Q : Flow → Shared → Prop) (s : Shared) (f : Flow) (s' : Shared) : Prop :=
  match f with
  | .next | .cont => LEndI2 h₀ L own wr m Kn s s'
  | .brk => Q .next s'
  | .ret v => Q (.ret v) s'
inductive ListAt2 (prog : Program) (w : World) (A : Around) (E : Value → Shared → Prop) (s : Shared) (env : Env) (h₀ : Heap) (body : List Stmt) (Q : Flow → Shared → Prop) (x : Str) (vs : List Value) (m : Str → Option Value) (K : Nat → Led → Prop) (xv : Value) (s₁ : Shared) : Prop
  | mk (l : Nat) (k : Nat) (led : Led) (h : Heap) (tk : Nat) (q1 : xv = .ref l) (q2 : s₁ = { s with heap := h, toks := tk }) (q3 : Fr h₀ env.locals h m) (q4 : News h₀ env.locals h led) (q5 : News h₀ env.locals h [(l, listOf vs.toArray k)]) (q6 : vs.length < 10000) (q7 : K 0 led) (q8 : (∀ i v led₁ h₁ tk₁ (I : Nat) oI, vs[i]? = some v → K i led₁ → (∀ p ∈ led₁, p.1 ∉ [I]) → (∀ p ∈ led, p.1 < I) → Fr h₀ env.locals h₁ (fun z => if z = x then some v else m z) → News h₀ env.locals h₁ ((I, oI) :: (l, listOf vs.toArray k) :: led₁) → wpAny (model prog w) A (execs body env) (LEnd2 h₀ env.locals [(I, oI), (l, listOf vs.toArray k)] [I] (fun z => if z = x then some v else m z) (K (i + 1)) Q s) E { s with heap := h₁, toks := tk₁ })) (q9 : (∀ h' tk' p led', Fr h₀ env.locals h' (fun z => if z = x then p else m z) → News h₀ env.locals h' led' → K vs.length led' → Q .next { s with heap := h', toks := tk' })) : ListAt2 prog w A E s env h₀ body Q x vs m K xv s₁
inductive PairsAt2 (prog : Program) (w : World) (A : Around) (E : Value → Shared → Prop) (s : Shared) (env : Env) (h₀ : Heap) (body : List Stmt) (Q : Flow → Shared → Prop) (x y : Str) (vs : List Value) (m : Str → Option Value) (K : Nat → Led → Prop) (xv : Value) (s₁ : Shared) : Prop
  | mk (l : Nat) (k : Nat) (led : Led) (h : Heap) (tk : Nat) (q1 : xv = .ref l) (q2 : s₁ = { s with heap := h, toks := tk }) (q3 : Fr h₀ env.locals h m) (q4 : News h₀ env.locals h led) (q5 : News h₀ env.locals h [(l, listOf vs.toArray k)]) (q6 : vs.length < 10000) (q7 : K 0 led) (q8 : (∀ i v led₁, vs[i]? = some v → K i led₁ → ∃ (T : Nat) (u u' : Value), v = .ref T ∧ (T, tupOf #[u, u']) ∈ led₁)) (q9 : (∀ i (T : Nat) u u' led₁ h₁ tk₁ (I : Nat) oI, vs[i]? = some (.ref T) → (T, tupOf #[u, u']) ∈ led₁ → K i led₁ → (∀ p ∈ led₁, p.1 ∉ [I]) → (∀ p ∈ led, p.1 < I) → Fr h₀ env.locals h₁ (fun z => if z = y then some u' else if z = x then some u else m z) → News h₀ env.locals h₁ ((I, oI) :: (l, listOf vs.toArray k) :: led₁) → wpAny (model prog w) A (execs body env) (LEnd2 h₀ env.locals [(I, oI), (l, listOf vs.toArray k)] [I] (fun z => if z = y then some u' else if z = x then some u else m z) (K (i + 1)) Q s) E { s with heap := h₁, toks := tk₁ })) (q10 : (∀ h' tk' p q led', Fr h₀ env.locals h' (fun z => if z = y then p else if z = x then q else m z) → News h₀ env.locals h' led' → K vs.length led' → Q .next { s with heap := h', toks := tk' })) : PairsAt2 prog w A E s env h₀ body Q x y vs m K xv s₁
theorem for_list2 {x : Str} {px pos : Pos} {iter : Expr} {vs : List Value} {m : Str → Option Value} (K : Nat → Led → Prop) (hh : A.handled = none) (F₀ : Fr h₀ env.locals s.heap m) (hx : env.kindOf x = some .local) (hk : env.scope.kind = .function)
    (h : wpAny (model prog w) A (eval iter env) (fun xv s₁ => ListAt2 prog w A E s env h₀ body Q x vs m K xv s₁) E s)
    (hs : ∀ x, foldedSetIterable iter env x = pure x) (hE : PassesOwn (model prog w) A env E) :
    wpAny (model prog w) A (exec (.For (.Name x px) iter body [] pos) env) Q E s := by
  have hm0 : ∀ p : Option Value, ∀ v : Value, (fun z => if z = x then some v else if z = x then p else m z) = fun z => if z = x then some v else m z := fun p v => by
    funext z; by_cases q : z = x <;> simp [q]
  refine for_list (vs := vs) (m := m) (fun i m₁ led₁ => (∃ p, m₁ = fun z => if z = x then p else m z) ∧ K i led₁) hh F₀ hx hk (wpAny_mono h (fun xv s₁ h₁ => ?_) fun _ _ e => e) hs hE
  obtain ⟨l, k, led, h, tk, rfl, rfl, F, N, hm, hz, h0, step, fin⟩ := h₁
  refine ⟨l, k, led, h, tk, rfl, rfl, F, N, hm, hz, ⟨⟨m x, ?_⟩, h0⟩, ?_, ?_⟩
  · funext z; by_cases q : z = x <;> simp [q]
  · rintro i v m₁ led₁ h₁ tk₁ I oI hv ⟨⟨p, rfl⟩, hK⟩ off lt F₁ N₁
    rw [hm0] at F₁
    refine wpAny_mono (step i v led₁ h₁ tk₁ I oI hv hK off lt F₁ N₁) (fun f s' hf => ?_) fun _ _ e => e
    cases f with
    | next => obtain ⟨h', tk', led₂, e, F₂, N₂, o₂, K₂⟩ := hf; exact ⟨h', tk', _, led₂, e, F₂, N₂, o₂, ⟨_, rfl⟩, K₂⟩
    | cont => obtain ⟨h', tk', led₂, e, F₂, N₂, o₂, K₂⟩ := hf; exact ⟨h', tk', _, led₂, e, F₂, N₂, o₂, ⟨_, rfl⟩, K₂⟩
    | brk => exact hf
    | ret r => exact hf
  · rintro h' tk' m' led' F' N' ⟨⟨p, rfl⟩, hK⟩
    exact fin h' tk' p led' F' N' hK
theorem for_pairs2 {x y : Str} {px py tp pos : Pos} {kk : Nat} {iter : Expr} {vs : List Value} {m : Str → Option Value} (K : Nat → Led → Prop) (hh : A.handled = none) (F₀ : Fr h₀ env.locals s.heap m) (hx : env.kindOf x = some .local) (hy : env.kindOf y = some .local) (hk : env.scope.kind = .function)
    (h : wpAny (model prog w) A (eval iter env) (fun xv s₁ => PairsAt2 prog w A E s env h₀ body Q x y vs m K xv s₁) E s)
    (hs : ∀ x, foldedSetIterable iter env x = pure x) (hE : PassesOwn (model prog w) A env E) :
    wpAny (model prog w) A (exec (.For (.Tuple [.Name x px, .Name y py] kk tp) iter body [] pos) env) Q E s := by
  have hm0 : ∀ p q : Option Value, ∀ u u' : Value, (fun z => if z = y then some u' else if z = x then some u else if z = y then p else if z = x then q else m z) = fun z => if z = y then some u' else if z = x then some u else m z := fun p q u u' => by
    funext z; by_cases q1 : z = y <;> by_cases q2 : z = x <;> simp [q1, q2]
  refine for_pairs (vs := vs) (m := m) (fun i m₁ led₁ => (∃ p q, m₁ = fun z => if z = y then p else if z = x then q else m z) ∧ K i led₁) hh F₀ hx hy hk (wpAny_mono h (fun xv s₁ h₁ => ?_) fun _ _ e => e) hs hE
  obtain ⟨l, k, led, h, tk, rfl, rfl, F, N, hm, hz, h0, tups, step, fin⟩ := h₁
  refine ⟨l, k, led, h, tk, rfl, rfl, F, N, hm, hz, ⟨⟨m y, m x, ?_⟩, h0⟩, fun i v m₁ led₁ hv hJ => tups i v led₁ hv hJ.2, ?_, ?_⟩
  · funext z; by_cases q1 : z = y <;> by_cases q2 : z = x <;> simp_all
  · rintro i T u u' m₁ led₁ h₁ tk₁ I oI hv hT ⟨⟨p, q, rfl⟩, hK⟩ off lt F₁ N₁
    rw [hm0] at F₁
    refine wpAny_mono (step i T u u' led₁ h₁ tk₁ I oI hv hT hK off lt F₁ N₁) (fun f s' hf => ?_) fun _ _ e => e
    cases f with
    | next => obtain ⟨h', tk', led₂, e, F₂, N₂, o₂, K₂⟩ := hf; exact ⟨h', tk', _, led₂, e, F₂, N₂, o₂, ⟨_, _, rfl⟩, K₂⟩
    | cont => obtain ⟨h', tk', led₂, e, F₂, N₂, o₂, K₂⟩ := hf; exact ⟨h', tk', _, led₂, e, F₂, N₂, o₂, ⟨_, _, rfl⟩, K₂⟩
    | brk => exact hf
    | ret r => exact hf
  · rintro h' tk' m' led' F' N' ⟨⟨p, q, rfl⟩, hK⟩
    exact fin h' tk' p q led' F' N' hK
end
end Mine
end

-- B9
section
open PySem PySem.W PyProof.Rows PySem.Spec PySem.Calls
set_option linter.all false
set_option maxRecDepth 100000
namespace Mine
section
variable {prog : Program} {w : World} {A : Around} {E : Value → Shared → Prop} {s : Shared} {h₀ : Heap} {L d : Addr} {m : Str → Option Value} {led : Led} {xs : List KX} {n : Nat} {Q : Value → Shared → Prop}
theorem numKeys_ints {xs : List KX} {ns : List Int} (hx : xs.map (·.1) = ns.map DK.num) (ha : AllNum xs) : ∀ {vs : List Value}, vs.length = xs.length → (∀ (j : Nat) (v : Value), vs[j]? = some v → ∃ x, xs[j]? = some x ∧ v = x.2.1) → IntsAre vs ns := by
  induction xs generalizing ns with
  | nil =>
    intro vs hl _
    cases ns with
    | nil => rw [List.eq_nil_of_length_eq_zero hl]; exact .nil
    | cons _ _ => cases hx
  | cons x xs ih =>
    intro vs hl hv
    cases ns with
    | nil => cases hx
    | cons i ns =>
      cases vs with
      | nil => cases hl
      | cons v vs =>
        (refine xEA (hv 0 v rfl) fun y hy zr1 => ?_; subst zr1)
        simp only [List.getElem?_cons_zero, Option.some.injEq] at hy
        subst hy
        simp only [List.map_cons, List.cons.injEq] at hx
        refine xEEA (ha x (.head _)) fun j t h1 h2 => ?_
        rw [hx.1] at h1
        cases h1
        rw [h2]
        exact .cons _ t (ih hx.2 (fun y hy => ha y (.tail _ hy)) (by simpa using hl) fun j u hu => by simpa using hv (j + 1) u (by simpa using hu))
theorem sorted_kdict {ns : List Int} (hh : A.handled = none) (F : Fr h₀ L s.heap m) (N : News h₀ L s.heap led) (hm : (d, kdict w xs n) ∈ led) (lo : (d == sysModules) = false) (hx : xs.map (·.1) = ns.map DK.num) (ha : AllNum xs) (hz : xs.length < 60)
    (h : ∀ (D : Nat) vs' ns' c h' tk, Fr h₀ L h' m → News h₀ L h' ((D, listOf vs'.toArray c) :: led) → AllLt D led → IntsAre vs' ns' → ns'.Perm ns → ns'.Pairwise (· ≤ ·) → Q (.ref D) { s with heap := h', toks := tk }) :
    wpAny (model prog w) A (call (.builtin "sorted") [.ref d]) Q E s := by
  refine kdu_sorted (src_kdict w xs n lo) hh F N (N _ hm).1 (by rw [sizeLine_eq]; omega) fun D h' tk vs F' N' l1 hl hv => ?_
  have hI := numKeys_ints hx ha hl hv
  have z := N' (D, listOf vs.toArray 0) (.head _)
  refine wpAny_call_entry PyProof.Rows.slot_list_sort ⟨_, z.1, rfl⟩ PyProof.Rows.entry_list_sort (list_sort_tree (n := 0) (vs := vs) z.1 hI (by omega) fun out ns' hI' hp hP => ⟨.none, rfl, ?_⟩) (PyProof.Rows.args_list_sort _)
  have hD : D < h'.objs.size := Heap.lt_size z.1
  refine xE (sortedHeap_at (vs := vs) (out := out) z.1) fun c hc => ?_
  have k : ∀ b o, b ≠ D → h'.get? b = some o → (sortedHeap h' D vs out).get? b = some o := fun b o hb e => (sortedHeap_old hb (Nat.lt_of_lt_of_eq (Heap.lt_size e) rfl)).trans e
  have F2 : Fr h₀ L (sortedHeap h' D vs out) m := ⟨F'.ns.at' fun o e => k _ o (Ne.symm z.2.1) e, fun b o e => k b o (fun q => by have q2 := z.2.2; rw [q] at e; rw [q2] at e; cases e) (F'.keep b o e), F'.above⟩
  have N2 : News h₀ L (sortedHeap h' D vs out) ((D, listOf out.toList.toArray c) :: led) := fun p hp => by
    rcases List.mem_cons.mp hp with rfl | hp
    · exact ⟨by simpa using hc, z.2⟩
    · have q := N' p (.tail _ hp)
      exact ⟨k _ _ (Nat.ne_of_lt (l1 p hp)) q.1, q.2⟩
  exact h D out.toList ns' c _ tk F2 N2 (allLt_of l1) hI' hp hP
end
end Mine
end

-- B10
section
open PySem PySem.W PyProof.Rows PySem.Spec PySem.Calls
set_option linter.all false
set_option maxRecDepth 100000
namespace Mine
/-- a Thing that leads to the body with the number o + 1, or nowhere -/
noncomputable def DJ (led : Led) (bA : Nat → Nat) (n : Nat) (v : Value) (o : Option Nat) : Prop := (∀ k, o = some k → k < n) ∧ Den led v (o.map bA)
theorem DJ.mono {led led' : Led} {bA : Nat → Nat} {n : Nat} {v : Value} {o : Option Nat} (h : DJ led bA n v o) (q : Sub led led') : DJ led' bA n v o := ⟨h.1, h.2.mono q⟩
theorem Den.ref {led : Led} {v : Value} {o : Option Addr} (h : Den led v o) : ∃ x : Nat, v = .ref x := by cases h <;> exact ⟨_, rfl⟩
theorem paired_mono {α β : Type} {F G : α → β → Prop} (q : ∀ a b, F a b → G a b) {l : List α} {l' : List β} (h : Paired F l l') : Paired G l l' := by
  induction h with
  | nil => exact .nil
  | cons h _ ih => exact .cons (q _ _ h) ih
theorem paired_app {α β : Type} {F : α → β → Prop} {a : List α} {b : List β} {c : List α} {d : List β} (h : Paired F a b) (h' : Paired F c d) : Paired F (a ++ c) (b ++ d) := by
  induction h with
  | nil => exact h'
  | cons h _ ih => exact .cons h ih
theorem paired_snoc {α β : Type} {F : α → β → Prop} {l : List α} {x : α} {l' : List β} (h : Paired F (l ++ [x]) l') : ∃ r y, l' = r ++ [y] ∧ Paired F l r ∧ F x y := by
  induction l generalizing l' with
  | nil =>
    cases h with
    | cons h t => cases t; exact ⟨[], _, rfl, .nil, h⟩
  | cons a l ih =>
    cases h with
    | cons h t => exact (ih t).elim fun r q => q.elim fun y z => ⟨_ :: r, y, congrArg _ z.1, .cons h z.2.1, z.2.2⟩
/-- the graph as the memory holds it -/
noncomputable def Gr (w : World) (led : Led) (bA : Nat → Nat) (n : Nat) (adj : Nat → List (Option Nat)) : Prop :=
  ∀ j, j < n → (adj j).length ≤ 1000 ∧ ∃ its, HoldsB w led (bA j) ((j : Int) + 1) its ∧ Paired (DJ led bA n) its (adj j)
theorem kget_none_of {xs : List KX} {k : DK} (h : k ∉ xs.map (·.1)) : kget k xs = none := by
  rw [kget_of_idx, kidx_none]
  · rfl
  · intro i x hx e
    exact h (List.mem_map.mpr ⟨x, List.mem_of_getElem? hx, e⟩)
theorem kget_some_of {k : DK} : ∀ {xs : List KX}, k ∈ xs.map (·.1) → ∃ v, kget k xs = some v
  | [], h => by cases h
  | x :: r, h => by
    rw [kget]
    by_cases e : x.1 = k
    · exact ⟨_, by rw [if_pos e]⟩
    · rw [if_neg e]
      rw [List.map_cons, List.mem_cons] at h
      exact kget_some_of (h.resolve_left fun q => e q.symm)
theorem numMem {found : List Nat} {xs : List KX} (h : xs.map (·.1) = found.map fun j : Nat => DK.num ((j : Int) + 1)) {j : Nat} : DK.num ((j : Int) + 1) ∈ xs.map (·.1) ↔ j ∈ found := by
  rw [h, List.mem_map]
  constructor
  · rintro ⟨i, hi, e⟩
    simp only [DK.num.injEq] at e
    rwa [show j = i by omega]
  · exact fun hj => ⟨j, hj, rfl⟩
theorem numPut {found : List Nat} {xs : List KX} (h : xs.map (·.1) = found.map fun j : Nat => DK.num ((j : Int) + 1)) {j : Nat} (hj : j ∉ found) {key v : Value} : (kput (.num ((j : Int) + 1)) key v xs).map (·.1) = (found ++ [j]).map fun j : Nat => DK.num ((j : Int) + 1) := by
  rw [kput_keys, if_neg (by rw [numMem h]; exact hj), h]
  simp
section
variable {prog : Program} {w : World} {A : Around} {E : Value → Shared → Prop} {s : Shared} {env : Env} {h₀ : Heap} {L : Addr} {body : List Stmt} {Q : Flow → Shared → Prop}
inductive WEndI (h₀ : Heap) (L : Addr) (x y : Str) (m : Str → Option Value) (n : Nat) (K : Nat → Led → Prop) (s s' : Shared) : Prop
  | mk (h' : Heap) (tk : Nat) (m₂ : Str → Option Value) (led₂ : Led) (n' : Nat) (q1 : s' = { s with heap := h', toks := tk }) (q2 : Fr h₀ L h' m₂) (q3 : (∀ z, ¬ z = x → ¬ z = y → m₂ z = m z)) (q4 : News h₀ L h' led₂) (q5 : n' < n) (q6 : K n' led₂) : WEndI h₀ L x y m n K s s'
/-- the end of a while loop's turn that stores two names at most -/
noncomputable def WEnd2 (h₀ : Heap) (L : Addr) (x y : Str) (m : Str → Option Value) (n : Nat) (K : Nat → Led → Prop) (Q : Flow → Shared → Prop) (s : Shared) (f : Flow) (s' : Shared) : Prop :=
  match f with
  | .next | .cont => WEndI h₀ L x y m n K s s'
  | .brk => Q .next s'
  | .ret v => Q (.ret v) s'
theorem while2 {x y : Str} {test : Expr} {pos : Pos} {m : Str → Option Value} {led : Led} (K : (Str → Option Value) → Nat → Led → Prop) {n₀ : Nat} (F : Fr h₀ L s.heap m) (N : News h₀ L s.heap led) (h0 : K m n₀ led)
    (turn : ∀ n p q led₁ h₁ tk₁, K m n led₁ → Fr h₀ L h₁ (fun z => if z = x then p else if z = y then q else m z) → News h₀ L h₁ led₁ →
      wpAny (model prog w) A (isTrue test env (eval test env)) (fun b s₂ => if b = true then wpAny (model prog w) A (execs body env) (WEnd2 h₀ L x y m n (K m) Q s) E s₂ else Q .next s₂) E { s with heap := h₁, toks := tk₁ })
    (hE : PassesOwn (model prog w) A env E) :
    wpAny (model prog w) A (exec (.While test body [] pos) env) Q E s := by
  have form : ∀ m₂ : Str → Option Value, (∀ z, ¬ z = x → ¬ z = y → m₂ z = m z) → m₂ = fun z => if z = x then m₂ x else if z = y then m₂ y else m z := fun m₂ h => by
    funext z
    by_cases h1 : z = x
    · simp [h1]
    · by_cases h2 : z = y
      · subst h2; simp [h1]
      · simp [h1, h2, h z h1 h2]
  refine While_inv2 (fun n m₁ led₁ => (∃ p q, m₁ = fun z => if z = x then p else if z = y then q else m z) ∧ K m n led₁) F N ⟨⟨m x, m y, form m fun _ _ _ => rfl⟩, h0⟩ ?_ hE
  rintro n m₁ led₁ h₁ tk₁ F₁ N₁ ⟨⟨p, q, rfl⟩, hK⟩
  refine wpAny_mono (turn n p q led₁ h₁ tk₁ hK F₁ N₁) (fun b s₂ h₂ => ?_) fun _ _ e => e
  cases b with
  | false => exact h₂
  | true =>
    simp only [if_true] at h₂ ⊢
    refine wpAny_mono h₂ (fun f s₃ h₃ => ?_) fun _ _ e => e
    cases f with
    | next => obtain ⟨h', tk, m₂, led₂, n', e, F₂, hm, N₂, hn, K₂⟩ := h₃; exact ⟨h', tk, m₂, led₂, n', e, F₂, N₂, hn, ⟨_, _, form m₂ hm⟩, K₂⟩
    | cont => obtain ⟨h', tk, m₂, led₂, n', e, F₂, hm, N₂, hn, K₂⟩ := h₃; exact ⟨h', tk, m₂, led₂, n', e, F₂, N₂, hn, ⟨_, _, form m₂ hm⟩, K₂⟩
    | brk => exact h₃
    | ret v => exact h₃
theorem eq_str_ne {x y : Str} {t u : Tok} {Q : Value → Shared → Prop} (hne : x ≠ y) (h : Q (.bool false) s) : wpAny (model prog w) A (compareOp .Eq (.str x t) (.str y u)) Q E s := by
  refine PyProof.Rows.eq_str ?_
  rw [beq_eq_false_iff_ne.mpr hne]
  exact h
end
end Mine
namespace Mine
theorem HoldsB.mono {w : World} {led led' : Led} {b : Nat} {num : Int} {its : List Value} (h : HoldsB w led b num its) (q : Sub led led') : HoldsB w led' b num its := by
  cases h with
  | row m1 m2 m3 hz => exact .row (q _ m1) (q _ m2) (q _ m3) hz
  | dict m1 m2 m3 lo his hn hz hE => exact .dict (q _ m1) (q _ m2) (q _ m3) lo (keysIn_sub his q) hn hz (hE.mono fun p hp _ _ => q p hp)
  | text m1 m2 => exact .text (q _ m1) (q _ m2)
end Mine
namespace Mine
theorem lst_extend2 {prog : Program} {w : World} {A : Around} {E : Value → Shared → Prop} {s : Shared} {h₀ : Heap} {L D b : Addr} {m : Str → Option Value} {led : Led} {g : Obj → Led} {xs ys : List Value} {n n2 : Nat} {Q : Value → Shared → Prop} (F : Fr h₀ L s.heap m) (N : News h₀ L s.heap led) (U : UpdF D (listOf xs.toArray n) led g) (hb : s.heap.get? b = some (listOf ys.toArray n2)) (hz : xs.length + ys.length < 100000)
    (h : ∀ h' k', Fr h₀ L h' m → News h₀ L h' (g (listOf (xs ++ ys).toArray k')) → Q .none { s with heap := h' }) : wpAny (model prog w) A (call (.builtin "list.extend") [.ref D, .ref b]) Q E s := by
  refine xEA (lst_turn (ys := xs ++ ys) (f := fun x => x ++ ys.toArray) F N U (by simp)) fun k' F' N' => ?_
  have z := N _ (lst_mem U)
  exact call_meets PySem.F.slot_list_extend ⟨_, z.1, rfl⟩ PySem.F.entry_list_extend (PySem.F.args_list_extend_2 _ _) (PySem.AutoSeq1.list_extend_list_list_0 D _ n b _ n2 (by simp [Builtin.List.listTooLong, sizeLine]; omega) (by rw [List.size_toArray, sizeLine_eq]; omega) (by simp only [List.size_toArray]; rw [sizeLine_eq]; omega)) ⟨z.1, hb, h _ k' F' N'⟩
end Mine
end

-- B11
section
open PySem PySem.W PyProof.Rows PySem.Spec PySem.Calls
set_option linter.all false
set_option maxRecDepth 100000
namespace Mine
/-- a number of a body, or None -/
noncomputable def IV (n : Nat) (v : Value) (o : Option Nat) : Prop := (∃ (j : Nat) (t : Tok), v = .int j t ∧ o = some j ∧ j < n) ∨ (v = .none ∧ o = none)
/-- an entry of a held dict: its list -/
inductive HE (led : Led) (n : Nat) (x : KX) (os : List (Option Nat)) : Prop
  | mk (l k : Nat) (vs : List Value) (q1 : x.2.2 = .ref l) (q2 : (l, listOf vs.toArray k) ∈ led) (q3 : Paired (IV n) vs os) (q4 : vs.length ≤ 2) : HE led n x os
theorem HE.mono {led led' : Led} {n : Nat} {x : KX} {os : List (Option Nat)} (h : HE led n x os) (q : Sub led led') : HE led' n x os := let ⟨l, k, vs, a, b, c, d⟩ := h; ⟨l, k, vs, a, q _ b, c, d⟩
inductive LGat (led : Led) (bts : List Value) (n : Nat) (ladj : Nat → List (Option Nat)) (w : World) (j : Nat) : Prop
  | mk (t hd k : Nat) (kd bv : Value) (ys : List KX) (ls : List (List (Option Nat))) (q1 : bts[(j : Int).toNat]? = some (.ref t)) (q2 : (t, tupOf #[kd, bv, .ref hd]) ∈ led) (q3 : (hd, kdict w ys k) ∈ led) (q4 : (hd == sysModules) = false) (q5 : KeysIn led ys) (q6 : KNd ys) (q7 : ys.length ≤ 100) (q8 : Paired (HE led n) ys ls) (q9 : ladj j = ls.flatten) : LGat led bts n ladj w j
/-- the graph as the law holds it -/
noncomputable def LG (w : World) (led : Led) (bts : List Value) (n : Nat) (ladj : Nat → List (Option Nat)) : Prop :=
  ∀ j, j < n → LGat led bts n ladj w j
theorem paired_at {α β : Type} {F : α → β → Prop} {l : List α} {l' : List β} (h : Paired F l l') : ∀ {i : Nat} {a : α}, l[i]? = some a → ∃ b, l'[i]? = some b ∧ F a b := by
  induction h with
  | nil => intro i a h; simp at h
  | cons h _ ih =>
    intro i a e
    cases i with
    | zero => simp at e; subst e; exact ⟨_, rfl, h⟩
    | succ i => simpa using ih (by simpa using e)
theorem flat_take {α : Type} {ls : List (List α)} {i : Nat} {os : List α} (h : ls[i]? = some os) : (ls.take (i + 1)).flatten = (ls.take i).flatten ++ os := by
  rw [List.take_add_one, h]; simp
theorem held_len {led : Led} {n : Nat} {ys : List KX} {ls : List (List (Option Nat))} (h : Paired (HE led n) ys ls) : ls.flatten.length ≤ 2 * ys.length := by
  induction h with
  | nil => simp
  | cons h _ ih =>
    obtain ⟨_, _, vs, _, _, hp, hz⟩ := h
    have := hp.length
    simp only [List.flatten_cons, List.length_append, List.length_cons]
    omega
end Mine
namespace Mine
theorem numMem0 {found : List Nat} {xs : List KX} (h : xs.map (·.1) = found.map fun j : Nat => DK.num (j : Int)) {j : Nat} : DK.num (j : Int) ∈ xs.map (·.1) ↔ j ∈ found := by
  rw [h, List.mem_map]
  constructor
  · rintro ⟨i, hi, e⟩
    simp only [DK.num.injEq] at e
    rwa [show j = i by omega]
  · exact fun hj => ⟨j, hj, rfl⟩
theorem numPut0 {found : List Nat} {xs : List KX} (h : xs.map (·.1) = found.map fun j : Nat => DK.num (j : Int)) {j : Nat} (hj : j ∉ found) {key v : Value} : (kput (.num (j : Int)) key v xs).map (·.1) = (found ++ [j]).map fun j : Nat => DK.num (j : Int) := by
  rw [kput_keys, if_neg (by rw [numMem0 h]; exact hj), h]
  simp
end Mine
namespace Mine
theorem two_form {h₀ h : Heap} {L : Addr} {w : World} {wt rd k n : Nat} {us : List Value} {xs : List KX} {led : Led} {x : Addr × Obj} (N : News h₀ L h (x :: (wt, listOf us.toArray k) :: (rd, kdict w xs n) :: led)) : ∃ k9 n9 : Nat, News h₀ L h ((wt, listOf us.toArray k9) :: (rd, kdict w xs n9) :: led) := ⟨k, n, fun p hp => N p (List.mem_cons_of_mem _ hp)⟩
end Mine
namespace Mine
theorem flat_le {α : Type} (ls : List (List α)) (i : Nat) : (ls.take i).flatten.length ≤ ls.flatten.length := by
  conv => rhs; rw [← List.take_append_drop i ls, List.flatten_append, List.length_append]
  omega
end Mine
end

-- B12
section
open PySem PySem.W PyProof.Rows PySem.Spec PySem.Calls
set_option linter.all false
set_option maxRecDepth 100000
namespace Mine
/-- a body by its kind's word -/
inductive KB (w : World) (led : Led) (b : Nat) : Str → Prop
  | row {db c k : Nat} {its : List Value} {g1 g2 g3 g4 u1 u2 u3 u4} {nu gl lv : Value} (m1 : (b, instObj 114 db) ∈ led) (m2 : (db, rowD g1 g2 g3 g4 u1 u2 u3 u4 nu (.ref c) gl lv) ∈ led) (m3 : (c, listOf its.toArray k) ∈ led) (hz : its.length < 1000) : KB w led b (Str.ofString "row")
  | dict {db : Nat} (m1 : (b, instObj 147 db) ∈ led) : KB w led b (Str.ofString "dict")
  | text {db oc : Nat} {bs : Array UInt8} {g1 g2 g3 g4 u1 u2 u3 u4} {nu gl lv : Value} (m1 : (b, instObj 93 db) ∈ led) (m2 : (db, textD g1 g2 g3 g4 u1 u2 u3 u4 nu (.ref oc) gl lv) ∈ led) (m3 : (oc, baObj bs) ∈ led) (hz : bs.size ≤ 100) : KB w led b (Str.ofString "text")
theorem KB.mono {w : World} {led led' : Led} {b : Nat} {kd : Str} (h : KB w led b kd) (q : Sub led led') : KB w led' b kd := by
  cases h with
  | row m1 m2 m3 hz => exact .row (q _ m1) (q _ m2) (q _ m3) hz
  | dict m1 => exact .dict (q _ m1)
  | text m1 m2 m3 hz => exact .text (q _ m1) (q _ m2) (q _ m3) hz
/-- all of new lies above base -/
noncomputable def Above (new base : Led) : Prop := ∀ p ∈ new, AllLt p.1 base
theorem Above.nil {base : Led} : Above [] base := fun _ h => nomatch h
theorem Above.cons {x : Addr × Obj} {new base : Led} (h : AllLt x.1 base) (t : Above new base) : Above (x :: new) base := fun p hp => by
  rcases List.mem_cons.mp hp with rfl | hp
  · exact h
  · exact t p hp
theorem Above.apart {new base : Led} (h : Above new base) : Apart new base := fun x hx => allLt_off (h x hx)
end Mine
namespace Mine
theorem three_at {a b c v : Value} : ∀ {i : Nat}, [a, b, c][i]? = some v → v = a ∨ v = b ∨ v = c
  | 0, h => .inl (by simpa using h.symm)
  | 1, h => .inr (.inl (by simpa using h.symm))
  | 2, h => .inr (.inr (by simpa using h.symm))
  | i + 3, h => by simp at h
end Mine
end

-- F05
section
open PySem PySem.W PyProof.Rows PySem.Spec PySem.Calls
set_option linter.all false
set_option maxRecDepth 100000
namespace Mine
section
variable {prog : Program} {w : World} {A : Around} {E : Value → Shared → Prop} {s : Shared} {env : Env} {h₀ : Heap} {body : List Stmt} {Q : Flow → Shared → Prop}
/-- over a list; a turn stores one name that holds an int -/
theorem for_listI {x y : Str} {px pos : Pos} {iter : Expr} {vs : List Value} {m : Str → Option Value} {l k : Nat} {led : Led} {h : Heap} {tk : Nat} {z₀ : Int} {t₀ : Tok} (Pz : Int → Prop) (hh : A.handled = none) (F₀ : Fr h₀ env.locals s.heap m) (hx : env.kindOf x = some .local) (hk : env.scope.kind = .function) (hxy : ¬ x = y)
    (F : Fr h₀ env.locals h m) (N : News h₀ env.locals h led) (hm : (l, listOf vs.toArray k) ∈ led) (hz : vs.length < 10000) (hy0 : m y = some (.int z₀ t₀)) (hP0 : Pz z₀)
    (hev : ∀ Q' : Value → Shared → Prop, Q' (.ref l) { s with heap := h, toks := tk } → wpAny (model prog w) A (eval iter env) Q' E s)
    (step : ∀ (i : Nat) v z t h₁ tk₁ (I : Nat) oI, vs[i]? = some v → Pz z → (∀ p ∈ led, p.1 ∉ [I]) → Fr h₀ env.locals h₁ (fun u => if u = x then some v else if u = y then some (.int z t) else m u) → News h₀ env.locals h₁ ((I, oI) :: (l, listOf vs.toArray k) :: led) →
      wpAny (model prog w) A (execs body env) (fun f s' => f = .next ∧ ∃ h' tk' z' t', s' = { s with heap := h', toks := tk' } ∧ Pz z' ∧ Fr h₀ env.locals h' (fun u => if u = y then some (.int z' t') else if u = x then some v else if u = y then some (.int z t) else m u) ∧ News h₀ env.locals h' ((I, oI) :: (l, listOf vs.toArray k) :: led)) E { s with heap := h₁, toks := tk₁ })
    (fin : ∀ h' tk' p z t, Pz z → Fr h₀ env.locals h' (fun u => if u = x then p else if u = y then some (.int z t) else m u) → News h₀ env.locals h' led → Q .next { s with heap := h', toks := tk' })
    (hs : ∀ x, foldedSetIterable iter env x = pure x) (hE : PassesOwn (model prog w) A env E) :
    wpAny (model prog w) A (exec (.For (.Name x px) iter body [] pos) env) Q E s := by
  refine for_list (vs := vs) (m := m) (fun i m₁ led₁ => (∃ p z t, m₁ = (fun u => if u = x then p else if u = y then some (.int z t) else m u) ∧ Pz z) ∧ led₁ = led ∧ (∀ p ∈ led, True)) hh F₀ hx hk (hev _ ⟨l, k, led, h, tk, rfl, rfl, F, N, fun p hp => by rw [List.mem_singleton.mp hp]; exact N _ hm, hz, ⟨⟨m x, z₀, t₀, ?_, hP0⟩, rfl, fun _ _ => trivial⟩, ?_, ?_⟩) hs hE
  · funext u
    by_cases h1 : u = x
    · simp [h1]
    · by_cases h2 : u = y
      · subst h2; simp [h1, hy0]
      · simp [h1, h2]
  · rintro i v m₁ led₁ h₁ tk₁ I oI hv ⟨⟨p, z, t, rfl, hP⟩, rfl, _⟩ off lt F₁ N₁
    have e : (fun u => if u = x then some v else if u = x then p else if u = y then some (Value.int z t) else m u) = fun u => if u = x then some v else if u = y then some (.int z t) else m u := by
      funext u; by_cases h1 : u = x <;> simp [h1]
    rw [e] at F₁
    refine wpAny_mono (step i v z t h₁ tk₁ I oI hv hP off F₁ N₁) (fun f s' hf => ?_) fun _ _ e => e
    (refine xAEEEEAAA hf fun zr1 h' tk' z' t' zr2 hP' F₂ N₂ => ?_; clear hf; subst zr1; subst zr2)
    refine ⟨h', tk', _, led₁, rfl, F₂, N₂, off, ⟨some v, z', t', ?_, hP'⟩, rfl, fun _ _ => trivial⟩
    funext u
    by_cases h1 : u = x
    · subst h1; simp [hxy]
    · by_cases h2 : u = y
      · subst h2; simp [h1]
      · simp [h1, h2]
  · rintro h' tk' m' led' F' N' ⟨⟨p, z, t, rfl, hP⟩, rfl, _⟩
    exact fin h' tk' p z t hP F' N'
end
end Mine
namespace Mine
theorem ints_get : ∀ {us : List Value} {l : List Int}, IntsAre us l → ∀ {i : Nat} {v : Value}, us[i]? = some v → ∃ (z : Int) (t : Tok), v = .int z t := by
  intro us l h
  induction h with
  | nil => intro i v e; simp at e
  | cons a b _ ih =>
    intro i v e
    cases i with
    | zero => exact ⟨a, b, by simpa using e.symm⟩
    | succ i => exact ih (by simpa using e)
end Mine
end

-- B13
section
open PySem PySem.W PyProof.Rows PySem.Spec PySem.Calls
set_option linter.all false
set_option maxRecDepth 100000
namespace Mine
/-- the law's list of bodies: (kind, body, held) -/
noncomputable def BL (led : Led) (bts : List Value) (kind : Nat → Str) (bA hA : Nat → Nat) : Prop :=
  ∀ (i : Nat) (v : Value), bts[i]? = some v → ∃ (t : Nat) (tk : Tok), v = .ref t ∧ (t, tupOf #[.str (kind i) tk, .ref (bA i), .ref (hA i)]) ∈ led
/-- the places whose kind passes -/
noncomputable def places (p : Str → Bool) (kind : Nat → Str) (i : Nat) : List Nat := (List.range i).filter fun k => p (kind k)
theorem places_succ {p : Str → Bool} {kind : Nat → Str} {i : Nat} : places p kind (i + 1) = places p kind i ++ if p (kind i) = true then [i] else [] := by
  unfold places
  rw [List.range_succ, List.filter_append]
  by_cases h : p (kind i) = true <;> simp [h]
theorem mem_places {p : Str → Bool} {kind : Nat → Str} {i k : Nat} : k ∈ places p kind i ↔ k < i ∧ p (kind k) = true := by
  unfold places
  rw [List.mem_filter, List.mem_range]
end Mine
namespace Mine
theorem places_pos {p : Str → Bool} {kind : Nat → Str} {i : Nat} {ys : List Value} {t : Tok} (h : IntsAre ys ((places p kind i).map fun k : Nat => (k : Int))) (hp : p (kind i) = true) : IntsAre (ys ++ [.int i t]) ((places p kind (i + 1)).map fun k : Nat => (k : Int)) := by
  rw [places_succ, if_pos hp, List.map_append]
  exact ints_snoc h
theorem places_neg {p : Str → Bool} {kind : Nat → Str} {i : Nat} {ys : List Value} (h : IntsAre ys ((places p kind i).map fun k : Nat => (k : Int))) (hp : p (kind i) = false) : IntsAre ys ((places p kind (i + 1)).map fun k : Nat => (k : Int)) := by
  rw [places_succ, if_neg (by rw [hp]; decide), List.append_nil]
  exact h
end Mine
namespace Mine
theorem ints_at : ∀ {us : List Value} {l : List Int}, IntsAre us l → ∀ {i : Nat} {v : Value}, us[i]? = some v → ∃ (z : Int) (t : Tok), v = .int z t ∧ l[i]? = some z := by
  intro us l h
  induction h with
  | nil => intro i v e; simp at e
  | cons a b _ ih =>
    intro i v e
    cases i with
    | zero => exact ⟨a, b, by simpa using e.symm, by simp⟩
    | succ i => simpa using ih (by simpa using e)
theorem place_at {p : Str → Bool} {kind : Nat → Str} {n : Nat} {ys : List Value} (h : IntsAre ys ((places p kind n).map fun k : Nat => (k : Int))) {i : Nat} {v : Value} (e : ys[i]? = some v) : ∃ (k : Nat) (t : Tok), v = .int k t ∧ k < n ∧ p (kind k) = true := by
  (refine xEEA (ints_at h e) fun z t zr1 hz => ?_; subst zr1)
  rw [List.getElem?_map] at hz
  cases hq : (places p kind n)[i]? with
  | none => rw [hq] at hz; cases hz
  | some k =>
    rw [hq] at hz
    cases hz
    exact ⟨k, t, rfl, mem_places.mp (List.mem_of_getElem? hq)⟩
theorem BL.at {led : Led} {bts : List Value} {kind : Nat → Str} {bA hA : Nat → Nat} (h : BL led bts kind bA hA) {k : Nat} (hk : k < bts.length) : ∃ (t : Nat) (tk : Tok), bts[(k : Int).toNat]? = some (.ref t) ∧ (t, tupOf #[.str (kind k) tk, .ref (bA k), .ref (hA k)]) ∈ led := by
  obtain ⟨t, tk, e, hm⟩ := h k _ (List.getElem?_eq_getElem hk)
  exact ⟨t, tk, by rw [Int.toNat_natCast, List.getElem?_eq_getElem hk, e], hm⟩
end Mine
end

-- B14
section
open PySem PySem.W PyProof.Rows PySem.Spec PySem.Calls
set_option linter.all false
set_option maxRecDepth 100000
namespace Mine
/-! lists by keys, in plain words -/
section
variable {β : Type}
noncomputable def aput (k : DK) (o : β) : List (DK × β) → List (DK × β)
  | [] => [(k, o)]
  | x :: r => if x.1 = k then (x.1, o) :: r else x :: aput k o r
noncomputable def adel (k : DK) : List (DK × β) → List (DK × β)
  | [] => []
  | x :: r => if x.1 = k then r else x :: adel k r
noncomputable abbrev Par (G : Value → β → Prop) : List KX → List (DK × β) → Prop := Paired fun x e => x.1 = e.1 ∧ G x.2.2 e.2
variable {G G' : Value → β → Prop} {xs : List KX} {es : List (DK × β)} {k : DK} {key v : Value} {o : β}
theorem Par.mono (q : ∀ v o, G v o → G' v o) (h : Par G xs es) : Par G' xs es := paired_mono (fun _ _ z => ⟨z.1, q _ _ z.2⟩) h
theorem Par.keys (h : Par G xs es) : xs.map (·.1) = es.map (·.1) := by
  induction h with
  | nil => rfl
  | cons h _ ih => simp only [List.map_cons, h.1, ih]
theorem Par.put (h : Par G xs es) (hv : G v o) : Par G (kput k key v xs) (aput k o es) := by
  induction h with
  | nil => exact .cons ⟨rfl, hv⟩ .nil
  | cons h t ih =>
    rw [kput, aput, h.1]
    split
    · exact .cons ⟨rfl, hv⟩ t
    · exact .cons h ih
theorem Par.del (h : Par G xs es) : Par G (kdel k xs) (adel k es) := by
  induction h with
  | nil => exact .nil
  | cons h t ih =>
    rw [kdel, adel, h.1]
    split
    · exact t
    · exact .cons h ih
theorem Par.get (h : Par G xs es) (hv : kget k xs = some v) : ∃ o, (k, o) ∈ es ∧ G v o := by
  induction h with
  | nil => cases hv
  | cons h t ih =>
    rename_i x e xs es
    rw [kget] at hv
    split at hv
    · rename_i hk
      cases hv
      exact ⟨e.2, by rw [← hk, h.1]; exact .head _, h.2⟩
    · refine xEA (ih hv) fun o ho g => ?_
      exact ⟨o, .tail _ ho, g⟩
theorem mem_aput (hn : (es.map (·.1)).Nodup) {e : DK × β} : e ∈ aput k o es ↔ e = (k, o) ∨ (e ∈ es ∧ e.1 ≠ k) := by
  induction es with
  | nil => simp [aput]
  | cons x r ih =>
    rw [List.map_cons, List.nodup_cons] at hn
    rw [aput]
    split
    · rename_i hk
      subst hk
      constructor
      · intro h
        rcases List.mem_cons.mp h with h | h
        · exact .inl h
        · exact .inr ⟨.tail _ h, fun q => hn.1 (q ▸ List.mem_map_of_mem h)⟩
      · rintro (h | ⟨h, q⟩)
        · rw [h]; exact .head _
        · rcases List.mem_cons.mp h with rfl | h
          · exact absurd rfl q
          · exact .tail _ h
    · rename_i hk
      rw [List.mem_cons, ih hn.2, List.mem_cons]
      constructor
      · rintro (rfl | h | ⟨h, q⟩)
        · exact .inr ⟨.inl rfl, hk⟩
        · exact .inl h
        · exact .inr ⟨.inr h, q⟩
      · rintro (h | ⟨rfl | h, q⟩)
        · exact .inr (.inl h)
        · exact .inl rfl
        · exact .inr (.inr ⟨h, q⟩)
theorem mem_adel (hn : (es.map (·.1)).Nodup) {e : DK × β} : e ∈ adel k es ↔ e ∈ es ∧ e.1 ≠ k := by
  induction es with
  | nil => simp [adel]
  | cons x r ih =>
    rw [List.map_cons, List.nodup_cons] at hn
    rw [adel]
    split
    · rename_i hk
      subst hk
      constructor
      · intro h
        exact ⟨.tail _ h, fun q => hn.1 (q ▸ List.mem_map_of_mem h)⟩
      · rintro ⟨h, q⟩
        rcases List.mem_cons.mp h with rfl | h
        · exact absurd rfl q
        · exact h
    · rename_i hk
      rw [List.mem_cons, ih hn.2, List.mem_cons]
      constructor
      · rintro (rfl | ⟨h, q⟩)
        · exact ⟨.inl rfl, hk⟩
        · exact ⟨.inr h, q⟩
      · rintro ⟨rfl | h, q⟩
        · exact .inl rfl
        · exact .inr ⟨h, q⟩
theorem Par.get_of (h : Par G xs es) (hm : k ∈ es.map (·.1)) : ∃ v, kget k xs = some v := kget_some_of (by rw [h.keys]; exact hm)
theorem Par.get_not (h : Par G xs es) (hm : k ∉ es.map (·.1)) : kget k xs = none := kget_none_of (by rw [h.keys]; exact hm)
end

/-! the bodies -/
/-- a held list -/
inductive HV (led : Led) (n : Nat) (v : Value) (os : List (Option Nat)) : Prop
  | mk (l k : Nat) (vs : List Value) (q1 : v = .ref l) (q2 : (l, listOf vs.toArray k) ∈ led) (q3 : Paired (IV n) vs os) (q4 : vs.length ≤ 2) : HV led n v os
theorem HV.mono {led led' : Led} {n : Nat} {v : Value} {os : List (Option Nat)} (q : Sub led led') (h : HV led n v os) : HV led' n v os := let ⟨l, k, vs, a, b, c, d⟩ := h; ⟨l, k, vs, a, q _ b, c, d⟩
theorem Par.held {led : Led} {n : Nat} {ys : List KX} {hl : List (DK × List (Option Nat))} (h : Par (HV led n) ys hl) : Paired (HE led n) ys (hl.map (·.2)) := by
  induction h with
  | nil => exact .nil
  | cons h _ ih => exact .cons (let ⟨l, k, vs, a, b, c, d⟩ := h.2; ⟨l, k, vs, a, b, c, d⟩) ih
/-- an entry of a dict's -/
inductive EV (led : Led) (bA : Nat → Nat) (n : Nat) (v : Value) (p : Option Nat × Option Nat) : Prop
  | mk (tt : Nat) (kept th : Value) (q1 : v = .ref tt) (q2 : (tt, tupOf #[kept, th]) ∈ led) (q3 : DJ led bA n kept p.1) (q4 : DJ led bA n th p.2) : EV led bA n v p
theorem EV.mono {led led' : Led} {bA : Nat → Nat} {n : Nat} {v : Value} {p : Option Nat × Option Nat} (q : Sub led led') (h : EV led bA n v p) : EV led' bA n v p := let ⟨tt, a, b, e, c, d, f⟩ := h; ⟨tt, a, b, e, q _ c, d.mono q, f.mono q⟩
theorem Par.ents {led : Led} {bA : Nat → Nat} {n : Nat} {xs : List KX} {el : List (DK × (Option Nat × Option Nat))} (h : Par (EV led bA n) xs el) : ∃ its, Ents led xs its ∧ Paired (DJ led bA n) its (el.flatMap fun e => [e.2.1, e.2.2]) := by
  induction h with
  | nil => exact ⟨[], .nil, .nil⟩
  | cons h _ ih =>
    obtain ⟨tt, kept, th, e, hm, d1, d2⟩ := h.2
    (refine xEA ih fun its hE hP => ?_; clear ih)
    exact ⟨kept :: th :: its, .cons e hm hE, .cons d1 (.cons d2 hP)⟩
/-- a row's items and what the law holds of it -/
noncomputable def RL (os : List (Option Nat)) (hl : List (DK × List (Option Nat))) : Prop :=
  (∀ e ∈ hl, ∃ i : Nat, i < 3 ∧ e = (.num i, [os.getD i none])) ∧ (∀ i : Nat, i < 3 → os.getD i none = none ∨ (DK.num i, [os.getD i none]) ∈ hl)
/-- the same entry in the dict and in what the law holds of it -/
noncomputable def Corr (e : DK × (Option Nat × Option Nat)) (h : DK × List (Option Nat)) : Prop :=
  (∃ i : Nat, i < 3 ∧ e.1 = .tup (Str.ofString "number") [(i : Int) * 1000000] ∧ h.1 = .num i ∧ e.2.1 = none ∧ h.2 = [e.2.2]) ∨
  (∃ f : Nat, f < 5 ∧ e.1 = .tup (Str.ofString "array") [(f : Int) + 1, 0, 3] ∧ h.1 = .tup (Str.ofString "row") [(f : Int)] ∧ e.2.1 = some f ∧ h.2 = [e.2.2, some f])
noncomputable def DL (el : List (DK × (Option Nat × Option Nat))) (hl : List (DK × List (Option Nat))) : Prop := (∀ e ∈ el, ∃ h ∈ hl, Corr e h) ∧ (∀ h ∈ hl, ∃ e ∈ el, Corr e h)
/-- the keys that belong together -/
inductive KP : DK → DK → Option Nat → Prop
  | num (i : Nat) (h : i < 3) : KP (.tup (Str.ofString "number") [(i : Int) * 1000000]) (.num i) none
  | row (f : Nat) (h : f < 5) : KP (.tup (Str.ofString "array") [(f : Int) + 1, 0, 3]) (.tup (Str.ofString "row") [(f : Int)]) (some f)
noncomputable def lead (o q : Option Nat) : List (Option Nat) := match q with | none => [o] | some f => [o, some f]
theorem corr_iff {e : DK × (Option Nat × Option Nat)} {h : DK × List (Option Nat)} : Corr e h ↔ KP e.1 h.1 e.2.1 ∧ h.2 = lead e.2.2 e.2.1 := by
  obtain ⟨k, q, o⟩ := e
  obtain ⟨k', l⟩ := h
  constructor
  · rintro (⟨i, hi, rfl, rfl, rfl, rfl⟩ | ⟨f, hf, rfl, rfl, rfl, rfl⟩)
    · exact ⟨.num i hi, rfl⟩
    · exact ⟨.row f hf, rfl⟩
  · rintro ⟨h1, rfl⟩
    dsimp only at h1
    cases h1 with
    | num i hi => exact .inl ⟨i, hi, rfl, rfl, rfl, rfl⟩
    | row f hf => exact .inr ⟨f, hf, rfl, rfl, rfl, rfl⟩
theorem word_ne1 : Str.ofString "number" ≠ Str.ofString "array" := by decide +kernel
theorem KP.left {a b b' : DK} {q q' : Option Nat} (h : KP a b q) (h' : KP a b' q') : b = b' ∧ q = q' := by
  cases h with
  | num i hi =>
    generalize e : DK.tup (Str.ofString "number") [(i : Int) * 1000000] = a at h'
    cases h' with
    | num j hj => simp only [DK.tup.injEq, List.cons.injEq, true_and, and_true] at e; obtain rfl : i = j := by omega
                  exact ⟨rfl, rfl⟩
    | row f hf => simp only [DK.tup.injEq] at e; exact absurd e.1 word_ne1
  | row f hf =>
    generalize e : DK.tup (Str.ofString "array") [(f : Int) + 1, 0, 3] = a at h'
    cases h' with
    | num j hj => simp only [DK.tup.injEq] at e; exact absurd e.1.symm word_ne1
    | row g hg => simp only [DK.tup.injEq, List.cons.injEq, true_and, and_true] at e; obtain rfl : f = g := by omega
                  exact ⟨rfl, rfl⟩
theorem KP.right {a a' b : DK} {q q' : Option Nat} (h : KP a b q) (h' : KP a' b q') : a = a' ∧ q = q' := by
  cases h with
  | num i hi =>
    generalize e : DK.num (i : Int) = b at h'
    cases h' with
    | num j hj => simp only [DK.num.injEq] at e; obtain rfl : i = j := by omega
                  exact ⟨rfl, rfl⟩
    | row f hf => cases e
  | row f hf =>
    generalize e : DK.tup (Str.ofString "row") [(f : Int)] = b at h'
    cases h' with
    | num j hj => cases e
    | row g hg => simp only [DK.tup.injEq, List.cons.injEq, true_and, and_true] at e; obtain rfl : f = g := by omega
                  exact ⟨rfl, rfl⟩
theorem RL.put {os : List (Option Nat)} {hl : List (DK × List (Option Nat))} (h : RL os hl) (hz : os.length = 3) (hn : (hl.map (·.1)).Nodup) {i : Nat} (hi : i < 3) (o : Option Nat) : RL (os.set i o) (aput (.num i) [o] hl) := by
  have g : ∀ j, (os.set i o).getD j none = if j = i then o else os.getD j none := fun j => by
    simp only [List.getD_eq_getElem?_getD, List.getElem?_set]
    by_cases e : j = i
    · subst e; simp [hz, hi]
    · rw [if_neg (fun q => e q.symm), if_neg e]
  refine ⟨fun e he => ?_, fun j hj => ?_⟩
  · rcases (mem_aput hn).mp he with rfl | ⟨he, hk⟩
    · exact ⟨i, hi, by rw [g, if_pos rfl]⟩
    · (refine xEA (h.1 e he) fun j hj zr1 => ?_; subst zr1)
      have : ¬ j = i := fun q => hk (by rw [q])
      exact ⟨j, hj, by rw [g, if_neg this]⟩
  · rw [g]
    by_cases e : j = i
    · subst e; rw [if_pos rfl]; exact .inr ((mem_aput hn).mpr (.inl rfl))
    · rw [if_neg e]
      refine (h.2 j hj).imp id fun hm => (mem_aput hn).mpr (.inr ⟨hm, ?_⟩)
      intro q
      simp only [DK.num.injEq] at q
      omega
theorem DL.put {el : List (DK × (Option Nat × Option Nat))} {hl : List (DK × List (Option Nat))} (h : DL el hl) (hn : (el.map (·.1)).Nodup) (hn' : (hl.map (·.1)).Nodup) {a b : DK} {q : Option Nat} (hk : KP a b q) (o : Option Nat) : DL (aput a (q, o) el) (aput b (lead o q) hl) := by
  refine ⟨fun e he => ?_, fun z hz => ?_⟩
  · rcases (mem_aput hn).mp he with rfl | ⟨he, hne⟩
    · exact ⟨_, (mem_aput hn').mpr (.inl rfl), corr_iff.mpr ⟨hk, rfl⟩⟩
    · refine xEA (h.1 e he) fun z hz hc => ?_
      refine ⟨z, (mem_aput hn').mpr (.inr ⟨hz, fun e2 => hne ?_⟩), hc⟩
      have hc' := (corr_iff.mp hc).1
      rw [e2] at hc'
      exact (hc'.right hk).1
  · rcases (mem_aput hn').mp hz with rfl | ⟨hz, hne⟩
    · exact ⟨_, (mem_aput hn).mpr (.inl rfl), corr_iff.mpr ⟨hk, rfl⟩⟩
    · refine xEA (h.2 z hz) fun e he hc => ?_
      refine ⟨e, (mem_aput hn).mpr (.inr ⟨he, fun e2 => hne ?_⟩), hc⟩
      have hc' := (corr_iff.mp hc).1
      rw [e2] at hc'
      exact (hc'.left hk).1
theorem DL.del {el : List (DK × (Option Nat × Option Nat))} {hl : List (DK × List (Option Nat))} (h : DL el hl) (hn : (el.map (·.1)).Nodup) (hn' : (hl.map (·.1)).Nodup) {a b : DK} {q : Option Nat} (hk : KP a b q) : DL (adel a el) (adel b hl) := by
  refine ⟨fun e he => ?_, fun z hz => ?_⟩
  · refine xA ((mem_adel hn).mp he) fun he hne => ?_
    refine xEA (h.1 e he) fun z hz hc => ?_
    refine ⟨z, (mem_adel hn').mpr ⟨hz, fun e2 => hne ?_⟩, hc⟩
    have hc' := (corr_iff.mp hc).1
    rw [e2] at hc'
    exact (hc'.right hk).1
  · refine xA ((mem_adel hn').mp hz) fun hz hne => ?_
    refine xEA (h.2 z hz) fun e he hc => ?_
    refine ⟨e, (mem_adel hn).mpr ⟨he, fun e2 => hne ?_⟩, hc⟩
    have hc' := (corr_iff.mp hc).1
    rw [e2] at hc'
    exact (hc'.left hk).1
theorem DL.key {el : List (DK × (Option Nat × Option Nat))} {hl : List (DK × List (Option Nat))} (h : DL el hl) {a b : DK} {q : Option Nat} (hk : KP a b q) : b ∈ hl.map (·.1) ↔ a ∈ el.map (·.1) := by
  constructor
  · intro hb
    (refine xEA (List.mem_map.mp hb) fun z hz zr2 => ?_; subst zr2)
    refine xEA (h.2 z hz) fun e he hc => ?_
    rw [← ((corr_iff.mp hc).1.right hk).1]
    exact List.mem_map_of_mem he
  · intro ha
    (refine xEA (List.mem_map.mp ha) fun e he zr3 => ?_; subst zr3)
    refine xEA (h.1 e he) fun z hz hc => ?_
    rw [← ((corr_iff.mp hc).1.left hk).1]
    exact List.mem_map_of_mem hz
/-- what an entry's key leads to -/
theorem DL.at {el : List (DK × (Option Nat × Option Nat))} {hl : List (DK × List (Option Nat))} (h : DL el hl) {a b : DK} {q q' o : Option Nat} (hk : KP a b q) (he : (a, (q', o)) ∈ el) : q' = q := by
  refine xEA (h.1 _ he) fun z _ hc => ?_
  exact ((corr_iff.mp hc).1.left hk).2
theorem DL.few {el : List (DK × (Option Nat × Option Nat))} {hl : List (DK × List (Option Nat))} (h : DL el hl) (hn : (el.map (·.1)).Nodup) : el.length ≤ 8 := by
  let code : DK → Nat := fun k => match k with | .tup _ [i] => (i / 1000000).toNat | .tup _ (i :: _) => 2 + i.toNat | _ => 0
  have hc : ∀ e ∈ el, (∃ i : Nat, i < 3 ∧ e.1 = .tup (Str.ofString "number") [(i : Int) * 1000000]) ∨ (∃ f : Nat, f < 5 ∧ e.1 = .tup (Str.ofString "array") [(f : Int) + 1, 0, 3]) := fun e he => by
    refine xEA (h.1 e he) fun z _ hc => ?_
    rcases hc with ⟨i, hi, h1, _⟩ | ⟨f, hf, h1, _⟩
    · exact .inl ⟨i, hi, h1⟩
    · exact .inr ⟨f, hf, h1⟩
  have c1 : ∀ i : Nat, code (.tup (Str.ofString "number") [(i : Int) * 1000000]) = i := fun i => by
    show ((i : Int) * 1000000 / 1000000).toNat = i
    rw [Int.mul_ediv_cancel _ (by decide)]
    rfl
  have c2 : ∀ f : Nat, code (.tup (Str.ofString "array") [(f : Int) + 1, 0, 3]) = 3 + f := fun f => by
    exact (Nat.add_comm 2 (f + 1)).trans (Nat.add_comm f 3)
  have hz := nodup_le 8 ((el.map (·.1)).map code) (by
    unfold List.Nodup at hn ⊢
    rw [List.pairwise_map]
    refine hn.imp_of_mem ?_
    intro a b ha hb hne e
    (refine xEA (List.mem_map.mp ha) fun x hx zr4 => ?_; subst zr4)
    (refine xEA (List.mem_map.mp hb) fun y hy zr5 => ?_; subst zr5)
    rcases hc x hx with ⟨i, hi, e1⟩ | ⟨f, hf, e1⟩ <;> rcases hc y hy with ⟨i', hi', e2⟩ | ⟨f', hf', e2⟩ <;> rw [e1, e2] at e hne <;> simp only [c1, c2] at e
    · exact hne (by rw [e])
    · omega
    · omega
    · exact hne (by rw [show f = f' by omega])) (fun j hj => by
    (refine xEA (List.mem_map.mp hj) fun k hk zr6 => ?_; subst zr6)
    (refine xEA (List.mem_map.mp hk) fun x hx zr7 => ?_; subst zr7)
    rcases hc x hx with ⟨i, hi, e1⟩ | ⟨f, hf, e1⟩ <;> rw [e1] <;> simp only [c1, c2] <;> omega)
  simpa using hz
end Mine
end

-- B15
section
open PySem PySem.W PyProof.Rows PySem.Spec PySem.Calls
set_option linter.all false
set_option maxRecDepth 100000
namespace Mine
theorem few_of {l : List DK} (hn : l.Nodup) (c : DK → Nat) (N : Nat) (hb : ∀ k ∈ l, c k < N) (hi : ∀ a ∈ l, ∀ b ∈ l, c a = c b → a = b) : l.length ≤ N := by
  have hz := nodup_le N (l.map c) (by
    unfold List.Nodup at hn ⊢
    rw [List.pairwise_map]
    refine hn.imp_of_mem ?_
    intro a b ha hb' hne e
    exact hne (hi a ha b hb' e)) (fun j hj => by
    (refine xEA (List.mem_map.mp hj) fun k hk zr1 => ?_; subst zr1)
    exact hb k hk)
  simpa using hz
theorem held_few {hl : List (DK × List (Option Nat))} (hn : (hl.map (·.1)).Nodup) (h : ∀ e ∈ hl, (∃ i : Nat, i < 3 ∧ e.1 = .num i) ∨ (∃ f : Nat, f < 5 ∧ e.1 = .tup (Str.ofString "row") [(f : Int)])) : hl.length ≤ 8 := by
  have hz := few_of hn (fun k => match k with | .num i => i.toNat | .tup _ [i] => 3 + i.toNat | _ => 0) 8 (fun k hk => by
    (refine xEA (List.mem_map.mp hk) fun e he zr2 => ?_; subst zr2)
    rcases h e he with ⟨i, hi, q⟩ | ⟨i, hi, q⟩ <;> rw [q] <;> dsimp only <;> omega) (fun a ha b hb e => by
    (refine xEA (List.mem_map.mp ha) fun x hx zr3 => ?_; subst zr3)
    (refine xEA (List.mem_map.mp hb) fun y hy zr4 => ?_; subst zr4)
    rcases h x hx with ⟨i, hi, e1⟩ | ⟨f, hf, e1⟩ <;> rcases h y hy with ⟨i', hi', e2⟩ | ⟨f', hf', e2⟩ <;> rw [e1, e2] at e ⊢ <;> dsimp only at e
    · rw [show i = i' by omega]
    · omega
    · omega
    · rw [show f = f' by omega])
  simpa using hz
theorem RL.few {os : List (Option Nat)} {hl : List (DK × List (Option Nat))} (h : RL os hl) (hn : (hl.map (·.1)).Nodup) : hl.length ≤ 8 :=
  held_few hn fun e he => by (refine xEA (h.1 e he) fun i hi zr5 => ?_; subst zr5); exact .inl ⟨i, hi, rfl⟩
theorem DL.few2 {el : List (DK × (Option Nat × Option Nat))} {hl : List (DK × List (Option Nat))} (h : DL el hl) (hn : (hl.map (·.1)).Nodup) : hl.length ≤ 8 :=
  held_few hn fun z hz => by
    refine xEA (h.2 z hz) fun e _ hc => ?_
    rcases hc with ⟨i, hi, _, h1, _⟩ | ⟨f, hf, _, h1, _⟩
    · exact .inl ⟨i, hi, h1⟩
    · exact .inr ⟨f, hf, h1⟩
theorem RL.link {os : List (Option Nat)} {hl : List (DK × List (Option Nat))} (h : RL os hl) (hz : os.length = 3) (k : Nat) : some k ∈ os ↔ some k ∈ (hl.map (·.2)).flatten := by
  simp only [List.mem_flatten, List.mem_map]
  constructor
  · intro hm
    obtain ⟨i, hi, e⟩ := List.getElem_of_mem hm
    have hg : os.getD i none = some k := by simp [List.getD_eq_getElem?_getD, List.getElem?_eq_getElem hi, e]
    rcases h.2 i (by omega) with q | q
    · rw [hg] at q; cases q
    · exact ⟨_, ⟨_, q, rfl⟩, by rw [hg]; exact .head _⟩
  · rintro ⟨l, ⟨e, he, rfl⟩, hk⟩
    (refine xEA (h.1 e he) fun i hi zr6 => ?_; subst zr6)
    have hg := List.mem_singleton.mp hk
    have hi' : i < os.length := by omega
    rw [List.getD_eq_getElem?_getD, List.getElem?_eq_getElem hi', Option.getD_some] at hg
    rw [hg]
    exact List.getElem_mem hi'
theorem mem_lead {k : Nat} {o q : Option Nat} : some k ∈ lead o q ↔ q = some k ∨ o = some k := by
  cases q with
  | none => simp [lead, eq_comm]
  | some f => simp [lead, eq_comm, or_comm]
theorem DL.link {el : List (DK × (Option Nat × Option Nat))} {hl : List (DK × List (Option Nat))} (h : DL el hl) (k : Nat) : some k ∈ (el.flatMap fun e => [e.2.1, e.2.2]) ↔ some k ∈ (hl.map (·.2)).flatten := by
  simp only [List.mem_flatten, List.mem_map, List.mem_flatMap]
  constructor
  · rintro ⟨e, he, hk⟩
    refine xEA (h.1 e he) fun z hz hc => ?_
    refine ⟨z.2, ⟨z, hz, rfl⟩, ?_⟩
    rw [(corr_iff.mp hc).2, mem_lead]
    simpa [eq_comm] using hk
  · rintro ⟨l, ⟨z, hz, rfl⟩, hk⟩
    refine xEA (h.2 z hz) fun e he hc => ?_
    rw [(corr_iff.mp hc).2, mem_lead] at hk
    exact ⟨e, he, by simpa [eq_comm] using hk⟩
/-- a body: what it leads to, by the memory and by the law -/
inductive BodyOK (w : World) (imm : Led) (bA : Nat → Nat) (n j b cc : Nat) : Str → Obj → Obj → List (Option Nat) → List (Option Nat) → Prop
  | row {db k kk : Nat} {its : List Value} {os : List (Option Nat)} {ys : List KX} {hl : List (DK × List (Option Nat))} {g1 g2 g3 g4 u1 u2 u3 u4} {tn tl : Tok} (m1 : (b, instObj 114 db) ∈ imm) (m2 : (db, rowD g1 g2 g3 g4 u1 u2 u3 u4 (.int ((j : Int) + 1) tn) (.ref cc) (.bool false) (.int 0 tl)) ∈ imm)
      (h3 : its.length = 3) (hp : Paired (DJ imm bA n) its os) (ha : AllNum ys) (hn : KNd ys) (hh : Par (HV imm n) ys hl) (hR : RL os hl) : BodyOK w imm bA n j b cc (Str.ofString "row") (listOf its.toArray k) (kdict w ys kk) os (hl.map (·.2)).flatten
  | dict {db k kk : Nat} {xs ys : List KX} {el : List (DK × (Option Nat × Option Nat))} {hl : List (DK × List (Option Nat))} {g1 g2 g3 g4 g5 g6 u1 u2 u3 u4 u5 u6} {tn tm tl : Tok} {ac : Value} (m1 : (b, instObj 147 db) ∈ imm) (m2 : (db, dictD g1 g2 g3 g4 g5 g6 u1 u2 u3 u4 u5 u6 (.int ((j : Int) + 1) tn) (.int 9 tm) (.bool false) (.int 0 tl) ac (.ref cc)) ∈ imm) (lo : (cc == sysModules) = false)
      (his : KeysIn imm xs) (hn : KNd xs) (hE : Par (EV imm bA n) xs el) (hki : KeysIn imm ys) (hkn : KNd ys) (hh : Par (HV imm n) ys hl) (hD : DL el hl) : BodyOK w imm bA n j b cc (Str.ofString "dict") (kdict w xs k) (kdict w ys kk) (el.flatMap fun e => [e.2.1, e.2.2]) (hl.map (·.2)).flatten
  | text {db kk : Nat} {bs : Array UInt8} {g1 g2 g3 g4 u1 u2 u3 u4} {tn : Tok} {gl lv : Value} (m1 : (b, instObj 93 db) ∈ imm) (m2 : (db, textD g1 g2 g3 g4 u1 u2 u3 u4 (.int ((j : Int) + 1) tn) (.ref cc) gl lv) ∈ imm) (hz : bs.size ≤ 100) : BodyOK w imm bA n j b cc (Str.ofString "text") (baObj bs) (kdict w [] kk) [] []
theorem KNd.par {β : Type} {G : Value → β → Prop} {xs : List KX} {es : List (DK × β)} (h : Par G xs es) (hn : KNd xs) : (es.map (·.1)).Nodup := by rw [← h.keys]; exact hn
theorem BodyOK.mono {w : World} {imm imm' : Led} {bA : Nat → Nat} {n j b cc : Nat} {kd : Str} {co ho : Obj} {a la : List (Option Nat)} (h : BodyOK w imm bA n j b cc kd co ho a la) (q : Sub imm imm') : BodyOK w imm' bA n j b cc kd co ho a la := by
  cases h with
  | row m1 m2 h3 hp ha hn hh hR => exact .row (q _ m1) (q _ m2) h3 (paired_mono (fun _ _ z => z.mono q) hp) ha hn (hh.mono fun _ _ z => z.mono q) hR
  | dict m1 m2 lo his hn hE hki hkn hh hD => exact .dict (q _ m1) (q _ m2) lo (keysIn_sub his q) hn (hE.mono fun _ _ z => z.mono q) (keysIn_sub hki q) hkn (hh.mono fun _ _ z => z.mono q) hD
  | text m1 m2 hz => exact .text (q _ m1) (q _ m2) hz
theorem BodyOK.kb {w : World} {imm led : Led} {bA : Nat → Nat} {n j b cc : Nat} {kd : Str} {co ho : Obj} {a la : List (Option Nat)} (h : BodyOK w imm bA n j b cc kd co ho a la) (q : Sub imm led) (hc : (cc, co) ∈ led) : KB w led b kd := by
  cases h with
  | row m1 m2 h3 hp ha hn hh hR => exact .row (q _ m1) (q _ m2) hc (by omega)
  | dict m1 m2 lo his hn hE hki hkn hh hD => exact .dict (q _ m1)
  | text m1 m2 hz => exact .text (q _ m1) (q _ m2) hc hz
theorem BodyOK.link {w : World} {imm : Led} {bA : Nat → Nat} {n j b cc : Nat} {kd : Str} {co ho : Obj} {a la : List (Option Nat)} (h : BodyOK w imm bA n j b cc kd co ho a la) (k : Nat) : some k ∈ a ↔ some k ∈ la := by
  cases h with
  | row m1 m2 h3 hp ha hn hh hR => exact hR.link (hp.length.symm.trans h3) k
  | dict m1 m2 lo his hn hE hki hkn hh hD => exact hD.link k
  | text m1 m2 hz => exact Iff.rfl
theorem DJ.wide {led : Led} {bA bA' : Nat → Nat} {n n' : Nat} {v : Value} {o : Option Nat} (h : DJ led bA n v o) (hn : n ≤ n') (e : ∀ i, i < n → bA i = bA' i) : DJ led bA' n' v o := by
  refine ⟨fun k hk => Nat.lt_of_lt_of_le (h.1 k hk) hn, ?_⟩
  have := h.2
  cases o with
  | none => exact this
  | some k => rwa [Option.map_some, e k (h.1 k rfl)] at this
theorem BodyOK.holds {w : World} {imm led : Led} {bA : Nat → Nat} {n j b cc : Nat} {kd : Str} {co ho : Obj} {a la : List (Option Nat)} (h : BodyOK w imm bA n j b cc kd co ho a la) (q : Sub imm led) (hc : (cc, co) ∈ led) :
    a.length ≤ 1000 ∧ ∃ its, HoldsB w led b ((j : Int) + 1) its ∧ Paired (DJ led bA n) its a := by
  cases h with
  | row m1 m2 h3 hp ha hn hh hR => exact ⟨by have := hp.length; omega, _, .row (q _ m1) (q _ m2) hc (by omega), paired_mono (fun _ _ z => z.mono q) hp⟩
  | dict m1 m2 lo his hn hE hki hkn hh hD =>
    refine xEA (hE.ents) fun its h1 h2 => ?_
    have hf := hD.few (hn.par hE)
    have hx := hE.length
    have hi := h1.length
    have hp := h2.length
    exact ⟨by omega, its, .dict (q _ m1) (q _ m2) hc lo (keysIn_sub his q) hn (by omega) (h1.mono fun p hp _ _ => q p hp), paired_mono (fun _ _ z => z.mono q) h2⟩
  | text m1 m2 hz => exact ⟨by simp, [], .text (q _ m1) (q _ m2), .nil⟩
theorem BodyOK.lg {w : World} {imm led : Led} {bA : Nat → Nat} {n j b cc : Nat} {kd : Str} {co ho : Obj} {a la : List (Option Nat)} (h : BodyOK w imm bA n j b cc kd co ho a la) (q : Sub imm led) :
    ∃ (ys : List KX) (kk : Nat) (ls : List (List (Option Nat))), ho = kdict w ys kk ∧ KeysIn led ys ∧ KNd ys ∧ ys.length ≤ 100 ∧ Paired (HE led n) ys ls ∧ la = ls.flatten := by
  cases h with
  | row m1 m2 h3 hp ha hn hh hR =>
    have hf := hR.few (hn.par hh)
    have hx := hh.length
    exact ⟨_, _, _, rfl, ha.keysIn, hn, by omega, paired_mono (fun _ _ z => HE.mono z q) hh.held, rfl⟩
  | dict m1 m2 lo his hn hE hki hkn hh hD =>
    have hf := hD.few2 (hkn.par hh)
    have hx := hh.length
    exact ⟨_, _, _, rfl, keysIn_sub hki q, hkn, by omega, paired_mono (fun _ _ z => HE.mono z q) hh.held, rfl⟩
  | text m1 m2 hz => exact ⟨[], _, [], rfl, (fun _ h => nomatch h), List.nodup_nil, by simp, .nil, rfl⟩
noncomputable def upd {α : Type} (f : Nat → α) (p : Nat) (v : α) (i : Nat) : α := if i = p then v else f i
theorem upd_self {α : Type} {f : Nat → α} {p : Nat} {v : α} : upd f p v p = v := if_pos rfl
theorem upd_ne {α : Type} {f : Nat → α} {p i : Nat} {v : α} (h : i ≠ p) : upd f p v i = f i := if_neg h
/-- the five bodies in the ledger gr; imm never changes -/
structure GInv (w : World) (bl kb : Nat) (bts : List Value) (kind : Nat → Str) (tA bA cA hA : Nat → Nat) (gr imm : Led) (cO hO : Nat → Obj) (adj ladj : Nat → List (Option Nat)) : Prop where
  sub : Sub imm gr
  hbl : (bl, listOf bts.toArray kb) ∈ imm
  hbz : bts.length = 5
  tup : ∀ i, i < 5 → bts[i]? = some (.ref (tA i)) ∧ ∃ tk, (tA i, tupOf #[.str (kind i) tk, .ref (bA i), .ref (hA i)]) ∈ imm
  cell : ∀ i, i < 5 → (cA i, cO i) ∈ gr ∧ (hA i, hO i) ∈ gr
  off : ∀ i, i < 5 → Off (cA i) imm ∧ Off (hA i) imm
  ic : ∀ i j, i < 5 → j < 5 → cA i = cA j → i = j
  ih : ∀ i j, i < 5 → j < 5 → hA i = hA j → i = j
  ich : ∀ i j, i < 5 → j < 5 → cA i ≠ hA j
  lo : ∀ i, i < 5 → (hA i == sysModules) = false
  body : ∀ i, i < 5 → BodyOK w imm bA 5 i (bA i) (cA i) (kind i) (cO i) (hO i) (adj i) (ladj i)
  k0 : kind 0 = Str.ofString "row"
section
variable {w : World} {bl kb : Nat} {bts : List Value} {kind : Nat → Str} {tA bA cA hA : Nat → Nat} {gr imm gr' imm' : Led} {cO hO : Nat → Obj} {adj ladj : Nat → List (Option Nat)}
theorem GInv.isBL (G : GInv w bl kb bts kind tA bA cA hA gr imm cO hO adj ladj) : BL gr bts kind bA hA := fun i v e => by
  have hi : i < 5 := by
    have := (List.getElem?_eq_some_iff.mp e).1
    rw [G.hbz] at this
    exact this
  refine xAE (G.tup i hi) fun h1 tk h2 => ?_
  rw [h1] at e
  exact ⟨tA i, tk, (Option.some.inj e).symm, G.sub _ h2⟩
theorem GInv.isKB (G : GInv w bl kb bts kind tA bA cA hA gr imm cO hO adj ladj) {j : Nat} (hj : j < 5) : KB w gr (bA j) (kind j) := (G.body j hj).kb G.sub (G.cell j hj).1
theorem GInv.isGr (G : GInv w bl kb bts kind tA bA cA hA gr imm cO hO adj ladj) : Gr w gr bA 5 adj := fun j hj => (G.body j hj).holds G.sub (G.cell j hj).1
theorem GInv.isLG (G : GInv w bl kb bts kind tA bA cA hA gr imm cO hO adj ladj) : LG w gr bts 5 ladj := fun j hj => by
  refine xEEEAAAAA ((G.body j hj).lg G.sub) fun ys kk ls e h1 h2 h3 h4 h5 => ?_
  refine xAE (G.tup j hj) fun h6 tk h7 => ?_
  exact ⟨tA j, hA j, kk, _, _, ys, ls, h6, G.sub _ h7, e ▸ (G.cell j hj).2, G.lo j hj, h1, h2, h3, h4, h5⟩
theorem GInv.link (G : GInv w bl kb bts kind tA bA cA hA gr imm cO hO adj ladj) {j : Nat} (hj : j < 5) (k : Nat) : some k ∈ adj j ↔ some k ∈ ladj j := (G.body j hj).link k
theorem GInv.step (G : GInv w bl kb bts kind tA bA cA hA gr imm cO hO adj ladj) {p : Nat} (hp : p < 5) (h1 : Sub imm imm') (h2 : Sub imm' gr') {co ho : Obj} {a la : List (Option Nat)} (hc : (cA p, co) ∈ gr') (hh : (hA p, ho) ∈ gr')
    (hr : ∀ i, i < 5 → i ≠ p → (cA i, cO i) ∈ gr' ∧ (hA i, hO i) ∈ gr') (ho' : ∀ i, i < 5 → Off (cA i) imm' ∧ Off (hA i) imm') (hb : BodyOK w imm' bA 5 p (bA p) (cA p) (kind p) co ho a la) :
    GInv w bl kb bts kind tA bA cA hA gr' imm' (upd cO p co) (upd hO p ho) (upd adj p a) (upd ladj p la) where
  sub := h2
  hbl := h1 _ G.hbl
  hbz := G.hbz
  tup := fun i hi => let ⟨a, t, b⟩ := G.tup i hi; ⟨a, t, h1 _ b⟩
  cell := fun i hi => by
    by_cases e : i = p
    · subst e; rw [upd_self, upd_self]; exact ⟨hc, hh⟩
    · rw [upd_ne e, upd_ne e]; exact hr i hi e
  off := ho'
  ic := G.ic
  ih := G.ih
  ich := G.ich
  lo := G.lo
  body := fun i hi => by
    by_cases e : i = p
    · subst e; simp only [upd_self]; exact hb
    · simp only [upd_ne e]; exact (G.body i hi).mono h1
  k0 := G.k0
end
end Mine
end

-- B16
section
open PySem PySem.W PyProof.Rows PySem.Spec PySem.Calls
set_option linter.all false
set_option maxRecDepth 100000
namespace Mine
theorem paired_set {α β : Type} {F : α → β → Prop} {a : α} {b : β} (hab : F a b) : ∀ {l : List α} {l' : List β} (i : Nat), Paired F l l' → Paired F (l.set i a) (l'.set i b)
  | _, _, _, .nil => .nil
  | _, _, 0, .cons _ t => .cons hab t
  | _, _, i + 1, .cons h t => .cons h (paired_set hab i t)
section
variable {w : World} {imm : Led} {bA : Nat → Nat} {n j b cc db : Nat} {bs : Array UInt8}
theorem row_put {k kk at_ l lk : Nat} {its : List Value} {v nv : Value} {o : Option Nat} {os : List (Option Nat)} {ys : List KX} {hl : List (DK × List (Option Nat))} {g1 g2 g3 g4 u1 u2 u3 u4} {tn tl t : Tok}
    (m1 : (b, instObj 114 db) ∈ imm) (m2 : (db, rowD g1 g2 g3 g4 u1 u2 u3 u4 (.int ((j : Int) + 1) tn) (.ref cc) (.bool false) (.int 0 tl)) ∈ imm)
    (h3 : its.length = 3) (hp : Paired (DJ imm bA n) its os) (ha : AllNum ys) (hn : KNd ys) (hh : Par (HV imm n) ys hl) (hR : RL os hl) (hv : DJ imm bA n v o) (hnv : IV n nv o) (hl' : (l, listOf #[nv] lk) ∈ imm) (hat : at_ < 3) :
    BodyOK w imm bA n j b cc (Str.ofString "row") (listOf (its.set at_ v).toArray k) (kdict w (kput (.num at_) (.int at_ t) (.ref l) ys) kk) (os.set at_ o) ((aput (.num at_) [o] hl).map (·.2)).flatten :=
  .row m1 m2 (by rw [List.length_set]; exact h3) (paired_set hv at_ hp) (AllNum.put ha) (KNd.put hn) (hh.put ⟨l, lk, [nv], rfl, hl', .cons hnv .nil, by simp⟩) (hR.put (hp.length.symm.trans h3) (hn.par hh) hat o)
theorem dict_put {k kk kt tt l lk : Nat} {xs ys : List KX} {el : List (DK × (Option Nat × Option Nat))} {hl : List (DK × List (Option Nat))} {g1 g2 g3 g4 g5 g6 u1 u2 u3 u4 u5 u6} {tn tm tl t : Tok} {ac kept v key' : Value} {o q : Option Nat} {nm : Str} {li : List Int} {us vs : List Value} {b' : DK}
    (m1 : (b, instObj 147 db) ∈ imm) (m2 : (db, dictD g1 g2 g3 g4 g5 g6 u1 u2 u3 u4 u5 u6 (.int ((j : Int) + 1) tn) (.int 9 tm) (.bool false) (.int 0 tl) ac (.ref cc)) ∈ imm) (lo : (cc == sysModules) = false)
    (his : KeysIn imm xs) (hn : KNd xs) (hE : Par (EV imm bA n) xs el) (hki : KeysIn imm ys) (hkn : KNd ys) (hh : Par (HV imm n) ys hl) (hD : DL el hl)
    (hk : KP (.tup nm li) b' q) (hok : PyData.strOk nm = true) (hkt : (kt, tupOf (.str nm t :: us).toArray) ∈ imm) (hI : IntsAre us li) (htt : (tt, tupOf #[kept, v]) ∈ imm) (hkept : DJ imm bA n kept q) (hv : DJ imm bA n v o) (hkey : b'.In imm key') (hlv : (l, listOf vs.toArray lk) ∈ imm) (hvs : Paired (IV n) vs (lead o q)) (hvz : vs.length ≤ 2) :
    BodyOK w imm bA n j b cc (Str.ofString "dict") (kdict w (kput (.tup nm li) (.ref kt) (.ref tt) xs) k) (kdict w (kput b' key' (.ref l) ys) kk) ((aput (.tup nm li) (q, o) el).flatMap fun e => [e.2.1, e.2.2]) ((aput b' (lead o q) hl).map (·.2)).flatten :=
  .dict m1 m2 lo (KeysIn.put his (inTup hkt hI hok)) (KNd.put hn) (hE.put ⟨tt, kept, v, rfl, htt, hkept, hv⟩) (KeysIn.put hki hkey) (KNd.put hkn) (hh.put ⟨l, lk, vs, rfl, hlv, hvs, hvz⟩) (hD.put (hn.par hE) (hkn.par hh) hk o)
end
theorem row_ok : PyData.strOk (Str.ofString "row") = true := by decide +kernel
end Mine
end

-- B17
section
open PySem PySem.W PyProof.Rows PySem.Spec PySem.Calls
set_option linter.all false
set_option maxRecDepth 100000
namespace Mine
theorem call_baN {prog : Program} {w : World} {A : Around} {E : Value → Shared → Prop} {s : Shared} {h₀ : Heap} {L : Addr} {m : Str → Option Value} {led : Led} {bs : Array UInt8} {t : Tok} {Q : Value → Shared → Prop} (F : Fr h₀ L s.heap m) (N : News h₀ L s.heap led) (hz : bs.size ≤ 100)
    (h : ∀ (oc : Nat) h', Fr h₀ L h' m → News h₀ L h' ((oc, baObj bs) :: led) → AllLt oc led → Q (.ref oc) { s with heap := h' }) : wpC (model prog w) A (call (.type "bytearray") [.bytes bs t]) Q E s := by
  refine call_ba (by rw [sizeLine_eq]; omega) fun h' hk hs hg => h s.heap.objs.size h' (F.keeps hk) (fun p hp => ?_) (allLt_of fun p hp => Heap.lt_size (N p hp).1)
  rcases List.mem_cons.mp hp with rfl | hp
  · exact ⟨hg, Nat.ne_of_gt F.ns.lt, nexts F _ (Nat.le_refl _)⟩
  · exact ⟨hk _ _ (N p hp).1, (N p hp).2⟩
theorem wpC_items_nil {M : Model} {A : Around} {E : Value → Shared → Prop} {s : Shared} {env : Env} {pos : Pos} {Q : List Value → Shared → Prop} (h : Q [] s) : wpC M A (spliced (backTo pos (starEach [] env))) Q E s := wpC.of (wpAny_pure h)
end Mine
end

-- B18
section
open PySem PySem.W PyProof.Rows PySem.Spec PySem.Calls
set_option linter.all false
set_option maxRecDepth 100000
namespace Mine
theorem bi_no_bytes : typeLookup (.type "int") "__bytes__" = pure none := by rw [typeLookup_type, builtinLookup_eq_fast]; kernel_rfl
theorem bi_index : typeLookup (.type "int") "__index__" = pure (some (.builtin "int.__index__")) := by rw [typeLookup_type, builtinLookup_eq_fast]; kernel_rfl
section
variable {prog : Program} {w : World} {A : Around} {E : Value → Shared → Prop} {s : Shared}
theorem bi_new {n : Int} {t : Tok} {Q : Value → Shared → Prop} (h0 : 0 ≤ n) (h1 : n < 100)
    (hQ : ∀ t' k, Q (.bytes (Array.replicate n.toNat 0) t') { s with toks := k }) :
    codeAny (model prog w) A (.call (.builtin "bytes.__new__") ⟨[.type "bytes", .int n t], []⟩) (wants Q E) s := by
  refine codeAny_of_tree ?_
  show wpAny _ A.in1 (do checkBuiltinCall "bytes.__new__" ⟨[.type "bytes", .int n t], []⟩; again (.builtin "bytes.__new__" ⟨[.type "bytes", .int n t], []⟩)) _ _ s
  refine wpAny_bind (wpAny_of_eq (F.bm_newCall _) (wpAny_pure ⟨plainId_quiet F.bm_plain _, codeAny_builtin F.bm_entry ?_⟩))
  rw [Around.under_plainId F.bm_plain _]
  have hT : s.TypeIs (.int n t) "int" := rfl
  unfold Builtin.«bytes.__new__»
  refine wpAny_bind (wpAny_of_eq (a := true) rfl ?_)
  refine bm_if_false rfl ?_
  refine wpAny_bind (wpAny_of_eq F.bm_sub ?_)
  refine bm_if_false rfl ?_
  refine wpAny_bind (wpAny_of_eq (F.bm_bind _) ?_)
  refine wpAny_bind (wpAny_of_eq (a := ()) rfl ?_)
  refine wpAny_bind (wpAny_of_eq (a := ()) rfl ?_)
  refine bm_if_false rfl ?_
  refine wpAny_bind (wpAny_specialOf hT bi_no_bytes ?_)
  refine wpAny_bind (wpAny_of_eq (a := false) rfl ?_)
  refine bm_if_false rfl ?_
  refine wpAny_bind (wpAny_specialOf hT bi_index ?_)
  refine bm_if_false rfl ?_
  refine wpAny_bind (wpAny_of_eq (a := Except.ok n) rfl ?_)
  dsimp only
  refine bm_if_false (by unfold Builtin.Bytes.fitsIndex; simp; omega) ?_
  show wpAny _ _ (if n < 0 then _ else _) _ _ _
  rw [if_neg (by omega)]
  show wpAny _ _ (if n > 2 ^ 63 - 34 then _ else _) _ _ _
  rw [if_neg (by omega)]
  refine bm_if_false (by unfold Builtin.Bytes.tooLong; rw [sizeLine_eq]; simp; omega) ?_
  refine wpAny_bind (wpAny_rule ?_)
  refine wpAny_bind (wpAny_mkBytes ?_ (by rw [Array.size_replicate, sizeLine_eq]; omega))
  show wpAny _ _ (if (Value.type "bytes" == Value.type "bytes") = true then _ else _) _ _ _
  refine bm_if_true (by decide) ?_
  first
    | exact wpAny_pure (hQ _ _)
    | exact wpAny_bind (wpAny_pure (wpAny_pure (hQ _ _)))
theorem call_bytes_int {n : Int} {t : Tok} {Q : Value → Shared → Prop} (h0 : 0 ≤ n) (h1 : n < 100)
    (hQ : ∀ t' k, Q (.bytes (Array.replicate n.toNat 0) t') { s with toks := k }) : wpAny (model prog w) A (call (.type "bytes") [.int n t]) Q E s := by
  refine callType_codes (Q₁ := fun obj s₁ => s₁.TypeIs obj "bytes" ∧ Q obj s₁) F.bm_called (F.bm_typeCall _) F.entry_object_init
    (bi_new h0 h1 fun t' k => ⟨PySem.W.typeIs_bytes _ _ _, hQ t' k⟩) fun obj s₁ h₁ => ?_
  exact ⟨h₁.1, F.args_object_init_2 obj _, object_init_meets F.bm_called.init.lookup F.bm_called.made (by decide) prog w A.in1 _ s₁ ⟨h₁.1, rfl, h₁.2⟩⟩
end
end Mine
end

-- B19
section
open PySem PySem.W PyProof.Rows PySem.Spec PySem.Calls
set_option linter.all false
set_option maxRecDepth 100000
namespace Mine
/-- the thing and its number are chosen -/
inductive TN (w : World) (h₀ : Heap) (L : Addr) (mB : Str → Option Value) (s : Shared) (lits mk gr : Led) (d : Nat) (bA : Nat → Nat) (N : Nat) (s₂ : Shared) : Prop
  | mk (x : Nat) (nv : Value) (o : Option Nat) (new dk : Led) (n : Nat) (h' : Heap) (tk' : Nat) (q1 : s₂ = { s with heap := h', toks := tk' }) (q2 : Fr h₀ L h' (fun y => if y = Str.ofString "thing" then some (.ref x) else if y = Str.ofString "number" then some nv else mB y)) (q3 : News h₀ L h' ((new ++ lits) ++ (dk ++ (mk ++ gr)))) (q4 : Den new (.ref x) (o.map bA)) (q5 : (∀ k, o = some k → k < 5)) (q6 : IV 5 nv o) (q7 : DeckOk w d dk n) (q8 : n ≤ N) (q9 : Apart (new ++ lits) dk) (q10 : Apart new (lits ++ (mk ++ gr))) (q11 : Apart (mk ++ gr) dk) : TN w h₀ L mB s lits mk gr d bA N s₂
theorem TN.join {M : Model} {A : Around} {E : Value → Shared → Prop} {w : World} {h₀ : Heap} {L : Addr} {mB : Str → Option Value} {s : Shared} {d : Nat} {bA : Nat → Nat} {th nv : Value} {t : Sem Flow} {Q : Flow → Shared → Prop} (N : Nat) (lits mk gr : Led)
    (F : Fr h₀ L s.heap (fun y => if y = Str.ofString "thing" then some th else if y = Str.ofString "number" then some nv else mB y))
    (h1 : wpAny M A t (fun f s₂ => f = .next ∧ TN w h₀ L mB s lits mk gr d bA N s₂) E s) (h2 : ∀ s₂, TN w h₀ L mB s lits mk gr d bA N s₂ → Q .next s₂) : wpAny M A t Q E s :=
  wpAny_mono h1 (fun f s₂ h => by (revert h; intro zo; refine xA zo fun zr1 h => ?_; clear zo; subst zr1); exact h2 s₂ h) fun _ _ e => e
theorem fr_twice {h₀ h : Heap} {L : Addr} {a b : Str} {p q p' q' : Option Value} {mB : Str → Option Value} (F : Fr h₀ L h (fun y => if y = a then p else if y = b then q else if y = a then p' else if y = b then q' else mB y)) : Fr h₀ L h (fun y => if y = a then p else if y = b then q else mB y) := by
  have e : (fun y => if y = a then p else if y = b then q else if y = a then p' else if y = b then q' else mB y) = fun y => if y = a then p else if y = b then q else mB y := by
    funext y
    by_cases h1 : y = a
    · simp [h1]
    · by_cases h2 : y = b
      · simp [h1, h2]
      · simp [h1, h2]
  rw [← e]
  exact F
end Mine
end

-- B20
section
open PySem PySem.W PyProof.Rows PySem.Spec PySem.Calls
set_option linter.all false
set_option maxRecDepth 100000
namespace Mine
theorem Apart.app_left {a b r : Led} (h : Apart (a ++ b) r) : Apart a r ∧ Apart b r := ⟨h.sub (Sub.inl Sub.refl) Sub.refl, h.sub (Sub.inr Sub.refl) Sub.refl⟩
inductive GNext (w : World) (bl kb : Nat) (bts : List Value) (kind : Nat → Str) (tA bA cA hA : Nat → Nat) (h₀ h' : Heap) (L : Addr) (lits dk mk : Led) : Prop
  | mk (gr' : Led) (imm' : Led) (cO' : Nat → Obj) (hO' : Nat → Obj) (adj' : Nat → List (Option Nat)) (ladj' : Nat → List (Option Nat)) (q1 : News h₀ L h' (lits ++ (dk ++ (mk ++ gr')))) (q2 : GInv w bl kb bts kind tA bA cA hA gr' imm' cO' hO' adj' ladj') (q3 : Apart lits gr') (q4 : Apart (mk ++ gr') dk) (q5 : Apart gr' mk) : GNext w bl kb bts kind tA bA cA hA h₀ h' L lits dk mk
theorem GInv.next {w : World} {bl kb : Nat} {bts : List Value} {kind : Nat → Str} {tA bA cA hA : Nat → Nat} {gr imm : Led} {cO hO : Nat → Obj} {adj ladj : Nat → List (Option Nat)} {h₀ h' : Heap} {L : Addr} {lits dk mk X : Led}
    (G : GInv w bl kb bts kind tA bA cA hA gr imm cO hO adj ladj) {p : Nat} (hp : p < 5) (nw : Led) (hnw : Apart nw (lits ++ (dk ++ (mk ++ gr)))) {co ho : Obj} {a la : List (Option Nat)} (hb : BodyOK w (nw ++ imm) bA 5 p (bA p) (cA p) (kind p) co ho a la)
    (N : News h₀ L h' X) (hc : (cA p, co) ∈ X) (hh : (hA p, ho) ∈ X) (hX : ∀ q ∈ nw ++ (lits ++ (dk ++ (mk ++ gr))), q.1 ≠ cA p → q.1 ≠ hA p → q ∈ X)
    (hl : Apart lits dk) (hlg : Apart lits gr) (hg : Apart (mk ++ gr) dk) (hgm : Apart gr mk) : GNext w bl kb bts kind tA bA cA hA h₀ h' L lits dk mk := by
  refine xA (G.cell p hp) fun oc oh => ?_
  have hnl : Apart nw lits := hnw.sub Sub.refl (Sub.inl Sub.refl)
  have hnd : Apart nw dk := hnw.sub Sub.refl (Sub.inr (Sub.inl Sub.refl))
  have hnm : Apart nw mk := hnw.sub Sub.refl (Sub.inr (Sub.inr (Sub.inl Sub.refl)))
  have hng : Apart nw gr := hnw.sub Sub.refl (Sub.inr (Sub.inr (Sub.inr Sub.refl)))
  refine xA (hg.app_left) fun hmd hgd => ?_
  have ok : ∀ q ∈ nw ++ (lits ++ (dk ++ (mk ++ gr))), (q ∈ gr → q.1 ≠ cA p ∧ q.1 ≠ hA p) → q ∈ X := fun q hq h => by
    have h2 : q.1 ≠ cA p ∧ q.1 ≠ hA p := by
      simp only [List.mem_append] at hq
      rcases hq with hq | hq | hq | hq | hq
      · exact ⟨fun e => hng q hq _ oc e.symm, fun e => hng q hq _ oh e.symm⟩
      · exact ⟨fun e => hlg q hq _ oc e.symm, fun e => hlg q hq _ oh e.symm⟩
      · exact ⟨hgd _ oc q hq, hgd _ oh q hq⟩
      · exact ⟨hgm _ oc q hq, hgm _ oh q hq⟩
      · exact h hq
    exact hX q hq h2.1 h2.2
  let f : Led := gr.filter fun q => decide (q.1 ≠ cA p ∧ q.1 ≠ hA p)
  have hf : ∀ q, q ∈ f ↔ q ∈ gr ∧ q.1 ≠ cA p ∧ q.1 ≠ hA p := fun q => by
    show q ∈ gr.filter _ ↔ _
    rw [List.mem_filter]
    simp
  have fsub : Sub f gr := fun q hq => ((hf q).mp hq).1
  let gr' : Led := (cA p, co) :: (hA p, ho) :: (nw ++ f)
  have key : ∀ {r : Led}, Apart gr r → Apart nw r → Apart gr' r := fun {r} h1 h2 => Apart.cons (h1 _ oc) (Apart.cons (h1 _ oh) (Apart.append h2 (h1.sub fsub Sub.refl)))
  refine ⟨gr', nw ++ imm, _, _, _, _, ?_, G.step hp (Sub.inr Sub.refl) ?_ (.head _) (.tail _ (.head _)) ?_ ?_ hb, (key hlg.symm hnl).symm, Apart.append hmd (key hgd hnd), key hgm hnm⟩
  · intro q hq
    refine N q ?_
    simp only [List.mem_append] at hq
    rcases hq with hq | hq | hq | hq
    · exact ok q (by simp [hq]) fun hg' => absurd rfl (hlg q hq q hg')
    · exact ok q (by simp [hq]) fun hg' => absurd rfl (hgd q hg' q hq)
    · exact ok q (by simp [hq]) fun hg' => absurd rfl (hgm q hg' q hq)
    · rcases List.mem_cons.mp hq with rfl | hq
      · exact hc
      · rcases List.mem_cons.mp hq with rfl | hq
        · exact hh
        · rcases List.mem_append.mp hq with hq | hq
          · exact ok q (by simp [hq]) fun hg' => absurd rfl (hng q hq q hg')
          · refine xA ((hf q).mp hq) fun h1 h2 => ?_
            exact ok q (by simp [h1]) fun _ => h2
  · intro q hq
    refine .tail _ (.tail _ (List.mem_append.mpr ?_))
    rcases List.mem_append.mp hq with hq | hq
    · exact .inl hq
    · exact .inr ((hf q).mpr ⟨G.sub q hq, (G.off p hp).1 q hq, (G.off p hp).2 q hq⟩)
  · intro i hi hip
    refine xA (G.cell i hi) fun c1 c2 => ?_
    exact ⟨.tail _ (.tail _ (List.mem_append.mpr (.inr ((hf _).mpr ⟨c1, fun e => hip (G.ic i p hi hp e), G.ich i p hi hp⟩)))),
      .tail _ (.tail _ (List.mem_append.mpr (.inr ((hf _).mpr ⟨c2, fun e => G.ich p i hp hi e.symm, fun e => hip (G.ih i p hi hp e)⟩))))⟩
  · intro i hi
    refine xA (G.cell i hi) fun c1 c2 => ?_
    exact ⟨off_app (hng.symm _ c1) (G.off i hi).1, off_app (hng.symm _ c2) (G.off i hi).2⟩
theorem allLt_setL {d c : Nat} {o : Obj} {led : Led} (h : AllLt d (setL c o led)) : AllLt d led := allLt_of fun p hp => by
  have : ∀ {l : Led}, AllLt d l → ∀ p ∈ l, p.1 < d := by
    intro l
    induction l with
    | nil => intro _ p hp; cases hp
    | cons x l ih =>
      intro h p hp
      rcases List.mem_cons.mp hp with rfl | hp
      · exact h.1
      · exact ih h.2 p hp
  by_cases e : p.1 = c
  · rw [e]; exact this h (c, o) (.head _)
  · exact this h p (mem_setL_of hp e)
end Mine
end

-- B21
section
open PySem PySem.W PyProof.Rows PySem.Spec PySem.Calls
set_option linter.all false
set_option maxRecDepth 100000
namespace Mine
theorem words_B21 : True := by
  (k_with "memb" => first | with_reducible assumption | with_reducible exact List.Mem.head _ | assumption | exact List.Mem.head _ | (refine List.Mem.tail _ ?_; k_extra "memb") | (refine List.mem_append_left _ ?_; k_extra "memb") | (refine List.mem_append_right _ ?_; k_extra "memb"))
  (k_with "ltne" => first | with_reducible exact Nat.ne_of_gt (by assumption) | with_reducible exact Nat.ne_of_lt (by assumption) | (dsimp only; omega))
  (k_with "offs" => first | exact off_nil | (refine off_cons ?_ ?_; (focus (k_extra "ltne"; done)); k_extra "offs"))
  (k_with "subs" => first | with_reducible exact Sub.nil | with_reducible exact Sub.refl | (refine Sub.cons ?_ ?_; (focus (k_extra "memb"; done)); k_extra "subs") | (refine Sub.app ?_ ?_; (focus (k_extra "subs"; done)); k_extra "subs") | (refine Sub.skip ?_; k_extra "subs") | (refine Sub.inl ?_; k_extra "subs") | (refine Sub.inr ?_; k_extra "subs"))
  trivial
/-- the held value: the number alone, or the list of the number and the row's place -/
noncomputable def NV (nw : Led) (nv nv' : Value) (q : Option Nat) : Prop := (q = none ∧ nv' = nv) ∨ (∃ (f l k : Nat) (t : Tok), q = some f ∧ f < 5 ∧ nv' = .ref l ∧ (l, listOf #[nv, .int f t] k) ∈ nw)
/-- the key and the held key are chosen -/
inductive KM (w : World) (h₀ : Heap) (L : Addr) (mB : Str → Option Value) (s : Shared) (lits mk gr imm : Led) (d x5 : Nat) (bA : Nat → Nat) (nv : Value) (o : Option Nat) (N : Nat) (s₂ : Shared) : Prop
  | mk (kx : Nat) (mv nv' : Value) (pf : Option Value) (nm : Str) (li : List Int) (b' : DK) (q : Option Nat) (nw dk : Led) (n : Nat) (h' : Heap) (tk' : Nat) (q1 : s₂ = { s with heap := h', toks := tk' }) (q2 : Fr h₀ L h' (fun y => if y = Str.ofString "number" then some nv' else if y = Str.ofString "mine" then some mv else if y = Str.ofString "key" then some (.ref kx) else if y = Str.ofString "far" then pf else mB y)) (q3 : News h₀ L h' ((nw ++ lits) ++ (dk ++ (mk ++ gr)))) (q4 : KP (.tup nm li) b' q) (q5 : KeyTh (nw ++ imm) kx nm li) (q6 : b'.In nw mv) (q7 : DJ (nw ++ imm) bA 5 (.ref kx) q) (q8 : DJ nw bA 5 (.ref x5) o) (q9 : NV nw nv nv' q) (q10 : DeckOk w d dk n) (q11 : n ≤ N) (q12 : Apart (nw ++ lits) dk) (q13 : Apart nw (lits ++ (mk ++ gr))) (q14 : Apart (mk ++ gr) dk) : KM w h₀ L mB s lits mk gr imm d x5 bA nv o N s₂
theorem KM.join {M : Model} {A : Around} {E : Value → Shared → Prop} {w : World} {h₀ : Heap} {L : Addr} {s : Shared} {m₀ : Str → Option Value} {t : Sem Flow} {Q : Flow → Shared → Prop} (lits mk gr imm : Led) (d x5 : Nat) (bA : Nat → Nat) (nv : Value) (o : Option Nat) (N : Nat)
    (F : Fr h₀ L s.heap m₀) (h1 : wpAny M A t (fun f s₂ => f = .next ∧ KM w h₀ L m₀ s lits mk gr imm d x5 bA nv o N s₂) E s) (h2 : ∀ s₂, KM w h₀ L m₀ s lits mk gr imm d x5 bA nv o N s₂ → Q .next s₂) : wpAny M A t Q E s :=
  wpAny_mono h1 (fun f s₂ h => by (revert h; intro zo; refine xA zo fun zr1 h => ?_; clear zo; subst zr1); exact h2 s₂ h) fun _ _ e => e
/-- four names stand ahead -/
theorem fr_four {h₀ h : Heap} {L : Addr} {a b c d : Str} {p q r u : Option Value} {m mB : Str → Option Value} (F : Fr h₀ L h m) (h1 : m a = p) (h2 : m b = q) (h3 : m c = r) (h4 : m d = u) (hr : ∀ y, ¬ y = a → ¬ y = b → ¬ y = c → ¬ y = d → m y = mB y) :
    Fr h₀ L h (fun y => if y = a then p else if y = b then q else if y = c then r else if y = d then u else mB y) := by
  have e : m = fun y => if y = a then p else if y = b then q else if y = c then r else if y = d then u else mB y := by
    funext y
    by_cases e1 : y = a
    · simp [e1, h1]
    · by_cases e2 : y = b
      · subst e2; simp [e1, h2]
      · by_cases e3 : y = c
        · subst e3; simp [e1, e2, h3]
        · by_cases e4 : y = d
          · subst e4; simp [e1, e2, e3, h4]
          · simp [e1, e2, e3, e4, hr y e1 e2 e3 e4]
  rw [← e]
  exact F
/-- the dict and the held dict, in an opaque ledger -/
inductive DS (w : World) (h₀ : Heap) (L : Addr) (m : Str → Option Value) (s : Shared) (imm base : Led) (bA : Nat → Nat) (c hd : Nat) (s₂ : Shared) : Prop
  | mk (X : Led) (xs ys : List KX) (el : List (DK × (Option Nat × Option Nat))) (hl : List (DK × List (Option Nat))) (k1 k2 : Nat) (h' : Heap) (tk' : Nat) (q1 : s₂ = { s with heap := h', toks := tk' }) (q2 : Fr h₀ L h' m) (q3 : News h₀ L h' X) (q4 : (c, kdict w xs k1) ∈ X) (q5 : (hd, kdict w ys k2) ∈ X) (q6 : (∀ q ∈ base, q.1 ≠ c → q.1 ≠ hd → q ∈ X)) (q7 : KeysIn imm xs) (q8 : KNd xs) (q9 : Par (EV imm bA 5) xs el) (q10 : KeysIn imm ys) (q11 : KNd ys) (q12 : Par (HV imm 5) ys hl) (q13 : DL el hl) : DS w h₀ L m s imm base bA c hd s₂
theorem DS.join {M : Model} {A : Around} {E : Value → Shared → Prop} {w : World} {h₀ : Heap} {L : Addr} {s : Shared} {m : Str → Option Value} {t : Sem Flow} {Q : Flow → Shared → Prop} (imm base : Led) (bA : Nat → Nat) (c hd : Nat)
    (F : Fr h₀ L s.heap m) (h1 : wpAny M A t (fun f s₂ => f = .next ∧ DS w h₀ L m s imm base bA c hd s₂) E s) (h2 : ∀ s₂, DS w h₀ L m s imm base bA c hd s₂ → Q .next s₂) : wpAny M A t Q E s :=
  wpAny_mono h1 (fun f s₂ h => by (revert h; intro zo; refine xA zo fun zr2 h => ?_; clear zo; subst zr2); exact h2 s₂ h) fun _ _ e => e
theorem DL.get {β : Type} {G : Value → β → Prop} {xs : List KX} {es : List (DK × β)} {k : DK} (h : Par G xs es) : (kget k xs = none ∧ k ∉ es.map (·.1)) ∨ ∃ v, kget k xs = some v ∧ k ∈ es.map (·.1) := by
  by_cases hk : k ∈ es.map (·.1)
  · refine xE (h.get_of hk) fun v e => ?_
    exact .inr ⟨v, e, hk⟩
  · exact .inl ⟨h.get_not hk, hk⟩
theorem BodyOK.isRow {w : World} {imm : Led} {bA : Nat → Nat} {n j b cc : Nat} {kd : Str} {co ho : Obj} {a la : List (Option Nat)} (h : BodyOK w imm bA n j b cc kd co ho a la) (hkd : kd = Str.ofString "row") :
    ∃ (db : Nat) (g1 g2 g3 g4 : Int) (u1 u2 u3 u4 tn tl : Tok) (its : List Value) (k : Nat), (b, instObj 114 db) ∈ imm ∧ (db, rowD g1 g2 g3 g4 u1 u2 u3 u4 (.int ((j : Int) + 1) tn) (.ref cc) (.bool false) (.int 0 tl)) ∈ imm ∧ co = listOf its.toArray k ∧ its.length = 3 := by
  cases h with
  | row m1 m2 h3 hp ha hn hh hR => exact ⟨_, _, _, _, _, _, _, _, _, _, _, _, _, m1, m2, rfl, h3⟩
  | dict m1 m2 lo his hn hE hki hkn hh hD => exact absurd hkd (by decide +kernel)
  | text m1 m2 hz => exact absurd hkd (by decide +kernel)
inductive KeyP (h₀ h : Heap) (L : Addr) (D0 x : Nat) (o0 : Obj) (i : Int) (new lits dk mk gr : Led) : Prop
  | mk (nw : Led) (q1 : News h₀ L h ((D0, o0) :: ((nw ++ lits) ++ (dk ++ (mk ++ gr))))) (q2 : Off D0 ((nw ++ lits) ++ (dk ++ (mk ++ gr)))) (q3 : Sub new nw) (q4 : KeyTh nw x (Str.ofString "number") [i * 1000000]) (q5 : (∀ bA n, DJ nw bA n (.ref x) none)) (q6 : Apart nw (lits ++ (mk ++ gr))) (q7 : Apart (nw ++ lits) dk) : KeyP h₀ h L D0 x o0 i new lits dk mk gr
theorem key_pack {w : World} {h₀ h : Heap} {L : Addr} {D0 D' x dx : Nat} {o0 o' : Obj} {h1 h2 h3 h4 : Int} {t1 t2 t3 t4 tk ti : Tok} {ex ac : Value} {i : Int} {new lits dk mk gr : Led} (N : News h₀ L h ((D0, o0) :: (D', o') :: (x, instObj 72 dx) :: (dx, thingD h1 h2 h3 h4 t1 t2 t3 t4 (.str (Str.ofString "integer") tk) (.int i ti) ex ac) :: (new ++ lits ++ (dk ++ (mk ++ gr)))))
    (oD : ∀ p ∈ (D', o') :: (x, instObj 72 dx) :: (dx, thingD h1 h2 h3 h4 t1 t2 t3 t4 (.str (Str.ofString "integer") tk) (.int i ti) ex ac) :: (new ++ lits ++ (dk ++ (mk ++ gr))), p.1 ≠ D0) (h0 : 0 ≤ i) (hi : i < 1000) (lx : AllLt x (new ++ lits ++ (dk ++ (mk ++ gr)))) (ld : AllLt dx (new ++ lits ++ (dk ++ (mk ++ gr)))) (hl : Apart (new ++ lits) dk) (hlg : Apart new (lits ++ (mk ++ gr))) : KeyP h₀ h L D0 x o0 i new lits dk mk gr := by
  have ox := allLt_off lx
  have od := allLt_off ld
  have sb : Sub ((((x, instObj 72 dx) :: (dx, thingD h1 h2 h3 h4 t1 t2 t3 t4 (.str (Str.ofString "integer") tk) (.int i ti) ex ac) :: new) ++ lits) ++ (dk ++ (mk ++ gr))) ((D', o') :: (x, instObj 72 dx) :: (dx, thingD h1 h2 h3 h4 t1 t2 t3 t4 (.str (Str.ofString "integer") tk) (.int i ti) ex ac) :: (new ++ lits ++ (dk ++ (mk ++ gr)))) := fun p hp => .tail _ hp
  refine ⟨(x, instObj 72 dx) :: (dx, thingD h1 h2 h3 h4 t1 t2 t3 t4 (.str (Str.ofString "integer") tk) (.int i ti) ex ac) :: new, news_sub N (Sub.cons (.head _) (Sub.skip sb)), fun p hp => oD p (sb p hp), Sub.skip (Sub.skip Sub.refl), .num (.head _) (.tail _ (.head _)) h0 hi,
    fun bA n => ⟨(fun _ h => nomatch h), .leaf (.head _) (.tail _ (.head _)) (.inr (.inl rfl))⟩, ?_, ?_⟩
  · refine Apart.cons ?_ (Apart.cons ?_ hlg)
    · exact off_app (off_right (off_left ox)) (off_right (off_right ox))
    · exact off_app (off_right (off_left od)) (off_right (off_right od))
  · exact Apart.cons (off_left (off_right ox)) (Apart.cons (off_left (off_right od)) hl)
inductive RowP (h₀ h : Heap) (L : Addr) (l T2 x f lk : Nat) (ptk : Tok) (nv : Value) (bA : Nat → Nat) (nw lits dk mk gr imm : Led) : Prop
  | mk (nw' : Led) (q1 : Sub nw nw') (q2 : News h₀ L h ((nw' ++ lits) ++ (dk ++ (mk ++ gr)))) (q3 : KeyTh (nw' ++ imm) x (Str.ofString "array") [(f : Int) + 1, 0, 3]) (q4 : DK.In nw' (.tup (Str.ofString "row") [(f : Int)]) (.ref T2)) (q5 : DJ nw' bA 5 (.ref x) (some f)) (q6 : (l, listOf #[nv, .int f ptk] lk) ∈ nw') (q7 : Apart (nw' ++ lits) dk) (q8 : Apart nw' (lits ++ (mk ++ gr))) : RowP h₀ h L l T2 x f lk ptk nv bA nw lits dk mk gr imm
theorem row_pack {w : World} {h₀ h : Heap} {L : Addr} {l T1 T2 x dx y dy D b db f : Nat} {o1 oD : Obj} {nv ex ac : Value} {bA : Nat → Nat} {h1 h2 h3 h4 i1 i2 i3 mn : Int} {t1 t2 t3 t4 tk tkr ptk v1 v2 v3 tz tl tn : Tok} {g1 g2 g3 g4 : Int} {u1 u2 u3 u4 : Tok} {th gl lv : Value} {nw lits dk mk gr imm : Led} {lk : Nat}
    (N : News h₀ L h ((l, listOf #[nv, .int f ptk] lk) :: (T1, o1) :: (T2, tupOf #[.str (Str.ofString "row") tkr, .int f ptk]) :: (x, instObj 72 dx) :: (dx, thingD h1 h2 h3 h4 t1 t2 t3 t4 (.str (Str.ofString "array") tk) (.ref y) ex ac) :: (y, instObj 168 dy) :: (dy, spanD i1 i2 i3 v1 v2 v3 (.ref b) (.int 0 tz) (.int mn tl)) :: (D, oD) :: (nw ++ lits ++ (dk ++ (mk ++ gr)))))
    (hmn : mn = 3) (r1 : (b, instObj 114 db) ∈ imm) (r2 : (db, rowD g1 g2 g3 g4 u1 u2 u3 u4 (.int ((f : Int) + 1) tn) th gl lv) ∈ imm) (hf : f < 5) (hb : b = bA f)
    (a1 : AllLt l (nw ++ lits ++ (dk ++ (mk ++ gr)))) (a2 : AllLt T2 (nw ++ lits ++ (dk ++ (mk ++ gr)))) (a3 : AllLt x (nw ++ lits ++ (dk ++ (mk ++ gr)))) (a4 : AllLt dx (nw ++ lits ++ (dk ++ (mk ++ gr)))) (a5 : AllLt y (nw ++ lits ++ (dk ++ (mk ++ gr)))) (a6 : AllLt dy (nw ++ lits ++ (dk ++ (mk ++ gr))))
    (hl : Apart ((D, oD) :: (nw ++ lits)) dk) (hlg : Apart nw (lits ++ (mk ++ gr))) : RowP h₀ h L l T2 x f lk ptk nv bA nw lits dk mk gr imm := by
  subst hmn hb
  let six : Led := [(l, listOf #[nv, .int f ptk] lk), (T2, tupOf #[.str (Str.ofString "row") tkr, .int f ptk]), (x, instObj 72 dx), (dx, thingD h1 h2 h3 h4 t1 t2 t3 t4 (.str (Str.ofString "array") tk) (.ref y) ex ac), (y, instObj 168 dy), (dy, spanD i1 i2 i3 v1 v2 v3 (.ref (bA f)) (.int 0 tz) (.int 3 tl))]
  have ab : Above six (nw ++ lits ++ (dk ++ (mk ++ gr))) := Above.cons a1 (Above.cons a2 (Above.cons a3 (Above.cons a4 (Above.cons a5 (Above.cons a6 Above.nil)))))
  have m2 : ((T2, tupOf #[.str (Str.ofString "row") tkr, .int f ptk]) : Addr × Obj) ∈ six ++ nw := .tail _ (.head _)
  have m3 : ((x, instObj 72 dx) : Addr × Obj) ∈ six ++ nw := .tail _ (.tail _ (.head _))
  have m4 : ((dx, thingD h1 h2 h3 h4 t1 t2 t3 t4 (.str (Str.ofString "array") tk) (.ref y) ex ac) : Addr × Obj) ∈ six ++ nw := .tail _ (.tail _ (.tail _ (.head _)))
  have m5 : ((y, instObj 168 dy) : Addr × Obj) ∈ six ++ nw := .tail _ (.tail _ (.tail _ (.tail _ (.head _))))
  have m6 : ((dy, spanD i1 i2 i3 v1 v2 v3 (.ref (bA f)) (.int 0 tz) (.int 3 tl)) : Addr × Obj) ∈ six ++ nw := .tail _ (.tail _ (.tail _ (.tail _ (.tail _ (.head _)))))
  have e : ((six ++ nw) ++ lits) ++ (dk ++ (mk ++ gr)) = six ++ (nw ++ lits ++ (dk ++ (mk ++ gr))) := by simp only [List.append_assoc]
  refine ⟨six ++ nw, Sub.inr Sub.refl, ?_, .arr (List.mem_append_left _ m3) (List.mem_append_left _ m4) (List.mem_append_left _ m5) (List.mem_append_left _ m6) (List.mem_append_right _ r1) (List.mem_append_right _ r2), inTup (us := [.int f ptk]) m2 (.cons _ _ .nil) row_ok,
    ⟨fun k hk => by cases hk; exact hf, .span m3 m4 m5 m6 (.inl rfl)⟩, .head _, ?_, ?_⟩
  · rw [e]
    refine news_sub N (fun p hp => ?_)
    rcases List.mem_append.mp hp with hp | hp
    · simp only [six, List.mem_cons, List.not_mem_nil, or_false] at hp
      simp only [List.mem_cons]
      rcases hp with rfl | rfl | rfl | rfl | rfl | rfl <;> simp
    · exact .tail _ (.tail _ (.tail _ (.tail _ (.tail _ (.tail _ (.tail _ (.tail _ hp)))))))
  · rw [List.append_assoc]
    exact Apart.append (ab.apart.sub Sub.refl (Sub.inr (Sub.inl Sub.refl))) (hl.sub (Sub.skip Sub.refl) Sub.refl)
  · exact Apart.append (ab.apart.sub Sub.refl (by k_extra "subs")) hlg
theorem drop_pack {h₀ h : Heap} {L : Addr} {c : Nat} {o : Obj} {led : Led} (N : News h₀ L h ((c, o) :: restL c led)) : ∃ X, News h₀ L h X ∧ (c, o) ∈ X ∧ (∀ q ∈ led, q.1 ≠ c → q ∈ X) := ⟨_, N, .head _, fun q hq h => .tail _ (rest_of hq h)⟩
theorem set_pack {h₀ h : Heap} {L : Addr} {c : Nat} {o : Obj} {led : Led} (N : News h₀ L h (setL c o led)) : ∃ X, News h₀ L h X ∧ (c, o) ∈ X ∧ (∀ q ∈ led, q.1 ≠ c → q ∈ X) := ⟨_, N, mem_setL_self, fun q hq h => mem_setL_of hq h⟩
end Mine
end

-- B22
section
open PySem PySem.W PyProof.Rows PySem.Spec PySem.Calls
set_option linter.all false
set_option maxRecDepth 100000
namespace Mine
theorem allLt_mem {d : Nat} : ∀ {l : Led}, AllLt d l → ∀ p ∈ l, p.1 < d
  | [], _, p, hp => nomatch hp
  | x :: l, h, p, hp => by
    rcases List.mem_cons.mp hp with rfl | hp
    · exact h.1
    · exact allLt_mem h.2 p hp
/-- the held value is a list -/
inductive HJ (w : World) (h₀ : Heap) (L : Addr) (m : Str → Option Value) (s : Shared) (nw X : Led) (o q : Option Nat) (v : Value) (s₂ : Shared) : Prop
  | mk (l lk : Nat) (vs : List Value) (nl : Led) (h' : Heap) (tk' : Nat) (q1 : v = .ref l) (q2 : s₂ = { s with heap := h', toks := tk' }) (q3 : Fr h₀ L h' m) (q4 : News h₀ L h' (nl ++ X)) (q5 : (l, listOf vs.toArray lk) ∈ nl ++ nw) (q6 : (∀ p ∈ nl, AllLt p.1 X)) (q7 : Paired (IV 5) vs (lead o q)) (q8 : vs.length ≤ 2) : HJ w h₀ L m s nw X o q v s₂
theorem HJ.join {M : Model} {A : Around} {E : Value → Shared → Prop} {w : World} {h₀ : Heap} {L : Addr} {m : Str → Option Value} {s : Shared} {t : Sem Value} {Q : Value → Shared → Prop} (nw X : Led) (o q : Option Nat)
    (F : Fr h₀ L s.heap m) (h1 : wpAny M A t (fun v s₂ => HJ w h₀ L m s nw X o q v s₂) E s) (h2 : ∀ v s₂, HJ w h₀ L m s nw X o q v s₂ → Q v s₂) : wpAny M A t Q E s :=
  wpAny_mono h1 h2 fun _ _ e => e
theorem base_lt {base X : Led} {c hd k : Nat} {o : Obj} (b9 : ∀ q ∈ base, q.1 ≠ c → q.1 ≠ hd → q ∈ X) (d9 : (hd, o) ∈ X) (hne : hd ≠ c) (l1 : AllLt k (restL c X)) (l2 : c < k) : ∀ q ∈ base, q.1 < k := fun q hq => by
  by_cases e1 : q.1 = c
  · rw [e1]; exact l2
  · by_cases e2 : q.1 = hd
    · rw [e2]; exact allLt_mem l1 (hd, o) (rest_of d9 hne)
    · exact allLt_mem l1 q (rest_of (b9 q hq e1 e2) e1)
theorem kept_pack {w : World} {h₀ h : Heap} {L : Addr} {X imm nw : Led} {bA : Nat → Nat} {xs : List KX} {el : List (DK × (Option Nat × Option Nat))} {hl : List (DK × List (Option Nat))} {a b : DK} {q : Option Nat} {kx : Nat} {kept : Value} (N : News h₀ L h X) (hs : Sub imm X) (hE : Par (EV imm bA 5) xs el) (hD : DL el hl) (hk : KP a b q)
    (hJ : DJ (nw ++ imm) bA 5 (.ref kx) q) (h : (kget a xs = none ∧ kept = .ref kx) ∨ ∃ (t0 : Nat) (th0 : Value), kget a xs = some (.ref t0) ∧ (t0, tupOf #[kept, th0]) ∈ X) : DJ (nw ++ imm) bA 5 kept q := by
  rcases h with ⟨_, rfl⟩ | ⟨t0, th0, hg, hm⟩
  · exact hJ
  · obtain ⟨⟨q', o'⟩, hmem, tt, kp, th, e, hm2, d1, d2⟩ := hE.get hg
    cases e
    have e2 := news_func N hm (hs _ hm2)
    have e3 : kept = kp := by
      have := congrArg Obj.data e2
      simp only [Data.seq.injEq, Array.mk.injEq, List.cons.injEq, and_true] at this
      exact this.1
    subst e3
    rw [hD.at hk hmem] at d1
    exact d1.mono (Sub.inr Sub.refl)
theorem grow_pack {w : World} {X imm : Led} {bA : Nat → Nat} {xs : List KX} {el : List (DK × (Option Nat × Option Nat))} {hl : List (DK × List (Option Nat))} {a : DK} (hs : Sub imm X) (hn : KNd xs) (hE : Par (EV imm bA 5) xs el) (hD : DL el hl) :
    (kget a xs = none ∧ (xs.length : Int) < 9) ∨ ∃ (t0 : Nat) (kept th0 : Value), kget a xs = some (.ref t0) ∧ (t0, tupOf #[kept, th0]) ∈ X := by
  have h1 := hD.few (hn.par hE)
  have h2 := hE.length
  rcases DL.get (k := a) hE with ⟨hg, _⟩ | ⟨v, hg, _⟩
  · exact .inl ⟨hg, by omega⟩
  · obtain ⟨⟨q', o'⟩, _, tt, kp, th, rfl, hm2, _, _⟩ := hE.get hg
    exact .inr ⟨tt, kp, th, hg, hs _ hm2⟩
end Mine
end

-- F06
section
open PySem PySem.W PyProof.Rows PySem.Spec PySem.Calls
set_option linter.all false
set_option maxRecDepth 100000
namespace Mine
section
variable {prog : Program} {w : World} {A : Around} {E : Value → Shared → Prop} {s : Shared} {env : Env} {h₀ : Heap} {body : List Stmt} {Q : Flow → Shared → Prop} {R : Result → Shared → Prop}
noncomputable abbrev rgIt (x left : Int) : Obj := { cls := .type "range_iterator", dict := none, data := .fields #[rawInt x, rawInt left, rawInt 1], slots := #[] }
inductive GEndI (h₀ : Heap) (L : Addr) (I : Nat) (oI : Obj) (Jn : (Str → Option Value) → Led → Prop) (s s' : Shared) : Prop
  | mk (h' : Heap) (tk : Nat) (m₂ : Str → Option Value) (led₂ : Led) (q1 : s' = { s with heap := h', toks := tk }) (q2 : Fr h₀ L h' m₂) (q3 : News h₀ L h' ((I, oI) :: led₂)) (q4 : (∀ p ∈ led₂, p.1 ≠ I)) (q5 : Jn m₂ led₂) : GEndI h₀ L I oI Jn s s'
/-- a turn's end of a loop over a range -/
noncomputable def GEnd (h₀ : Heap) (L : Addr) (I : Nat) (oI : Obj) (Jn : (Str → Option Value) → Led → Prop) (s : Shared) (Kb : Shared → Prop) (Kr : Value → Shared → Prop) (f : Flow) (s' : Shared) : Prop :=
  match f with
  | .next | .cont => GEndI h₀ L I oI Jn s s'
  | .brk => Kb s'
  | .ret v => Kr v s'
theorem rangeLoopC {x : Str} {px : Pos} {n : Nat} {I : Nat} (J : Nat → (Str → Option Value) → Led → Prop) (hh : A.handled = none) (hx : env.kindOf x = some .local) (hk : env.scope.kind = .function) (hIL : I ≠ env.locals) (hI0 : h₀.get? I = none)
    (step : ∀ (i : Nat) m₁ led₁ h₁ tk₁ t oI, i < n → J i m₁ led₁ → (∀ p ∈ led₁, p.1 ≠ I) → Fr h₀ env.locals h₁ (fun z => if z = x then some (.int i t) else m₁ z) → News h₀ env.locals h₁ ((I, oI) :: led₁) →
      wpC (model prog w) A (execs body env) (GEnd h₀ env.locals I oI (J (i + 1)) s (fun s' => R (.ok .next) s') (fun v s' => R (.ok (.ret v)) s')) (notedBy (model prog w) A env fun e s' => R (.error e) s') { s with heap := h₁, toks := tk₁ })
    (fin : ∀ h' tk' m' led', Fr h₀ env.locals h' m' → News h₀ env.locals h' led' → J n m' led' → R (.ok .next) { s with heap := h', toks := tk' }) :
    ∀ (k i : Nat) h tk m led, i + k = n → IsRangeIter h I i k 1 → Fr h₀ env.locals h m → News h₀ env.locals h led → (∀ p ∈ led, p.1 ≠ I) → J i m led → codeC (model prog w) A (.forLoop (.Name x px) (.ref I) body [] env) R { s with heap := h, toks := tk } := by
  intro k
  induction k with
  | zero =>
    intro i h tk m led hik hit F N off hJ
    obtain rfl : i = n := by omega
    refine codeC_forTurn (wpAny_pyNext_range_end hh hit (by omega) fun h' he => ?_) (fun _ => rfl)
    refine wpAny_execs_nil ?_
    exact fin h' tk m led ⟨F.ns.at' fun o e => he _ o hIL.symm e, fun b o e => he b o (fun q => by rw [q, hI0] at e; cases e) (F.keep b o e), F.above⟩ (fun p hp => ⟨he _ _ (off p hp) (N p hp).1, (N p hp).2⟩) hJ
  | succ k ih =>
    intro i h tk m led hik hit F N off hJ
    refine codeC_forTurn (wpAny_pyNext_range_item hit (by omega) fun h' hit' hs => ?_) (fun _ => rfl)
    have he := hs.extBut
    have F1 : Fr h₀ env.locals h' m := ⟨F.ns.at' fun o e => he _ o hIL.symm e, fun b o e => he b o (fun q => by rw [q, hI0] at e; cases e) (F.keep b o e), F.above⟩
    have N1 : News h₀ env.locals h' ((I, rgIt ((i : Int) + 1) (((k + 1 : Nat) : Int) - 1)) :: led) := fun p hp => by
      rcases List.mem_cons.mp hp with rfl | hp
      · exact ⟨hit', hIL, hI0⟩
      · exact ⟨he _ _ (off p hp) (N p hp).1, (N p hp).2⟩
    refine wpAny_assign_Name (wpAny_storeName_local hx F1.ns (fun h₂ hn₂ hs₂ => ?_) (kindOf_fn hk))
    refine wpC_mono (step i m led h₂ _ _ _ (by omega) hJ off (F1.set hn₂ hs₂) (N1.set hs₂)) (fun f s₃ h₃ => ?_) fun _ _ e => e
    have up : GEndI h₀ env.locals I (rgIt ((i : Int) + 1) (((k + 1 : Nat) : Int) - 1)) (J (i + 1)) s s₃ → codeC (model prog w) A (.forLoop (.Name x px) (.ref I) body [] env) R s₃ := by
      rintro ⟨h3, tk3, m₂, led₂, rfl, F3, N3, o3, J3⟩
      refine ih (i + 1) h3 tk3 m₂ led₂ (by omega) ?_ F3 (fun p hp => N3 p (List.mem_cons_of_mem _ hp)) o3 J3
      have := (N3 _ (.head _)).1
      have e1 : ((i + 1 : Nat) : Int) = (i : Int) + 1 := by push_cast; rfl
      have e2 : ((k : Nat) : Int) = ((k + 1 : Nat) : Int) - 1 := by push_cast; omega
      rw [e1, e2]
      exact this
    cases f with
    | next => exact up h₃
    | cont => exact up h₃
    | brk => exact h₃
    | ret v => exact h₃
theorem rangeLoop {x : Str} {px : Pos} {n : Nat} {I : Nat} (J : Nat → (Str → Option Value) → Led → Prop) (hh : A.handled = none) (hx : env.kindOf x = some .local) (hk : env.scope.kind = .function) (hIL : I ≠ env.locals) (hI0 : h₀.get? I = none)
    (step : ∀ (i : Nat) m₁ led₁ h₁ tk₁ t oI, i < n → J i m₁ led₁ → (∀ p ∈ led₁, p.1 ≠ I) → Fr h₀ env.locals h₁ (fun z => if z = x then some (.int i t) else m₁ z) → News h₀ env.locals h₁ ((I, oI) :: led₁) →
      wpAny (model prog w) A (execs body env) (GEnd h₀ env.locals I oI (J (i + 1)) s (fun s' => R (.ok .next) s') (fun v s' => R (.ok (.ret v)) s')) (notedBy (model prog w) A env fun e s' => R (.error e) s') { s with heap := h₁, toks := tk₁ })
    (fin : ∀ h' tk' m' led', Fr h₀ env.locals h' m' → News h₀ env.locals h' led' → J n m' led' → R (.ok .next) { s with heap := h', toks := tk' }) :
    ∀ (k i : Nat) h tk m led, i + k = n → IsRangeIter h I i k 1 → Fr h₀ env.locals h m → News h₀ env.locals h led → (∀ p ∈ led, p.1 ≠ I) → J i m led → codeAny (model prog w) A (.forLoop (.Name x px) (.ref I) body [] env) R { s with heap := h, toks := tk } := by
  intro k
  induction k with
  | zero =>
    intro i h tk m led hik hit F N off hJ
    obtain rfl : i = n := by omega
    refine codeAny_forTurn (wpAny_pyNext_range_end hh hit (by omega) fun h' he => ?_) (fun _ => rfl)
    refine wpAny_execs_nil ?_
    exact fin h' tk m led ⟨F.ns.at' fun o e => he _ o hIL.symm e, fun b o e => he b o (fun q => by rw [q, hI0] at e; cases e) (F.keep b o e), F.above⟩ (fun p hp => ⟨he _ _ (off p hp) (N p hp).1, (N p hp).2⟩) hJ
  | succ k ih =>
    intro i h tk m led hik hit F N off hJ
    refine codeAny_forTurn (wpAny_pyNext_range_item hit (by omega) fun h' hit' hs => ?_) (fun _ => rfl)
    have he := hs.extBut
    have F1 : Fr h₀ env.locals h' m := ⟨F.ns.at' fun o e => he _ o hIL.symm e, fun b o e => he b o (fun q => by rw [q, hI0] at e; cases e) (F.keep b o e), F.above⟩
    have N1 : News h₀ env.locals h' ((I, rgIt ((i : Int) + 1) (((k + 1 : Nat) : Int) - 1)) :: led) := fun p hp => by
      rcases List.mem_cons.mp hp with rfl | hp
      · exact ⟨hit', hIL, hI0⟩
      · exact ⟨he _ _ (off p hp) (N p hp).1, (N p hp).2⟩
    refine wpAny_assign_Name (wpAny_storeName_local hx F1.ns (fun h₂ hn₂ hs₂ => ?_) (kindOf_fn hk))
    refine wpAny_mono (step i m led h₂ _ _ _ (by omega) hJ off (F1.set hn₂ hs₂) (N1.set hs₂)) (fun f s₃ h₃ => ?_) fun _ _ e => e
    have up : GEndI h₀ env.locals I (rgIt ((i : Int) + 1) (((k + 1 : Nat) : Int) - 1)) (J (i + 1)) s s₃ → codeAny (model prog w) A (.forLoop (.Name x px) (.ref I) body [] env) R s₃ := by
      rintro ⟨h3, tk3, m₂, led₂, rfl, F3, N3, o3, J3⟩
      refine ih (i + 1) h3 tk3 m₂ led₂ (by omega) ?_ F3 (fun p hp => N3 p (List.mem_cons_of_mem _ hp)) o3 J3
      have := (N3 _ (.head _)).1
      have e1 : ((i + 1 : Nat) : Int) = (i : Int) + 1 := by push_cast; rfl
      have e2 : ((k : Nat) : Int) = ((k + 1 : Nat) : Int) - 1 := by push_cast; omega
      rw [e1, e2]
      exact this
    cases f with
    | next => exact up h₃
    | cont => exact up h₃
    | brk => exact h₃
    | ret v => exact h₃
/-- the range is at hand -/
inductive RangeAt (h₀ : Heap) (L : Addr) (s : Shared) (m : Str → Option Value) (n : Nat) (K : Led → Prop) (xv : Value) (s₁ : Shared) : Prop
  | mk (r : Addr) (led : Led) (h : Heap) (tk : Nat) (t u v : Tok) (q1 : xv = .ref r) (q2 : s₁ = { s with heap := h, toks := tk }) (q3 : IsRange h r 0 n 1 t u v) (q4 : Fr h₀ L h m) (q5 : News h₀ L h led) (q6 : K led) : RangeAt h₀ L s m n K xv s₁
theorem pyIter_rangeN {r : Addr} {n : Nat} {t u v : Tok} {Q : Value → Shared → Prop} (hr : IsRange s.heap r 0 n 1 t u v) (hn : n < 1000)
    (h : ∀ h', IsRangeIter h' s.heap.objs.size 0 n 1 → (∀ b o, s.heap.get? b = some o → h'.get? b = some o) → Q (.ref s.heap.objs.size) { s with heap := h' }) : wpAny (model prog w) A (pyIter (.ref r)) Q E s := by
  refine wpAny_pyIter_range hr (small_one (by omega) (by omega) (by omega) (by omega)) (h _ ?_ fun _ _ e => Heap.get?_push_of_some _ e)
  have e : Builtin.Range.rangeSize 0 n 1 = n := by rw [rangeSize_one]; split <;> omega
  rw [e]
  exact Heap.get?_push_size _ rfl
theorem fr_map {h₀ h : Heap} {L : Addr} {m : Str → Option Value} (_ : Fr h₀ L h m) : ∃ q, q = m := ⟨m, rfl⟩
theorem for_rangeC {x : Str} {px pos : Pos} {iter : Expr} {m : Str → Option Value} (_F₀ : Fr h₀ env.locals s.heap m) (J : Nat → (Str → Option Value) → Led → Prop) (hh : A.handled = none) (hx : env.kindOf x = some .local) (hk : env.scope.kind = .function) (n : Nat) (hn : n < 1000)
    (h : wpAny (model prog w) A (eval iter env) (RangeAt h₀ env.locals s m n (J 0 m)) E s)
    (step : ∀ (i : Nat) (I : Nat) m₁ led₁ h₁ tk₁ t oI, i < n → J i m₁ led₁ → (∀ p ∈ led₁, p.1 ≠ I) → Fr h₀ env.locals h₁ (fun z => if z = x then some (.int i t) else m₁ z) → News h₀ env.locals h₁ ((I, oI) :: led₁) →
      wpC (model prog w) A (execs body env) (GEnd h₀ env.locals I oI (J (i + 1)) s (fun s' => Q .next s') (fun v s' => Q (.ret v) s')) E { s with heap := h₁, toks := tk₁ })
    (fin : ∀ h' tk' m' led', Fr h₀ env.locals h' m' → News h₀ env.locals h' led' → J n m' led' → Q .next { s with heap := h', toks := tk' })
    (hs : ∀ x, foldedSetIterable iter env x = pure x) (hE : PassesOwn (model prog w) A env E) :
    wpC (model prog w) A (exec (.For (.Name x px) iter body [] pos) env) Q E s := by
  refine wpC_For (wpAny_mono h (fun xv s₁ h₁ => ?_) fun _ _ e => e) hs
  obtain ⟨r, led, h1, tk1, t, u, v, rfl, rfl, hr, F, N, hJ⟩ := h₁
  refine pyIter_rangeN hr hn fun h2 hit hk2 => ?_
  have F2 : Fr h₀ env.locals h2 m := F.keeps hk2
  have hlt : ∀ p ∈ led, p.1 ≠ h1.objs.size := fun p hp => Nat.ne_of_lt (Heap.lt_size (N p hp).1)
  exact rangeLoopC (R := fun r s' => match r with | .ok f => Q f s' | .error e => cameBackBy (model prog w) A env E e s') (s := s) J hh hx hk (Nat.ne_of_gt F.ns.lt) (nexts (s := { s with heap := h1, toks := tk1 }) F _ (Nat.le_refl _))
    (fun i m₁ led₁ h₁ tk₁ t oI a b c F' N' => wpC_mono (step i _ m₁ led₁ h₁ tk₁ t oI a b c F' N') (fun _ _ x => x) hE) fin n 0 h2 tk1 m led (by omega) (by simpa using hit) F2 (N.grown hk2) hlt hJ
/-- the range is at hand, and what is behind the loop is shown -/
noncomputable def RangeGo (h₀ : Heap) (L : Addr) (s : Shared) (m : Str → Option Value) (J : Nat → (Str → Option Value) → Led → Prop) (Q : Flow → Shared → Prop) (xv : Value) (s₁ : Shared) : Prop :=
  ∃ n, n < 100 ∧ RangeAt h₀ L s m n (J 0 m) xv s₁ ∧ (∀ h' tk' m' led', Fr h₀ L h' m' → News h₀ L h' led' → J n m' led' → Q .next { s with heap := h', toks := tk' })
theorem for_range {x : Str} {px pos : Pos} {iter : Expr} {m : Str → Option Value} (_F₀ : Fr h₀ env.locals s.heap m) (J : Nat → (Str → Option Value) → Led → Prop) (hh : A.handled = none) (hx : env.kindOf x = some .local) (hk : env.scope.kind = .function)
    (h : wpAny (model prog w) A (eval iter env) (RangeGo h₀ env.locals s m J Q) E s)
    (step : ∀ (i : Nat) (I : Nat) m₁ led₁ h₁ tk₁ t oI, i < 100 → J i m₁ led₁ → (∀ p ∈ led₁, p.1 ≠ I) → Fr h₀ env.locals h₁ (fun z => if z = x then some (.int i t) else m₁ z) → News h₀ env.locals h₁ ((I, oI) :: led₁) →
      wpAny (model prog w) A (execs body env) (GEnd h₀ env.locals I oI (J (i + 1)) s (fun s' => Q .next s') (fun v s' => Q (.ret v) s')) E { s with heap := h₁, toks := tk₁ })
    (hs : ∀ x, foldedSetIterable iter env x = pure x) (hE : PassesOwn (model prog w) A env E) :
    wpAny (model prog w) A (exec (.For (.Name x px) iter body [] pos) env) Q E s := by
  refine wpAny_For (wpAny_mono h (fun xv s₁ h₁ => ?_) fun _ _ e => e) hs
  (refine xEAA h₁ fun n hn zn1 fin => ?_; clear h₁; obtain ⟨r, led, h1, tk1, t, u, v, rfl, rfl, hr, F, N, hJ⟩ := zn1)
  refine pyIter_rangeN hr (by omega) fun h2 hit hk2 => ?_
  have F2 : Fr h₀ env.locals h2 m := F.keeps hk2
  have hlt : ∀ p ∈ led, p.1 ≠ h1.objs.size := fun p hp => Nat.ne_of_lt (Heap.lt_size (N p hp).1)
  exact rangeLoop (R := fun r s' => match r with | .ok f => Q f s' | .error e => cameBackBy (model prog w) A env E e s') (s := s) J hh hx hk (Nat.ne_of_gt F.ns.lt) (nexts (s := { s with heap := h1, toks := tk1 }) F _ (Nat.le_refl _))
    (fun i m₁ led₁ h₁ tk₁ t oI a b c F' N' => wpAny_mono (step i _ m₁ led₁ h₁ tk₁ t oI (by omega) b c F' N') (fun _ _ x => x) hE) fin n 0 h2 tk1 m led (by omega) (by simpa using hit) F2 (N.grown hk2) hlt hJ
end
end Mine
end

-- B23
section
open PySem PySem.W PyProof.Rows PySem.Spec PySem.Calls
set_option linter.all false
set_option maxRecDepth 100000
namespace Mine
theorem words_B23 : True := by
  (k_with "memb" => first | with_reducible assumption | with_reducible exact List.Mem.head _ | assumption | exact List.Mem.head _ | (refine List.Mem.tail _ ?_; k_extra "memb") | (refine List.mem_append_left _ ?_; k_extra "memb") | (refine List.mem_append_right _ ?_; k_extra "memb"))
  (k_with "ltne" => first | with_reducible exact Nat.ne_of_gt (by assumption) | with_reducible exact Nat.ne_of_lt (by assumption) | (dsimp only; omega))
  (k_with "offs" => first | exact off_nil | (refine off_cons ?_ ?_; (focus (k_extra "ltne"; done)); k_extra "offs"))
  (k_with "subs" => first | with_reducible exact Sub.nil | with_reducible exact Sub.refl | (refine Sub.cons ?_ ?_; (focus (k_extra "memb"; done)); k_extra "subs") | (refine Sub.app ?_ ?_; (focus (k_extra "subs"; done)); k_extra "subs") | (refine Sub.skip ?_; k_extra "subs") | (refine Sub.inl ?_; k_extra "subs") | (refine Sub.inr ?_; k_extra "subs"))
  trivial
inductive LawP (T h : Heap) (L c2 c1 d : Nat) (lo : Obj) (dk mk : Led) : Prop
  | mk (bl : Nat) (oc2 oc1 : Obj) (lits : Led) (q1 : News T L h (lits ++ (dk ++ (mk ++ [(bl, lo)])))) (q2 : (c2, oc2) ∈ lits) (q3 : (c1, oc1) ∈ lits) (q4 : oc2.data = .cell (some (.ref bl))) (q5 : oc1.data = .cell (some (.ref d))) (q6 : Apart lits dk) (q7 : Apart lits mk) (q8 : Apart lits [(bl, lo)]) (q9 : Apart dk mk) (q10 : Apart [(bl, lo)] mk) (q11 : Apart (mk ++ [(bl, lo)]) dk) : LawP T h L c2 c1 d lo dk mk
theorem law_pack {T h : Heap} {L D l c2 c1 d : Nat} {oD lo o2 o1 : Obj} {dk mk : Led} (N : News T L h ((D, oD) :: (l, lo) :: (c2, o2) :: (c1, o1) :: (dk ++ mk))) (hl : c2 < l ∧ c1 < l ∧ AllLt l (dk ++ mk)) (d2 : o2.data = .cell (some (.ref l))) (d1 : o1.data = .cell (some (.ref d)))
    (o2' : ∀ p ∈ dk ++ mk, p.1 ≠ c2) (o1' : ∀ p ∈ dk ++ mk, p.1 ≠ c1) (hmd : Apart mk dk) : LawP T h L c2 c1 d lo dk mk := by
  have ol := allLt_off hl.2.2
  refine ⟨l, o2, o1, [(c2, o2), (c1, o1)], news_sub N ?_, .head _, .tail _ (.head _), d2, d1, Apart.cons (off_left o2') (Apart.cons (off_left o1') Apart.nil), Apart.cons (off_right o2') (Apart.cons (off_right o1') Apart.nil), ?_, hmd.symm, Apart.cons (off_right ol) Apart.nil, Apart.append hmd (Apart.cons (off_left ol) Apart.nil)⟩
  · k_extra "subs"
  · refine Apart.cons ?_ (Apart.cons ?_ Apart.nil)
    · intro p hp e
      rw [List.mem_singleton.mp hp] at e
      exact Nat.ne_of_gt hl.1 e
    · intro p hp e
      rw [List.mem_singleton.mp hp] at e
      exact Nat.ne_of_gt hl.2.1 e
end Mine
end

-- B24
section
open PySem PySem.W PyProof.Rows PySem.Spec PySem.Calls
set_option linter.all false
set_option maxRecDepth 100000
namespace Mine
theorem lst_appendM {prog : Program} {w : World} {A : Around} {E : Value → Shared → Prop} {s : Shared} {h₀ : Heap} {L D : Addr} {m : Str → Option Value} {led : Led} {xs : List Value} {n : Nat} {y : Value} {Q : Value → Shared → Prop} (F : Fr h₀ L s.heap m) (N : News h₀ L s.heap led) (hm : (D, listOf xs.toArray n) ∈ led) (hz : xs.length < 100000)
    (h : ∀ h' k', Fr h₀ L h' m → News h₀ L h' (setL D (listOf (xs ++ [y]).toArray k') led) → Q .none { s with heap := h' }) : wpAny (model prog w) A (call (.builtin "list.append") [.ref D, y]) Q E s := by
  have z := N _ hm
  have q := PySem.IsL.update z.1 (fun x => x.push y)
  have e : xs.toArray.push y = (xs ++ [y]).toArray := by simp
  rw [e] at q
  refine xA (fr_news_setL F N hm (Heap.SameBut.update ..) q) fun F' N' => ?_
  exact call_meets PySem.F.slot_list_append ⟨_, z.1, rfl⟩ PySem.F.entry_list_append (PySem.F.args_list_append_2 _ _) (list_append D _ n y (by rw [List.size_toArray, sizeLine_eq]; omega)) ⟨z.1, h _ _ F' N'⟩
/-- a body as it is made -/
structure Rec where
  t : Nat
  b : Nat
  hd : Nat
  cc : Nat
  kd : Str
  tk : Tok
  co : Obj
inductive FreshB (w : World) (imm : Led) (j b cc : Nat) : Str → Obj → Prop
  | row {db k nl : Nat} {g1 g2 g3 g4 u1 u2 u3 u4} {tn tl : Tok} (m1 : (b, instObj 114 db) ∈ imm) (m2 : (db, rowD g1 g2 g3 g4 u1 u2 u3 u4 (.int ((j : Int) + 1) tn) (.ref cc) (.bool false) (.int 0 tl)) ∈ imm) (hn : Den imm (.ref nl) none) : FreshB w imm j b cc (Str.ofString "row") (listOf (List.replicate 3 (Value.ref nl)).toArray k)
  | dict {db : Nat} {g1 g2 g3 g4 g5 g6 u1 u2 u3 u4 u5 u6} {tn tm tl : Tok} {ac : Value} (m1 : (b, instObj 147 db) ∈ imm) (m2 : (db, dictD g1 g2 g3 g4 g5 g6 u1 u2 u3 u4 u5 u6 (.int ((j : Int) + 1) tn) (.int 9 tm) (.bool false) (.int 0 tl) ac (.ref cc)) ∈ imm) (lo : (cc == sysModules) = false) : FreshB w imm j b cc (Str.ofString "dict") (kdict w [] 0)
  | text {db : Nat} {bs : Array UInt8} {g1 g2 g3 g4 u1 u2 u3 u4} {tn : Tok} {gl lv : Value} (m1 : (b, instObj 93 db) ∈ imm) (m2 : (db, textD g1 g2 g3 g4 u1 u2 u3 u4 (.int ((j : Int) + 1) tn) (.ref cc) gl lv) ∈ imm) (hz : bs.size ≤ 100) : FreshB w imm j b cc (Str.ofString "text") (baObj bs)
theorem FreshB.mono {w : World} {imm imm' : Led} {j b cc : Nat} {kd : Str} {co : Obj} (h : FreshB w imm j b cc kd co) (q : Sub imm imm') : FreshB w imm' j b cc kd co := by
  cases h with
  | row m1 m2 hn => exact .row (q _ m1) (q _ m2) (hn.mono q)
  | dict m1 m2 lo => exact .dict (q _ m1) (q _ m2) lo
  | text m1 m2 hz => exact .text (q _ m1) (q _ m2) hz
theorem FreshB.ok {w : World} {imm : Led} {j b cc : Nat} {kd : Str} {co : Obj} (h : FreshB w imm j b cc kd co) (bA : Nat → Nat) : ∃ a la, BodyOK w imm bA 5 j b cc kd co (kdict w [] 0) a la := by
  cases h with
  | row m1 m2 hn =>
    have hd : DJ imm bA 5 (.ref _) none := ⟨(fun _ h => nomatch h), hn⟩
    exact ⟨_, _, .row (os := [none, none, none]) (hl := []) m1 m2 rfl (.cons hd (.cons hd (.cons hd .nil))) (fun _ h => nomatch h) List.nodup_nil .nil ⟨(fun _ h => nomatch h), fun i hi => by
      rcases i with _ | _ | _ | i <;> first | exact .inl rfl | omega⟩⟩
  | dict m1 m2 lo => exact ⟨_, _, .dict (el := []) (hl := []) m1 m2 lo (fun _ h => nomatch h) List.nodup_nil .nil (fun _ h => nomatch h) List.nodup_nil .nil ⟨(fun _ h => nomatch h), (fun _ h => nomatch h)⟩⟩
  | text m1 m2 hz => exact ⟨_, _, .text m1 m2 hz⟩
structure FI (w : World) (gr imm : Led) (recs : List Rec) : Prop where
  sub : Sub imm gr
  tup : ∀ (j : Nat) (r : Rec), recs[j]? = some r → (r.t, tupOf #[.str r.kd r.tk, .ref r.b, .ref r.hd]) ∈ imm
  cell : ∀ (j : Nat) (r : Rec), recs[j]? = some r → (r.cc, r.co) ∈ gr ∧ (r.hd, kdict w [] 0) ∈ gr
  off : ∀ (j : Nat) (r : Rec), recs[j]? = some r → Off r.cc imm ∧ Off r.hd imm
  ic : ∀ (i j : Nat) (r q : Rec), recs[i]? = some r → recs[j]? = some q → r.cc = q.cc → i = j
  ih : ∀ (i j : Nat) (r q : Rec), recs[i]? = some r → recs[j]? = some q → r.hd = q.hd → i = j
  ich : ∀ (i j : Nat) (r q : Rec), recs[i]? = some r → recs[j]? = some q → r.cc ≠ q.hd
  lo : ∀ (j : Nat) (r : Rec), recs[j]? = some r → (r.hd == sysModules) = false
  fresh : ∀ (j : Nat) (r : Rec), recs[j]? = some r → FreshB w imm j r.b r.cc r.kd r.co
  k0 : ∀ r : Rec, recs[0]? = some r → r.kd = Str.ofString "row"
theorem FI.nil {w : World} {gr : Led} : FI w gr [] [] := ⟨(fun _ h => nomatch h), by simp, by simp, by simp, by simp, by simp, by simp, by simp, by simp, by simp⟩
theorem snoc_get {α : Type} {l : List α} {x y : α} {j : Nat} (h : (l ++ [x])[j]? = some y) : (j < l.length ∧ l[j]? = some y) ∨ (j = l.length ∧ y = x) := by
  rcases Nat.lt_trichotomy j l.length with hj | hj | hj
  · rw [List.getElem?_append_left hj] at h; exact .inl ⟨hj, h⟩
  · subst hj; rw [List.getElem?_append_right (Nat.le_refl _)] at h; simp at h; exact .inr ⟨rfl, h.symm⟩
  · rw [List.getElem?_eq_none (by simp; omega)] at h; cases h
theorem FI.snoc {w : World} {gr imm : Led} {recs : List Rec} (G : FI w gr imm recs) (nw : Led) (r : Rec) (hnw : Apart nw gr) (o1 : Off r.cc (nw ++ gr)) (o2 : Off r.hd (nw ++ gr)) (hne : r.cc ≠ r.hd) (hlo : (r.hd == sysModules) = false)
    (hb : FreshB w (nw ++ imm) recs.length r.b r.cc r.kd r.co) (ht : (r.t, tupOf #[.str r.kd r.tk, .ref r.b, .ref r.hd]) ∈ nw) (h0 : recs.length = 0 → r.kd = Str.ofString "row") :
    FI w ((r.cc, r.co) :: (r.hd, kdict w [] 0) :: (nw ++ gr)) (nw ++ imm) (recs ++ [r]) where
  sub := Sub.skip (Sub.skip (Sub.app (Sub.inl Sub.refl) (Sub.inr G.sub)))
  tup := fun j q e => by
    rcases snoc_get e with ⟨_, e⟩ | ⟨_, rfl⟩
    · exact List.mem_append_right _ (G.tup j q e)
    · exact List.mem_append_left _ ht
  cell := fun j q e => by
    rcases snoc_get e with ⟨_, e⟩ | ⟨_, rfl⟩
    · refine xA (G.cell j q e) fun a b => ?_
      exact ⟨.tail _ (.tail _ (List.mem_append_right _ a)), .tail _ (.tail _ (List.mem_append_right _ b))⟩
    · exact ⟨.head _, .tail _ (.head _)⟩
  off := fun j q e => by
    rcases snoc_get e with ⟨_, e⟩ | ⟨_, rfl⟩
    · refine xA (G.cell j q e) fun a b => ?_
      refine xA (G.off j q e) fun c d => ?_
      exact ⟨off_app (hnw.symm _ a) c, off_app (hnw.symm _ b) d⟩
    · exact ⟨off_app (off_left o1) fun p hp => off_right o1 p (G.sub p hp), off_app (off_left o2) fun p hp => off_right o2 p (G.sub p hp)⟩
  ic := fun i j q q' e e' h => by
    rcases snoc_get e with ⟨_, f⟩ | ⟨hi, rfl⟩ <;> rcases snoc_get e' with ⟨_, f'⟩ | ⟨hj, rfl⟩
    · exact G.ic i j q q' f f' h
    · exact absurd h (off_right o1 _ (G.cell i q f).1)
    · exact absurd h.symm (off_right o1 _ (G.cell j q' f').1)
    · omega
  ih := fun i j q q' e e' h => by
    rcases snoc_get e with ⟨_, f⟩ | ⟨hi, rfl⟩ <;> rcases snoc_get e' with ⟨_, f'⟩ | ⟨hj, rfl⟩
    · exact G.ih i j q q' f f' h
    · exact absurd h (off_right o2 _ (G.cell i q f).2)
    · exact absurd h.symm (off_right o2 _ (G.cell j q' f').2)
    · omega
  ich := fun i j q q' e e' h => by
    rcases snoc_get e with ⟨_, f⟩ | ⟨hi, rfl⟩ <;> rcases snoc_get e' with ⟨_, f'⟩ | ⟨hj, rfl⟩
    · exact G.ich i j q q' f f' h
    · exact absurd h (off_right o2 _ (G.cell i q f).1)
    · exact absurd h.symm (off_right o1 _ (G.cell j q' f').2)
    · exact hne h
  lo := fun j q e => by
    rcases snoc_get e with ⟨_, e⟩ | ⟨_, rfl⟩
    · exact G.lo j q e
    · exact hlo
  fresh := fun j q e => by
    rcases snoc_get e with ⟨_, e⟩ | ⟨rfl, rfl⟩
    · exact (G.fresh j q e).mono (Sub.inr Sub.refl)
    · exact hb
  k0 := fun q e => by
    rcases snoc_get e with ⟨_, e⟩ | ⟨h, rfl⟩
    · exact G.k0 q e
    · exact h0 h.symm
/-- five bodies made: the deeds may begin -/
theorem FI.done {w : World} {gr imm : Led} {recs : List Rec} {bl kb : Nat} {lo : Obj} (G : FI w gr imm recs) (hz : recs.length = 5) (hl : lo = listOf (recs.map fun r => Value.ref r.t).toArray kb) (hb : Off bl gr) :
    ∃ (kind : Nat → Str) (tA bA cA hA : Nat → Nat) (cO hO : Nat → Obj) (adj ladj : Nat → List (Option Nat)), GInv w bl kb (recs.map fun r => Value.ref r.t) kind tA bA cA hA ((bl, lo) :: gr) ((bl, lo) :: imm) cO hO adj ladj ∧ (∀ j, j < 5 → ∃ r, recs[j]? = some r) := by
  subst hl
  have get : ∀ j, j < 5 → ∃ r, recs[j]? = some r := fun j hj => ⟨_, List.getElem?_eq_getElem (by omega)⟩
  let R : Nat → Rec := fun j => recs[j]?.getD ⟨0, 0, 0, 0, Str.ofString "row", 0, listOf #[] 0⟩
  have hR : ∀ j, j < 5 → recs[j]? = some (R j) := fun j hj => by
    refine xE (get j hj) fun r hr => ?_
    show recs[j]? = some (recs[j]?.getD _)
    rw [hr]; rfl
  have hex : ∀ j, ∃ p : List (Option Nat) × List (Option Nat), j < 5 → BodyOK w ((bl, listOf (recs.map fun r => Value.ref r.t).toArray kb) :: imm) (fun i => (R i).b) 5 j (R j).b (R j).cc (R j).kd (R j).co (kdict w [] 0) p.1 p.2 := fun j => by
    by_cases hj : j < 5
    · refine xEE (((G.fresh j _ (hR j hj)).mono (Sub.skip Sub.refl (x := (bl, listOf (recs.map fun r => Value.ref r.t).toArray kb)))).ok (fun i => (R i).b)) fun a la h => ?_
      exact ⟨(a, la), fun _ => h⟩
    · exact ⟨([], []), fun h => absurd h hj⟩
  refine ⟨fun j => (R j).kd, fun j => (R j).t, fun j => (R j).b, fun j => (R j).cc, fun j => (R j).hd, fun j => (R j).co, fun _ => kdict w [] 0, fun j => (Classical.choose (hex j)).1, fun j => (Classical.choose (hex j)).2, ?_, get⟩
  exact {
    sub := Sub.cons (.head _) (Sub.skip G.sub)
    hbl := .head _
    hbz := by simp [hz]
    tup := fun i hi => ⟨by rw [List.getElem?_map, hR i hi]; rfl, _, .tail _ (G.tup i _ (hR i hi))⟩
    cell := fun i hi => let ⟨a, b⟩ := G.cell i _ (hR i hi); ⟨.tail _ a, .tail _ b⟩
    off := fun i hi => by
      refine xA (G.off i _ (hR i hi)) fun a b => ?_
      refine xA (G.cell i _ (hR i hi)) fun c d => ?_
      have e1 := hb _ c
      have e2 := hb _ d
      exact ⟨fun p hp => by rcases List.mem_cons.mp hp with rfl | hp; exact fun q => e1 q.symm; exact a p hp, fun p hp => by rcases List.mem_cons.mp hp with rfl | hp; exact fun q => e2 q.symm; exact b p hp⟩
    ic := fun i j hi hj h => G.ic i j _ _ (hR i hi) (hR j hj) h
    ih := fun i j hi hj h => G.ih i j _ _ (hR i hi) (hR j hj) h
    ich := fun i j hi hj h => G.ich i j _ _ (hR i hi) (hR j hj) h
    lo := fun i hi => G.lo i _ (hR i hi)
    body := fun i hi => Classical.choose_spec (hex i) hi
    k0 := G.k0 _ (hR 0 (by omega)) }
end Mine
end

-- B25
section
open PySem PySem.W PyProof.Rows PySem.Spec PySem.Calls
set_option linter.all false
set_option maxRecDepth 100000
namespace Mine
structure LA (lits dk mk : Led) (bl : Nat) (g : Led) : Prop where
  ld : Apart lits dk
  lm : Apart lits mk
  lb : Off bl lits
  lg : Apart lits g
  dm : Apart dk mk
  bm : Off bl mk
  gm : Apart g mk
  bd : Off bl dk
  gd : Apart g dk
  bg : Off bl g
/-- between the turns of the loop that makes the bodies -/
inductive LJ (w : World) (mm d bl : Nat) (lits : Led) (mB : Str → Option Value) (i : Nat) (m : Str → Option Value) (led : Led) : Prop
  | mk (dk mk g imm : Led) (recs : List Rec) (n kb : Nat) (p q : Option Value) (q1 : led = lits ++ (dk ++ (mk ++ ((bl, listOf (recs.map fun r => Value.ref r.t).toArray kb) :: g)))) (q2 : recs.length = i) (q3 : FI w g imm recs) (q4 : DeckOk w d dk n) (q5 : n ≤ i) (q6 : Mem w mm mk i) (q7 : LA lits dk mk bl g) (q8 : m = fun z => if z = Str.ofString "kind" then p else if z = Str.ofString "turn" then q else mB z) : LJ w mm d bl lits mB i m led
theorem LJ.map {m mB : Str → Option Value} {a b : Str} (h : ∀ z, ¬ z = a → ¬ z = b → m z = mB z) : m = fun z => if z = a then m a else if z = b then m b else mB z := by
  funext z
  by_cases h1 : z = a
  · simp [h1]
  · by_cases h2 : z = b
    · subst h2; simp [h1]
    · simp [h1, h2, h z h1 h2]
/-- the kind is chosen -/
inductive KD (w : World) (h₀ : Heap) (L : Addr) (m : Str → Option Value) (s : Shared) (lits rest : Led) (d i N : Nat) (s₂ : Shared) : Prop
  | mk (kd : Str) (tk : Tok) (dk : Led) (n : Nat) (h' : Heap) (tk' : Nat) (q1 : s₂ = { s with heap := h', toks := tk' }) (q2 : Fr h₀ L h' (fun z => if z = Str.ofString "kind" then some (.str kd tk) else m z)) (q3 : News h₀ L h' (lits ++ (dk ++ rest))) (q4 : DeckOk w d dk n) (q5 : n ≤ N) (q6 : Apart lits dk) (q7 : Apart rest dk) (q8 : (kd = Str.ofString "row" ∨ kd = Str.ofString "dict" ∨ kd = Str.ofString "text")) (q9 : (i = 0 → kd = Str.ofString "row")) : KD w h₀ L m s lits rest d i N s₂
theorem KD.join {M : Model} {A : Around} {E : Value → Shared → Prop} {w : World} {h₀ : Heap} {L : Addr} {m : Str → Option Value} {s : Shared} {t : Sem Flow} {Q : Flow → Shared → Prop} (lits rest : Led) (d i N : Nat)
    (F : Fr h₀ L s.heap m) (h1 : wpAny M A t (fun f s₂ => f = .next ∧ KD w h₀ L m s lits rest d i N s₂) E s) (h2 : ∀ s₂, KD w h₀ L m s lits rest d i N s₂ → Q .next s₂) : wpAny M A t Q E s :=
  wpAny_mono h1 (fun f s₂ h => by (revert h; intro zo; refine xA zo fun zr1 h => ?_; clear zo; subst zr1); exact h2 s₂ h) fun _ _ e => e
theorem call_range_N {prog : Program} {w : World} {A : Around} {E : Value → Shared → Prop} {s : Shared} {h₀ : Heap} {L : Addr} {m : Str → Option Value} {led : Led} {n : Int} {t : Tok} {Q : Value → Shared → Prop} (F : Fr h₀ L s.heap m) (N : News h₀ L s.heap led)
    (h : ∀ h' tk r t₁ u₁ v₁, IsRange h' r 0 n 1 t₁ u₁ v₁ → Fr h₀ L h' m → News h₀ L h' led → Q (.ref r) { s with heap := h', toks := tk }) : wpAny (model prog w) A (call (.type "range") [.int n t]) Q E s :=
  range1_rows F N fun h' tk t₁ u₁ v₁ hr F' N' _ => h h' tk _ t₁ u₁ v₁ hr F' N'
theorem two_at {a b v : Value} : ∀ {i : Nat}, [a, b][i]? = some v → (i = 0 ∧ v = a) ∨ (i = 1 ∧ v = b)
  | 0, h => .inl ⟨rfl, by simpa using h.symm⟩
  | 1, h => .inr ⟨rfl, by simpa using h.symm⟩
  | i + 2, h => by simp at h
end Mine
end

-- B26
section
open PySem PySem.W PyProof.Rows PySem.Spec PySem.Calls
set_option linter.all false
set_option maxRecDepth 100000
namespace Mine
theorem null_off {w : World} {h₀ h : Heap} {L : Addr} {mm nb nl dnl : Nat} {mk led : Led} {g1 g2 g3 g4 : Int} {u1 u2 u3 u4 tk : Tok} {kd : Str} {v ex ac : Value} (N : News h₀ L h led) (hM : Mem w mm mk nb) (hs : Sub mk led) (h1 : (nl, instObj 72 dnl) ∈ led) (h2 : (dnl, thingD g1 g2 g3 g4 u1 u2 u3 u4 (.str kd tk) v ex ac) ∈ led) : Off nl mk ∧ Off dnl mk := by
  obtain ⟨c1, c2, c3, c4, c5, lo, hxs, hnd, hlen, hu0, hu1⟩ := hM
  constructor
  · intro p hp
    have hq := hs p hp
    refine fun e => ?_
    simp only [List.mem_cons, List.not_mem_nil, or_false] at hp
    rcases hp with rfl | rfl | rfl | rfl | rfl | rfl <;> (dsimp only at e; subst e; have q := news_func N hq h1) <;> first
      | (cases (congrArg Obj.cls q); done)
      | (have q2 := congrArg Obj.cls q; simp only [Value.ref.injEq] at q2; omega)
      | (cases (congrArg Obj.data q); done)
  · intro p hp
    have hq := hs p hp
    refine fun e => ?_
    simp only [List.mem_cons, List.not_mem_nil, or_false] at hp
    rcases hp with rfl | rfl | rfl | rfl | rfl | rfl <;> (dsimp only at e; subst e; have q := news_func N hq h2) <;> first
      | (exact absurd q.symm (kdict_ne (hxs.keysIn (led := []))))
      | (cases (congrArg Obj.cls q); done)
      | (have q2 := congrArg Obj.data q; simp only [dictOf, Data.dict.injEq] at q2; have q3 := congrArg Array.size q2.1; simp at q3)
      | (cases (congrArg Obj.data q))
/-- one body more -/
theorem LJ.snoc {w : World} {h₀ h : Heap} {L : Addr} {mm d bl I i n kb' : Nat} {oI : Obj} {lo : Obj} {lits dk mk g imm X : Led} {recs : List Rec} {mB m : Str → Option Value} {p q : Option Value} (hm : m = fun z => if z = Str.ofString "kind" then p else if z = Str.ofString "turn" then q else mB z)
    (hrl : recs.length = i) (hFI : FI w g imm recs) (hD : DeckOk w d dk n) (hn : n ≤ i + 1) (hM : Mem w mm mk (i + 1)) (hLA : LA lits dk mk bl g) (hoI : Off I (lits ++ (dk ++ (mk ++ ((bl, lo) :: g))))) (r : Rec) (nw : Led)
    (hnb : Off bl ((r.cc, r.co) :: (r.hd, kdict w [] 0) :: nw)) (hnI : Off I ((r.cc, r.co) :: (r.hd, kdict w [] 0) :: nw)) (hna : Apart ((r.cc, r.co) :: (r.hd, kdict w [] 0) :: nw) (lits ++ (dk ++ (mk ++ g)))) (o1 : Off r.cc nw) (o2 : Off r.hd nw) (hne : r.cc ≠ r.hd) (hlo : (r.hd == sysModules) = false)
    (hb : FreshB w (nw ++ imm) i r.b r.cc r.kd r.co) (ht : (r.t, tupOf #[.str r.kd r.tk, .ref r.b, .ref r.hd]) ∈ nw) (h0 : i = 0 → r.kd = Str.ofString "row")
    (N : News h₀ L h X) (hX1 : (bl, listOf ((recs.map fun r => Value.ref r.t) ++ [Value.ref r.t]).toArray kb') ∈ X) (hX : ∀ z ∈ (r.cc, r.co) :: (r.hd, kdict w [] 0) :: (nw ++ ((I, oI) :: (lits ++ (dk ++ (mk ++ g))))), z.1 ≠ bl → z ∈ X) :
    ∃ led₂, News h₀ L h ((I, oI) :: led₂) ∧ (∀ z ∈ led₂, z.1 ≠ I) ∧ LJ w mm d bl lits mB (i + 1) m led₂ := by
  subst hrl
  have sg : Apart ((r.cc, r.co) :: (r.hd, kdict w [] 0) :: nw) g := hna.sub Sub.refl (Sub.inr (Sub.inr (Sub.inr Sub.refl)))
  have sl : Apart ((r.cc, r.co) :: (r.hd, kdict w [] 0) :: nw) lits := hna.sub Sub.refl (Sub.inl Sub.refl)
  have sd : Apart ((r.cc, r.co) :: (r.hd, kdict w [] 0) :: nw) dk := hna.sub Sub.refl (Sub.inr (Sub.inl Sub.refl))
  have sm : Apart ((r.cc, r.co) :: (r.hd, kdict w [] 0) :: nw) mk := hna.sub Sub.refl (Sub.inr (Sub.inr (Sub.inl Sub.refl)))
  have hcc : Off r.cc g := sg _ (.head _)
  have hhd : Off r.hd g := sg _ (.tail _ (.head _))
  have G := hFI.snoc nw r (fun x hx => sg x (.tail _ (.tail _ hx))) (off_app o1 hcc) (off_app o2 hhd) hne hlo hb ht h0
  have eg : ∀ z, z ∈ (r.cc, r.co) :: (r.hd, kdict w [] 0) :: (nw ++ g) → z ∈ ((r.cc, r.co) :: (r.hd, kdict w [] 0) :: nw) ∨ z ∈ g := fun z hz => by
    simp only [List.mem_cons, List.mem_append] at hz ⊢
    rcases hz with h | h | h | h <;> simp [h]
  have key : ∀ {b : Led}, Apart ((r.cc, r.co) :: (r.hd, kdict w [] 0) :: nw) b → Apart g b → Apart ((r.cc, r.co) :: (r.hd, kdict w [] 0) :: (nw ++ g)) b := fun {b} h1 h2 x hx => (eg x hx).elim (h1 x) (h2 x)
  refine ⟨lits ++ (dk ++ (mk ++ ((bl, listOf ((recs.map fun r => Value.ref r.t) ++ [Value.ref r.t]).toArray kb') :: (r.cc, r.co) :: (r.hd, kdict w [] 0) :: (nw ++ g)))), ?_, ?_, dk, mk, _, nw ++ imm, recs ++ [r], n, kb', p, q, by rw [List.map_append]; rfl, by simp, G, hD, hn, hM, ⟨hLA.ld, hLA.lm, hLA.lb, (key sl hLA.lg.symm).symm, hLA.dm, hLA.bm, key sm hLA.gm, hLA.bd, key sd hLA.gd, ?_⟩, hm⟩
  · intro z hz
    have ok : ∀ z ∈ lits ++ (dk ++ (mk ++ g)), z.1 ≠ bl → z ∈ X := fun z hz h => hX z (.tail _ (.tail _ (List.mem_append_right _ (.tail _ hz)))) h
    rcases List.mem_cons.mp hz with rfl | hz
    · exact N _ (hX _ (.tail _ (.tail _ (List.mem_append_right _ (.head _)))) (hoI (bl, lo) (List.mem_append_right _ (List.mem_append_right _ (List.mem_append_right _ (.head _))))).symm)
    · simp only [List.mem_append] at hz
      rcases hz with hz | hz | hz | hz
      · exact N _ (ok z (by simp [hz]) (hLA.lb z hz))
      · exact N _ (ok z (by simp [hz]) (hLA.bd z hz))
      · exact N _ (ok z (by simp [hz]) (hLA.bm z hz))
      · rcases List.mem_cons.mp hz with rfl | hz
        · exact N _ hX1
        · rcases eg z hz with hz | hz
          · refine N _ (hX z ?_ (hnb z hz))
            simp only [List.mem_cons, List.mem_append] at hz ⊢
            rcases hz with h | h | h <;> simp [h]
          · exact N _ (ok z (by simp [hz]) (hLA.bg z hz))
  · intro z hz
    simp only [List.mem_append] at hz
    rcases hz with hz | hz | hz | hz
    · exact hoI z (by simp [hz])
    · exact hoI z (by simp [hz])
    · exact hoI z (by simp [hz])
    · rcases List.mem_cons.mp hz with rfl | hz
      · exact hoI (bl, lo) (List.mem_append_right _ (List.mem_append_right _ (List.mem_append_right _ (.head _))))
      · rcases eg z hz with hz | hz
        · exact hnI z hz
        · exact hoI z (by simp [hz])
  · intro z hz
    rcases eg z hz with hz | hz
    · exact hnb z hz
    · exact hLA.bg z hz
end Mine
end

-- B27
section
open PySem PySem.W PyProof.Rows PySem.Spec PySem.Calls
set_option linter.all false
set_option maxRecDepth 100000
namespace Mine
theorem words_B27 : True := by
  (k_with "memb" => first | with_reducible assumption | with_reducible exact List.Mem.head _ | assumption | exact List.Mem.head _ | (refine List.Mem.tail _ ?_; k_extra "memb") | (refine List.mem_append_left _ ?_; k_extra "memb") | (refine List.mem_append_right _ ?_; k_extra "memb"))
  (k_with "lt9" => first | with_reducible assumption | with_reducible exact Nat.lt_trans (by assumption) (by assumption) | exact Nat.lt_trans (by with_reducible assumption) (by k_extra "lt9"))
  (k_with "ltne" => first | with_reducible exact Nat.ne_of_gt (by assumption) | with_reducible exact Nat.ne_of_lt (by assumption) | exact Nat.ne_of_lt (by k_extra "lt9") | exact Nat.ne_of_gt (by k_extra "lt9") | (dsimp only; omega))
  (k_with "offs" => first | exact off_nil | (refine off_cons ?_ ?_; (focus (k_extra "ltne"; done)); k_extra "offs"))
  (k_with "subs" => first | with_reducible exact Sub.nil | with_reducible exact Sub.refl | (refine Sub.cons ?_ ?_; (focus (k_extra "memb"; done)); k_extra "subs") | (refine Sub.app ?_ ?_; (focus (k_extra "subs"; done)); k_extra "subs") | (refine Sub.skip ?_; k_extra "subs") | (refine Sub.inl ?_; k_extra "subs") | (refine Sub.inr ?_; k_extra "subs"))
  trivial
theorem callWithC_bi {M : Model} {A : Around} {E : Value → Shared → Prop} {s : Shared} {env : Env} {pos : Pos} {id : String} {first : List Value} {e : Expr} {rest : List Expr} {Q : Value → Shared → Prop}
    (h : wpC M A (spliced (backTo pos (starEach (e :: rest) env))) (fun vs s₁ => wpC M A (call (.builtin id) (first ++ vs)) Q E s₁) E s)
    (he : starEach (e :: rest) env = (false, eval e env) :: starEach rest env) (hplain : (backTo pos (starEach rest env)).any (·.1) = false) :
    wpC M A (callWith pos (.builtin id) first (backTo pos (starEach (e :: rest) env)) []) Q E s := by
  rw [he] at h ⊢
  exact callWithC_builtin (by show (false || (backTo pos (starEach rest env)).any (·.1)) = false; rw [hplain]; rfl) (evalArgsC_plain h)
theorem tuple_push {h₀ h : Heap} {L : Addr} {m : Str → Option Value} {led : Led} (F : Fr h₀ L h m) (N : News h₀ L h led) (vs : List Value) : ∃ D : Nat, D = h.objs.size ∧ Fr h₀ L (h.push { cls := .type "tuple", data := .seq vs.toArray }) m ∧ News h₀ L (h.push { cls := .type "tuple", data := .seq vs.toArray }) ((D, tupOf vs.toArray) :: led) ∧ AllLt D led :=
  ⟨_, rfl, F.push _, News.push F N _, allLt_of fun p hp => Heap.lt_size (N p hp).1⟩
theorem wpC_TupleN {M : Model} {A : Around} {E : Value → Shared → Prop} {s : Shared} {env : Env} {elts : List Expr} {k : Nat} {pos : Pos} {Q : Value → Shared → Prop} {h₀ : Heap} {L : Addr}
    (h : wpC M A (spliced (backTo pos (starEach elts env))) (fun vs s₁ => ∃ led m, Fr h₀ L s₁.heap m ∧ News h₀ L s₁.heap led ∧ vs.length ≤ 100 ∧ ∀ (D : Nat) h', Fr h₀ L h' m → News h₀ L h' ((D, tupOf vs.toArray) :: led) → AllLt D led → Q (.ref D) { s₁ with heap := h' }) E s) : wpC M A (eval (.Tuple elts k pos) env) Q E s :=
  wpC_Tuple (wpC_mono h (fun vs s₁ q => by
    (revert q; intro zo; refine xEEAAA zo fun led m F N hz q => ?_; clear zo)
    (refine xEAAA (tuple_push F N vs) fun D zr1 F' N' l => ?_; subst zr1)
    exact ⟨by rw [sizeLine_eq]; omega, q _ _ F' N' l⟩) fun _ _ e => e)
theorem GEnd.of {h₀ h' : Heap} {L : Addr} {I : Nat} {oI : Obj} {Jn : (Str → Option Value) → Led → Prop} {s : Shared} {Kb : Shared → Prop} {Kr : Value → Shared → Prop} {m₂ : Str → Option Value} {tk : Nat} (F : Fr h₀ L h' m₂) (h : ∃ led₂, News h₀ L h' ((I, oI) :: led₂) ∧ (∀ p ∈ led₂, p.1 ≠ I) ∧ Jn m₂ led₂) :
    GEnd h₀ L I oI Jn s Kb Kr .next { s with heap := h', toks := tk } := let ⟨led₂, a, b, c⟩ := h; ⟨h', tk, m₂, led₂, rfl, F, a, b, c⟩
section
variable {w : World} {h₀ h : Heap} {L : Addr} {mm d bl I i n kb' D x dx c hd : Nat} {oI lo : Obj} {lits dk mk g imm : Led} {recs : List Rec} {mB m : Str → Option Value} {p q : Option Value} {tkd tn tl : Tok}
theorem row_made {nl dnl k : Nat} {h1 h2 h3 h4 g1 g2 g3 g4 : Int} {t1 t2 t3 t4 u1 u2 u3 u4 tk : Tok} {ex ac : Value} (hm : m = fun z => if z = Str.ofString "kind" then p else if z = Str.ofString "turn" then q else mB z)
    (N : News h₀ L h (setL bl (listOf ((recs.map fun r : Rec => Value.ref r.t) ++ [Value.ref D]).toArray kb') ((D, tupOf #[.str (Str.ofString "row") tkd, .ref x, .ref hd]) :: (hd, dictOf [] 0) :: (x, instObj 114 dx) :: (dx, rowD h1 h2 h3 h4 t1 t2 t3 t4 (.int ((i : Int) + 1) tn) (.ref c) (.bool false) (.int 0 tl)) :: (c, listOf (List.replicate (Int.toNat 3) (.ref nl)).toArray k) ::
      (nl, instObj 72 dnl) :: (dnl, thingD g1 g2 g3 g4 u1 u2 u3 u4 (.str (Str.ofString "null") tk) .none ex ac) :: (I, oI) :: (lits ++ (dk ++ (mk ++ ((bl, lo) :: g)))))))
    (hrl : recs.length = i) (hFI : FI w g imm recs) (hD : DeckOk w d dk n) (hn : n ≤ i + 1) (hM : Mem w mm mk (i + 1)) (hLA : LA lits dk mk bl g) (hoI : Off I (lits ++ (dk ++ (mk ++ ((bl, lo) :: g)))))
    (l0 : I < dnl ∧ AllLt dnl (lits ++ (dk ++ ((bl, lo) :: g)))) (e1 : dnl < nl) (e2 : nl < dx) (l1 : AllLt dx (lits ++ (dk ++ (mk ++ ((bl, lo) :: g))))) (e3 : dx < x) (e4 : x < c) (e5 : c < hd) (e6 : hd < D) (hlo : (hd == sysModules) = false) :
    ∃ led₂, News h₀ L h ((I, oI) :: led₂) ∧ (∀ z ∈ led₂, z.1 ≠ I) ∧ LJ w mm d bl lits mB (i + 1) m led₂ := by
  have lx := allLt_trans l1 e3
  have lc := allLt_trans lx e4
  have lh := allLt_trans lc e5
  have lD := allLt_trans lh e6
  have ln := allLt_trans l0.2 e1
  have bm : ∀ {a : Nat}, AllLt a (lits ++ (dk ++ (mk ++ ((bl, lo) :: g)))) → bl < a ∧ Off a (lits ++ (dk ++ (mk ++ g))) := fun {a} h => ⟨allLt_mem h (bl, lo) (by simp), allLt_off (allLt_sub h (by k_extra "subs"))⟩
  have bn : ∀ {a : Nat}, AllLt a (lits ++ (dk ++ ((bl, lo) :: g))) → Off a mk → bl < a ∧ Off a (lits ++ (dk ++ (mk ++ g))) := fun {a} h ho => ⟨allLt_mem h (bl, lo) (by simp), by
    have q := allLt_off h
    exact off_app (off_left q) (off_app (off_left (off_right q)) (off_app ho (off_tail (off_right (off_right q)))))⟩
  have bX : ∀ z ∈ (hd, dictOf [] 0) :: (x, instObj 114 dx) :: (dx, rowD h1 h2 h3 h4 t1 t2 t3 t4 (.int ((i : Int) + 1) tn) (.ref c) (.bool false) (.int 0 tl)) :: (c, listOf (List.replicate (Int.toNat 3) (.ref nl)).toArray k) :: (nl, instObj 72 dnl) :: (dnl, thingD g1 g2 g3 g4 u1 u2 u3 u4 (.str (Str.ofString "null") tk) .none ex ac) :: (I, oI) :: (lits ++ (dk ++ (mk ++ ((bl, lo) :: g)))), z ∈ (D, tupOf #[.str (Str.ofString "row") tkd, .ref x, .ref hd]) :: (hd, dictOf [] 0) :: (x, instObj 114 dx) :: (dx, rowD h1 h2 h3 h4 t1 t2 t3 t4 (.int ((i : Int) + 1) tn) (.ref c) (.bool false) (.int 0 tl)) :: (c, listOf (List.replicate (Int.toNat 3) (.ref nl)).toArray k) :: (nl, instObj 72 dnl) :: (dnl, thingD g1 g2 g3 g4 u1 u2 u3 u4 (.str (Str.ofString "null") tk) .none ex ac) :: (I, oI) :: (lits ++ (dk ++ (mk ++ ((bl, lo) :: g)))) := fun z hz => .tail _ hz
  have bnl := (allLt_mem ln (bl, lo) (by simp))
  have bdn := (allLt_mem l0.2 (bl, lo) (by simp))
  have bI : bl ≠ I := fun e => hoI (bl, lo) (by simp) e
  have nmk : ∀ z ∈ mk, z.1 ≠ bl := hLA.bm
  have oo := null_off (mk := mk) (nl := nl) (dnl := dnl) (led := (nl, instObj 72 dnl) :: (dnl, thingD g1 g2 g3 g4 u1 u2 u3 u4 (.str (Str.ofString "null") tk) .none ex ac) :: mk) (w := w) (fun z hz => by
    rcases List.mem_cons.mp hz with rfl | hz
    · exact N _ (mem_setL_of (by simp) (Nat.ne_of_gt bnl))
    · rcases List.mem_cons.mp hz with rfl | hz
      · exact N _ (mem_setL_of (by simp) (Nat.ne_of_gt bdn))
      · exact N _ (mem_setL_of (by simp [hz]) (nmk z hz))) hM (Sub.skip (Sub.skip Sub.refl)) (.head _) (.tail _ (.head _))
  refine xA (bm lc) fun bc oc => ?_
  refine xA (bm lh) fun bh oh => ?_
  refine xA (bm lD) fun bD oD => ?_
  refine xA (bm lx) fun bx ox => ?_
  refine xA (bm l1) fun bdx odx => ?_
  refine xA (bn ln oo.1) fun _ onl => ?_
  refine xA (bn l0.2 oo.2) fun _ odn => ?_
  have l0' := l0.1
  have i1 := Nat.lt_trans l0' e1
  have i2 := Nat.lt_trans i1 e2
  have i3 := Nat.lt_trans i2 e3
  have i4 := Nat.lt_trans i3 e4
  have i5 := Nat.lt_trans i4 e5
  have i6 := Nat.lt_trans i5 e6
  have t : ∀ {a b : Nat}, a < b → a ≠ b := fun h => Nat.ne_of_lt h
  refine LJ.snoc hm hrl hFI hD hn hM hLA hoI ⟨D, x, hd, c, Str.ofString "row", tkd, listOf (List.replicate (Int.toNat 3) (.ref nl)).toArray k⟩ [(D, tupOf #[.str (Str.ofString "row") tkd, .ref x, .ref hd]), (x, instObj 114 dx), (dx, rowD h1 h2 h3 h4 t1 t2 t3 t4 (.int ((i : Int) + 1) tn) (.ref c) (.bool false) (.int 0 tl)), (nl, instObj 72 dnl), (dnl, thingD g1 g2 g3 g4 u1 u2 u3 u4 (.str (Str.ofString "null") tk) .none ex ac)]
    ?_ ?_ (Apart.cons oc (Apart.cons oh (Apart.cons oD (Apart.cons ox (Apart.cons odx (Apart.cons onl (Apart.cons odn Apart.nil))))))) ?_ ?_ (t e5) hlo (.row (.tail _ (.head _)) (.tail _ (.tail _ (.head _))) (.leaf (.tail _ (.tail _ (.tail _ (.head _)))) (.tail _ (.tail _ (.tail _ (.tail _ (.head _))))) (.inl rfl))) (.head _) (fun _ => rfl) N mem_setL_self ?_
  · k_extra "offs"
  · k_extra "offs"
  · k_extra "offs"
  · k_extra "offs"
  · intro z hz hb
    exact mem_setL_of ((by k_extra "subs" : Sub _ _) z hz) hb
theorem dict_made {h1 h2 h3 h4 h5 h6 : Int} {t1 t2 t3 t4 t5 t6 tm : Tok} {ac : Value} (hm : m = fun z => if z = Str.ofString "kind" then p else if z = Str.ofString "turn" then q else mB z)
    (N : News h₀ L h (setL bl (listOf ((recs.map fun r : Rec => Value.ref r.t) ++ [Value.ref D]).toArray kb') ((D, tupOf #[.str (Str.ofString "dict") tkd, .ref x, .ref hd]) :: (hd, dictOf [] 0) :: (x, instObj 147 dx) :: (dx, dictD h1 h2 h3 h4 h5 h6 t1 t2 t3 t4 t5 t6 (.int ((i : Int) + 1) tn) (.int 9 tm) (.bool false) (.int 0 tl) ac (.ref c)) :: (c, kdict w [] 0) ::
      (I, oI) :: (lits ++ (dk ++ (mk ++ ((bl, lo) :: g)))))))
    (hrl : recs.length = i) (hFI : FI w g imm recs) (hD : DeckOk w d dk n) (hn : n ≤ i + 1) (hM : Mem w mm mk (i + 1)) (hLA : LA lits dk mk bl g) (hoI : Off I (lits ++ (dk ++ (mk ++ ((bl, lo) :: g))))) (hi0 : i = 0 → False)
    (l1 : I < dx ∧ AllLt dx (lits ++ (dk ++ (mk ++ ((bl, lo) :: g))))) (e3 : dx < x) (e4 : x < c) (e5 : c < hd) (e6 : hd < D) (hlc : (c == sysModules) = false) (hlo : (hd == sysModules) = false) :
    ∃ led₂, News h₀ L h ((I, oI) :: led₂) ∧ (∀ z ∈ led₂, z.1 ≠ I) ∧ LJ w mm d bl lits mB (i + 1) m led₂ := by
  (revert l1; intro zo; refine xA zo fun l1i l1 => ?_; clear zo)
  have lx := allLt_trans l1 e3
  have lc := allLt_trans lx e4
  have lh := allLt_trans lc e5
  have lD := allLt_trans lh e6
  have bm : ∀ {a : Nat}, AllLt a (lits ++ (dk ++ (mk ++ ((bl, lo) :: g)))) → bl < a ∧ Off a (lits ++ (dk ++ (mk ++ g))) := fun {a} h => ⟨allLt_mem h (bl, lo) (by simp), allLt_off (allLt_sub h (by k_extra "subs"))⟩
  refine xA (bm lc) fun bc oc => ?_
  refine xA (bm lh) fun bh oh => ?_
  refine xA (bm lD) fun bD oD => ?_
  refine xA (bm lx) fun bx ox => ?_
  refine xA (bm l1) fun bdx odx => ?_
  have t : ∀ {a b : Nat}, a < b → a ≠ b := fun h => Nat.ne_of_lt h
  refine LJ.snoc hm hrl hFI hD hn hM hLA hoI ⟨D, x, hd, c, Str.ofString "dict", tkd, kdict w [] 0⟩ [(D, tupOf #[.str (Str.ofString "dict") tkd, .ref x, .ref hd]), (x, instObj 147 dx), (dx, dictD h1 h2 h3 h4 h5 h6 t1 t2 t3 t4 t5 t6 (.int ((i : Int) + 1) tn) (.int 9 tm) (.bool false) (.int 0 tl) ac (.ref c))]
    ?_ ?_ (Apart.cons oc (Apart.cons oh (Apart.cons oD (Apart.cons ox (Apart.cons odx Apart.nil))))) ?_ ?_ (t e5) hlo (.dict (.tail _ (.head _)) (.tail _ (.tail _ (.head _))) hlc) (.head _) (fun h => absurd h hi0) N mem_setL_self ?_
  · k_extra "offs"
  · k_extra "offs"
  · k_extra "offs"
  · k_extra "offs"
  · intro z hz hb
    exact mem_setL_of ((by k_extra "subs" : Sub _ _) z hz) hb
theorem text_made {bs : Array UInt8} {h1 h2 h3 h4 : Int} {t1 t2 t3 t4 : Tok} {gl lv : Value} (hm : m = fun z => if z = Str.ofString "kind" then p else if z = Str.ofString "turn" then q else mB z)
    (N : News h₀ L h (setL bl (listOf ((recs.map fun r : Rec => Value.ref r.t) ++ [Value.ref D]).toArray kb') ((D, tupOf #[.str (Str.ofString "text") tkd, .ref x, .ref hd]) :: (hd, dictOf [] 0) :: (x, instObj 93 dx) :: (dx, textD h1 h2 h3 h4 t1 t2 t3 t4 (.int ((i : Int) + 1) tn) (.ref c) gl lv) :: (c, baObj bs) ::
      (I, oI) :: (lits ++ (dk ++ (mk ++ ((bl, lo) :: g)))))))
    (hrl : recs.length = i) (hFI : FI w g imm recs) (hD : DeckOk w d dk n) (hn : n ≤ i + 1) (hM : Mem w mm mk (i + 1)) (hLA : LA lits dk mk bl g) (hoI : Off I (lits ++ (dk ++ (mk ++ ((bl, lo) :: g))))) (hi0 : i = 0 → False) (hz : bs.size ≤ 100)
    (l1 : I < dx ∧ AllLt dx (lits ++ (dk ++ (mk ++ ((bl, lo) :: g))))) (e3 : dx < x) (e4 : x < c) (e5 : c < hd) (e6 : hd < D) (hlo : (hd == sysModules) = false) :
    ∃ led₂, News h₀ L h ((I, oI) :: led₂) ∧ (∀ z ∈ led₂, z.1 ≠ I) ∧ LJ w mm d bl lits mB (i + 1) m led₂ := by
  (revert l1; intro zo; refine xA zo fun l1i l1 => ?_; clear zo)
  have lx := allLt_trans l1 e3
  have lc := allLt_trans lx e4
  have lh := allLt_trans lc e5
  have lD := allLt_trans lh e6
  have bm : ∀ {a : Nat}, AllLt a (lits ++ (dk ++ (mk ++ ((bl, lo) :: g)))) → bl < a ∧ Off a (lits ++ (dk ++ (mk ++ g))) := fun {a} h => ⟨allLt_mem h (bl, lo) (by simp), allLt_off (allLt_sub h (by k_extra "subs"))⟩
  refine xA (bm lc) fun bc oc => ?_
  refine xA (bm lh) fun bh oh => ?_
  refine xA (bm lD) fun bD oD => ?_
  refine xA (bm lx) fun bx ox => ?_
  refine xA (bm l1) fun bdx odx => ?_
  have t : ∀ {a b : Nat}, a < b → a ≠ b := fun h => Nat.ne_of_lt h
  refine LJ.snoc hm hrl hFI hD hn hM hLA hoI ⟨D, x, hd, c, Str.ofString "text", tkd, baObj bs⟩ [(D, tupOf #[.str (Str.ofString "text") tkd, .ref x, .ref hd]), (x, instObj 93 dx), (dx, textD h1 h2 h3 h4 t1 t2 t3 t4 (.int ((i : Int) + 1) tn) (.ref c) gl lv)]
    ?_ ?_ (Apart.cons oc (Apart.cons oh (Apart.cons oD (Apart.cons ox (Apart.cons odx Apart.nil))))) ?_ ?_ (t e5) hlo (.text (.tail _ (.head _)) (.tail _ (.tail _ (.head _))) hz) (.head _) (fun h => absurd h hi0) N mem_setL_self ?_
  · k_extra "offs"
  · k_extra "offs"
  · k_extra "offs"
  · k_extra "offs"
  · intro z hz hb
    exact mem_setL_of ((by k_extra "subs" : Sub _ _) z hz) hb
end
end Mine
end

-- B28
section
open PySem PySem.W PyProof.Rows PySem.Spec PySem.Calls
set_option linter.all false
set_option maxRecDepth 100000
namespace Mine
/-- between the deeds -/
inductive DJ2 (w : World) (d bl kb : Nat) (bts : List Value) (kind : Nat → Str) (tA bA cA hA : Nat → Nat) (lits mk : Led) (mB : Str → Option Value) (i : Nat) (m : Str → Option Value) (led : Led) : Prop
  | mk (dk gr imm : Led) (cO hO : Nat → Obj) (adj ladj : Nat → List (Option Nat)) (n : Nat) (p : Option Value) (q1 : led = lits ++ (dk ++ (mk ++ gr))) (q2 : GInv w bl kb bts kind tA bA cA hA gr imm cO hO adj ladj) (q3 : DeckOk w d dk n) (q4 : n ≤ 20 * i + 30) (q5 : Apart lits dk) (q6 : Apart lits gr) (q7 : Apart (mk ++ gr) dk) (q8 : Apart gr mk) (q9 : m = fun z => if z = Str.ofString "turn" then p else mB z) : DJ2 w d bl kb bts kind tA bA cA hA lits mk mB i m led
theorem one_map {m mB : Str → Option Value} {a : Str} (h : ∀ z, ¬ z = a → m z = mB z) : m = fun z => if z = a then m a else mB z := by
  funext z
  by_cases h1 : z = a
  · simp [h1]
  · simp [h1, h z h1]
end Mine
end

-- E05
section
open PySem PySem.W PyProof.Rows PySem.Spec PySem.Calls PyProof.Rows.LCg
set_option linter.all false
set_option maxRecDepth 100000
namespace Mine
section
variable {prog : Program} {w : World} {A : Around} {E : Value → Shared → Prop} {s : Shared} {h₀ : Heap} {L : Addr} {m : Str → Option Value} {env : Env} {elt : Expr} {ifs : List Expr} {scope : Scope} {cl : List (Str × Addr)} {mf : Addr → Str → Option Value} {Q : Value → Shared → Prop} {led : Led}
theorem src_range {r : Addr} {n : Nat} {t u v : Tok} {a : Str} {pa : Pos} (J : Nat → List Value → Led → Prop) (hh : A.handled = none) (hr : IsRange s.heap r 0 n 1 t u v) (hz : n < 1000) (F : Fr h₀ L s.heap m) (N : News h₀ L s.heap led)
    (ha : scope.names.lookup a = some .local) (hkind : scope.kind = .function) (h0 : J 0 [] led)
    (turn : ∀ s₂ : Shared, (∃ h tk, s₂ = { s with heap := h, toks := tk }) → ∀ I : Addr, s.heap.objs.size ≤ I → CTurn prog w A h₀ L m env elt ifs scope cl [I] [I] n (fun i mC => ∃ t, mC a = some (.int i t)) J s₂)
    (fin : ∀ D h tk ys led', Fr h₀ L h (mf D) → News h₀ L h ((D, lst ys) :: led') → (∀ p ∈ led', p.1 ≠ D) → J n ys led' → Q (.ref D) { s with heap := h, toks := tk }) :
    wpAny (model prog w) A (pyIter (.ref r)) (fun it s₂ => CompAt prog w A h₀ L m env (.Name a pa) elt ifs scope cl mf Q it s₂) E s := by
  refine wpAny_pyIter_range hr (small_one (by omega) (by omega) (by omega) (by omega)) ?_
  have esz : Builtin.Range.rangeSize 0 n 1 = n := by rw [rangeSize_one]; split <;> omega
  rw [esz]
  have up : ∀ b o, s.heap.get? b = some o → (s.heap.push { cls := .type "range_iterator", data := .fields #[rawInt 0, rawInt n, rawInt 1] }).get? b = some o := fun b o e => Heap.get?_push_of_some _ e
  have W : Walks prog w A s.heap.objs.size [s.heap.objs.size] [s.heap.objs.size] n (fun i v => ∃ t, v = .int (0 + i * 1) t) (fun i h => IsRangeIter h s.heap.objs.size (0 + (i : Nat) * 1) ((n : Int) - (i : Nat)) 1) := Walks.range hh _ 0 1 n
  refine ⟨s.heap.objs.size, [s.heap.objs.size], [s.heap.objs.size], n, _, _, _, led, _, J, rfl, KTurns.ofWalks (target := .Name a pa) W (fun i v s' Q' E' _ q => wpAny_pure q), by omega, (by show IsRangeIter _ _ _ _ _; simpa using Heap.get?_push_size _ rfl), ?_, ?_, ?_, (fun i h st b hb => by
    obtain rfl := List.mem_singleton.mp hb
    exact ⟨_, st⟩), F.keeps up, N.grown up, ?_, h0, ?_, ?_,
    turn { s with heap := _ } ⟨_, _, rfl⟩ s.heap.objs.size (Nat.le_refl _), fun D h tk ys led' F' N' o hJ => fin D h tk ys led' F' N' o hJ⟩
  · intro b hb
    show b < (s.heap.push _).objs.size
    rw [Heap.size_push, List.mem_singleton.mp hb]
    exact Nat.lt_succ_self _
  · have := F.ns.lt
    simp only [List.mem_cons, List.not_mem_nil, or_false]
    exact Nat.ne_of_lt this
  · intro b hb
    obtain rfl := List.mem_singleton.mp hb
    exact nexts F _ (Nat.le_refl _)
  · intro p hp
    have := Heap.lt_size (N p hp).1
    simpa using Nat.ne_of_lt this
  · intro i s' Q' E' st hQ
    exact wpAny_pyIter_rangeiter st hQ
  · intro i v C s' Q' E' mC hP hn hQ
    obtain ⟨t, rfl⟩ : ∃ t, v = .int i t := by
      (refine xE hP fun t e => ?_; clear hP)
      exact ⟨t, by rw [e, show (0 : Int) + (i : Int) * 1 = i by omega]⟩
    exact wpAny_assign_Name (wpAny_storeName_local (lookup_relabel_local ha) hn (fun h₃ hn₃ hs₃ => hQ h₃ _ _ hn₃ ⟨t, by simp⟩ fun c o hc e => hs₃.extBut c o hc e) (by simp [compEnvC, relabel, hkind]))
end
end Mine
end

-- B29
section
open PySem PySem.W PyProof.Rows PySem.Spec PySem.Calls PyProof.Rows.LCg
set_option linter.all false
set_option maxRecDepth 100000
namespace Mine
theorem words_B29 : True := by
  (k_with "memb" => first | with_reducible assumption | with_reducible exact List.Mem.head _ | assumption | exact List.Mem.head _ | (refine List.Mem.tail _ ?_; k_extra "memb") | (refine List.mem_append_left _ ?_; k_extra "memb") | (refine List.mem_append_right _ ?_; k_extra "memb"))
  (k_with "ltne" => first | with_reducible exact Nat.ne_of_gt (by assumption) | with_reducible exact Nat.ne_of_lt (by assumption) | (dsimp only; omega))
  (k_with "offs" => first | exact off_nil | (refine off_cons ?_ ?_; (focus (k_extra "ltne"; done)); k_extra "offs"))
  (k_with "subs" => first | with_reducible exact Sub.nil | with_reducible exact Sub.refl | (refine Sub.cons ?_ ?_; (focus (k_extra "memb"; done)); k_extra "subs") | (refine Sub.app ?_ ?_; (focus (k_extra "subs"; done)); k_extra "subs") | (refine Sub.skip ?_; k_extra "subs") | (refine Sub.inl ?_; k_extra "subs") | (refine Sub.inr ?_; k_extra "subs"))
  trivial
section
variable {prog : Program} {w : World} {A : Around} {E : Value → Shared → Prop} {s : Shared} {h₀ : Heap} {L a b l : Addr} {m : Str → Option Value} {led : Led} {xs ys vs us : List Value} {n k : Nat} {ns ms : List Int} {Q : Value → Shared → Prop}
theorem lst_add (F : Fr h₀ L s.heap m) (N : News h₀ L s.heap led) (ha : (a, listOf xs.toArray n) ∈ led) (hb : (b, listOf ys.toArray k) ∈ led) (hz : xs.length + ys.length < 10000)
    (h : ∀ (D : Nat) h', Fr h₀ L h' m → News h₀ L h' ((D, listOf (xs ++ ys).toArray 0) :: led) → AllLt D led → Q (.ref D) { s with heap := h' }) : wpAny (model prog w) A (binaryOp .Add (.ref a) (.ref b)) Q E s :=
  kmk_add_lit F N (News.isList N ha) (News.isList N hb) (zs := xs ++ ys) (by simp) (fun D h' F' N' l => h D h' F' N' (allLt_of l)) (by simp [sizeLine_eq]; omega)
theorem lst_sorted (F : Fr h₀ L s.heap m) (N : News h₀ L s.heap led) (hm : (l, listOf vs.toArray n) ∈ led) (hi : IntsAre vs ns) (hz : ns.length < 64)
    (h : ∀ (D : Nat) vs' ns' c h', Fr h₀ L h' m → News h₀ L h' ((D, listOf vs'.toArray c) :: led) → AllLt D led → IntsAre vs' ns' → ns'.Perm ns → ns'.Pairwise (· ≤ ·) → Q (.ref D) { s with heap := h' }) :
    wpAny (model prog w) A (call (.builtin "sorted") [.ref l]) Q E s :=
  kso_sorted F N (News.isList N hm) hi hz fun D vs' ns' c h' F' N' l1 a1 _ a2 a3 _ => h D vs' ns' c h' F' N' (allLt_of l1) a1 a2 a3
theorem tup_item {value slice : PySem.Expr} {t : Nat} {its : List Value} {j : Nat} {i : Int} {u : Tok} {x : Value} (N : News h₀ L s.heap led) (hm : (t, tupOf its.toArray) ∈ led) (hlo : -(2 ^ 63) ≤ i) (hhi : i < 2 ^ 63) (hj : seqIndex? i its.length = some j) (hx : its[j]? = some x) (h : Q x s)
    (hs : subscripted slice false (.ref t) (.int i u) = operate [.ref t, .int i u] (getItem (.ref t) (.int i u))) :
    wpAny (model prog w) A (subscriptTail value slice (.ref t) (.int i u)) Q E s := item_tupleT (News.isTup N hm) hlo hhi hj hx h hs
theorem ints_same_ne (N : News h₀ L s.heap led) (ha : (a, listOf vs.toArray n) ∈ led) (hb : (b, listOf us.toArray k) ∈ led) (hi : IntsAre vs ns) (hj : IntsAre us ms) (e : ns = ms) (hu : A.units + 64 < cLine)
    (h : Q (.bool false) s) : wpAny (model prog w) A (compareOp .NotEq (.ref a) (.ref b)) Q E s :=
  ne_intsK (News.isList N ha) hi (News.isList N hb) hj hu (by subst e; simpa using h)
theorem ints_same_eq (N : News h₀ L s.heap led) (ha : (a, listOf vs.toArray n) ∈ led) (hb : (b, listOf us.toArray k) ∈ led) (hi : IntsAre vs ns) (hj : IntsAre us ms) (e : ns = ms) (hu : A.units + 64 < cLine)
    (h : Q (.bool true) s) : wpAny (model prog w) A (compareOp .Eq (.ref a) (.ref b)) Q E s :=
  eq_intsK (News.isList N ha) hi (News.isList N hb) hj hu (by subst e; simpa using h)
end
/-- between the turns of the comprehension that draws where the walk begins -/
inductive BJ (w : World) (d : Nat) (lits rest : Led) (M : Nat) (i : Nat) (ys : List Value) (led : Led) : Prop
  | mk (dk : Led) (n : Nat) (js : List Nat) (q1 : led = lits ++ (dk ++ rest)) (q2 : DeckOk w d dk n) (q3 : n ≤ M + i) (q4 : Apart lits dk) (q5 : Apart rest dk) (q6 : Paired (IV 5) ys (js.map some)) (q7 : js.length = i) : BJ w d lits rest M i ys led
/-- between the turns of the comprehension that makes the roots -/
inductive RJ (w : World) (d : Nat) (bA : Nat → Nat) (lits rest : Led) (js : List Nat) (M : Nat) (i : Nat) (ys : List Value) (led : Led) : Prop
  | mk (nw dk : Led) (n : Nat) (q1 : led = nw ++ (lits ++ (dk ++ rest))) (q2 : DeckOk w d dk n) (q3 : n ≤ M + i) (q4 : Apart nw dk) (q5 : Apart lits dk) (q6 : Apart rest dk) (q7 : Paired (DJ nw bA 5) ys ((js.take i).map some)) (q8 : ys.length = i) : RJ w d bA lits rest js M i ys led
inductive TurnP (h₀ h : Heap) (L C D : Nat) (oC : Obj) (ys : List Value) (own lits dk rest : Led) (wr : List Addr) : Prop
  | mk (lits1 : Led) (q1 : News h₀ L h (lits1 ++ (dk ++ rest))) (q2 : Apart lits1 dk) (q3 : Sub lits lits1) (q4 : (C, oC) ∈ lits1) (q5 : (∀ h' nw dk', News h₀ L h' (nw ++ (lits1 ++ (dk' ++ rest))) → Apart nw lits1 → Apart lits1 dk' → News h₀ L h' (own ++ (C, oC) :: (D, lst ys) :: ((nw ++ lits) ++ (dk' ++ rest))) ∧ (∀ p ∈ (nw ++ lits) ++ (dk' ++ rest), p.1 ≠ C ∧ p.1 ≠ D ∧ p.1 ∉ wr))) : TurnP h₀ h L C D oC ys own lits dk rest wr
/-- a turn's ledger, packed -/
theorem turn_pack {h₀ h : Heap} {L C D : Nat} {oC : Obj} {ys : List Value} {own lits dk rest : Led} {fp wr : List Addr} (N : News h₀ L h (own ++ (C, oC) :: (D, lst ys) :: (lits ++ (dk ++ rest)))) (hown : ∀ p ∈ own, p.1 ∈ fp) (hfp : ∀ x ∈ fp, x ∈ wr ∨ ∃ o, (x, o) ∈ lits)
    (hex : ∀ x ∈ wr, ∃ o, (x, o) ∈ own) (off : ∀ p ∈ lits ++ (dk ++ rest), p.1 ≠ C ∧ p.1 ≠ D ∧ p.1 ∉ wr) (hld : Apart lits dk) : TurnP h₀ h L C D oC ys own lits dk rest wr := by
  refine ⟨own ++ (C, oC) :: (D, lst ys) :: lits, news_sub N ?_, ?_, ?_, List.mem_append_right _ (.head _), ?_⟩
  · k_extra "subs"
  · intro p hp q hq e
    have hq' : q ∈ lits ++ (dk ++ rest) := List.mem_append_right _ (List.mem_append_left _ hq)
    have o := off q hq'
    rcases List.mem_append.mp hp with hp | hp
    · rcases hfp _ (hown p hp) with hw | ⟨o', ho'⟩
      · exact o.2.2 (e ▸ hw)
      · exact hld _ ho' q hq e
    · rcases List.mem_cons.mp hp with rfl | hp
      · exact o.1 e
      · rcases List.mem_cons.mp hp with rfl | hp
        · exact o.2.1 e
        · exact hld p hp q hq e
  · exact Sub.inr (Sub.skip (Sub.skip Sub.refl))
  · intro h' nw dk' N' hnl hld'
    refine ⟨news_sub N' ?_, ?_⟩
    · k_extra "subs"
    · intro p hp
      have mC : (C, oC) ∈ own ++ (C, oC) :: (D, lst ys) :: lits := List.mem_append_right _ (.head _)
      have mD : (D, lst ys) ∈ own ++ (C, oC) :: (D, lst ys) :: lits := List.mem_append_right _ (.tail _ (.head _))
      have key : (∀ q ∈ own ++ (C, oC) :: (D, lst ys) :: lits, p.1 ≠ q.1) → p.1 ≠ C ∧ p.1 ≠ D ∧ p.1 ∉ wr := fun hq => ⟨hq _ mC, hq _ mD, fun hw => by
        refine xE (hex _ hw) fun o ho => ?_
        exact hq _ (List.mem_append_left _ ho) rfl⟩
      rcases List.mem_append.mp hp with hp | hp
      · rcases List.mem_append.mp hp with hp | hp
        · exact key fun q hq e => hnl p hp q hq e.symm
        · exact off p (List.mem_append_left _ hp)
      · rcases List.mem_append.mp hp with hp | hp
        · exact key fun q hq e => hld' q hq p hp e
        · exact off p (List.mem_append_right _ (List.mem_append_right _ hp))
end Mine
end

-- B30
section
open PySem PySem.W PyProof.Rows PySem.Spec PySem.Calls
set_option linter.all false
set_option maxRecDepth 100000
namespace Mine
theorem Gr.mono {w : World} {led led' : Led} {bA : Nat → Nat} {n : Nat} {adj : Nat → List (Option Nat)} (G : Gr w led bA n adj) (q : Sub led led') : Gr w led' bA n adj := fun j hj => by
  refine xAEA (G j hj) fun h1 its h2 h3 => ?_
  exact ⟨h1, its, h2.mono q, paired_mono (fun _ _ z => z.mono q) h3⟩
theorem LG.mono {w : World} {led led' : Led} {bts : List Value} {n : Nat} {ladj : Nat → List (Option Nat)} (G : LG w led bts n ladj) (q : Sub led led') : LG w led' bts n ladj := fun j hj => by
  obtain ⟨t, hd, k, kd, bv, ys, ls, a1, a2, a3, a4, a5, a6, a7, a8, a9⟩ := G j hj
  exact ⟨t, hd, k, kd, bv, ys, ls, a1, q _ a2, q _ a3, a4, keysIn_sub a5 q, a6, a7, paired_mono (fun _ _ z => HE.mono z q) a8, a9⟩
noncomputable def bA3 (bA : Nat → Nat) (far near top : Nat) (j : Nat) : Nat := if j = 5 then far else if j = 6 then near else if j = 7 then top else bA j
theorem gr3 {w : World} {led : Led} {bA : Nat → Nat} {adj : Nat → List (Option Nat)} {far near top : Nat} {n1 kx vx n2 vt : Value} (G : Gr w led bA 5 adj)
    (h5 : HoldsB w led far (((5 : Nat) : Int) + 1) [n1]) (d5 : Den led n1 none) (h6 : HoldsB w led near (((6 : Nat) : Int) + 1) [kx, vx]) (dx : Den led kx (some far)) (dv : Den led vx none)
    (h7 : HoldsB w led top (((7 : Nat) : Int) + 1) [n2, vt]) (d2 : Den led n2 none) (dt : Den led vt (some near)) : Gr w led (bA3 bA far near top) 8 (adj3 adj) := fun j hj => by
  have no : ∀ {v : Value}, Den led v none → DJ led (bA3 bA far near top) 8 v none := fun h => ⟨(fun _ h => nomatch h), h⟩
  have c : j < 5 ∨ j = 5 ∨ j = 6 ∨ j = 7 := (show ∀ j, j < 8 → (j < 5 ∨ j = 5 ∨ j = 6 ∨ j = 7) by decide) j hj
  rcases c with h | rfl | rfl | rfl
  · have ea : adj3 adj j = adj j := by unfold adj3; rw [if_neg (Nat.ne_of_lt h), if_neg (Nat.ne_of_lt (Nat.lt_trans h (by decide))), if_neg (Nat.ne_of_lt (Nat.lt_trans h (by decide)))]
    have eb : ∀ i, i < 5 → bA i = bA3 bA far near top i := fun i hi => by unfold bA3; rw [if_neg (Nat.ne_of_lt hi), if_neg (Nat.ne_of_lt (Nat.lt_trans hi (by decide))), if_neg (Nat.ne_of_lt (Nat.lt_trans hi (by decide)))]
    refine xAEA (G j h) fun a1 its a2 a3 => ?_
    rw [ea, ← eb j h]
    exact ⟨a1, its, a2, paired_mono (fun _ _ z => DJ.wide z (by decide) eb) a3⟩
  · exact ⟨by simp [adj3], _, h5, .cons (no d5) .nil⟩
  · exact ⟨by simp [adj3], _, h6, .cons ⟨(fun k e => by cases e; omega), dx⟩ (.cons (no dv) .nil)⟩
  · exact ⟨by simp [adj3], _, h7, .cons (no d2) (.cons ⟨(fun k e => by cases e; omega), dt⟩ .nil)⟩
theorem ints_take_succ {ys : List Value} {ns : List Int} {i : Nat} {z : Int} {t : Tok} (h : IntsAre ys ((ns.take i).map (· + 1))) (e : ns[i]? = some z) : IntsAre (ys ++ [.int (z + 1) t]) ((ns.take (i + 1)).map (· + 1)) := by
  rw [take_map_succ _ e]
  exact ints_snoc h
end Mine
end

-- B31
section
open PySem PySem.W PyProof.Rows PySem.Spec PySem.Calls
set_option linter.all false
set_option maxRecDepth 100000
namespace Mine
theorem words_B31 : True := by
  (k_with "memb" => first | with_reducible assumption | with_reducible exact List.Mem.head _ | assumption | exact List.Mem.head _ | (refine List.Mem.tail _ ?_; k_extra "memb") | (refine List.mem_append_left _ ?_; k_extra "memb") | (refine List.mem_append_right _ ?_; k_extra "memb"))
  (k_with "lt9" => first | with_reducible assumption | with_reducible exact Nat.lt_trans (by assumption) (by assumption) | exact Nat.lt_trans (by with_reducible assumption) (by k_extra "lt9"))
  (k_with "ltne" => first | with_reducible exact Nat.ne_of_gt (by assumption) | with_reducible exact Nat.ne_of_lt (by assumption) | (dsimp only; omega))
  (k_with "offs" => first | exact off_nil | (refine off_cons ?_ ?_; (focus (k_extra "ltne"; done)); k_extra "offs"))
  (k_with "subs" => first | with_reducible exact Sub.nil | with_reducible exact Sub.refl | (refine Sub.cons ?_ ?_; (focus (k_extra "memb"; done)); k_extra "subs") | (refine Sub.app ?_ ?_; (focus (k_extra "subs"; done)); k_extra "subs") | (refine Sub.skip ?_; k_extra "subs") | (refine Sub.inl ?_; k_extra "subs") | (refine Sub.inr ?_; k_extra "subs"))
  trivial
noncomputable def Told (l i : List Int) : Prop := ∀ nd : List Int, nd.Perm l → nd.Pairwise (· ≤ ·) → i = nd
theorem Told.go {l i nd : List Int} (h : Told l i) (p : nd.Perm l) (s : nd.Pairwise (· ≤ ·)) : i = nd := h nd p s
theorem obj_pack {h₀ h : Heap} {L : Nat} {nw dk mk gr : Led} (N : News h₀ L h (nw ++ (dk ++ (mk ++ gr)))) (hn : Apart nw mk) (hg : Apart gr mk) : ∃ gr' : Led, News h₀ L h (dk ++ (mk ++ gr')) ∧ Sub (nw ++ gr) gr' ∧ Apart gr' mk :=
  ⟨nw ++ gr, news_sub N (by k_extra "subs"), Sub.refl, Apart.append hn hg⟩
theorem near_pack {h₀ h : Heap} {L x d e : Nat} {o1 o2 o3 : Obj} {dk mk gr : Led} (N : News h₀ L h ((x, o1) :: (d, o2) :: (e, o3) :: (dk ++ (mk ++ gr)))) (l : AllLt d (dk ++ (mk ++ gr))) (e1 : d < x) (e2 : x < e) (hg : Apart gr mk) :
    News h₀ L h (dk ++ (mk ++ ((x, o1) :: (d, o2) :: (e, o3) :: gr))) ∧ Apart ((x, o1) :: (d, o2) :: (e, o3) :: gr) mk ∧ AllLt d gr := by
  have p1 := off_left (off_right (allLt_off l))
  have p2 := off_left (off_right (allLt_off (allLt_trans l e1)))
  have p3 := off_left (off_right (allLt_off (allLt_trans (allLt_trans l e1) e2)))
  exact ⟨news_sub N (by k_extra "subs"), Apart.cons p2 (Apart.cons p1 (Apart.cons p3 hg)), allLt_sub l (Sub.inr (Sub.inr Sub.refl))⟩
theorem fin_pack {h₀ h : Heap} {L x7 d7 c7 n7 m7 x6 d6 en : Nat} {o1 o2 o3 o4 o5 o6 o7 o8 : Obj} {dk mk gr : Led} (N : News h₀ L h ((x7, o1) :: (d7, o2) :: (c7, o3) :: (n7, o4) :: (m7, o5) :: (dk ++ (mk ++ ((x6, o6) :: (d6, o7) :: (en, o8) :: gr)))))
    (l6 : AllLt d6 gr) (a6 : d6 < x6) (b6 : x6 < en) (l7 : AllLt d7 (mk ++ ((x6, o6) :: (d6, o7) :: (en, o8) :: gr))) (l0 : AllLt m7 ((x6, o6) :: (d6, o7) :: (en, o8) :: gr)) (e1 : m7 < n7) (e2 : n7 < d7) (e3 : d7 < x7) (e4 : x7 < c7) (hg : Off en mk) :
    ∃ imm : Led, News h₀ L h ((en, o8) :: (c7, o3) :: imm) ∧ Off en imm ∧ Off c7 imm ∧ @Ne Nat en c7 ∧ Sub ((x7, o1) :: (d7, o2) :: (n7, o4) :: (m7, o5) :: (x6, o6) :: (d6, o7) :: (mk ++ gr)) imm := by
  have h0 := l0.2.2.1
  have lc := allLt_trans (allLt_trans l7 e3) e4
  have le := allLt_trans (allLt_trans l6 a6) b6
  refine ⟨_, news_sub N ?_, ?_, ?_, ?_, Sub.refl⟩
  · k_extra "subs"
  · intro p hp
    simp only [List.mem_append, List.mem_cons] at hp
    rcases hp with h | h | h | h | h | h | h | h
    · subst h; exact Nat.ne_of_gt (by show en < x7; first | k_extra "lt9" | omega)
    · subst h; exact Nat.ne_of_gt (by show en < d7; first | k_extra "lt9" | omega)
    · subst h; exact Nat.ne_of_gt (by show en < n7; first | k_extra "lt9" | omega)
    · subst h; exact Nat.ne_of_gt h0
    · subst h; exact Nat.ne_of_lt b6
    · subst h; exact Nat.ne_of_lt (by show d6 < en; first | k_extra "lt9" | omega)
    · exact hg p h
    · exact allLt_off le p h
  · intro p hp
    simp only [List.mem_append, List.mem_cons] at hp
    rcases hp with h | h | h | h | h | h | h | h
    · subst h; exact Nat.ne_of_lt e4
    · subst h; exact Nat.ne_of_lt (by show d7 < c7; first | k_extra "lt9" | omega)
    · subst h; exact Nat.ne_of_lt (by show n7 < c7; first | k_extra "lt9" | omega)
    · subst h; exact Nat.ne_of_lt (by show m7 < c7; first | k_extra "lt9" | omega)
    · subst h; exact allLt_off lc _ (List.mem_append_right _ (.head _))
    · subst h; exact allLt_off lc _ (List.mem_append_right _ (.tail _ (.head _)))
    · exact allLt_off lc p (List.mem_append_left _ h)
    · exact allLt_off lc p (List.mem_append_right _ (.tail _ (.tail _ (.tail _ h))))
  · exact Nat.ne_of_lt (by omega)
theorem entry_pack {h₀ h : Heap} {L en tt kt c : Nat} {o o' o1 o2 oc : Obj} {nw imm : Led} (N : News h₀ L h ((en, o') :: (tt, o1) :: (kt, o2) :: restL en (nw ++ ((en, o) :: (c, oc) :: imm)))) (he : Off en imm) (hc : Off c imm) (hne : @Ne Nat en c) (hn : ∀ p ∈ nw, p.1 ≠ en ∧ p.1 ≠ c)
    (l1 : AllLt kt (restL en (nw ++ ((en, o) :: (c, oc) :: imm)))) (l2 : en < kt) (l3 : kt < tt) :
    ∃ imm' : Led, News h₀ L h ((en, o') :: (c, oc) :: imm') ∧ Off en imm' ∧ Off c imm' ∧ Sub ((tt, o1) :: (kt, o2) :: (nw ++ imm)) imm' := by
  have mc : (c, oc) ∈ restL en (nw ++ ((en, o) :: (c, oc) :: imm)) := rest_of (List.mem_append_right _ (.tail _ (.head _))) (Ne.symm hne)
  have hck : c < kt := allLt_mem l1 _ mc
  refine ⟨_, news_sub N ?_, ?_, ?_, Sub.refl⟩
  · intro p hp
    simp only [List.mem_append, List.mem_cons] at hp
    rcases hp with rfl | rfl | rfl | rfl | h | h
    · exact .head _
    · exact .tail _ (.tail _ (.tail _ mc))
    · exact .tail _ (.head _)
    · exact .tail _ (.tail _ (.head _))
    · exact .tail _ (.tail _ (.tail _ (rest_of (List.mem_append_left _ h) (hn p h).1)))
    · exact .tail _ (.tail _ (.tail _ (rest_of (List.mem_append_right _ (.tail _ (.tail _ h))) (he p h))))
  · intro p hp
    simp only [List.mem_append, List.mem_cons] at hp
    rcases hp with rfl | rfl | h | h
    · exact Nat.ne_of_gt (by show en < tt; first | k_extra "lt9" | omega)
    · exact Nat.ne_of_gt l2
    · exact (hn p h).1
    · exact he p h
  · intro p hp
    simp only [List.mem_append, List.mem_cons] at hp
    rcases hp with rfl | rfl | h | h
    · exact Nat.ne_of_gt (by show c < tt; first | k_extra "lt9" | omega)
    · exact Nat.ne_of_gt hck
    · exact (hn p h).2
    · exact hc p h
theorem item_pack {h₀ h : Heap} {L en c : Nat} {o oc o' : Obj} {nw imm : Led} (N : News h₀ L h (setL c o' (nw ++ ((en, o) :: (c, oc) :: imm)))) (he : Off en imm) (hc : Off c imm) (hne : @Ne Nat en c) (hn : ∀ p ∈ nw, p.1 ≠ en ∧ p.1 ≠ c) :
    ∃ imm' : Led, News h₀ L h ((en, o) :: (c, o') :: imm') ∧ Off en imm' ∧ Off c imm' ∧ Sub (nw ++ imm) imm' := by
  refine ⟨_, news_sub N ?_, ?_, ?_, Sub.refl⟩
  · intro p hp
    simp only [List.mem_append, List.mem_cons] at hp
    rcases hp with rfl | rfl | h | h
    · exact mem_setL_of (List.mem_append_right _ (.head _)) hne
    · exact mem_setL_self
    · exact mem_setL_of (List.mem_append_left _ h) (hn p h).2
    · exact mem_setL_of (List.mem_append_right _ (.tail _ (.tail _ h))) (hc p h)
  · exact fun p hp => (List.mem_append.mp hp).elim (fun h => (hn p h).1) (he p)
  · exact fun p hp => (List.mem_append.mp hp).elim (fun h => (hn p h).2) (hc p)
end Mine
end

-- B32
section
open PySem PySem.W PyProof.Rows PySem.Spec PySem.Calls
set_option linter.all false
set_option maxRecDepth 100000
namespace Mine
/-- the three bodies made last, as they stand when they are asked for -/
theorem last3 {w : World} {h₀ h : Heap} {L en cC xA xB xC dB dC nA nC kt tt k9 k10 : Nat} {kx vx vt : Value} {imm imm3 : Led} {bA : Nat → Nat} {adj : Nat → List (Option Nat)} {nm : Str} {l : List Int} {tz : Tok} {us : List Value} {g1 g2 g3 g4 g5 g6 u1 u2 u3 u4 u5 u6} {i1 i2 i3 i4 z1 z2 z3 z4} {tn tm : Tok} {mo gl lv ac gl2 lv2 : Value}
    (N : News h₀ L h ((en, kdict w (kput (.tup nm l) (.ref kt) (.ref tt) []) k9) :: (cC, listOf ((List.replicate (Int.toNat 2) (.ref nC)).set (Int.toNat 1) vt).toArray k10) :: imm3)) (s : Sub imm imm3)
    (hA : HoldsB w imm xA (((5 : Nat) : Int) + 1) [.ref nA]) (dA : Den imm (.ref nA) none) (gA : Gr w imm bA 5 adj)
    (b1 : (xB, instObj 147 dB) ∈ imm) (b2 : (dB, dictD g1 g2 g3 g4 g5 g6 u1 u2 u3 u4 u5 u6 (.int (((6 : Nat) : Int) + 1) tn) mo gl lv ac (.ref en)) ∈ imm) (lo : (en == sysModules) = false)
    (mkt : (kt, tupOf (.str nm tz :: us).toArray) ∈ imm) (hI : IntsAre us l) (hok : PyData.strOk nm = true) (mtt : (tt, tupOf #[kx, vx]) ∈ imm) (dK : Den imm kx (some xA)) (dV : Den imm vx none)
    (c1 : (xC, instObj 114 dC) ∈ imm) (c2 : (dC, rowD i1 i2 i3 i4 z1 z2 z3 z4 (.int (((7 : Nat) : Int) + 1) tm) (.ref cC) gl2 lv2) ∈ imm) (dn : Den imm (.ref nC) none) (dT : Den imm3 vt (some xB)) :
    ∃ base : Led, base = ((en, kdict w (kput (.tup nm l) (.ref kt) (.ref tt) []) k9) :: (cC, listOf ((List.replicate (Int.toNat 2) (.ref nC)).set (Int.toNat 1) vt).toArray k10) :: imm3) ∧
      HoldsB w base xA (((5 : Nat) : Int) + 1) [.ref nA] ∧ HoldsB w base xB (((6 : Nat) : Int) + 1) [kx, vx] ∧ HoldsB w base xC (((7 : Nat) : Int) + 1) [.ref nC, vt] ∧ Gr w base (bA3 bA xA xB xC) 8 (adj3 adj) := by
  refine ⟨_, rfl, ?_⟩
  have s2 : Sub imm ((en, kdict w (kput (.tup nm l) (.ref kt) (.ref tt) []) k9) :: (cC, listOf ((List.replicate (Int.toNat 2) (.ref nC)).set (Int.toNat 1) vt).toArray k10) :: imm3) := fun p hp => .tail _ (.tail _ (s p hp))
  have q5 := hA.mono s2
  have q6 : HoldsB w ((en, kdict w (kput (.tup nm l) (.ref kt) (.ref tt) []) k9) :: (cC, listOf ((List.replicate (Int.toNat 2) (.ref nC)).set (Int.toNat 1) vt).toArray k10) :: imm3) xB (((6 : Nat) : Int) + 1) [kx, vx] := .dict (s2 _ b1) (s2 _ b2) (.head _) lo (fun x hx => by
    obtain rfl := List.mem_singleton.mp hx
    exact ⟨_, _, _, rfl, s2 _ mkt, hI, hok⟩) (List.pairwise_singleton ..) (by show 1 < 500; decide) (.cons rfl (s2 _ mtt) .nil)
  have q7 : HoldsB w ((en, kdict w (kput (.tup nm l) (.ref kt) (.ref tt) []) k9) :: (cC, listOf ((List.replicate (Int.toNat 2) (.ref nC)).set (Int.toNat 1) vt).toArray k10) :: imm3) xC (((7 : Nat) : Int) + 1) [.ref nC, vt] := .row (s2 _ c1) (s2 _ c2) (.tail _ (.head _)) (by show 2 < 1000; decide)
  exact ⟨q5, q6, q7, gr3 (gA.mono s2) q5 (dA.mono s2) q6 (dK.mono s2) (dV.mono s2) q7 (dn.mono s2) (dT.mono (Sub.skip (Sub.skip Sub.refl)))⟩
end Mine
end

-- B33
section
open PySem PySem.W PyProof.Rows PySem.Spec PySem.Calls
set_option linter.all false
set_option maxRecDepth 100000
namespace Mine
/-! words that keep the walk's terms small: what never changes in a frame gets one name -/
theorem let_m {g h : Heap} {L : Addr} {m : Str → Option Value} {P : Prop} (H : let m' := m; (Fr g L h m' → P)) : Fr g L h m → P := H
structure MemR where
  dm : Nat
  lim : Nat
  dlim : Nat
  sv : Nat
  a : Fin 14 → Tok
  b : Fin 10 → Tok
  v : Fin 7 → Value
inductive MemOne (w : World) (mm : Nat) (mk : Led) : Prop
  | mk (r : MemR) (h1 : (mm, instObj 594 r.dm) ∈ mk) (h2 : (r.dm, memD w (r.b 0) (r.b 1) (r.b 2) (r.b 3) (r.b 4) (r.b 5) (r.b 6) (r.b 7) (r.b 8) (r.b 9) (.ref r.lim) (.bool false) (.ref r.sv) (r.v 0) (r.v 1) (r.v 2) (r.v 3) (r.v 4) (r.v 5) (r.v 6)) ∈ mk) (h3 : (r.lim, instObj 313 r.dlim) ∈ mk) (h4 : (r.dlim, limD w (r.a 0) (r.a 1) (r.a 2) (r.a 3) (r.a 4) (r.a 5) (r.a 6) (r.a 7) (r.a 8) (r.a 9) (r.a 10) (r.a 11) (r.a 12) (r.a 13)) ∈ mk) (h5 : (r.sv, listOf #[] 0) ∈ mk) : MemOne w mm mk
/-- mem_facts with one name -/
theorem mem_one {w : World} {mm nb : Nat} {mk : Led} (h : Mem w mm mk nb) : MemOne w mm mk := by
  cases h with
  | @mk dm lim dlim sv md n nb a1 a2 a3 a4 a5 a6 a7 a8 a9 a10 a11 a12 a13 a14 b1 b2 b3 b4 b5 b6 b7 b8 b9 b10 tu tg tb jr fr ls u xs =>
    exact ⟨⟨dm, lim, dlim, sv, fun i => [a1, a2, a3, a4, a5, a6, a7, a8, a9, a10, a11, a12, a13, a14].getD i.val 0, fun i => [b1, b2, b3, b4, b5, b6, b7, b8, b9, b10].getD i.val 0, fun i => [jr, .ref md, fr, .int u tu, .int 0 tg, .int nb tb, ls].getD i.val .none⟩, .head _, .tail _ (.head _), .tail _ (.tail _ (.head _)), .tail _ (.tail _ (.tail _ (.head _))), .tail _ (.tail _ (.tail _ (.tail _ (.head _))))⟩
theorem meas_down {n f w a k : Nat} (hf : f + 1 ≤ n) (ha : a ≤ k) : (n - (f + 1)) * (k + 1) + (w + a) < (n - f) * (k + 1) + (w + 1) := by
  obtain ⟨c, rfl⟩ := Nat.exists_eq_add_of_le hf
  rw [Nat.add_sub_cancel_left, show f + 1 + c - f = c + 1 by rw [Nat.add_assoc, Nat.add_sub_cancel_left, Nat.add_comm], Nat.succ_mul, Nat.add_assoc]
  exact Nat.add_lt_add_left (Nat.lt_of_le_of_lt (Nat.add_le_add_left ha w) (by rw [Nat.add_comm]; exact Nat.add_lt_add_of_lt_of_le (Nat.lt_succ_self k) (Nat.le_succ w))) _
end Mine
end

-- B34
section
open PySem PySem.W PyProof.Rows PySem.Spec PySem.Calls
set_option linter.all false
set_option maxRecDepth 100000
namespace Mine
/-! fused rules: what the walk does at every turn, said once -/
/-- what follows a statement (g, d, o: what the state keeps) -/
noncomputable def nextQ (M : Model) (A : Around) (rest : List Stmt) (env : Env) (_g : Array GenState) (_d : Drawn) (_o : OsState) (Q : Flow → Shared → Prop) (E : Value → Shared → Prop) : Flow → Shared → Prop := fun f s => match f with
  | .next => wpAny M A (execs rest env) Q E s
  | f => Q f s
section
variable {M : Model} {A : Around} {E : Value → Shared → Prop} {env : Env} {rest : List Stmt} {Q : Flow → Shared → Prop} {s : Shared} {h : Heap} {g : Array GenState} {d : Drawn} {o : OsState} {t : Nat}
theorem nextQ_next {h₀ : Heap} {L : Addr} {m : Str → Option Value} (_F : Fr h₀ L h m) (hs : s = ⟨h, g, d, t, o⟩) (H : ∀ tk, wpAny M A (execs rest env) Q E ⟨h, g, d, tk, o⟩) : nextQ M A rest env g d o Q E .next s := hs ▸ H t
theorem nextQ_end (h : Q .next s) : nextQ M A [] env g d o Q E .next s := wpAny_execs_nil h
theorem nextQ_ret {v : Value} (h : Q (.ret v) s) : nextQ M A rest env g d o Q E (.ret v) s := h
theorem stmt_in {c : Stmt} (H : let q := nextQ M A rest env g d o Q E; wpAny M A (exec c env) q E ⟨h, g, d, t, o⟩) : wpAny M A (execs (c :: rest) env) Q E ⟨h, g, d, t, o⟩ :=
  wpAny_execs_cons (wpAny_mono H (fun f _ z => by cases f <;> exact z) fun _ _ z => z)
end
/-- what follows a call: the caller's frame again -/
noncomputable def backQ (h₀ : Heap) (L : Addr) (m : Str → Option Value) (g : Heap) (_g : Array GenState) (_d : Drawn) (_o : OsState) (Q : Value → Shared → Prop) : Flow → Shared → Prop := fun fl s' =>
  LeaveK h₀ L m g (fun r s => match r with | .ok (.ret v) => Q v s | _ => False) (match fl with | .ret v => v | _ => .none) s'
noncomputable def initQ (x : Addr) (Q : Value → Shared → Prop) : Value → Shared → Prop := fun v s => v = .none ∧ Q (.ref x) s
noncomputable def leaveE (M : Model) (A : Around) (env : Env) (E : Value → Shared → Prop) : Value → Shared → Prop := fun e s' => wpAny M A (leaving env e) (fun _ s'' => E e s'') (fun e' s'' => E e' s'') s'
section
variable {h₀ g h : Heap} {L L' x : Addr} {m m' : Str → Option Value} {news' : Led} {v : Value} {Q : Value → Shared → Prop} {s' : Shared} {gg : Array GenState} {d : Drawn} {o : OsState} {t : Nat}
theorem back_ret (F' : Fr g L' h m') (N' : News g L' h news') (hs : s' = ⟨h, gg, d, t, o⟩) (k : Fr h₀ L h m → News h₀ L h news' → Q v ⟨h, gg, d, t, o⟩) : backQ h₀ L m g gg d o Q (.ret v) s' := hs ▸ leaveK_ F' N' k
theorem back_next (F' : Fr g L' h m') (N' : News g L' h news') (hs : s' = ⟨h, gg, d, t, o⟩) (k : Fr h₀ L h m → News h₀ L h news' → Q .none ⟨h, gg, d, t, o⟩) : backQ h₀ L m g gg d o Q .next s' := hs ▸ leaveK_ F' N' k
theorem back_init (F' : Fr g L' h m') (N' : News g L' h news') (hs : s' = ⟨h, gg, d, t, o⟩) (k : Fr h₀ L h m → News h₀ L h news' → Q (.ref x) ⟨h, gg, d, t, o⟩) : backQ h₀ L m g gg d o (initQ x Q) .next s' := hs ▸ leaveK_ F' N' fun a b => ⟨rfl, k a b⟩
end
/-- names and constants -/
noncomputable def okName (env : Env) (x : Str) : Bool := decide (env.scope.kind = .function ∧ env.kindOf x = some .local ∧ (x == ("__debug__" : Str)) = false)
/-- a name, a constant, or a local's own attribute -/
inductive EvalP (w : World) (env : Env) (m : Str → Option Value) (news : Led) : Nat → Expr → Value → Nat → Prop
  | name {t : Nat} {x : Str} {p : Pos} {v : Value} (hx : m x = some v) (hn : okName env x = true) : EvalP w env m news t (.Name x p) v t
  | int {t : Nat} {i : Int} {k : Nat} {p : Pos} : EvalP w env m news t (.Constant (.int i) k p) (.int i t) (t + 1)
  | str {t : Nat} {x : Str} {k : Nat} {p : Pos} : EvalP w env m news t (.Constant (.str x) k p) (.str x t) (t + 1)
  | none {t : Nat} {k : Nat} {p : Pos} : EvalP w env m news t (.Constant .none k p) .none t
  | bool {t : Nat} {b : Bool} {k : Nat} {p : Pos} : EvalP w env m news t (.Constant (.bool b) k p) (.bool b) t
  | attr {t : Nat} {sx name : Str} {p1 p2 : Pos} {x C dx : Addr} {sl : Array (Option Value)} {es : List DictEntry} {n : Nat} {attr : Option Value} {v : Value} (hx : m sx = some (.ref x)) (m1 : (x, (⟨.ref C, some dx, .plain, sl⟩ : Obj)) ∈ news) (m2 : (dx, dictOf es n) ∈ news)
    (hg : plainGet (top.heap_1_39 w.params) C name = true) (hh : hasDictIn (top.heap_1_39 w.params) C = true) (ha : findIn (top.heap_1_39 w.params) (.ref C) name = some attr) (hn : noGet (top.heap_1_39 w.params) attr = true) (hl : getL name es = some (some v)) (hv : handedIn v = true) (ho : okName env sx = true) : EvalP w env m news t (.Attribute (.Name sx p1) name p2) v (t + 1)
inductive ArgsP (w : World) (env : Env) (m : Str → Option Value) (news : Led) : Nat → List Expr → List Value → Nat → Prop
  | nil {t : Nat} : ArgsP w env m news t [] [] t
  | cons {t t1 t2 : Nat} {e : Expr} {v : Value} {es : List Expr} {vs : List Value} (h : EvalP w env m news t e v t1) (r : ArgsP w env m news t1 es vs t2) : ArgsP w env m news t (e :: es) (v :: vs) t2
theorem okName_spec {env : Env} {x : Str} (h : okName env x = true) : env.scope.kind = .function ∧ env.kindOf x = some .local ∧ (x == ("__debug__" : Str)) = false := of_decide_eq_true h
section
variable {w : World} {A : Around} {E : Value → Shared → Prop} {env : Env} {h₀ h : Heap} {m : Str → Option Value} {news news' : Led} {g : Array GenState} {d : Drawn} {o : OsState} {t t1 t2 t3 : Nat} {e1 e2 : Expr} {es : List Expr} {v1 v2 : Value} {vs : List Value} {pos p1 p2 p3 : Pos}
theorem name_ok {M : Model} {x : Str} {p : Pos} {v : Value} {Q : Value → Shared → Prop} (F : Fr h₀ env.locals h m) (hx : m x = some v) (hn : okName env x = true) (H : Q v ⟨h, g, d, t, o⟩) : wpAny M A (eval (.Name x p) env) Q E ⟨h, g, d, t, o⟩ :=
  have z := okName_spec hn
  wpAny_Name (wpAny_loadName_local z.1 z.2.1 F.ns hx H) z.2.2
variable (F : Fr h₀ env.locals h m) (X : (top.heap_1_39 w.params).In h₀) (N : News h₀ env.locals h news)
include F X N
theorem evalP_ok {Q : Value → Shared → Prop} (he : EvalP w env m news t e1 v1 t1) (H : Q v1 ⟨h, g, d, t1, o⟩) : wpAny (model PySem.Challenge.rw_nt0501_01.row.prog w) A (eval e1 env) Q E ⟨h, g, d, t, o⟩ := by
  induction he with
  | name hx hn => exact name_ok F hx hn H
  | int => exact wpAny_Constant_int H
  | str => exact wpAny_Constant_str H
  | none => exact wpAny_Constant_none H
  | bool => exact wpAny_Constant_bool H
  | attr hx m1 m2 hg hh ha hn hl hv ho => exact Attribute_Name_ (name_ok F hx ho (get_own F X (InstAt.of_news N m1 m2) hg hh ha hn hl hv H))
omit F X N in
theorem star_ok (he : EvalP w env m news t e1 v1 t1) (r : List Expr) : starEach (e1 :: r) env = (false, eval e1 env) :: starEach r env := by induction he <;> rfl
omit F X N in
theorem plain_ok (ha : ArgsP w env m news t es vs t1) : (backTo pos (starEach es env)).any (·.1) = false := by
  induction ha with
  | nil => rfl
  | cons h r ih => rw [star_ok h]; exact ih
theorem args_ok {Q : List Value → Shared → Prop} (ha : ArgsP w env m news t es vs t1) (H : Q vs ⟨h, g, d, t1, o⟩) : wpAny (model PySem.Challenge.rw_nt0501_01.row.prog w) A (spliced (backTo pos (starEach es env))) Q E ⟨h, g, d, t, o⟩ := by
  induction ha generalizing Q with
  | nil => exact args_nil H
  | cons h r ih => exact args_cons (evalP_ok F X N h (ih (Q := fun vs => Q (_ :: vs)) H)) (star_ok h _)
/-- one more argument in front of others that want steps of their own -/
theorem argsP {r : List Expr} {Q : List Value → Shared → Prop} (he : EvalP w env m news t e1 v1 t1) (H : wpAny (model PySem.Challenge.rw_nt0501_01.row.prog w) A (spliced (backTo pos (starEach r env))) (fun vs s => Q (v1 :: vs) s) E ⟨h, g, d, t1, o⟩) : wpAny (model PySem.Challenge.rw_nt0501_01.row.prog w) A (spliced (backTo pos (starEach (e1 :: r) env))) Q E ⟨h, g, d, t, o⟩ :=
  args_cons (evalP_ok F X N he H) (star_ok he _)
theorem evArgs {f : Value} {Q : Args → Shared → Prop} (ha : ArgsP w env m news t es vs t1) (H : Q ⟨vs, []⟩ ⟨h, g, d, t1, o⟩) : wpAny (model PySem.Challenge.rw_nt0501_01.row.prog w) A (evalArgs f true (backTo pos (starEach es env)) []) Q E ⟨h, g, d, t, o⟩ := by
  induction ha generalizing Q with
  | nil => exact PySem.evalArgs_none H
  | cons he r _ =>
    have z := args_ok (E := E) (A := A) (pos := pos) (Q := fun vs s => Q ⟨vs, []⟩ s) F X N (.cons he r) H
    rw [star_ok he] at z ⊢
    exact evalArgs_plain z
theorem cwK {f : Value} {first : List Value} {Q : Value → Shared → Prop} (hk : keepIn (top.heap_1_39 w.params) f = true) (ha : ArgsP w env m news t es vs t1) (H : wpAny (model PySem.Challenge.rw_nt0501_01.row.prog w) A (call f (first ++ vs)) Q E ⟨h, g, d, t1, o⟩) : wpAny (model PySem.Challenge.rw_nt0501_01.row.prog w) A (callWith pos f first (backTo pos (starEach es env)) []) Q E ⟨h, g, d, t, o⟩ :=
  callWith_of (by rw [plain_ok ha]; rfl) (keeps_K hk) (evArgs F X N ha ⟨X.keeps F.keep, H⟩)
/-- a local's method -/
theorem callM {pl : Sem Bool} {sx name : Str} {x C dx f : Addr} {sl : Array (Option Value)} {es' : List DictEntry} {n : Nat} {Q : Value → Shared → Prop} (hx : m sx = some (.ref x)) (ho : okName env sx = true) (m1 : (x, (⟨.ref C, some dx, .plain, sl⟩ : Obj)) ∈ news) (m2 : (dx, dictOf es' n) ∈ news)
    (hg : plainGet (top.heap_1_39 w.params) C name = true) (hf : findIn (top.heap_1_39 w.params) (.ref C) name = some (some (.ref f))) (ht : isFn (top.heap_1_39 w.params) (.ref f) = true) (hl : getL name es' = some none) (hk : keepIn (top.heap_1_39 w.params) (.ref f) = true) (he : eval (.Call (.Attribute (.Name sx p1) name p2) es [] p3) env = (do let ov ← eval (.Name sx p1) env; standAt p2.atName; let (f, first) ← holding [ov] (getMethod ov name pl); callWith p3 f first (backTo p3 (starEach es env)) [])) (ha : ArgsP w env m news t es vs t1)
    (H : wpAny (model PySem.Challenge.rw_nt0501_01.row.prog w) A (call (.ref f) (.ref x :: vs)) Q E ⟨h, g, d, t1, o⟩) : wpAny (model PySem.Challenge.rw_nt0501_01.row.prog w) A (eval (.Call (.Attribute (.Name sx p1) name p2) es [] p3) env) Q E ⟨h, g, d, t, o⟩ :=
  MethodCall_ (name_ok F hx ho (method_inst F X (InstAt.of_news N m1 m2) hg hf ht hl (cwK (first := [.ref x]) F X N hk ha H))) he
/-- self.name = a local, a constant, another's attribute -/
theorem storeA {name sx : Str} {x C dx : Addr} {es es' : List DictEntry} {n n' : Nat} {sl : Array (Option Value)} {Q : Flow → Shared → Prop} (he : EvalP w env m news t e1 v1 t1) (hx : m sx = some (.ref x)) (ho : okName env sx = true) (m1 : (x, (⟨.ref C, some dx, .plain, sl⟩ : Obj)) ∈ news) (m2 : (dx, dictOf es n) ∈ news)
    (hs : findIn (top.heap_1_39 w.params) (.ref C) "__setattr__" = some (some (.builtin "object.__setattr__"))) (hp : plainOver (top.heap_1_39 w.params) C = true) (ht : takerIn (top.heap_1_39 w.params) C name = some none) (hh : hasDictIn (top.heap_1_39 w.params) C = true) (hl : (getL name es).isSome = true)
    (hsw : swapsWith e1 (some (.Attribute (.Name sx p1) name p2)) p3.line env = pure false)
    (hpu : (putL name (PyData.keyHash w.params name) (.str name (t1 + 1)) v1 es, putN name es n) = (es', n')) (U : Upd dx (dictOf es n) (dictOf es' n') news news') (hz : es'.length ≤ 1000)
    (H : ∀ h', Fr h₀ env.locals h' m → News h₀ env.locals h' news' → Q .next ⟨h', g, d, t1 + 2, o⟩) : wpAny (model PySem.Challenge.rw_nt0501_01.row.prog w) A (exec (.Assign [.Attribute (.Name sx p1) name p2] e1 p3) env) Q E ⟨h, g, d, t, o⟩ :=
  plainObj_wpAny_Assign_Attribute (evalP_ok F X N he (name_ok F hx ho (set_dict F X N (InstAt.of_news N m1 m2) rfl hs hp ht hh hl hpu U hz H))) hsw
theorem cmpP {op : CmpOp} {whole : Sem Value} {Q : Bool → Shared → Prop} (h1 : EvalP w env m news t e1 v1 t1) (h2 : EvalP w env m news t1 e2 v2 t2) (hm : behindInMarks op e2 = false) (H : wpAny (model PySem.Challenge.rw_nt0501_01.row.prog w) A (compareOp op v1 v2) (fun c s => wpAny (model PySem.Challenge.rw_nt0501_01.row.prog w) A (truthy c) Q E s) E ⟨h, g, d, t2, o⟩) :
    wpAny (model PySem.Challenge.rw_nt0501_01.row.prog w) A (isTrue (.Compare e1 [op] [e2] pos) env whole) Q E ⟨h, g, d, t, o⟩ := wpAny_isTrue_Compare1 (evalP_ok F X N h1 (evalP_ok F X N h2 H)) hm
theorem subP {Q : Value → Shared → Prop} (h1 : EvalP w env m news t e1 v1 t1) (h2 : EvalP w env m news t1 e2 v2 t2) (H : wpAny (model PySem.Challenge.rw_nt0501_01.row.prog w) A (subscriptTail e1 e2 v1 v2) Q E ⟨h, g, d, t2, o⟩) :
    wpAny (model PySem.Challenge.rw_nt0501_01.row.prog w) A (eval (.Subscript e1 e2 pos) env) Q E ⟨h, g, d, t, o⟩ := Subscript_ (evalP_ok F X N h1 (evalP_ok F X N h2 H))
theorem binP {op : Operator} {Q : Value → Shared → Prop} (h1 : EvalP w env m news t e1 v1 t1) (h2 : EvalP w env m news t1 e2 v2 t2) (H : wpAny (model PySem.Challenge.rw_nt0501_01.row.prog w) A (binaryOp op v1 v2) Q E ⟨h, g, d, t2, o⟩) :
    wpAny (model PySem.Challenge.rw_nt0501_01.row.prog w) A (eval (.BinOp e1 op e2 pos) env) Q E ⟨h, g, d, t, o⟩ := wpAny_BinOp (evalP_ok F X N h1 (evalP_ok F X N h2 H))
theorem retP {Q : Flow → Shared → Prop} (h1 : EvalP w env m news t e1 v1 t1) (H : Q (.ret v1) ⟨h, g, d, t1, o⟩) : wpAny (model PySem.Challenge.rw_nt0501_01.row.prog w) A (exec (.Return (some e1) pos) env) Q E ⟨h, g, d, t, o⟩ := wpAny_Return_some (evalP_ok F X N h1 H)
end
/-- a global's value: the program's own, or a builtin -/
noncomputable def okGlob (env : Env) (x : Str) : Bool := decide (env.scope.kind = .function ∧ env.kindOf x = some .globalImplicit ∧ (x == ("__debug__" : Str)) = false ∧ env.globals = mainGlobals ∧ env.builtins = builtinsNs ∧ x ≠ "__name__")
theorem okGlob_spec {env : Env} {x : Str} (h : okGlob env x = true) : env.scope.kind = .function ∧ env.kindOf x = some .globalImplicit ∧ (x == ("__debug__" : Str)) = false ∧ env.globals = mainGlobals ∧ env.builtins = builtinsNs ∧ x ≠ "__name__" := of_decide_eq_true h
section
variable {w : World} {p : Program} {loose : List Str} {mean : ExcName → Option Value} {mg mb : Str → Option Value} {A : Around} {E : Value → Shared → Prop} {env : Env} {h₀ h : Heap} {m : Str → Option Value} {news : Led} {g : Array GenState} {d : Drawn} {o : OsState} {t t1 : Nat} {es : List Expr} {vs : List Value} {p1 p3 : Pos} {fx : Str} {Q : Value → Shared → Prop}
  (F : Fr h₀ env.locals h m) (X : (top.heap_1_39 w.params).In h₀) (N : News h₀ env.locals h news) (T : Top p loose mean mg mb h₀) (hn : okGlob env fx = true)
include F X N T hn
theorem globV {v : Value} {Q : Value → Shared → Prop} (hg : nsIn (top.heap_1_39 w.params) mainGlobals fx = some (some v)) (H : Q v ⟨h, g, d, t, o⟩) : wpAny (model PySem.Challenge.rw_nt0501_01.row.prog w) A (eval (.Name fx p1) env) Q E ⟨h, g, d, t, o⟩ :=
  have z := okGlob_spec hn
  Name_function_global z.1 z.2.1 (loadGlobal_global (by rw [z.2.2.2.1]; exact T.g.keeps F.keep) (mg_of X T.g hg) H) z.2.2.1
theorem globB {v : Value} {Q : Value → Shared → Prop} (hg : nsIn (top.heap_1_39 w.params) mainGlobals fx = some none) (hb : bootBuiltins fx = some v) (H : Q v ⟨h, g, d, t, o⟩) : wpAny (model PySem.Challenge.rw_nt0501_01.row.prog w) A (eval (.Name fx p1) env) Q E ⟨h, g, d, t, o⟩ :=
  have z := okGlob_spec hn
  Name_function_global z.1 z.2.1 (loadGlobal_builtin (by rw [z.2.2.2.1]; exact T.g.keeps F.keep) (mg_none_of X T.g hg) (by rw [z.2.2.2.2.1]; exact T.b.keeps F.keep) ((T.builtins fx z.2.2.2.2.2).trans hb) H) z.2.2.1
theorem callG {f : Value} (hg : nsIn (top.heap_1_39 w.params) mainGlobals fx = some (some f)) (hk : keepIn (top.heap_1_39 w.params) f = true) (ha : ArgsP w env m news t es vs t1) (H : wpAny (model PySem.Challenge.rw_nt0501_01.row.prog w) A (call f vs) Q E ⟨h, g, d, t1, o⟩) : wpAny (model PySem.Challenge.rw_nt0501_01.row.prog w) A (eval (.Call (.Name fx p1) es [] p3) env) Q E ⟨h, g, d, t, o⟩ :=
  Call_ (globV F X N T hn hg (cwK F X N hk ha H))
theorem callB {id : String} (hg : nsIn (top.heap_1_39 w.params) mainGlobals fx = some none) (hb : bootBuiltins fx = some (.builtin id)) (ha : ArgsP w env m news t es vs t1) (H : wpAny (model PySem.Challenge.rw_nt0501_01.row.prog w) A (call (.builtin id) vs) Q E ⟨h, g, d, t1, o⟩) : wpAny (model PySem.Challenge.rw_nt0501_01.row.prog w) A (eval (.Call (.Name fx p1) es [] p3) env) Q E ⟨h, g, d, t, o⟩ :=
  Call_ (globB F X N T hn hg hb (Calls.callWith_builtin (plain_ok ha) (evArgs F X N ha H)))
theorem callT {ty : String} (hg : nsIn (top.heap_1_39 w.params) mainGlobals fx = some none) (hb : bootBuiltins fx = some (.type ty)) (ha : ArgsP w env m news t es vs t1) (H : wpAny (model PySem.Challenge.rw_nt0501_01.row.prog w) A (call (.type ty) vs) Q E ⟨h, g, d, t1, o⟩) : wpAny (model PySem.Challenge.rw_nt0501_01.row.prog w) A (eval (.Call (.Name fx p1) es [] p3) env) Q E ⟨h, g, d, t, o⟩ :=
  Call_ (globB F X N T hn hg hb (PySem.callWith_type (plain_ok ha) (evArgs F X N ha H)))
/-- a global function whose arguments want steps of their own -/
theorem callGs {f : Value} {e1 : Expr} (hg : nsIn (top.heap_1_39 w.params) mainGlobals fx = some (some f)) (hk : keepIn (top.heap_1_39 w.params) f = true) (hs : starEach (e1 :: es) env = (false, eval e1 env) :: starEach es env) (hpl : (backTo p3 (starEach es env)).any (·.1) = false)
    (H : wpAny (model PySem.Challenge.rw_nt0501_01.row.prog w) A (spliced (backTo p3 (starEach (e1 :: es) env))) (fun vs s₁ => (top.heap_1_39 w.params).In s₁.heap ∧ wpAny (model PySem.Challenge.rw_nt0501_01.row.prog w) A (call f vs) Q E s₁) E ⟨h, g, d, t, o⟩) : wpAny (model PySem.Challenge.rw_nt0501_01.row.prog w) A (eval (.Call (.Name fx p1) (e1 :: es) [] p3) env) Q E ⟨h, g, d, t, o⟩ :=
  Call_ (globV F X N T hn hg (callWith_K X hk H hs hpl))
theorem callBs {id : String} {e1 : Expr} (hg : nsIn (top.heap_1_39 w.params) mainGlobals fx = some none) (hb : bootBuiltins fx = some (.builtin id)) (hs : starEach (e1 :: es) env = (false, eval e1 env) :: starEach es env) (hpl : (backTo p3 (starEach es env)).any (·.1) = false)
    (H : wpAny (model PySem.Challenge.rw_nt0501_01.row.prog w) A (spliced (backTo p3 (starEach (e1 :: es) env))) (fun vs s₁ => wpAny (model PySem.Challenge.rw_nt0501_01.row.prog w) A (call (.builtin id) vs) Q E s₁) E ⟨h, g, d, t, o⟩) : wpAny (model PySem.Challenge.rw_nt0501_01.row.prog w) A (eval (.Call (.Name fx p1) (e1 :: es) [] p3) env) Q E ⟨h, g, d, t, o⟩ :=
  Call_ (globB F X N T hn hg hb (callWith_method1 (first := []) H hs hpl))
end
end Mine
end

-- B35
section
open PySem PySem.W PyProof.Rows PySem.Spec PySem.Calls
set_option linter.all false
set_option maxRecDepth 100000
namespace Mine
/-! entering a function, in one step -/
noncomputable def entOk (scope : Scope) (binds : List (Str × Value)) : Bool :=
  decide (scope.isCoroutine = false ∧ scope.isGenerator = false ∧ scope.kind = .function ∧ (∀ x ∈ scope.names, x.2 ≠ .cell) ∧ ∀ y ∈ binds, scope.names.lookup y.1 = some .local)
theorem entOk_spec {scope : Scope} {binds : List (Str × Value)} (h : entOk scope binds = true) : scope.isCoroutine = false ∧ scope.isGenerator = false ∧ scope.kind = .function ∧ (∀ x ∈ scope.names, x.2 ≠ .cell) ∧ ∀ y ∈ binds, scope.names.lookup y.1 = some .local := of_decide_eq_true h
theorem entD {name qual : Str} {params : Arguments} {body : List Stmt} {scope : Scope} {dV kV doc pm cdv ct oc : Value} {an od : Option Addr} {osl : Array (Option Value)} {f : Addr}
    {w : World} {p : Program} {loose : List Str} {mean : ExcName → Option Value} {mg mb : Str → Option Value} {dp un : Nat} {gd : Option (List Code)} {cn : Str} {cs : Scope} {a : Addr} {ccd : Value} {cl : List (Str × Addr)} {outer : List Env} {A₀ : Around} {base h₀ : Heap} {L : Addr} {m : Str → Option Value} {s : Shared} {Q E : Value → Shared → Prop} {news : Led} {pos : List Value} {kw : List (Str × Value)} {binds : List (Str × Value)}
    (B : Below A₀ base outer h₀) (F : Fr h₀ L s.heap m) (X : (top.heap_1_39 w.params).In h₀) (N : News h₀ L s.heap news) (T : Top p loose mean mg mb h₀) (hk : cs.kind = .function)
    (ho : (top.heap_1_39 w.params).lookup f = some ⟨oc, od, .func (fnOf name qual params body scope dV kV doc pm an cdv ct), osl⟩) (hcd : codeIn (top.heap_1_39 w.params) cdv qual = true) (hroom : dp < recursionLimit)
    (hbind : BindsTo s (fnOf name qual params body scope dV kV doc pm an cdv ct) ⟨pos, kw⟩ binds) (hok : entOk scope binds = true)
    (H : ∀ g' L' h' tk, let gg := s.gens; let dd := s.drawn; let oo := s.os; let A' := (ktrTop dp un gd cn cs L a ccd cl outer).deeper (envOf qual scope L' f cdv); let m' := fun y => binds.reverse.lookup y; let E' := leaveE (model PySem.Challenge.rw_nt0501_01.row.prog w) A' (envOf qual scope L' f cdv) E; let q := backQ h₀ L m g' gg dd oo Q
      Fr g' L' h' m' → News g' L' h' news → Below (ktrTop dp un gd cn cs L a ccd cl outer) base (envX cn cs L a ccd cl :: outer) g' → (top.heap_1_39 w.params).In g' → Top p loose mean mg mb g' →
      wpAny (model PySem.Challenge.rw_nt0501_01.row.prog w) A' (execs body (envOf qual scope L' f cdv)) q E' ⟨h', gg, dd, tk, oo⟩) :
    wpAny (model PySem.Challenge.rw_nt0501_01.row.prog w) (ktrTop dp un gd cn cs L a ccd cl outer) (call (.ref f) pos kw) Q E s :=
  have z := entOk_spec hok
  wpAny_call (code_def B F X N T rfl rfl hk ho hcd hroom hbind z.2.2.2.2 (fun g' L' h' _ F' N' B' X' T' => wpAny_mono (H g' L' h' _ F' N' B' X' T') (fun fl _ y => by cases fl <;> exact y) fun _ _ y => y) z.1 z.2.1 z.2.2.1 z.2.2.2.1)
theorem entI {name qual : Str} {params : Arguments} {body : List Stmt} {scope : Scope} {dV kV doc pm cdv ct oc : Value} {an od : Option Addr} {osl : Array (Option Value)} {f C : Addr}
    {w : World} {p : Program} {loose : List Str} {mean : ExcName → Option Value} {mg mb : Str → Option Value} {dp un : Nat} {gd : Option (List Code)} {cn : Str} {cs : Scope} {a : Addr} {ccd : Value} {cl : List (Str × Addr)} {outer : List Env} {A₀ : Around} {base h₀ : Heap} {L : Addr} {m : Str → Option Value} {s : Shared} {Q E : Value → Shared → Prop} {news : Led} {pos : List Value} {kw : List (Str × Value)} {binds : Addr → List (Str × Value)}
    (B : Below A₀ base outer h₀) (F : Fr h₀ L s.heap m) (X : (top.heap_1_39 w.params).In h₀) (N : News h₀ L s.heap news) (T : Top p loose mean mg mb h₀) (hk : cs.kind = .function)
    (hm : makesIn (top.heap_1_39 w.params) C = true) (hi : findIn (top.heap_1_39 w.params) (.ref C) "__init__" = some (some (.ref f))) (hf : isFn (top.heap_1_39 w.params) (.ref f) = true)
    (ho : (top.heap_1_39 w.params).lookup f = some ⟨oc, od, .func (fnOf name qual params body scope dV kV doc pm an cdv ct), osl⟩) (hcd : codeIn (top.heap_1_39 w.params) cdv qual = true) (hroom : ((ktrTop dp un gd cn cs L a ccd cl outer).under (.builtin "type.__call__" ⟨.ref C :: pos, kw⟩)).depth < recursionLimit)
    (hbind : ∀ x h1, (top.heap_1_39 w.params).In h1 → BindsTo { s with heap := h1 } (fnOf name qual params body scope dV kV doc pm an cdv ct) ⟨.ref x :: pos, kw⟩ (binds x)) (hok : ∀ x, entOk scope (binds x) = true)
    (H : ∀ x dx g' L' h' tk, let gg := s.gens; let dd := s.drawn; let oo := s.os; let Au := (ktrTop dp un gd cn cs L a ccd cl outer).under (.builtin "type.__call__" ⟨.ref C :: pos, kw⟩); let A' := Au.deeper (envOf qual scope L' f cdv); let m' := fun y => (binds x).reverse.lookup y; let E' := leaveE (model PySem.Challenge.rw_nt0501_01.row.prog w) A' (envOf qual scope L' f cdv) E; let q := backQ h₀ L m g' gg dd oo (initQ x Q)
      (∀ p ∈ news, p.1 < dx) → dx < x → Fr g' L' h' m' → News g' L' h' ((x, instObj C dx) :: (dx, dictOf [] 0) :: news) → Below Au base (envX cn cs L a ccd cl :: outer) g' → (top.heap_1_39 w.params).In g' → Top p loose mean mg mb g' →
      wpAny (model PySem.Challenge.rw_nt0501_01.row.prog w) A' (execs body (envOf qual scope L' f cdv)) q E' ⟨h', gg, dd, tk, oo⟩) :
    wpAny (model PySem.Challenge.rw_nt0501_01.row.prog w) (ktrTop dp un gd cn cs L a ccd cl outer) (call (.ref C) pos kw) Q E s :=
  call_cls F X N hm hi hf fun x dx h' F' N' l1 l2 =>
    have z := entOk_spec (hok x)
    code_def (s := { s with heap := h' }) B F' X N' T rfl rfl hk ho hcd hroom (hbind x h' (X.keeps F'.keep)) z.2.2.2.2 (fun g' L' h' _ F' N' B' X' T' => wpAny_mono (H x dx g' L' h' _ l1 l2 F' N' B' X' T') (fun fl _ y => by cases fl <;> exact y) fun _ _ y => y) z.1 z.2.1 z.2.2.1 z.2.2.2.1
end Mine
end

section
open PySem PySem.W PyProof.Rows PySem.Spec PySem.Calls
set_option Elab.async false
set_option linter.all false
set_option maxRecDepth 100000
set_option maxHeartbeats 0
namespace Mine
local macro_rules | `(tactic| walk_at $s:str) => `(tactic| k_extra $s)
local macro_rules | `(tactic| k_mem) => `(tactic| k_extra "k_mem")
local macro_rules | `(tactic| k_room) => `(tactic| k_extra "k_room")
local macro_rules | `(tactic| k_units) => `(tactic| k_extra "k_units")
local macro_rules | `(tactic| k_all) => `(tactic| k_extra "k_all")
local macro_rules | `(tactic| k_allIn) => `(tactic| k_extra "k_allIn")
local macro_rules | `(tactic| k_ne) => `(tactic| k_extra "k_ne")

theorem words_01 : True := by
  w_top off
  (k_with "conj9" => first | with_reducible assumption | exact And.left (by with_reducible assumption) | exact And.left (And.right (by with_reducible assumption)) | exact And.left (And.right (And.right (by with_reducible assumption))) | exact And.left (And.right (And.right (And.right (by with_reducible assumption)))) | exact And.left (And.right (And.right (And.right (And.right (by with_reducible assumption))))) | exact And.left (And.right (And.right (And.right (And.right (And.right (by with_reducible assumption)))))) | exact And.left (And.right (And.right (And.right (And.right (And.right (And.right (by with_reducible assumption))))))) | exact And.left (And.right (And.right (And.right (And.right (And.right (And.right (And.right (by with_reducible assumption)))))))) | exact And.left (And.right (And.right (And.right (And.right (And.right (And.right (And.right (And.right (by with_reducible assumption))))))))))
  (k_with "k_ne" => (refine neN ?_; (try dsimp only); first | with_reducible assumption | exact Nat.ne_of_lt (by k_extra "conj9") | exact Nat.ne_of_gt (by k_extra "conj9") | omega))
  (k_with "ktr_room" => (first | exact rm0 (by with_reducible assumption) | exact rm1 (by with_reducible assumption) rfl | exact rm2 (by with_reducible assumption) rfl | exact rm3 (by with_reducible assumption) rfl | omega | ((try simp +zetaDelta only [depth_under_make, depth_under_kw, depth_in1, depth_deeper, depth_caller]); first | omega | decide)))
  (k_with "ktr_units" => (first | exact rm0 (by with_reducible assumption) | exact rm1 (by with_reducible assumption) rfl | exact rm2 (by with_reducible assumption) rfl | exact rm3 (by with_reducible assumption) rfl | (have hcL9Z := cLine_is; (first | omega | ((try simp +zetaDelta only [units_in1, units_deeper, Around.mark_units, units_caller]); omega)))))
  (k_with "k_room" => k_extra "ktr_room")
  (k_with "k_units" => k_extra "ktr_units")
  (k_with "k_all" => assumption)
  (k_with "execs cons" => (first | ((with_reducible refine stmt_in ?_); intro qkZ) | ((with_reducible refine wpAny_execs_cons ?_); (try (refine at_tk ?_; intro tkZZ)); (try (first | (fail_if_success k_fold) | (refine qfold ?_; intro qkZ))))))
  (k_with "eval Name" => (k_dflt (first | (name_kind "local"; refine' nameX_L (by k_asm) (by rfl) ?_ (by kernel_rfl) (by kernel_rfl); k_whole) | (refine' nameX_K (by k_asm) (by k_asm) (by k_asm) (by k_is) ?_ (by kernel_rfl) (by kernel_rfl); k_whole))))
  (k_with "k_ev" => first | exact EvalP.name rfl (Eq.refl true) | exact EvalP.int | exact EvalP.str | exact EvalP.none | exact EvalP.bool | (refine' EvalP.attr (by exact rfl) (by k_extra "k_mem") (by k_extra "k_mem") (by k_is) (by k_is) (by k_is) (by k_is) (by k_get) (by k_handed) (by exact Eq.refl true)))
  (k_with "k_evs" => first | exact ArgsP.nil | (refine' ArgsP.cons (by k_extra "k_ev") (by k_extra "k_evs")))
  (k_with "spliced" => (k_here; k_dflt (first | (refine' args_ok (by k_asm) (by k_asm) (by k_asm) (by k_extra "k_evs") ?_; k_whole; (try dsimp only [List.cons_append, List.nil_append])) | (refine' argsP (by k_asm) (by k_asm) (by k_asm) (by k_extra "k_ev") ?_; k_whole))))
  (k_with "eval Attribute Name" => (k_here; k_dflt (refine' evalP_ok (by k_asm) (by k_asm) (by k_asm) (by k_extra "k_ev") ?_; k_whole)))
  (k_with "eval Call" => (k_here; (with_reducible show wpAny _ _ (eval (Expr.Call (Expr.Name _ _) _ [] _) _) _ _ _); k_dflt (first | (refine' callG (by k_asm) (by k_asm) (by k_asm) (by k_asm) (by exact Eq.refl true) (by k_is) (by k_is) (by k_extra "k_evs") ?_; k_whole) | (refine' callB (by k_asm) (by k_asm) (by k_asm) (by k_asm) (by exact Eq.refl true) (by k_is) (by exact rfl) (by k_extra "k_evs") ?_; k_whole) | (refine' callT (by k_asm) (by k_asm) (by k_asm) (by k_asm) (by exact Eq.refl true) (by k_is) (by exact rfl) (by k_extra "k_evs") ?_; k_whole) | (refine' callGs (by k_asm) (by k_asm) (by k_asm) (by k_asm) (by exact Eq.refl true) (by k_is) (by k_is) (by exact rfl) (by exact rfl) ?_; k_whole) | (refine' callBs (by k_asm) (by k_asm) (by k_asm) (by k_asm) (by exact Eq.refl true) (by k_is) (by exact rfl) (by exact rfl) (by exact rfl) ?_; k_whole))))
  (k_with "eval Call Attribute" => (k_here; (with_reducible show wpAny _ _ (eval (Expr.Call (Expr.Attribute (Expr.Name _ _) _ _) _ [] _) _) _ _ _); k_dflt (refine' callM (by k_asm) (by k_asm) (by k_asm) (by exact rfl) (by exact Eq.refl true) (by k_extra "k_mem") (by k_extra "k_mem") (by k_is) (by k_is) (by k_is) (by k_get) (by k_is) (by exact rfl) (by k_extra "k_evs") ?_; k_whole)))
  (k_with "isTrue Compare" => (k_here; k_dflt (refine' cmpP (by k_asm) (by k_asm) (by k_asm) (by k_extra "k_ev") (by k_extra "k_ev") (by with_unfolding_all exact rfl) ?_; k_whole)))
  (k_with "exec Return some" => (k_here; k_dflt (refine' retP (by k_asm) (by k_asm) (by k_asm) (by k_extra "k_ev") ?_; k_whole)))
  (k_with "exec Assign" => (first | ((with_reducible show wpAny _ _ (exec (Stmt.Assign [Expr.Attribute (Expr.Name _ _) _ _] _ _) _) _ _ _); k_dflt (refine' storeA (by k_asm) (by k_asm) (by k_asm) (by k_extra "k_ev") (by exact rfl) (by exact Eq.refl true) (by k_extra "k_mem") (by k_extra "k_mem") (by k_is) (by k_is) (by k_is) (by k_is) (by k_get) (by exact rfl) (by k_put) (by k_upd) (by exact Nat.le_of_ble_eq_true rfl) ?_; k_whole); intro hZ FZ NZ; (try k_sweep)) | (with_reducible refine wpAny_Assign_Name ?_)))
  (k_with "eval BinOp" => (first | (k_here; k_dflt (refine' binP (by k_asm) (by k_asm) (by k_asm) (by k_extra "k_ev") (by k_extra "k_ev") ?_; k_whole)) | (with_reducible refine wpAny_BinOp ?_)))
  (k_with "eval Subscript" => (first | (k_here; k_dflt (refine' subP (by k_asm) (by k_asm) (by k_asm) (by k_extra "k_ev") (by k_extra "k_ev") ?_; k_whole)) | (with_reducible refine Subscript_ ?_)))
  (k_with "eval Constant int" => (with_reducible refine wpAny_Constant_int ?_))
  (k_with "eval Constant str" => (with_reducible refine Calls.Constant_str ?_))
  (k_with "binaryOp Mult int int" => (with_reducible refine mul_int ?_))
  (k_with "subscriptTail Name Constant ref str" => (k_dflt (refine kda_item (knd := PySem.strKind _ _) (by k_asm) (by k_extra "k_mem") (by k_asm) (strKind_is _ _ _ _) (by rfl) ?_)))
  (k_with "storeName" => (k_dflt (refine' storeX_L (by k_asm) (by k_asm) ?_ (by kernel_rfl) (by kernel_rfl); k_whole; intro hZ FZ NZ; revert FZ; refine let_m ?_; intro mZZ FZ; (try k_sweep))))
  (k_with "newList" => (k_dflt (refine' newList_K (by k_asm) (by k_asm) ?_; k_whole); intro lZ hZ FZ NZ l1Z; (try (replace l1Z := allLt_of l1Z; dsimp only [AllLt] at l1Z)); (try k_sweep)))
  (k_with "setItem ref str" => (k_here; (with_reducible show wpAny _ _ (setItem (Value.ref _) (Value.str _ _) _) _ _ _); k_dflt (refine' kda_set (knd := PySem.strKind _ _) (by k_asm) (by k_asm) (by k_updF) (by k_asm) (strKind_is _ _ _ _) (by rw [sizeLine_eq]; exact Nat.le_of_ble_eq_true (by with_unfolding_all rfl)) ?_); intro hZ oZ FZ NZ hdZ; (try kob_lit); (try dsimp only at NZ)))
  (k_with "kst_p" => (fail_if_success (first | (with_reducible show wpAny _ _ (eval (Expr.ListComp _ _ _ _) _) _ _ _) | (with_reducible show wpAny _ _ (exec (Stmt.For _ _ _ _ _) _) _ _ _) | (with_reducible show wpAny _ _ (exec (Stmt.While _ _ _ _) _) _ _ _) | (with_reducible show wpAny _ _ (exec (Stmt.Assign _ (Expr.ListComp _ _ _ _) _) _) _ _ _))))
  (k_with "k_steps" => repeat' (first | (k_end; first | (with_reducible refine nextQ_end ?_) | ((with_reducible refine' nextQ_next (by k_asm) (by exact rfl) ?_); intro tkZ) | (with_reducible refine nextQ_ret ?_) | ((with_reducible refine' back_init (by k_asm) (by k_asm) (by exact rfl) ?_); intro kFZ kNZ) | ((with_reducible refine' back_ret (by k_asm) (by k_asm) (by exact rfl) ?_); intro kFZ kNZ) | ((with_reducible refine' back_next (by k_asm) (by k_asm) (by exact rfl) ?_); intro kFZ kNZ)) | (k_unfold; (try dsimp only [List.cons_append, List.nil_append])) | ((fail_if_success (first | (with_reducible show wpAny _ _ (eval (Expr.ListComp _ _ _ _) _) _ _ _) | (with_reducible show wpAny _ _ (exec (Stmt.For _ _ _ _ _) _) _ _ _) | (with_reducible show wpAny _ _ (exec (Stmt.While _ _ _ _) _) _ _ _) | (with_reducible show wpAny _ _ (exec (Stmt.Assign _ (Expr.ListComp _ _ _ _) _) _) _ _ _))); (first | walk1 | (dsimp only; walk1))) | (leave1; walk_say "STEP leave1"; try dsimp only) | fail "no step"))
  (k_with "compareOp NotEq ref ref" => (k_dflt (first | (refine' ne_nil_f (by k_asm) (by k_extra "k_mem") (by k_extra "k_mem") (by k_extra "ktr_units") ?_) | (refine' ne_nil_t (by k_asm) (by k_extra "k_mem") (by k_extra "k_mem") (by k_extra "ktr_units") ?_))))
  (k_with "call builtin:list.pop" => (k_dflt (refine' pop_last (by k_asm) (by k_asm) (by k_upd) (by assumption) ?_; k_whole); intro hZ FZ NZ; (try k_sweep)))
  (k_with "k_allIn" => (intro pZ hpZ; k_ownIn))
  (k_with "k_mem" => first | exact List.Mem.head _ | (refine' List.Mem.tail _ ?_; k_extra "k_mem") | assumption | (refine List.mem_append_left _ ?_; k_extra "k_mem") | (refine List.mem_append_right _ ?_; k_extra "k_mem"))
  (k_with "kd_subs" => first | exact allLt_off (by tbn_find) | exact off_left (allLt_off (by tbn_find)) | exact off_left (off_right (allLt_off (by tbn_find))) | exact off_left (off_right (off_right (allLt_off (by tbn_find)))) | exact off_right (off_right (off_right (allLt_off (by tbn_find)))) | exact Apart.off (by assumption) (by k_extra "k_mem"))
  (k_with "kd_all" => first | assumption | exact Apart.nil | (refine' Apart.cons ?_ ?_; (focus ((k_extra "kd_subs"); done)); (focus ((k_extra "kd_all"); done))))
  (k_with "kd_mem" => first | exact Tail.nil | exact Tail.app _ | (refine' Tail.cons (by k_extra "kd_mem")))
  (k_with "call builtin:len" => ((with_reducible show wpAny _ _ (call (Value.builtin "len") [Value.ref _]) _ _ _); k_dflt (refine' len_at (by k_asm) (by k_extra "k_mem") (by first | omega | (simp <;> omega)) ?_)))
  (k_with "subscriptTail" => ((with_reducible show wpAny _ _ (subscriptTail _ _ (Value.ref _) (Value.int _ _)) _ _ _); k_dflt (refine' item_any (by k_asm) (by k_extra "k_mem") (by omega) (by first | omega | (simp <;> omega)) (by first | omega | (simp <;> omega)) ?_ (by with_unfolding_all rfl)); intro vZ hvZ))
  (k_with "kd_facts" => first | (with_reducible assumption) | assumption | omega | tbn_find | exact allLt_of (by assumption))
  (k_with "eval Dict nil nil" => (k_dflt (refine' kd_new (by k_asm) (by k_asm) (TopRead.nolimit (by k_asm)) ?_; k_whole); intro dZ hZ FZ NZ l1Z loZ; (try (replace l1Z := allLt_of l1Z; dsimp only [AllLt] at l1Z)); (try k_sweep)))
  (k_with "setItem ref int" => ((with_reducible show wpAny _ _ (setItem (Value.ref _) (Value.int _ _) _) _ _ _); k_dflt (refine' kd_setU (by k_asm) (by k_asm) (by k_updF) (by k_extra "kd_close") (by k_extra "kd_mark") inNum (by omega) (by k_extra "ktr_units") ?_; k_whole); intro hZ tkZ nZ FZ NZ; (try dsimp only at NZ); (try k_sweep)))
  (k_with "kd_close" => first | assumption | exact AllNum.keysIn (by assumption) | exact fun _ h => nomatch h)
  (k_with "kd_mark" => first | assumption | exact List.nodup_nil)
  (k_with "kqd_sub" => first | with_reducible exact Sub.nil | with_reducible exact Sub.refl | with_reducible assumption | (refine Sub.cons ?_ ?_; (focus ((k_extra "k_mem"); done)); (focus ((k_extra "kqd_sub"); done))) | (refine Sub.app ?_ ?_; (focus ((k_extra "kqd_sub"); done)); (focus ((k_extra "kqd_sub"); done))) | (refine Sub.skip ?_; (focus ((k_extra "kqd_sub"); done))) | (refine Sub.inl ?_; (focus ((k_extra "kqd_sub"); done))) | (refine Sub.inr ?_; (focus ((k_extra "kqd_sub"); done))))
  (k_with "kqd_in" => (refine news_sub (by k_asm) ?_; (focus ((k_extra "kqd_sub"); done))))
  (k_with "call type:list" => ((with_reducible show wpAny _ _ (call (Value.type "list") [Value.ref _]) _ _ _); k_dflt (refine' lst_copy (by k_asm) (by k_asm) (by k_extra "k_mem") (by first | omega | (simp <;> omega)) ?_; k_whole); intro DZ cZ hZ FZ NZ l1Z; (try (replace l1Z := allLt_of l1Z; dsimp only [AllLt] at l1Z)); (try k_sweep)))
  (k_with "binaryOp Mult ref int" => (k_dflt (refine' lst_mul (by k_asm) (by k_asm) (by k_extra "k_mem") (by omega) (by omega) ?_; k_whole); intro DZ hZ FZ NZ l1Z; (try (replace l1Z := allLt_of l1Z; dsimp only [AllLt] at l1Z)); (try k_sweep)))
  (k_with "call builtin:len" => ((with_reducible show wpAny _ _ (call (Value.builtin "len") [Value.ref _]) _ _ _); k_dflt (refine' len_ba_at (by k_asm) (by assumption) (by first | omega | (simp <;> omega)) ?_); intro tlZ tkZ))
  (k_with "setItem ref int" => ((with_reducible show wpAny _ _ (setItem (Value.ref _) (Value.int _ _) _) _ _ _); k_dflt (refine' lst_set (by k_asm) (by k_asm) (by k_updF) (by omega) (by first | omega | (simp <;> omega)) (by first | omega | (simp <;> omega)) ?_; k_whole); intro hZ kZ FZ NZ; (try dsimp only at NZ); (try k_sweep)))
  (k_with "kst_allIn" => first | assumption | exact AllNum.keysIn (by assumption) | exact keysIn_sub (by assumption) (by k_extra "kqd_sub"))
  (k_with "kst_all" => first | assumption | exact inSub (by assumption) (by k_extra "kqd_sub") | exact inNum | exact inTup (by k_extra "k_mem") (by assumption) (by assumption))
  (k_with "compareOp NotIn" => ((with_reducible show wpAny _ _ (compareOp CmpOp.NotIn _ (Value.ref _)) _ _ _); k_dflt (first | (refine' kd_notin_n (by k_asm) (by k_extra "k_mem") (by assumption) (by k_extra "kst_allIn") (by k_extra "kd_mark") (by k_extra "kst_all") (by assumption) (by k_extra "ktr_units") ?_; k_whole) | (refine' kd_notin_s (by k_asm) (by k_extra "k_mem") (by assumption) (by k_extra "kst_allIn") (by k_extra "kd_mark") (by k_extra "kst_all") (by assumption) (by k_extra "ktr_units") ?_; k_whole) | (refine' kd_notin (by k_asm) (by k_extra "k_mem") (by assumption) (by k_extra "kst_allIn") (by k_extra "kd_mark") (by k_extra "kst_all") (by k_extra "ktr_units") ?_; k_whole)); intro tkZ))
  (k_with "compareOp In" => ((with_reducible show wpAny _ _ (compareOp CmpOp.In _ (Value.ref _)) _ _ _); k_dflt (first | (refine' kd_in_n (by k_asm) (by k_extra "k_mem") (by assumption) (by k_extra "kst_allIn") (by k_extra "kd_mark") (by k_extra "kst_all") (by assumption) (by k_extra "ktr_units") ?_; k_whole) | (refine' kd_in_s (by k_asm) (by k_extra "k_mem") (by assumption) (by k_extra "kst_allIn") (by k_extra "kd_mark") (by k_extra "kst_all") (by assumption) (by k_extra "ktr_units") ?_; k_whole) | (refine' kd_in (by k_asm) (by k_extra "k_mem") (by assumption) (by k_extra "kst_allIn") (by k_extra "kd_mark") (by k_extra "kst_all") (by k_extra "ktr_units") ?_; k_whole)); intro tkZ))
  (k_with "call builtin:len" => ((with_reducible show wpAny _ _ (call (Value.builtin "len") [Value.ref _]) _ _ _); k_dflt (refine' kd_len (by k_asm) (by k_extra "k_mem") (by assumption) (by omega) ?_; k_whole); intro tlZ tkZ))
  (k_with "subscriptTail" => ((with_reducible show wpAny _ _ (subscriptTail _ _ (Value.ref _) _) _ _ _); k_dflt (refine' kd_item (by k_asm) (by k_extra "k_mem") (by k_extra "kst_allIn") (by k_extra "kd_mark") (by k_extra "kst_all") (by assumption) (by k_extra "ktr_units") ?_ (by with_unfolding_all rfl) (by intro _; with_unfolding_all rfl); k_whole); intro tkZ))
  (k_with "setItem ref ref" => ((with_reducible show wpAny _ _ (setItem (Value.ref _) (Value.ref _) _) _ _ _); k_dflt (refine' kd_setU (by k_asm) (by k_asm) (by k_updF) (by k_extra "kst_allIn") (by k_extra "kd_mark") (by k_extra "kst_all") (by omega) (by k_extra "ktr_units") ?_; k_whole); intro hZ tkZ nZ FZ NZ; (try dsimp only at NZ); (try k_sweep)))
  (k_with "call builtin:dict.pop" => ((with_reducible show wpAny _ _ (call (Value.builtin _) [Value.ref _, _]) _ _ _); k_dflt (refine' kd_popU (by k_asm) (by k_asm) (by k_updF) (by k_extra "kst_allIn") (by k_extra "kd_mark") (by k_extra "kst_all") (by omega) (by assumption) (by k_extra "ktr_units") ?_; k_whole); intro hZ tkZ nZ FZ NZ; (try dsimp only at NZ); (try k_sweep)))
  (k_with "getMethod ref" => ((with_reducible show wpAny _ _ (getMethod (Value.ref _) (PySem.Str.ofString "pop") _) _ _ _); k_dflt (refine' kd_method PySem.F.slot_dict_pop PySem.F.type_dict_pop (by k_asm) (by k_extra "k_mem") ?_; k_whole)))
  (k_with "call builtin:list.append" => ((with_reducible show wpAny _ _ (call (Value.builtin _) [Value.ref _, _]) _ _ _); k_dflt (refine' lst_append (by k_asm) (by k_asm) (by k_updF) (by first | omega | (simp <;> omega)) ?_; k_whole); intro hZ kZ FZ NZ; (try dsimp only at NZ); (try k_sweep)))
  (k_with "compareOp Eq str str" => (k_dflt (refine' eq_str_ne (by assumption) ?_)))
  (k_with "call builtin:sorted" => ((with_reducible show wpAny _ _ (call (Value.builtin "sorted") [Value.ref _]) _ _ _); k_dflt (refine' sorted_kdict (by exact rfl) (by k_asm) (by k_asm) (by k_extra "k_mem") (by assumption) (by assumption) (by assumption) (by omega) ?_); intro DZ vsZ nsZ cZ hZ tkZ FZ NZ l1Z hIZ hpZ hsZ))
  (k_with "call builtin:list.pop" => ((first | (with_reducible show wpAny _ _ (call (Value.builtin _) [Value.ref _]) _ _ _) | ((conv => arg 3; dsimp only [List.cons_append, List.nil_append]); (with_reducible show wpAny _ _ (call (Value.builtin _) [Value.ref _]) _ _ _))); k_dflt (refine' lst_pop (by k_asm) (by k_asm) (by k_updF) (by first | omega | (simp <;> omega)) ?_; k_whole); intro hZ kZ FZ NZ; (try dsimp only at NZ); (try k_sweep)))
  (k_with "call builtin:list.extend" => ((first | (with_reducible show wpAny _ _ (call (Value.builtin _) [Value.ref _, Value.ref _]) _ _ _) | ((conv => arg 3; dsimp only [List.cons_append, List.nil_append]); (with_reducible show wpAny _ _ (call (Value.builtin _) [Value.ref _, Value.ref _]) _ _ _))); k_dflt (refine' lst_extend (by k_asm) (by k_asm) (by k_updF) (by k_extra "k_mem") (by first | omega | (simp <;> omega)) ?_; k_whole); intro hZ kZ FZ NZ; (try dsimp only at NZ); (try k_sweep)))
  (k_with "subscriptTail" => ((with_reducible show wpAny _ _ (subscriptTail _ _ (Value.ref _) (Value.int _ _)) _ _ _); k_dflt (refine' item_at (by k_asm) (by k_extra "k_mem") (by with_reducible assumption) (by omega) (by omega) ?_ (by with_unfolding_all rfl))))
  (k_with "call type:list" => ((with_reducible show wpAny _ _ (call (Value.type "list") [Value.ref _]) _ _ _); k_dflt (refine' kd_list (by exact rfl) (by k_asm) (by k_asm) (by k_extra "k_mem") (by assumption) (by omega) ?_; k_whole); intro DZ cZ hZ tkZ FZ NZ l1Z; (try (replace l1Z := allLt_of l1Z; dsimp only [AllLt] at l1Z)); (try k_sweep)))
  trivial

section
variable {w : World} {p : Program} {loose : List Str} {mean : ExcName → Option Value} {mg mb : Str → Option Value} {dp un : Nat} {gd : Option (List Code)} {cn : Str} {cs : Scope} {a : Addr} {ccd : Value} {cl : List (Str × Addr)} {outer : List Env} {A₀ : Around} {base h₀ : Heap} {L : Addr} {m : Str → Option Value} {s : Shared} {Q E : Value → Shared → Prop} {led dk gr lits : Led}
theorem draw0 {d c k : Nat} {od : Obj} {mi tn b : Int} {t1 t2 tb : Tok} {vs : List Value} {ns : List Int} {rest : Led} (B : Below A₀ base outer h₀) (F : Fr h₀ L s.heap m) (X : (top.heap_1_39 w.params).In h₀) (N : News h₀ L s.heap led) (T : Top p loose mean mg mb h₀) (hk : cs.kind = .function)
    (hled : led = (d, od) :: (c, listOf vs.toArray k) :: rest)
    (hd0 : od.IsDictOf (strKind PySem.Challenge.rw_nt0501_01.row.prog w) [(Str.ofString "cells", .ref c), (Str.ofString "mixed", .int mi t1), (Str.ofString "turn", .int tn t2)])
    (hvs : IntsAre vs ns) (hvl : vs.length ≤ 16) (hdc : d ≠ c) (hrd : Off d rest) (hrc : Off c rest) (hb : 0 < b) (hb2 : b < 100) (hm0 : 0 ≤ mi) (hm1 : mi < 2147483587) (ht0 : 0 ≤ tn) (ht1 : tn < 10000)
    (hdp : dp + 1 < recursionLimit) (hun : un + 8 < cLine)
    (hret : ∀ r t od' t2' vs' ns' k' h' tk', Fr h₀ L h' m → News h₀ L h' ((d, od') :: (c, listOf vs'.toArray k') :: rest) → 
      od'.IsDictOf (strKind PySem.Challenge.rw_nt0501_01.row.prog w) [(Str.ofString "cells", .ref c), (Str.ofString "mixed", .int mi t1), (Str.ofString "turn", .int (tn + 1) t2')] →
      IntsAre vs' ns' → vs'.length ≤ 16 → 0 ≤ r → r < b → Q (.int r t) { s with heap := h', toks := tk' }) :
    wpAny (model PySem.Challenge.rw_nt0501_01.row.prog w) (ktrTop dp un gd cn cs L a ccd cl outer) (call (.ref 629) [.ref d, .int b tb]) Q E s := by
  subst hled
  revert X; k_fill; intro X
  refine' entD (binds := [(Str.ofString "deck", .ref d), (Str.ofString "below", .int b tb)]) ?k1 ?k2 ?k3 ?k4 ?k5 ?kK ?k6 ?k7 ?k8 ?k9 ?kO ?_; (case kK => first | exact rfl | assumption); (case k1 => k_asm); (case k2 => k_asm); (case k3 => k_asm); (case k4 => k_asm); (case k5 => k_asm); (case k6 => k_is); (case k7 => k_is); (case k8 => k_extra "ktr_room")
  (case k9 => exact BindsTo.of_eq (by kernel_rfl))
  (case kO => kernel_rfl)
  intro g' L' h' tk9 g9 d9 o9 A9 m9 ek9 qk F' N' B' X' T'
  (try k_lift B')
  clear F N
  have hfin : ∀ (od' : Obj) (t2' : Tok) (vs' : List Value) (ns' : List Int) (k' : Nat) (h' : Heap) (tk' : Nat) (r r' : Int) (t : Tok) (led : List (Addr × Obj)), r' = Int.fmod r b → Fr h₀ L h' m → News h₀ L h' led → (∀ p ∈ (d, od') :: (c, listOf vs'.toArray k') :: rest, p ∈ led) → od'.IsDictOf (strKind PySem.Challenge.rw_nt0501_01.row.prog w) [(Str.ofString "cells", .ref c), (Str.ofString "mixed", .int mi t1), (Str.ofString "turn", .int (tn + 1) t2')] → IntsAre vs' ns' → vs'.length ≤ 16 → Q (.int r' t) { s with heap := h', toks := tk' } := by
    intro od' t2' vs' ns' k' h' tk' r r' t led hr F1 N1 hs hd1 hv1 hl1
    refine hret r' t od' t2' vs' ns' k' h' tk' F1 (fun p hp => N1 p (hs p hp)) hd1 hv1 hl1 ?_ ?_
    · rw [hr, Int.fmod_eq_emod_of_nonneg _ (by omega)]; exact Int.emod_nonneg _ (by omega)
    · rw [hr, Int.fmod_eq_emod_of_nonneg _ (by omega)]; exact Int.emod_lt_of_pos _ hb
  clear hret
  rcases List.eq_nil_or_concat vs with rfl | ⟨us, y, rfl⟩
  · k_extra "k_steps"
    all_goals (refine' hfin _ _ _ _ _ _ _ _ _ _ _ rfl ?F ?N ?S ?D ?V ?l; (case F => k_asm); (case N => k_asm); (case D => k_asm); (case S => k_extra "k_allIn"); (case V => k_asm); (case l => k_asm))
  · rw [List.concat_eq_append] at hvs hvl N'
    (refine xEEAA (ints_concat hvs) fun ms v zr1 hus zn2 => ?_; subst zr1; obtain ⟨ty, hy⟩ := zn2)
    subst hy
    have hul : us.length < sizeLine := by rw [sizeLine_eq]; simp at hvl; omega
    have hul2 : us.length ≤ 16 := by simp at hvl; omega
    k_extra "k_steps"
    · rename News h₀ _ _ _ => nE
      (try simp only [List.push_toArray] at nE)
      (refine' hfin _ _ _ _ _ _ _ _ _ _ _ rfl ?F nE ?S ?D ?V ?l; (case F => k_asm); (case D => k_asm); (case S => k_extra "k_allIn"); (case V => exact ints_snoc hus); (case l => simp at hvl ⊢; omega))
    · (refine' hfin _ _ _ _ _ _ _ _ _ _ _ rfl ?F ?N ?S ?D ?V ?l; (case F => k_asm); (case N => k_asm); (case D => k_asm); (case S => k_extra "k_allIn"); (case V => exact hus); (case l => k_asm))

theorem draw {d : Nat} {b : Int} {tb : Tok} {n : Nat} (B : Below A₀ base outer h₀) (F : Fr h₀ L s.heap m) (X : (top.heap_1_39 w.params).In h₀) (N : News h₀ L s.heap led) (T : Top p loose mean mg mb h₀) (hk : cs.kind = .function) (hD : DeckOk w d dk n) (hg : Apart gr dk) (hT : Tail (dk ++ gr) led lits) (hl : Apart lits dk) (hn : n < 9999) (hb : 0 < b) (hb2 : b < 100)
    (hdp : dp + 1 < recursionLimit) (hun : un + 8 < cLine)
    (hret : ∀ r t dk' h' tk', Fr h₀ L h' m → News h₀ L h' (lits ++ (dk' ++ gr)) → DeckOk w d dk' (n + 1) → Apart lits dk' → Apart gr dk' → 0 ≤ r → r < b → Q (.int r t) { s with heap := h', toks := tk' }) :
    wpAny (model PySem.Challenge.rw_nt0501_01.row.prog w) (ktrTop dp un gd cn cs L a ccd cl outer) (call (.ref 629) [.ref d, .int b tb]) Q E s := by
  obtain ⟨c, od, k, mi, tn, t1, t2, vs, ns, rfl, hdc, hd0, hvs, hvl, hm0, hm1, ht0, ht1⟩ := hD
  have e := hT.eq
  subst e
  have hd1 : Off d (lits ++ gr) := off_app (fun p hp => hl.symm.off (.head _) p hp) (fun p hp => hg.symm.off (.head _) p hp)
  have hc1 : Off c (lits ++ gr) := off_app (fun p hp => hl.symm.off (.tail _ (.head _)) p hp) (fun p hp => hg.symm.off (.tail _ (.head _)) p hp)
  refine draw0 (rest := lits ++ gr) (k := k) B F X (fun x hx => N x ?_) T hk rfl hd0 hvs hvl hdc hd1 hc1 hb hb2 hm0 hm1 ht0 (by omega) hdp hun ?_
  · simp only [List.mem_cons, List.mem_append] at hx ⊢
    rcases hx with h | h | h | h <;> simp [h]
  · intro r t od' t2' vs' ns' k' h' tk' F1 N1 hd1 hv1 hl1 h0 h1
    refine hret r t [(d, od'), (c, listOf vs'.toArray k')] h' tk' F1 (fun x hx => N1 x ?_) ⟨c, od', k', mi, tn + 1, t1, t2', vs', ns', rfl, hdc, hd1, hv1, hl1, hm0, hm1, by omega, by omega⟩ (hl.congr rfl) (hg.congr rfl) h0 h1
    simp only [List.mem_cons, List.mem_append] at hx ⊢
    rcases hx with h | (h | h | h) | h <;> simp_all
end

theorem words_03 : True := by
  w_top off
  (k_with "call ref" => ((first | (with_reducible show wpAny _ _ (call (Value.ref 629) [Value.ref _, Value.int _ _]) _ _ _) | ((conv => arg 3; dsimp only [List.cons_append, List.nil_append]); (with_reducible show wpAny _ _ (call (Value.ref 629) [Value.ref _, Value.int _ _]) _ _ _))); k_dflt (refine' draw (by k_asm) (by k_asm) (by k_asm) (by k_asm) (by k_asm) (by first | exact rfl | assumption) (by assumption) (by assumption) (by k_extra "kd_mem") (by k_extra "kd_all") (by omega) (by omega) (by omega) (by k_extra "ktr_room") (by k_extra "ktr_units") ?_); intro rZ tZ dkZ hZ tkZ FZ NZ hDZ hlZ hgZ hr0Z hr1Z; (try simp only [List.cons_append, List.nil_append] at NZ); (try k_sweep); (try dsimp only); (try k_fold)))
  trivial

section
variable {w : World} {p : Program} {loose : List Str} {mean : ExcName → Option Value} {mg mb : Str → Option Value} {dp un : Nat} {gd : Option (List Code)} {cn : Str} {cs : Scope} {a : Addr} {ccd : Value} {cl : List (Str × Addr)} {outer : List Env} {A₀ : Around} {base h₀ : Heap} {L : Addr} {m : Str → Option Value} {s : Shared} {Q E : Value → Shared → Prop} {led dk gr lits : Led}
theorem pick {d l k n : Nat} {its : List Value} (B : Below A₀ base outer h₀) (F : Fr h₀ L s.heap m) (X : (top.heap_1_39 w.params).In h₀) (N : News h₀ L s.heap led) (T : Top p loose mean mg mb h₀) (hk : cs.kind = .function) (hD : DeckOk w d dk n) (hg : Apart gr dk) (hT : Tail (dk ++ gr) led lits) (hl : Apart lits dk) (hn : n < 9999)
    (hml : (l, listOf its.toArray k) ∈ lits) (hb : 0 < its.length) (hb2 : its.length < 100)
    (hdp : dp + 3 < recursionLimit) (hun : un + 24 < cLine)
    (hret : ∀ (i : Nat) v dk' h' tk', its[i]? = some v → Fr h₀ L h' m → News h₀ L h' (lits ++ (dk' ++ gr)) → DeckOk w d dk' (n + 1) → Apart lits dk' → Apart gr dk' → Q v { s with heap := h', toks := tk' }) :
    wpAny (model PySem.Challenge.rw_nt0501_01.row.prog w) (ktrTop dp un gd cn cs L a ccd cl outer) (call (.ref 636) [.ref d, .ref l]) Q E s := by
  revert hg; intro hg
  have e := hT.eq
  subst e
  revert X; k_fill; intro X
  refine' entD (binds := [(Str.ofString "deck", .ref d), (Str.ofString "some", .ref l)]) ?k1 ?k2 ?k3 ?k4 ?k5 ?kK ?k6 ?k7 ?k8 ?k9 ?kO ?_; (case kK => first | exact rfl | assumption); (case k1 => k_asm); (case k2 => k_asm); (case k3 => k_asm); (case k4 => k_asm); (case k5 => k_asm); (case k6 => k_is); (case k7 => k_is); (case k8 => k_extra "ktr_room")
  (case k9 => exact BindsTo.of_eq (by kernel_rfl))
  (case kO => kernel_rfl)
  intro g' L' h' tk9 g9 d9 o9 A9 m9 ek9 qk F' N' B' X' T'
  (try k_lift B')
  clear F N
  k_extra "k_steps"
  exact hret _ _ _ _ _ (by assumption) (by k_asm) (by k_asm) (by k_asm) (by k_asm) (by k_asm)
end

section
variable {w : World} {p : Program} {loose : List Str} {mean : ExcName → Option Value} {mg mb : Str → Option Value} {dp un : Nat} {gd : Option (List Code)} {cn : Str} {cs : Scope} {a : Addr} {ccd : Value} {cl : List (Str × Addr)} {outer : List Env} {A₀ : Around} {base h₀ : Heap} {L : Addr} {m : Str → Option Value} {s : Shared} {Q E : Value → Shared → Prop} {led dk gr lits : Led}
theorem span4 {bd st mn : Value} (B : Below A₀ base outer h₀) (F : Fr h₀ L s.heap m) (X : (top.heap_1_39 w.params).In h₀) (N : News h₀ L s.heap led) (T : Top p loose mean mg mb h₀) (hk : cs.kind = .function) (hdp : dp + 3 < recursionLimit) (hun : un + 24 < cLine)
    (hret : ∀ (x dx : Nat) h1 h2 h3 t1 t2 t3 h' tk', Fr h₀ L h' m → News h₀ L h' ((x, instObj 168 dx) :: (dx, spanD h1 h2 h3 t1 t2 t3 bd st mn) :: led) → AllLt dx led → dx < x → Q (.ref x) { s with heap := h', toks := tk' }) :
    wpAny (model PySem.Challenge.rw_nt0501_01.row.prog w) (ktrTop dp un gd cn cs L a ccd cl outer) (call (.ref 168) [bd, st, mn]) Q E s := by
  revert X; k_fill; intro X
  refine' entI (binds := fun x' => [(Str.ofString "self", .ref x'), (Str.ofString "body", bd), (Str.ofString "start", st), (Str.ofString "many", mn)]) ?k1 ?k2 ?k3 ?k4 ?k5 ?kK ?c4 ?c5 ?c6 ?k6 ?k7 ?k8 ?k9 ?kO ?_; (case kK => first | exact rfl | assumption); (case k1 => k_asm); (case k2 => k_asm); (case k3 => k_asm); (case k4 => k_asm); (case k5 => k_asm); (case c4 => k_is); (case c5 => k_is); (case c6 => k_is); (case k6 => k_is); (case k7 => k_is); (case k8 => k_extra "ktr_room")
  (case k9 => intro x' h1 X1; exact BindsTo.of_eq (by kernel_rfl))
  (case kO => intro x'; kernel_rfl)
  intro x' d' g' L' h' tk9 g9 d9 o9 Au9 A9 m9 ek9 qk l1 l2 F' N' B' X' T'; (try k_lt l1); (try k_lt2 l2)
  clear F N
  (try k_lift B')
  k_extra "k_steps"
  exact hret _ _ _ _ _ _ _ _ _ _ (by k_asm) (by k_asm) (allLt_of l1) l2
theorem thing4 {kd v ex ac : Value} (B : Below A₀ base outer h₀) (F : Fr h₀ L s.heap m) (X : (top.heap_1_39 w.params).In h₀) (N : News h₀ L s.heap led) (T : Top p loose mean mg mb h₀) (hk : cs.kind = .function) (hdp : dp + 3 < recursionLimit) (hun : un + 24 < cLine)
    (hret : ∀ (x dx : Nat) h1 h2 h3 h4 t1 t2 t3 t4 h' tk', Fr h₀ L h' m → News h₀ L h' ((x, instObj 72 dx) :: (dx, thingD h1 h2 h3 h4 t1 t2 t3 t4 kd v ex ac) :: led) → AllLt dx led → dx < x → Q (.ref x) { s with heap := h', toks := tk' }) :
    wpAny (model PySem.Challenge.rw_nt0501_01.row.prog w) (ktrTop dp un gd cn cs L a ccd cl outer) (call (.ref 72) [kd, v, ex, ac]) Q E s := by
  revert X; k_fill; intro X
  refine' entI (binds := fun x' => [(Str.ofString "self", .ref x'), (Str.ofString "kind", kd), (Str.ofString "value", v), (Str.ofString "is_exec", ex), (Str.ofString "access", ac)]) ?k1 ?k2 ?k3 ?k4 ?k5 ?kK ?c4 ?c5 ?c6 ?k6 ?k7 ?k8 ?k9 ?kO ?_; (case kK => first | exact rfl | assumption); (case k1 => k_asm); (case k2 => k_asm); (case k3 => k_asm); (case k4 => k_asm); (case k5 => k_asm); (case c4 => k_is); (case c5 => k_is); (case c6 => k_is); (case k6 => k_is); (case k7 => k_is); (case k8 => k_extra "ktr_room")
  (case k9 => intro x' h1 X1; exact binds_K (by k_in) rfl (by k_is) rfl rfl (by kernel_rfl))
  (case kO => intro x'; kernel_rfl)
  intro x' d' g' L' h' tk9 g9 d9 o9 Au9 A9 m9 ek9 qk l1 l2 F' N' B' X' T'; (try k_lt l1); (try k_lt2 l2)
  clear F N
  (try k_lift B')
  k_extra "k_steps"
  exact hret _ _ _ _ _ _ _ _ _ _ _ _ (by k_asm) (by k_asm) (allLt_of l1) l2
theorem thing2 {kd v : Value} (B : Below A₀ base outer h₀) (F : Fr h₀ L s.heap m) (X : (top.heap_1_39 w.params).In h₀) (N : News h₀ L s.heap led) (T : Top p loose mean mg mb h₀) (hk : cs.kind = .function) (hdp : dp + 3 < recursionLimit) (hun : un + 24 < cLine)
    (hret : ∀ (x dx : Nat) t h1 h2 h3 h4 t1 t2 t3 t4 h' tk', Fr h₀ L h' m → News h₀ L h' ((x, instObj 72 dx) :: (dx, thingD h1 h2 h3 h4 t1 t2 t3 t4 kd v (.bool false) (.int 3 t)) :: led) → AllLt dx led → dx < x → Q (.ref x) { s with heap := h', toks := tk' }) :
    wpAny (model PySem.Challenge.rw_nt0501_01.row.prog w) (ktrTop dp un gd cn cs L a ccd cl outer) (call (.ref 72) [kd, v]) Q E s := by
  revert X; k_fill; intro X
  refine' entI (binds := fun x' => [(Str.ofString "self", .ref x'), (Str.ofString "kind", kd), (Str.ofString "value", v), (Str.ofString "is_exec", .bool false), (Str.ofString "access", .int 3 247)]) ?k1 ?k2 ?k3 ?k4 ?k5 ?kK ?c4 ?c5 ?c6 ?k6 ?k7 ?k8 ?k9 ?kO ?_; (case kK => first | exact rfl | assumption); (case k1 => k_asm); (case k2 => k_asm); (case k3 => k_asm); (case k4 => k_asm); (case k5 => k_asm); (case c4 => k_is); (case c5 => k_is); (case c6 => k_is); (case k6 => k_is); (case k7 => k_is); (case k8 => k_extra "ktr_room")
  (case k9 => intro x' h1 X1; exact binds_K (by k_in) rfl (by k_is) rfl rfl (by kernel_rfl))
  (case kO => intro x'; kernel_rfl)
  intro x' d' g' L' h' tk9 g9 d9 o9 Au9 A9 m9 ek9 qk l1 l2 F' N' B' X' T'; (try k_lt l1); (try k_lt2 l2)
  clear F N
  (try k_lift B')
  k_extra "k_steps"
  exact hret _ _ _ _ _ _ _ _ _ _ _ _ _ (by k_asm) (by k_asm) (allLt_of l1) l2
end

theorem words_06 : True := by
  w_top off
  (k_with "call ref" => ((first | (with_reducible show wpAny _ _ (call (Value.ref 168) [_, _, _]) _ _ _) | ((conv => arg 3; dsimp only [List.cons_append, List.nil_append]); (with_reducible show wpAny _ _ (call (Value.ref 168) [_, _, _]) _ _ _))); k_dflt (refine' span4 (by k_asm) (by k_asm) (by k_asm) (by k_asm) (by k_asm) (by first | exact rfl | assumption)  (by k_extra "ktr_room") (by k_extra "ktr_units") ?_); intro xZ dxZ h1Z h2Z h3Z t1Z t2Z t3Z hZ tkZ FZ NZ l1Z l2Z; (have lxZ := allLt_trans l1Z l2Z); (try dsimp only [List.cons_append, List.nil_append, AllLt] at l1Z lxZ); (try simp only [List.cons_append, List.nil_append] at NZ); (try k_sweep); (try dsimp only); (try k_fold)))
  (k_with "call ref" => ((first | (with_reducible show wpAny _ _ (call (Value.ref 72) [_, _, _, _]) _ _ _) | ((conv => arg 3; dsimp only [List.cons_append, List.nil_append]); (with_reducible show wpAny _ _ (call (Value.ref 72) [_, _, _, _]) _ _ _))); k_dflt (refine' thing4 (by k_asm) (by k_asm) (by k_asm) (by k_asm) (by k_asm) (by first | exact rfl | assumption)  (by k_extra "ktr_room") (by k_extra "ktr_units") ?_); intro xZ dxZ h1Z h2Z h3Z h4Z t1Z t2Z t3Z t4Z hZ tkZ FZ NZ l1Z l2Z; (have lxZ := allLt_trans l1Z l2Z); (try dsimp only [List.cons_append, List.nil_append, AllLt] at l1Z lxZ); (try simp only [List.cons_append, List.nil_append] at NZ); (try k_sweep); (try dsimp only); (try k_fold)))
  (k_with "call ref" => ((first | (with_reducible show wpAny _ _ (call (Value.ref 72) [_, _]) _ _ _) | ((conv => arg 3; dsimp only [List.cons_append, List.nil_append]); (with_reducible show wpAny _ _ (call (Value.ref 72) [_, _]) _ _ _))); k_dflt (refine' thing2 (by k_asm) (by k_asm) (by k_asm) (by k_asm) (by k_asm) (by first | exact rfl | assumption)  (by k_extra "ktr_room") (by k_extra "ktr_units") ?_); intro xZ dxZ ttZ h1Z h2Z h3Z h4Z t1Z t2Z t3Z t4Z hZ tkZ FZ NZ l1Z l2Z; (have lxZ := allLt_trans l1Z l2Z); (try dsimp only [List.cons_append, List.nil_append, AllLt] at l1Z lxZ); (try simp only [List.cons_append, List.nil_append] at NZ); (try k_sweep); (try dsimp only); (try k_fold)))
  trivial

section
variable {w : World} {p : Program} {loose : List Str} {mean : ExcName → Option Value} {mg mb : Str → Option Value} {dp un : Nat} {gd : Option (List Code)} {cn : Str} {cs : Scope} {a : Addr} {ccd : Value} {cl : List (Str × Addr)} {outer : List Env} {A₀ : Around} {base h₀ : Heap} {L : Addr} {m : Str → Option Value} {s : Shared} {Q E : Value → Shared → Prop} {led dk gr lits : Led}
theorem null0 (B : Below A₀ base outer h₀) (F : Fr h₀ L s.heap m) (X : (top.heap_1_39 w.params).In h₀) (N : News h₀ L s.heap led) (T : Top p loose mean mg mb h₀) (hk : cs.kind = .function) (hdp : dp + 5 < recursionLimit) (hun : un + 40 < cLine)
    (hret : ∀ (x dx : Nat) t h1 h2 h3 h4 t1 t2 t3 t4 tk h' tk', Fr h₀ L h' m → News h₀ L h' ((x, instObj 72 dx) :: (dx, thingD h1 h2 h3 h4 t1 t2 t3 t4 (.str (Str.ofString "null") tk) .none (.bool false) (.int 3 t)) :: led) → AllLt dx led → dx < x → Q (.ref x) { s with heap := h', toks := tk' }) :
    wpAny (model PySem.Challenge.rw_nt0501_01.row.prog w) (ktrTop dp un gd cn cs L a ccd cl outer) (call (.ref 187) []) Q E s := by
  revert X; k_fill; intro X
  refine' entD (binds := []) ?k1 ?k2 ?k3 ?k4 ?k5 ?kK ?k6 ?k7 ?k8 ?k9 ?kO ?_; (case kK => first | exact rfl | assumption); (case k1 => k_asm); (case k2 => k_asm); (case k3 => k_asm); (case k4 => k_asm); (case k5 => k_asm); (case k6 => k_is); (case k7 => k_is); (case k8 => k_extra "ktr_room")
  (case k9 => exact BindsTo.of_eq (by kernel_rfl))
  (case kO => kernel_rfl)
  intro g' L' h' tk9 g9 d9 o9 A9 m9 ek9 qk F' N' B' X' T'
  (try k_lift B')
  clear F N
  k_extra "k_steps"
  all_goals (apply hret <;> k_extra "kd_facts")
theorem ofRow {rb drb c k : Nat} {g1 g2 g3 g4 u1 u2 u3 u4} {nu gl lv : Value} {its : List Value} (B : Below A₀ base outer h₀) (F : Fr h₀ L s.heap m) (X : (top.heap_1_39 w.params).In h₀) (N : News h₀ L s.heap led) (T : Top p loose mean mg mb h₀) (hk : cs.kind = .function) (h1 : (rb, instObj 114 drb) ∈ led) (h2 : (drb, rowD g1 g2 g3 g4 u1 u2 u3 u4 nu (.ref c) gl lv) ∈ led) (h3 : (c, listOf its.toArray k) ∈ led) (hz : its.length < 10000)
    (hdp : dp + 5 < recursionLimit) (hun : un + 40 < cLine)
    (hret : ∀ (x dx y dy : Nat) t h1 h2 h3 h4 t1 t2 t3 t4 tk i1 i2 i3 v1 v2 v3 tz tl h' tk', Fr h₀ L h' m → News h₀ L h' ((x, instObj 72 dx) :: (dx, thingD h1 h2 h3 h4 t1 t2 t3 t4 (.str (Str.ofString "array") tk) (.ref y) (.bool false) (.int 3 t)) ::
       (y, instObj 168 dy) :: (dy, spanD i1 i2 i3 v1 v2 v3 (.ref rb) (.int 0 tz) (.int its.length tl)) :: led) → AllLt dy led → dy < y → y < dx → dx < x → Q (.ref x) { s with heap := h', toks := tk' }) :
    wpAny (model PySem.Challenge.rw_nt0501_01.row.prog w) (ktrTop dp un gd cn cs L a ccd cl outer) (call (.ref 203) [.ref rb]) Q E s := by
  revert X; k_fill; intro X
  refine' entD (binds := [(Str.ofString "row", .ref rb), (Str.ofString "is_exec", .bool false), (Str.ofString "access", .int 3 247)]) ?k1 ?k2 ?k3 ?k4 ?k5 ?kK ?k6 ?k7 ?k8 ?k9 ?kO ?_; (case kK => first | exact rfl | assumption); (case k1 => k_asm); (case k2 => k_asm); (case k3 => k_asm); (case k4 => k_asm); (case k5 => k_asm); (case k6 => k_is); (case k7 => k_is); (case k8 => k_extra "ktr_room")
  (case k9 => exact binds_K (by k_in) rfl (by k_is) rfl rfl (by kernel_rfl))
  (case kO => kernel_rfl)
  intro g' L' h' tk9 g9 d9 o9 A9 m9 ek9 qk F' N' B' X' T'
  (try k_lift B')
  clear F N
  k_extra "k_steps"
  all_goals (apply hret <;> k_extra "kd_facts")
theorem ofPacked {rb drb c k : Nat} {g1 g2 g3 g4 u1 u2 u3 u4} {nu gl lv : Value} {its : List Value} (B : Below A₀ base outer h₀) (F : Fr h₀ L s.heap m) (X : (top.heap_1_39 w.params).In h₀) (N : News h₀ L s.heap led) (T : Top p loose mean mg mb h₀) (hk : cs.kind = .function) (h1 : (rb, instObj 114 drb) ∈ led) (h2 : (drb, rowD g1 g2 g3 g4 u1 u2 u3 u4 nu (.ref c) gl lv) ∈ led) (h3 : (c, listOf its.toArray k) ∈ led) (hz : its.length < 10000)
    (hdp : dp + 5 < recursionLimit) (hun : un + 40 < cLine)
    (hret : ∀ (x dx y dy : Nat) t h1 h2 h3 h4 t1 t2 t3 t4 tk i1 i2 i3 v1 v2 v3 tz tl h' tk', Fr h₀ L h' m → News h₀ L h' ((x, instObj 72 dx) :: (dx, thingD h1 h2 h3 h4 t1 t2 t3 t4 (.str (Str.ofString "packed") tk) (.ref y) (.bool false) (.int 2 t)) ::
       (y, instObj 168 dy) :: (dy, spanD i1 i2 i3 v1 v2 v3 (.ref rb) (.int 0 tz) (.int its.length tl)) :: led) → AllLt dy led → dy < y → y < dx → dx < x → Q (.ref x) { s with heap := h', toks := tk' }) :
    wpAny (model PySem.Challenge.rw_nt0501_01.row.prog w) (ktrTop dp un gd cn cs L a ccd cl outer) (call (.ref 211) [.ref rb]) Q E s := by
  revert X; k_fill; intro X
  refine' entD (binds := [(Str.ofString "row", .ref rb), (Str.ofString "is_exec", .bool false)]) ?k1 ?k2 ?k3 ?k4 ?k5 ?kK ?k6 ?k7 ?k8 ?k9 ?kO ?_; (case kK => first | exact rfl | assumption); (case k1 => k_asm); (case k2 => k_asm); (case k3 => k_asm); (case k4 => k_asm); (case k5 => k_asm); (case k6 => k_is); (case k7 => k_is); (case k8 => k_extra "ktr_room")
  (case k9 => exact binds_K (by k_in) rfl (by k_is) rfl rfl (by kernel_rfl))
  (case kO => kernel_rfl)
  intro g' L' h' tk9 g9 d9 o9 A9 m9 ek9 qk F' N' B' X' T'
  (try k_lift B')
  clear F N
  k_extra "k_steps"
  all_goals (apply hret <;> k_extra "kd_facts")
theorem ofDict {v : Value} (B : Below A₀ base outer h₀) (F : Fr h₀ L s.heap m) (X : (top.heap_1_39 w.params).In h₀) (N : News h₀ L s.heap led) (T : Top p loose mean mg mb h₀) (hk : cs.kind = .function) (hdp : dp + 5 < recursionLimit) (hun : un + 40 < cLine)
    (hret : ∀ (x dx : Nat) t h1 h2 h3 h4 t1 t2 t3 t4 tk h' tk', Fr h₀ L h' m → News h₀ L h' ((x, instObj 72 dx) :: (dx, thingD h1 h2 h3 h4 t1 t2 t3 t4 (.str (Str.ofString "dict") tk) v (.bool false) (.int 3 t)) :: led) → AllLt dx led → dx < x → Q (.ref x) { s with heap := h', toks := tk' }) :
    wpAny (model PySem.Challenge.rw_nt0501_01.row.prog w) (ktrTop dp un gd cn cs L a ccd cl outer) (call (.ref 218) [v]) Q E s := by
  revert X; k_fill; intro X
  refine' entD (binds := [(Str.ofString "body", v)]) ?k1 ?k2 ?k3 ?k4 ?k5 ?kK ?k6 ?k7 ?k8 ?k9 ?kO ?_; (case kK => first | exact rfl | assumption); (case k1 => k_asm); (case k2 => k_asm); (case k3 => k_asm); (case k4 => k_asm); (case k5 => k_asm); (case k6 => k_is); (case k7 => k_is); (case k8 => k_extra "ktr_room")
  (case k9 => exact BindsTo.of_eq (by kernel_rfl))
  (case kO => kernel_rfl)
  intro g' L' h' tk9 g9 d9 o9 A9 m9 ek9 qk F' N' B' X' T'
  (try k_lift B')
  clear F N
  k_extra "k_steps"
  all_goals (apply hret <;> k_extra "kd_facts")
end

theorem words_08 : True := by
  w_top off
  (k_with "call ref" => ((first | (with_reducible show wpAny _ _ (call (Value.ref 187) []) _ _ _) | ((conv => arg 3; dsimp only [List.cons_append, List.nil_append]); (with_reducible show wpAny _ _ (call (Value.ref 187) []) _ _ _))); k_dflt (refine' null0 (by k_asm) (by k_asm) (by k_asm) (by k_asm) (by k_asm) (by first | exact rfl | assumption)  (by k_extra "ktr_room") (by k_extra "ktr_units") ?_); intro xZ dxZ ttZ h1Z h2Z h3Z h4Z t1Z t2Z t3Z t4Z tk1Z hZ tkZ FZ NZ l1Z l2Z; (have lxZ := allLt_trans l1Z l2Z); (try dsimp only [List.cons_append, List.nil_append, AllLt] at l1Z lxZ); (try simp only [List.cons_append, List.nil_append] at NZ); (try k_sweep); (try dsimp only); (try k_fold)))
  (k_with "call ref" => ((first | (with_reducible show wpAny _ _ (call (Value.ref 203) [Value.ref _]) _ _ _) | ((conv => arg 3; dsimp only [List.cons_append, List.nil_append]); (with_reducible show wpAny _ _ (call (Value.ref 203) [Value.ref _]) _ _ _))); k_dflt (refine' ofRow (by k_asm) (by k_asm) (by k_asm) (by k_asm) (by k_asm) (by first | exact rfl | assumption) (by k_extra "k_mem") (by k_extra "k_mem") (by k_extra "k_mem") (by first | omega | (simp <;> omega)) (by k_extra "ktr_room") (by k_extra "ktr_units") ?_); intro xZ dxZ yZ dyZ ttZ h1Z h2Z h3Z h4Z t1Z t2Z t3Z t4Z tk1Z i1Z i2Z i3Z v1Z v2Z v3Z tzZ tlZ hZ tkZ FZ NZ l1Z l2Z l3Z l4Z; (have lxZ := allLt_trans l1Z l2Z); (have lyZ := allLt_trans lxZ l3Z); (have lzZ := allLt_trans lyZ l4Z); (try dsimp only [List.cons_append, List.nil_append, AllLt] at l1Z lxZ lyZ lzZ); (try simp only [List.cons_append, List.nil_append] at NZ); (try k_sweep); (try dsimp only); (try k_fold)))
  (k_with "call ref" => ((first | (with_reducible show wpAny _ _ (call (Value.ref 211) [Value.ref _]) _ _ _) | ((conv => arg 3; dsimp only [List.cons_append, List.nil_append]); (with_reducible show wpAny _ _ (call (Value.ref 211) [Value.ref _]) _ _ _))); k_dflt (refine' ofPacked (by k_asm) (by k_asm) (by k_asm) (by k_asm) (by k_asm) (by first | exact rfl | assumption) (by k_extra "k_mem") (by k_extra "k_mem") (by k_extra "k_mem") (by first | omega | (simp <;> omega)) (by k_extra "ktr_room") (by k_extra "ktr_units") ?_); intro xZ dxZ yZ dyZ ttZ h1Z h2Z h3Z h4Z t1Z t2Z t3Z t4Z tk1Z i1Z i2Z i3Z v1Z v2Z v3Z tzZ tlZ hZ tkZ FZ NZ l1Z l2Z l3Z l4Z; (have lxZ := allLt_trans l1Z l2Z); (have lyZ := allLt_trans lxZ l3Z); (have lzZ := allLt_trans lyZ l4Z); (try dsimp only [List.cons_append, List.nil_append, AllLt] at l1Z lxZ lyZ lzZ); (try simp only [List.cons_append, List.nil_append] at NZ); (try k_sweep); (try dsimp only); (try k_fold)))
  (k_with "call ref" => ((first | (with_reducible show wpAny _ _ (call (Value.ref 218) [_]) _ _ _) | ((conv => arg 3; dsimp only [List.cons_append, List.nil_append]); (with_reducible show wpAny _ _ (call (Value.ref 218) [_]) _ _ _))); k_dflt (refine' ofDict (by k_asm) (by k_asm) (by k_asm) (by k_asm) (by k_asm) (by first | exact rfl | assumption)  (by k_extra "ktr_room") (by k_extra "ktr_units") ?_); intro xZ dxZ ttZ h1Z h2Z h3Z h4Z t1Z t2Z t3Z t4Z tk1Z hZ tkZ FZ NZ l1Z l2Z; (have lxZ := allLt_trans l1Z l2Z); (try dsimp only [List.cons_append, List.nil_append, AllLt] at l1Z lxZ); (try simp only [List.cons_append, List.nil_append] at NZ); (try k_sweep); (try dsimp only); (try k_fold)))
  trivial

section
variable {w : World} {p : Program} {loose : List Str} {mean : ExcName → Option Value} {mg mb : Str → Option Value} {dp un : Nat} {gd : Option (List Code)} {cn : Str} {cs : Scope} {a : Addr} {ccd : Value} {cl : List (Str × Addr)} {outer : List Env} {A₀ : Around} {base h₀ : Heap} {L : Addr} {m : Str → Option Value} {s : Shared} {Q E : Value → Shared → Prop} {led dk gr lits : Led}
set_option maxRecDepth 1000000 in
theorem limits0 (B : Below A₀ base outer h₀) (F : Fr h₀ L s.heap m) (X : (top.heap_1_39 w.params).In h₀) (N : News h₀ L s.heap led) (T : Top p loose mean mg mb h₀) (hk : cs.kind = .function) (hdp : dp + 5 < recursionLimit) (hun : un + 40 < cLine)
    (hret : ∀ (x dx : Nat) t1 t2 t3 t4 t5 t6 t7 t8 t9 t10 t11 t12 t13 t14 h' tk', Fr h₀ L h' m → News h₀ L h' ((x, instObj 313 dx) :: (dx, limD w t1 t2 t3 t4 t5 t6 t7 t8 t9 t10 t11 t12 t13 t14) :: led) → AllLt dx led → dx < x → Q (.ref x) { s with heap := h', toks := tk' }) :
    wpAny (model PySem.Challenge.rw_nt0501_01.row.prog w) (ktrTop dp un gd cn cs L a ccd cl outer) (call (.ref 313) []) Q E s := by
  revert X; k_fill; intro X
  refine' entI (binds := fun x' => [(Str.ofString "self", .ref x'), (Str.ofString "operands", .int 500 585), (Str.ofString "dicts", .int 20 586), (Str.ofString "frames", .int 250 587), (Str.ofString "saves", .int 15 588), (Str.ofString "gstates", .int 31 589), (Str.ofString "text", .int 65535 590), (Str.ofString "row", .int 65535 591), (Str.ofString "entries", .int 65535 592), (Str.ofString "word", .int 127 593), (Str.ofString "path", .int 1500 594), (Str.ofString "dash", .int 11 595), (Str.ofString "files", .int 15 596), (Str.ofString "system", .int 600 597), (Str.ofString "vm", .int 16777216 571)]) ?k1 ?k2 ?k3 ?k4 ?k5 ?kK ?c4 ?c5 ?c6 ?k6 ?k7 ?k8 ?k9 ?kO ?_; (case kK => first | exact rfl | assumption); (case k1 => k_asm); (case k2 => k_asm); (case k3 => k_asm); (case k4 => k_asm); (case k5 => k_asm); (case c4 => k_is); (case c5 => k_is); (case c6 => k_is); (case k6 => k_is); (case k7 => k_is); (case k8 => k_extra "ktr_room")
  (case k9 => intro x' h1 X1; exact binds_K (by k_in) rfl (by k_is) rfl rfl (by kernel_rfl))
  (case kO => intro x'; kernel_rfl)
  intro x' d' g' L' h' tk9 g9 d9 o9 Au9 A9 m9 ek9 qk l1 l2 F' N' B' X' T'; (try k_lt l1); (try k_lt2 l2)
  clear F N
  (try k_lift B')
  k_extra "k_steps"
  exact hret _ _ _ _ _ _ _ _ _ _ _ _ _ _ _ _ _ _ (by k_asm) (by k_asm) (allLt_of l1) l2
theorem memory1 {lim dlim : Nat} {a1 a2 a3 a4 a5 a6 a7 a8 a9 a10 a11 a12 a13 a14 : Tok} {rest : Led} (B : Below A₀ base outer h₀) (F : Fr h₀ L s.heap m) (X : (top.heap_1_39 w.params).In h₀) (N : News h₀ L s.heap led) (T : Top p loose mean mg mb h₀) (hk : cs.kind = .function) (hled : led = (lim, instObj 313 dlim) :: (dlim, limD w a1 a2 a3 a4 a5 a6 a7 a8 a9 a10 a11 a12 a13 a14) :: rest) (hl : AllLt dlim rest) (hl2 : dlim < lim) (hdp : dp + 5 < recursionLimit) (hun : un + 40 < cLine)
    (hret : ∀ mm mk h' tk', Fr h₀ L h' m → News h₀ L h' (mk ++ rest) → Mem w mm mk 0 → Apart mk rest → Q (.ref mm) { s with heap := h', toks := tk' }) :
    wpAny (model PySem.Challenge.rw_nt0501_01.row.prog w) (ktrTop dp un gd cn cs L a ccd cl outer) (call (.ref 594) [.ref lim]) Q E s := by
  subst hled
  have hl3 := allLt_trans hl hl2
  revert X; k_fill; intro X
  refine' entI (binds := fun x' => [(Str.ofString "self", .ref x'), (Str.ofString "limits", .ref lim)]) ?k1 ?k2 ?k3 ?k4 ?k5 ?kK ?c4 ?c5 ?c6 ?k6 ?k7 ?k8 ?k9 ?kO ?_; (case kK => first | exact rfl | assumption); (case k1 => k_asm); (case k2 => k_asm); (case k3 => k_asm); (case k4 => k_asm); (case k5 => k_asm); (case c4 => k_is); (case c5 => k_is); (case c6 => k_is); (case k6 => k_is); (case k7 => k_is); (case k8 => k_extra "ktr_room")
  (case k9 => intro x' h1 X1; exact BindsTo.of_eq (by kernel_rfl))
  (case kO => intro x'; kernel_rfl)
  intro x' d' g' L' h' tk9 g9 d9 o9 Au9 A9 m9 ek9 qk l1 l2 F' N' B' X' T'; (try k_lt l1); (try k_lt2 l2)
  clear F N
  (try k_lift B')
  k_extra "k_steps"
  rename News h₀ _ _ _ => nE
  simp only [AllLt, and_true] at *
  refine' hret x' [(x', _), (_, _), (_, _), (_, _), (_, _), (_, _)] _ _ ?hf (news_sub nE ?ha) (.mk (xs := []) ?c1 ?c2 ?c3 ?c4 ?c5 ?c6 ?c7 ?c8 ?c9 ?c10 ?c11) ?hb
  (case hf => k_asm)
  (case ha => k_extra "kqd_sub")
  all_goals first | omega | assumption | skip
  · exact fun _ h => nomatch h
  · exact List.nodup_nil
  · exact Nat.le_refl _
  · have l1' := l1
    exact Apart.cons (allLt_off (allLt_trans l1'.2.2 l2)) (Apart.cons (allLt_off l1'.2.2) (Apart.cons (allLt_off hl3) (Apart.cons (allLt_off hl) (Apart.cons (allLt_off (by tbn_find)) (Apart.cons (allLt_off (by tbn_find)) Apart.nil)))))
end

section
variable {w : World} {p : Program} {loose : List Str} {mean : ExcName → Option Value} {mg mb : Str → Option Value} {dp un : Nat} {gd : Option (List Code)} {cn : Str} {cs : Scope} {a : Addr} {ccd : Value} {cl : List (Str × Addr)} {outer : List Env} {A₀ : Around} {base h₀ : Heap} {L : Addr} {m : Str → Option Value} {s : Shared} {Q E : Value → Shared → Prop} {led dk gr lits : Led}
theorem manyOk {x y : Int} {tx ty : Tok} (B : Below A₀ base outer h₀) (F : Fr h₀ L s.heap m) (X : (top.heap_1_39 w.params).In h₀) (N : News h₀ L s.heap led) (T : Top p loose mean mg mb h₀) (hk : cs.kind = .function) (h0 : 0 ≤ x) (h1 : x ≤ y) (hdp : dp + 3 < recursionLimit) (hun : un + 24 < cLine)
    (hret : ∀ h' tk', Fr h₀ L h' m → News h₀ L h' led → Q .none { s with heap := h', toks := tk' }) :
    wpAny (model PySem.Challenge.rw_nt0501_01.row.prog w) (ktrTop dp un gd cn cs L a ccd cl outer) (call (.ref 603) [.int x tx, .int y ty]) Q E s := by
  revert X; k_fill; intro X
  refine' entD (binds := [(Str.ofString "many", .int x tx), (Str.ofString "most", .int y ty)]) ?k1 ?k2 ?k3 ?k4 ?k5 ?kK ?k6 ?k7 ?k8 ?k9 ?kO ?_; (case kK => first | exact rfl | assumption); (case k1 => k_asm); (case k2 => k_asm); (case k3 => k_asm); (case k4 => k_asm); (case k5 => k_asm); (case k6 => k_is); (case k7 => k_is); (case k8 => k_extra "ktr_room")
  (case k9 => exact BindsTo.of_eq (by kernel_rfl))
  (case kO => kernel_rfl)
  intro g' L' h' tk9 g9 d9 o9 A9 m9 ek9 qk F' N' B' X' T'
  (try k_lift B')
  clear F N
  k_extra "k_steps"
  all_goals (apply hret <;> k_extra "kd_facts")
theorem bodyLevel0 {mm dm sv : Nat} {b1 b2 b3 b4 b5 b6 b7 b8 b9 b10 : Tok} {v1 v4 v5 v6 v7 v8 v9 v10 : Value} (B : Below A₀ base outer h₀) (F : Fr h₀ L s.heap m) (X : (top.heap_1_39 w.params).In h₀) (N : News h₀ L s.heap led) (T : Top p loose mean mg mb h₀) (hk : cs.kind = .function) (m1 : (mm, instObj 594 dm) ∈ led) (m2 : (dm, memD w b1 b2 b3 b4 b5 b6 b7 b8 b9 b10 v1 (.bool false) (.ref sv) v4 v5 v6 v7 v8 v9 v10) ∈ led) (m5 : (sv, listOf #[] 0) ∈ led) (hdp : dp + 5 < recursionLimit) (hun : un + 40 < cLine)
    (hret : ∀ t h' tk', Fr h₀ L h' m → News h₀ L h' led → Q (.int 0 t) { s with heap := h', toks := tk' }) :
    wpAny (model PySem.Challenge.rw_nt0501_01.row.prog w) (ktrTop dp un gd cn cs L a ccd cl outer) (call (.ref 367) [.ref mm]) Q E s := by
  revert X; k_fill; intro X
  refine' entD (binds := [(Str.ofString "self", .ref mm)]) ?k1 ?k2 ?k3 ?k4 ?k5 ?kK ?k6 ?k7 ?k8 ?k9 ?kO ?_; (case kK => first | exact rfl | assumption); (case k1 => k_asm); (case k2 => k_asm); (case k3 => k_asm); (case k4 => k_asm); (case k5 => k_asm); (case k6 => k_is); (case k7 => k_is); (case k8 => k_extra "ktr_room")
  (case k9 => exact BindsTo.of_eq (by kernel_rfl))
  (case kO => kernel_rfl)
  intro g' L' h' tk9 g9 d9 o9 A9 m9 ek9 qk F' N' B' X' T'
  (try k_lift B')
  clear F N
  k_extra "k_steps"
  all_goals (apply hret <;> k_extra "kd_facts")
theorem bodyLevel {mm nb : Nat} {mk : Led} (B : Below A₀ base outer h₀) (F : Fr h₀ L s.heap m) (X : (top.heap_1_39 w.params).In h₀) (N : News h₀ L s.heap led) (T : Top p loose mean mg mb h₀) (hk : cs.kind = .function) (hM : Mem w mm mk nb) (hsub : Sub mk led) (hdp : dp + 5 < recursionLimit) (hun : un + 40 < cLine)
    (hret : ∀ t h' tk', Fr h₀ L h' m → News h₀ L h' led → Q (.int 0 t) { s with heap := h', toks := tk' }) :
    wpAny (model PySem.Challenge.rw_nt0501_01.row.prog w) (ktrTop dp un gd cn cs L a ccd cl outer) (call (.ref 367) [.ref mm]) Q E s := by
  obtain ⟨c1, c2, c3, c4, c5, lo, hxs, hnd, hlen, hu0, hu1⟩ := hM
  exact bodyLevel0 B F X N T hk (hsub _ (.head _)) (hsub _ (.tail _ (.head _))) (hsub _ (.tail _ (.tail _ (.tail _ (.tail _ (.head _)))))) hdp hun hret
theorem checkRoom {mm nb : Nat} {mk : Led} {cost : Int} {tc : Tok} (B : Below A₀ base outer h₀) (F : Fr h₀ L s.heap m) (X : (top.heap_1_39 w.params).In h₀) (N : News h₀ L s.heap led) (T : Top p loose mean mg mb h₀) (hk : cs.kind = .function) (hM : Mem w mm mk nb) (hsub : Sub mk led) (hnb : nb < 1000) (hc0 : 0 ≤ cost) (hc1 : cost ≤ 200) (hdp : dp + 5 < recursionLimit) (hun : un + 40 < cLine)
    (hret : ∀ h' tk', Fr h₀ L h' m → News h₀ L h' led → Q .none { s with heap := h', toks := tk' }) :
    wpAny (model PySem.Challenge.rw_nt0501_01.row.prog w) (ktrTop dp un gd cn cs L a ccd cl outer) (call (.ref 381) [.ref mm, .int cost tc]) Q E s := by
  obtain ⟨c1, c2, c3, c4, c5, lo, hxs, hnd, hlen, hu0, hu1⟩ := hM
  simp only [Sub, List.forall_mem_cons] at hsub
  obtain ⟨m1, m2, m3, m4, m5, m6, -⟩ := hsub
  revert X; k_fill; intro X
  refine' entD (binds := [(Str.ofString "self", .ref mm), (Str.ofString "cost", .int cost tc)]) ?k1 ?k2 ?k3 ?k4 ?k5 ?kK ?k6 ?k7 ?k8 ?k9 ?kO ?_; (case kK => first | exact rfl | assumption); (case k1 => k_asm); (case k2 => k_asm); (case k3 => k_asm); (case k4 => k_asm); (case k5 => k_asm); (case k6 => k_is); (case k7 => k_is); (case k8 => k_extra "ktr_room")
  (case k9 => exact BindsTo.of_eq (by kernel_rfl))
  (case kO => kernel_rfl)
  intro g' L' h' tk9 g9 d9 o9 A9 m9 ek9 qk F' N' B' X' T'
  (try k_lift B')
  clear F N
  k_extra "k_steps"
  all_goals (apply hret <;> k_extra "kd_facts")
end

theorem words_11 : True := by
  w_top off
  (k_with "call ref" => ((first | (with_reducible show wpAny _ _ (call (Value.ref 603) [_, _]) _ _ _) | ((conv => arg 3; dsimp only [List.cons_append, List.nil_append]); (with_reducible show wpAny _ _ (call (Value.ref 603) [_, _]) _ _ _))); k_dflt (refine' manyOk (by k_asm) (by k_asm) (by k_asm) (by k_asm) (by k_asm) (by first | exact rfl | assumption) (by omega) (by omega) (by k_extra "ktr_room") (by k_extra "ktr_units") ?_); intro hZ tkZ FZ NZ; (try simp only [List.cons_append, List.nil_append] at NZ); (try k_sweep); (try dsimp only); (try k_fold)))
  (k_with "call ref" => ((first | (with_reducible show wpAny _ _ (call (Value.ref 367) [_]) _ _ _) | ((conv => arg 3; dsimp only [List.cons_append, List.nil_append]); (with_reducible show wpAny _ _ (call (Value.ref 367) [_]) _ _ _))); k_dflt (refine' bodyLevel (by k_asm) (by k_asm) (by k_asm) (by k_asm) (by k_asm) (by first | exact rfl | assumption) (by assumption) (by k_extra "kqd_sub") (by k_extra "ktr_room") (by k_extra "ktr_units") ?_); intro tZ hZ tkZ FZ NZ; (try simp only [List.cons_append, List.nil_append] at NZ); (try k_sweep); (try dsimp only); (try k_fold)))
  (k_with "call ref" => ((first | (with_reducible show wpAny _ _ (call (Value.ref 367) [_]) _ _ _) | ((conv => arg 3; dsimp only [List.cons_append, List.nil_append]); (with_reducible show wpAny _ _ (call (Value.ref 367) [_]) _ _ _))); k_dflt (refine' bodyLevel0 (by k_asm) (by k_asm) (by k_asm) (by k_asm) (by k_asm) (by first | exact rfl | assumption) (by k_extra "k_mem") (by k_extra "k_mem") (by k_extra "k_mem") (by k_extra "ktr_room") (by k_extra "ktr_units") ?_); intro tZ hZ tkZ FZ NZ; (try simp only [List.cons_append, List.nil_append] at NZ); (try k_sweep); (try dsimp only); (try k_fold)))
  (k_with "call ref" => ((first | (with_reducible show wpAny _ _ (call (Value.ref 381) [_, _]) _ _ _) | ((conv => arg 3; dsimp only [List.cons_append, List.nil_append]); (with_reducible show wpAny _ _ (call (Value.ref 381) [_, _]) _ _ _))); k_dflt (refine' checkRoom (by k_asm) (by k_asm) (by k_asm) (by k_asm) (by k_asm) (by first | exact rfl | assumption) (by assumption) (by k_extra "kqd_sub") (by omega) (by omega) (by omega) (by k_extra "ktr_room") (by k_extra "ktr_units") ?_); intro hZ tkZ FZ NZ; (try simp only [List.cons_append, List.nil_append] at NZ); (try k_sweep); (try dsimp only); (try k_fold)))
  trivial

section
variable {w : World} {p : Program} {loose : List Str} {mean : ExcName → Option Value} {mg mb : Str → Option Value} {dp un : Nat} {gd : Option (List Code)} {cn : Str} {cs : Scope} {a : Addr} {ccd : Value} {cl : List (Str × Addr)} {outer : List Env} {A₀ : Around} {base h₀ : Heap} {L : Addr} {m : Str → Option Value} {s : Shared} {Q E : Value → Shared → Prop} {led dk gr lits : Led}
theorem takeRoom0 {mm nb dm lim dlim sv md n : Nat} {a1 a2 a3 a4 a5 a6 a7 a8 a9 a10 a11 a12 a13 a14 b1 b2 b3 b4 b5 b6 b7 b8 b9 b10 tu tg tb : Tok} {jr fr ls : Value} {u : Int} {xs : List KX} {rest : Led} {cost : Int} {tc : Tok}
    (B : Below A₀ base outer h₀) (F : Fr h₀ L s.heap m) (X : (top.heap_1_39 w.params).In h₀) (N : News h₀ L s.heap led) (T : Top p loose mean mg mb h₀) (hk : cs.kind = .function) (hled : led = (mm, instObj 594 dm) :: (dm, memD w b1 b2 b3 b4 b5 b6 b7 b8 b9 b10 (.ref lim) (.bool false) (.ref sv) jr (.ref md) fr (.int u tu) (.int 0 tg) (.int nb tb) ls) :: (lim, instObj 313 dlim) :: (dlim, limD w a1 a2 a3 a4 a5 a6 a7 a8 a9 a10 a11 a12 a13 a14) :: (sv, listOf #[] 0) :: (md, kdict w xs n) :: rest)
    (c1 : dlim < lim) (c2 : lim < dm) (c3 : dm < mm) (c4 : mm < sv) (c5 : sv < md) (lo : (md == sysModules) = false) (hxs : AllNum xs) (hnd : KNd xs) (hlen : xs.length ≤ nb) (hu0 : 0 ≤ u) (hu1 : u ≤ 200 * nb)
    (o1 : Off dm rest) (o2 : Off md rest) (hnb : nb < 1000) (hc0 : 0 ≤ cost) (hc1 : cost ≤ 200) (hdp : dp + 7 < recursionLimit) (hun : un + 56 < cLine)
    (hret : ∀ t mk h' tk', Fr h₀ L h' m → News h₀ L h' (mk ++ rest) → Mem w mm mk (nb + 1) → mk.map (·.1) = [mm, dm, lim, dlim, sv, md] → Q (.int (nb + 1) t) { s with heap := h', toks := tk' }) :
    wpAny (model PySem.Challenge.rw_nt0501_01.row.prog w) (ktrTop dp un gd cn cs L a ccd cl outer) (call (.ref 374) [.ref mm, .int cost tc]) Q E s := by
  subst hled
  have hM : Mem w mm [(mm, instObj 594 dm), (dm, memD w b1 b2 b3 b4 b5 b6 b7 b8 b9 b10 (.ref lim) (.bool false) (.ref sv) jr (.ref md) fr (.int u tu) (.int 0 tg) (.int nb tb) ls), (lim, instObj 313 dlim), (dlim, limD w a1 a2 a3 a4 a5 a6 a7 a8 a9 a10 a11 a12 a13 a14), (sv, listOf #[] 0), (md, kdict w xs n)] nb := .mk c1 c2 c3 c4 c5 lo hxs hnd hlen hu0 hu1
  revert X; k_fill; intro X
  refine' entD (binds := [(Str.ofString "self", .ref mm), (Str.ofString "cost", .int cost tc)]) ?k1 ?k2 ?k3 ?k4 ?k5 ?kK ?k6 ?k7 ?k8 ?k9 ?kO ?_; (case kK => first | exact rfl | assumption); (case k1 => k_asm); (case k2 => k_asm); (case k3 => k_asm); (case k4 => k_asm); (case k5 => k_asm); (case k6 => k_is); (case k7 => k_is); (case k8 => k_extra "ktr_room")
  (case k9 => exact BindsTo.of_eq (by kernel_rfl))
  (case kO => kernel_rfl)
  intro g' L' h' tk9 g9 d9 o9 A9 m9 ek9 qk F' N' B' X' T'
  (try k_lift B')
  clear F N
  k_extra "k_steps"
  rename News h₀ _ _ _ => nE
  refine' hret _ [(mm, _), (_, _), (_, _), (_, _), (_, _), (_, _)] _ _ ?hf (news_sub nE ?ha) (.mk (xs := kput (.num (nb + 1)) _ _ xs) ?c1 ?c2 ?c3 ?c4 ?c5 ?c6 ?c7 ?c8 ?c9 ?c10 ?c11) ?hb
  (case hf => k_asm)
  (case ha => k_extra "kqd_sub")
  all_goals first | omega | assumption | exact rfl | skip
  · rename AllNum xs => hq
    exact AllNum.put hq
  · exact KNd.put (by assumption)
  · have := kput_length_le (k := .num (nb + 1)) (key := Value.int (nb + 1) 0) (v := Value.none) xs
    have e := congrArg List.length (kput_keys (k := .num (nb + 1)) (key := Value.int (nb + 1) 0) (v := Value.none) xs)
    have e2 := fun key v => congrArg List.length (kput_keys (k := .num (nb + 1)) (key := key) (v := v) xs)
    simp only [List.length_map] at e e2
    rw [e2, ← e]
    omega
theorem takeRoom {mm nb : Nat} {mk : Led} {cost : Int} {tc : Tok} (B : Below A₀ base outer h₀) (F : Fr h₀ L s.heap m) (X : (top.heap_1_39 w.params).In h₀) (N : News h₀ L s.heap led) (T : Top p loose mean mg mb h₀) (hk : cs.kind = .function) (hM : Mem w mm mk nb) (hT : Tail (dk ++ (mk ++ gr)) led lits) (hl : Apart lits mk) (hd : Apart dk mk) (hg : Apart gr mk)
    (hnb : nb < 1000) (hc0 : 0 ≤ cost) (hc1 : cost ≤ 200) (hdp : dp + 7 < recursionLimit) (hun : un + 56 < cLine)
    (hret : ∀ t mk' h' tk', Fr h₀ L h' m → News h₀ L h' (lits ++ (dk ++ (mk' ++ gr))) → Mem w mm mk' (nb + 1) → Apart lits mk' → Apart dk mk' → Apart gr mk' → Q (.int (nb + 1) t) { s with heap := h', toks := tk' }) :
    wpAny (model PySem.Challenge.rw_nt0501_01.row.prog w) (ktrTop dp un gd cn cs L a ccd cl outer) (call (.ref 374) [.ref mm, .int cost tc]) Q E s := by
  have e := hT.eq
  subst e
  obtain ⟨c1, c2, c3, c4, c5, lo, hxs, hnd, hlen, hu0, hu1⟩ := hM
  have o := fun x hx => off_app (fun p hp => hl.symm.off' (x := x) hx p hp) (off_app (fun p hp => hd.symm.off' hx p hp) (fun p hp => hg.symm.off' hx p hp))
  refine' takeRoom0 (rest := lits ++ (dk ++ gr)) B F X (news_sub N ?hs) T hk rfl c1 c2 c3 c4 c5 lo hxs hnd hlen hu0 hu1 (o _ (.tail _ (.head _))) (o _ (.tail _ (.tail _ (.tail _ (.tail _ (.tail _ (.head _))))))) hnb hc0 hc1 hdp hun ?ht
  (case hs => k_extra "kqd_sub")
  intro t mk' h' tk' F' N' hM' hm
  exact hret t mk' h' tk' F' (news_sub N' (by k_extra "kqd_sub")) hM' (hl.congr hm) (hd.congr hm) (hg.congr hm)
end

theorem words_13 : True := by
  w_top off
  (k_with "call ref" => ((first | (with_reducible show wpAny _ _ (call (Value.ref 374) [_, _]) _ _ _) | ((conv => arg 3; dsimp only [List.cons_append, List.nil_append]); (with_reducible show wpAny _ _ (call (Value.ref 374) [_, _]) _ _ _))); k_dflt (refine' takeRoom (by k_asm) (by k_asm) (by k_asm) (by k_asm) (by k_asm) (by first | exact rfl | assumption) (by assumption) (by k_extra "kd_mem") (by k_extra "kd_all") (by k_extra "kd_all") (by k_extra "kd_all") (by omega) (by omega) (by omega) (by k_extra "ktr_room") (by k_extra "ktr_units") ?_); intro tZ mkZ hZ tkZ FZ NZ hMZ hlZ hdZ hgZ; (obtain ⟨mrZ, mf1Z, mf2Z, mf3Z, mf4Z, mf5Z⟩ := mem_one hMZ); (try simp only [List.cons_append, List.nil_append] at NZ); (try k_sweep); (try dsimp only); (try k_fold)))
  trivial

section
variable {w : World} {p : Program} {loose : List Str} {mean : ExcName → Option Value} {mg mb : Str → Option Value} {dp un : Nat} {gd : Option (List Code)} {cn : Str} {cs : Scope} {a : Addr} {ccd : Value} {cl : List (Str × Addr)} {outer : List Env} {A₀ : Around} {base h₀ : Heap} {L : Addr} {m : Str → Option Value} {s : Shared} {Q E : Value → Shared → Prop} {led dk gr lits : Led}
theorem rowNew {nu gl lv : Value} {l k : Nat} {its : List Value} (B : Below A₀ base outer h₀) (F : Fr h₀ L s.heap m) (X : (top.heap_1_39 w.params).In h₀) (N : News h₀ L s.heap led) (T : Top p loose mean mg mb h₀) (hk : cs.kind = .function) (hl : (l, listOf its.toArray k) ∈ led) (hz : its.length < 10000) (hdp : dp + 5 < recursionLimit) (hun : un + 40 < cLine)
    (hret : ∀ (x dx c k' : Nat) h1 h2 h3 h4 t1 t2 t3 t4 h' tk', Fr h₀ L h' m → News h₀ L h' ((x, instObj 114 dx) :: (dx, rowD h1 h2 h3 h4 t1 t2 t3 t4 nu (.ref c) gl lv) :: (c, listOf its.toArray k') :: led) → AllLt dx led → dx < x → x < c → Q (.ref x) { s with heap := h', toks := tk' }) :
    wpAny (model PySem.Challenge.rw_nt0501_01.row.prog w) (ktrTop dp un gd cn cs L a ccd cl outer) (call (.ref 114) [nu, .ref l, gl, lv]) Q E s := by
  revert X; k_fill; intro X
  refine' entI (binds := fun x' => [(Str.ofString "self", .ref x'), (Str.ofString "number", nu), (Str.ofString "things", .ref l), (Str.ofString "is_global", gl), (Str.ofString "level", lv)]) ?k1 ?k2 ?k3 ?k4 ?k5 ?kK ?c4 ?c5 ?c6 ?k6 ?k7 ?k8 ?k9 ?kO ?_; (case kK => first | exact rfl | assumption); (case k1 => k_asm); (case k2 => k_asm); (case k3 => k_asm); (case k4 => k_asm); (case k5 => k_asm); (case c4 => k_is); (case c5 => k_is); (case c6 => k_is); (case k6 => k_is); (case k7 => k_is); (case k8 => k_extra "ktr_room")
  (case k9 => intro x' h1 X1; exact BindsTo.of_eq (by kernel_rfl))
  (case kO => intro x'; kernel_rfl)
  intro x' d' g' L' h' tk9 g9 d9 o9 Au9 A9 m9 ek9 qk l1 l2 F' N' B' X' T'; (try k_lt l1); (try k_lt2 l2)
  clear F N
  (try k_lift B')
  k_extra "k_steps"


  rename News h₀ _ _ _ => nE
  refine' hret _ _ _ _ _ _ _ _ _ _ _ _ _ _ ?F (news_sub nE ?N) ?a ?b ?c
  (case F => k_asm)
  (case N => k_extra "kqd_sub")
  all_goals k_extra "kd_facts"
end

theorem words_15 : True := by
  w_top off
  (k_with "call ref" => ((first | (with_reducible show wpAny _ _ (call (Value.ref 114) [_, Value.ref _, _, _]) _ _ _) | ((conv => arg 3; dsimp only [List.cons_append, List.nil_append]); (with_reducible show wpAny _ _ (call (Value.ref 114) [_, Value.ref _, _, _]) _ _ _))); k_dflt (refine' rowNew (by k_asm) (by k_asm) (by k_asm) (by k_asm) (by k_asm) (by first | exact rfl | assumption) (by k_extra "k_mem") (by first | omega | (simp <;> omega)) (by k_extra "ktr_room") (by k_extra "ktr_units") ?_); intro xZ dxZ cZ kZ h1Z h2Z h3Z h4Z t1Z t2Z t3Z t4Z hZ tkZ FZ NZ l1Z l2Z l3Z; (have lxZ := allLt_trans l1Z l2Z); (have lyZ := allLt_trans lxZ l3Z); (try dsimp only [List.cons_append, List.nil_append, AllLt] at l1Z lxZ lyZ); (try simp only [List.cons_append, List.nil_append] at NZ); (try k_sweep); (try dsimp only); (try k_fold)))
  trivial

section
variable {w : World} {p : Program} {loose : List Str} {mean : ExcName → Option Value} {mg mb : Str → Option Value} {dp un : Nat} {gd : Option (List Code)} {cn : Str} {cs : Scope} {a : Addr} {ccd : Value} {cl : List (Str × Addr)} {outer : List Env} {A₀ : Around} {base h₀ : Heap} {L : Addr} {m : Str → Option Value} {s : Shared} {Q E : Value → Shared → Prop} {led dk gr lits : Led}
theorem dictNew {nu mo gl lv : Value} (B : Below A₀ base outer h₀) (F : Fr h₀ L s.heap m) (X : (top.heap_1_39 w.params).In h₀) (N : News h₀ L s.heap led) (T : Top p loose mean mg mb h₀) (hk : cs.kind = .function) (hdp : dp + 5 < recursionLimit) (hun : un + 40 < cLine)
    (hret : ∀ (x dx en : Nat) h1 h2 h3 h4 h5 h6 t1 t2 t3 t4 t5 t6 ta h' tk', Fr h₀ L h' m → News h₀ L h' ((x, instObj 147 dx) :: (dx, dictD h1 h2 h3 h4 h5 h6 t1 t2 t3 t4 t5 t6 nu mo gl lv (.int 3 ta) (.ref en)) :: (en, kdict w [] 0) :: led) → AllLt dx led → dx < x → x < en → (en == sysModules) = false → Q (.ref x) { s with heap := h', toks := tk' }) :
    wpAny (model PySem.Challenge.rw_nt0501_01.row.prog w) (ktrTop dp un gd cn cs L a ccd cl outer) (call (.ref 147) [nu, mo, gl, lv]) Q E s := by
  revert X; k_fill; intro X
  refine' entI (binds := fun x' => [(Str.ofString "self", .ref x'), (Str.ofString "number", nu), (Str.ofString "most", mo), (Str.ofString "is_global", gl), (Str.ofString "level", lv)]) ?k1 ?k2 ?k3 ?k4 ?k5 ?kK ?c4 ?c5 ?c6 ?k6 ?k7 ?k8 ?k9 ?kO ?_; (case kK => first | exact rfl | assumption); (case k1 => k_asm); (case k2 => k_asm); (case k3 => k_asm); (case k4 => k_asm); (case k5 => k_asm); (case c4 => k_is); (case c5 => k_is); (case c6 => k_is); (case k6 => k_is); (case k7 => k_is); (case k8 => k_extra "ktr_room")
  (case k9 => intro x' h1 X1; exact BindsTo.of_eq (by kernel_rfl))
  (case kO => intro x'; kernel_rfl)
  intro x' d' g' L' h' tk9 g9 d9 o9 Au9 A9 m9 ek9 qk l1 l2 F' N' B' X' T'; (try k_lt l1); (try k_lt2 l2)
  clear F N
  (try k_lift B')
  k_extra "k_steps"
  rename News h₀ _ _ _ => nE
  refine' hret _ _ _ _ _ _ _ _ _ _ _ _ _ _ _ _ _ _ ?F (news_sub nE ?N) ?a ?b ?c ?d
  (case F => k_asm)
  (case N => k_extra "kqd_sub")
  all_goals k_extra "kd_facts"
end

theorem words_17 : True := by
  w_top off
  (k_with "call ref" => ((first | (with_reducible show wpAny _ _ (call (Value.ref 147) [_, _, _, _]) _ _ _) | ((conv => arg 3; dsimp only [List.cons_append, List.nil_append]); (with_reducible show wpAny _ _ (call (Value.ref 147) [_, _, _, _]) _ _ _))); k_dflt (refine' dictNew (by k_asm) (by k_asm) (by k_asm) (by k_asm) (by k_asm) (by first | exact rfl | assumption)  (by k_extra "ktr_room") (by k_extra "ktr_units") ?_); intro xZ dxZ enZ h1Z h2Z h3Z h4Z h5Z h6Z t1Z t2Z t3Z t4Z t5Z t6Z taZ hZ tkZ FZ NZ l1Z l2Z l3Z loZ; (have lxZ := allLt_trans l1Z l2Z); (have lyZ := allLt_trans lxZ l3Z); (try dsimp only [List.cons_append, List.nil_append, AllLt] at l1Z lxZ lyZ); (try simp only [List.cons_append, List.nil_append] at NZ); (try k_sweep); (try dsimp only); (try k_fold)))
  trivial

section
variable {w : World} {p : Program} {loose : List Str} {mean : ExcName → Option Value} {mg mb : Str → Option Value} {dp un : Nat} {gd : Option (List Code)} {cn : Str} {cs : Scope} {a : Addr} {ccd : Value} {cl : List (Str × Addr)} {outer : List Env} {A₀ : Around} {base h₀ : Heap} {L : Addr} {m : Str → Option Value} {s : Shared} {Q E : Value → Shared → Prop} {led dk gr lits : Led}
theorem makeRow {mm nb l k : Nat} {mk : Led} {its : List Value} (B : Below A₀ base outer h₀) (F : Fr h₀ L s.heap m) (X : (top.heap_1_39 w.params).In h₀) (N : News h₀ L s.heap led) (T : Top p loose mean mg mb h₀) (hk : cs.kind = .function) (hM : Mem w mm mk nb) (hT : Tail (dk ++ (mk ++ gr)) led lits) (hl : Apart lits mk) (hd : Apart dk mk) (hg : Apart gr mk) (hnb : nb < 1000)
    (hm : (l, listOf its.toArray k) ∈ lits) (hz : its.length < 10) (hdp : dp + 9 < recursionLimit) (hun : un + 72 < cLine)
    (hret : ∀ (x dx c k' : Nat) h1 h2 h3 h4 t1 t2 t3 t4 tn tl mk' h' tk', Fr h₀ L h' m → News h₀ L h' ((x, instObj 114 dx) :: (dx, rowD h1 h2 h3 h4 t1 t2 t3 t4 (.int (nb + 1) tn) (.ref c) (.bool false) (.int 0 tl)) :: (c, listOf its.toArray k') :: (lits ++ (dk ++ (mk' ++ gr)))) →
      AllLt dx (lits ++ (dk ++ (mk' ++ gr))) → dx < x → x < c → Mem w mm mk' (nb + 1) → Apart lits mk' → Apart dk mk' → Apart gr mk' → Q (.ref x) { s with heap := h', toks := tk' }) :
    wpAny (model PySem.Challenge.rw_nt0501_01.row.prog w) (ktrTop dp un gd cn cs L a ccd cl outer) (call (.ref 402) [.ref mm, .ref l]) Q E s := by
  have e := hT.eq
  subst e
  obtain ⟨mr, mf1, mf2, mf3, mf4, mf5⟩ := mem_one hM
  revert X; k_fill; intro X
  refine' entD (binds := [(Str.ofString "self", .ref mm), (Str.ofString "things", .ref l)]) ?k1 ?k2 ?k3 ?k4 ?k5 ?kK ?k6 ?k7 ?k8 ?k9 ?kO ?_; (case kK => first | exact rfl | assumption); (case k1 => k_asm); (case k2 => k_asm); (case k3 => k_asm); (case k4 => k_asm); (case k5 => k_asm); (case k6 => k_is); (case k7 => k_is); (case k8 => k_extra "ktr_room")
  (case k9 => exact BindsTo.of_eq (by kernel_rfl))
  (case kO => kernel_rfl)
  intro g' L' h' tk9 g9 d9 o9 A9 m9 ek9 qk F' N' B' X' T'
  (try k_lift B')
  clear F N
  k_extra "k_steps"
  all_goals (apply hret <;> k_extra "kd_facts")
end

theorem words_19 : True := by
  w_top off
  (k_with "call ref" => ((first | (with_reducible show wpAny _ _ (call (Value.ref 402) [_, Value.ref _]) _ _ _) | ((conv => arg 3; dsimp only [List.cons_append, List.nil_append]); (with_reducible show wpAny _ _ (call (Value.ref 402) [_, Value.ref _]) _ _ _))); k_dflt (refine' makeRow (by k_asm) (by k_asm) (by k_asm) (by k_asm) (by k_asm) (by first | exact rfl | assumption) (by assumption) (by k_extra "kd_mem") (by k_extra "kd_all") (by k_extra "kd_all") (by k_extra "kd_all") (by omega) (by k_extra "k_mem") (by first | omega | (simp <;> omega)) (by k_extra "ktr_room") (by k_extra "ktr_units") ?_); intro xZ dxZ cZ kZ h1Z h2Z h3Z h4Z t1Z t2Z t3Z t4Z tnZ tlZ mkZ hZ tkZ FZ NZ l1Z l2Z l3Z hMZ hlZ hdZ hgZ; (have lxZ := allLt_trans l1Z l2Z); (have lyZ := allLt_trans lxZ l3Z); (try dsimp only [List.cons_append, List.nil_append, AllLt] at l1Z lxZ lyZ); (try simp only [List.cons_append, List.nil_append] at NZ); (try k_sweep); (try dsimp only); (try k_fold)))
  trivial

section
variable {w : World} {p : Program} {loose : List Str} {mean : ExcName → Option Value} {mg mb : Str → Option Value} {dp un : Nat} {gd : Option (List Code)} {cn : Str} {cs : Scope} {a : Addr} {ccd : Value} {cl : List (Str × Addr)} {outer : List Env} {A₀ : Around} {base h₀ : Heap} {L : Addr} {m : Str → Option Value} {s : Shared} {Q E : Value → Shared → Prop} {led dk gr lits : Led}
theorem makeDict {mm nb : Nat} {mk : Led} {i : Int} {ti : Tok} (B : Below A₀ base outer h₀) (F : Fr h₀ L s.heap m) (X : (top.heap_1_39 w.params).In h₀) (N : News h₀ L s.heap led) (T : Top p loose mean mg mb h₀) (hk : cs.kind = .function) (hM : Mem w mm mk nb) (hT : Tail (dk ++ (mk ++ gr)) led lits) (hl : Apart lits mk) (hd : Apart dk mk) (hg : Apart gr mk) (hnb : nb < 1000) (hi : 0 ≤ i) (hi2 : i < 10)
    (hdp : dp + 9 < recursionLimit) (hun : un + 72 < cLine)
    (hret : ∀ (x dx en : Nat) h1 h2 h3 h4 h5 h6 t1 t2 t3 t4 t5 t6 ta tn tl mk' h' tk', Fr h₀ L h' m → News h₀ L h' ((x, instObj 147 dx) :: (dx, dictD h1 h2 h3 h4 h5 h6 t1 t2 t3 t4 t5 t6 (.int (nb + 1) tn) (.int i ti) (.bool false) (.int 0 tl) (.int 3 ta) (.ref en)) :: (en, kdict w [] 0) :: (lits ++ (dk ++ (mk' ++ gr)))) →
      AllLt dx (lits ++ (dk ++ (mk' ++ gr))) → dx < x → x < en → (en == sysModules) = false → Mem w mm mk' (nb + 1) → Apart lits mk' → Apart dk mk' → Apart gr mk' → Q (.ref x) { s with heap := h', toks := tk' }) :
    wpAny (model PySem.Challenge.rw_nt0501_01.row.prog w) (ktrTop dp un gd cn cs L a ccd cl outer) (call (.ref 409) [.ref mm, .int i ti]) Q E s := by
  have e := hT.eq
  subst e
  obtain ⟨mr, mf1, mf2, mf3, mf4, mf5⟩ := mem_one hM
  revert X; k_fill; intro X
  refine' entD (binds := [(Str.ofString "self", .ref mm), (Str.ofString "most", .int i ti)]) ?k1 ?k2 ?k3 ?k4 ?k5 ?kK ?k6 ?k7 ?k8 ?k9 ?kO ?_; (case kK => first | exact rfl | assumption); (case k1 => k_asm); (case k2 => k_asm); (case k3 => k_asm); (case k4 => k_asm); (case k5 => k_asm); (case k6 => k_is); (case k7 => k_is); (case k8 => k_extra "ktr_room")
  (case k9 => exact BindsTo.of_eq (by kernel_rfl))
  (case kO => kernel_rfl)
  intro g' L' h' tk9 g9 d9 o9 A9 m9 ek9 qk F' N' B' X' T'
  (try k_lift B')
  clear F N
  k_extra "k_steps"
  all_goals (apply hret <;> k_extra "kd_facts")
end

theorem words_21 : True := by
  w_top off
  (k_with "call ref" => ((first | (with_reducible show wpAny _ _ (call (Value.ref 409) [_, Value.int _ _]) _ _ _) | ((conv => arg 3; dsimp only [List.cons_append, List.nil_append]); (with_reducible show wpAny _ _ (call (Value.ref 409) [_, Value.int _ _]) _ _ _))); k_dflt (refine' makeDict (by k_asm) (by k_asm) (by k_asm) (by k_asm) (by k_asm) (by first | exact rfl | assumption) (by assumption) (by k_extra "kd_mem") (by k_extra "kd_all") (by k_extra "kd_all") (by k_extra "kd_all") (by omega) (by omega) (by omega) (by k_extra "ktr_room") (by k_extra "ktr_units") ?_); intro xZ dxZ enZ h1Z h2Z h3Z h4Z h5Z h6Z t1Z t2Z t3Z t4Z t5Z t6Z taZ tnZ tlZ mkZ hZ tkZ FZ NZ l1Z l2Z l3Z loZ hMZ hlZ hdZ hgZ; (have lxZ := allLt_trans l1Z l2Z); (have lyZ := allLt_trans lxZ l3Z); (try dsimp only [List.cons_append, List.nil_append, AllLt] at l1Z lxZ lyZ); (try simp only [List.cons_append, List.nil_append] at NZ); (try k_sweep); (try dsimp only); (try k_fold)))
  trivial

section
variable {w : World} {p : Program} {loose : List Str} {mean : ExcName → Option Value} {mg mb : Str → Option Value} {dp un : Nat} {gd : Option (List Code)} {cn : Str} {cs : Scope} {a : Addr} {ccd : Value} {cl : List (Str × Addr)} {outer : List Env} {A₀ : Around} {base h₀ : Heap} {L : Addr} {m : Str → Option Value} {s : Shared} {Q E : Value → Shared → Prop} {led dk gr lits : Led}
theorem makeRowI {mm nb : Nat} {mk : Led} {i : Int} {ti : Tok} (B : Below A₀ base outer h₀) (F : Fr h₀ L s.heap m) (X : (top.heap_1_39 w.params).In h₀) (N : News h₀ L s.heap led) (T : Top p loose mean mg mb h₀) (hk : cs.kind = .function) (hM : Mem w mm mk nb) (hT : Tail (dk ++ (mk ++ gr)) led lits) (hl : Apart lits mk) (hd : Apart dk mk) (hg : Apart gr mk) (hnb : nb < 1000)
    (hi : 0 ≤ i) (hi2 : i < 10) (hdp : dp + 11 < recursionLimit) (hun : un + 88 < cLine)
    (hret : ∀ (x dx c k' nl dnl : Nat) h1 h2 h3 h4 t1 t2 t3 t4 tn tl g1 g2 g3 g4 u1 u2 u3 u4 tk tt mk' h' tk', Fr h₀ L h' m → News h₀ L h' ((x, instObj 114 dx) :: (dx, rowD h1 h2 h3 h4 t1 t2 t3 t4 (.int (nb + 1) tn) (.ref c) (.bool false) (.int 0 tl)) :: (c, listOf (List.replicate i.toNat (.ref nl)).toArray k') ::
        (nl, instObj 72 dnl) :: (dnl, thingD g1 g2 g3 g4 u1 u2 u3 u4 (.str (Str.ofString "null") tk) .none (.bool false) (.int 3 tt)) :: (lits ++ (dk ++ (mk' ++ gr)))) →
      AllLt dnl (lits ++ (dk ++ gr)) → AllLt dx (lits ++ (dk ++ (mk' ++ gr))) → dnl < nl → nl < dx → dx < x → x < c → Mem w mm mk' (nb + 1) → Apart lits mk' → Apart dk mk' → Apart gr mk' → Q (.ref x) { s with heap := h', toks := tk' }) :
    wpAny (model PySem.Challenge.rw_nt0501_01.row.prog w) (ktrTop dp un gd cn cs L a ccd cl outer) (call (.ref 402) [.ref mm, .int i ti]) Q E s := by
  have e := hT.eq
  subst e
  obtain ⟨mr, mf1, mf2, mf3, mf4, mf5⟩ := mem_one hM
  revert X; k_fill; intro X
  refine' entD (binds := [(Str.ofString "self", .ref mm), (Str.ofString "things", .int i ti)]) ?k1 ?k2 ?k3 ?k4 ?k5 ?kK ?k6 ?k7 ?k8 ?k9 ?kO ?_; (case kK => first | exact rfl | assumption); (case k1 => k_asm); (case k2 => k_asm); (case k3 => k_asm); (case k4 => k_asm); (case k5 => k_asm); (case k6 => k_is); (case k7 => k_is); (case k8 => k_extra "ktr_room")
  (case k9 => exact BindsTo.of_eq (by kernel_rfl))
  (case kO => kernel_rfl)
  intro g' L' h' tk9 g9 d9 o9 A9 m9 ek9 qk F' N' B' X' T'
  (try k_lift B')
  clear F N
  k_extra "k_steps"
  rename News h₀ _ _ _ => nE
  rename Apart (_ :: _) _ => hA
  have hA' := hA.sub (l' := lits) (by k_extra "kqd_sub") Sub.refl
  refine' hret _ _ _ _ _ _ _ _ _ _ _ _ _ _ _ _ _ _ _ _ _ _ _ _ _ _ _ _ _ ?F (news_sub nE ?N) ?a ?b ?c ?d ?e ?f ?g ?h ?i ?j
  (case F => k_asm)
  (case g => assumption)
  (case N => k_extra "kqd_sub")
  (case a => exact allLt_sub (b := lits ++ (dk ++ (mk ++ gr))) (by tbn_find) (by k_extra "kqd_sub"))
  all_goals k_extra "kd_facts"
end

theorem words_23 : True := by
  w_top off
  (k_with "call ref" => ((first | (with_reducible show wpAny _ _ (call (Value.ref 402) [_, Value.int _ _]) _ _ _) | ((conv => arg 3; dsimp only [List.cons_append, List.nil_append]); (with_reducible show wpAny _ _ (call (Value.ref 402) [_, Value.int _ _]) _ _ _))); k_dflt (refine' makeRowI (by k_asm) (by k_asm) (by k_asm) (by k_asm) (by k_asm) (by first | exact rfl | assumption) (by assumption) (by k_extra "kd_mem") (by k_extra "kd_all") (by k_extra "kd_all") (by k_extra "kd_all") (by omega) (by omega) (by omega) (by k_extra "ktr_room") (by k_extra "ktr_units") ?_); intro xZ dxZ cZ kZ nlZ dnlZ h1Z h2Z h3Z h4Z t1Z t2Z t3Z t4Z tnZ tlZ g1Z g2Z g3Z g4Z u1Z u2Z u3Z u4Z tk1Z ttZ mkZ hZ tkZ FZ NZ l0Z l1Z l01Z l12Z l2Z l3Z hMZ hlZ hdZ hgZ; (have lxZ := allLt_trans l1Z l2Z); (have lyZ := allLt_trans lxZ l3Z); (try dsimp only [List.cons_append, List.nil_append, AllLt] at l1Z lxZ lyZ l0Z); (try simp only [List.cons_append, List.nil_append] at NZ); (try k_sweep); (try dsimp only); (try k_fold)))
  trivial

section
variable {w : World} {p : Program} {loose : List Str} {mean : ExcName → Option Value} {mg mb : Str → Option Value} {dp un : Nat} {gd : Option (List Code)} {cn : Str} {cs : Scope} {a : Addr} {ccd : Value} {cl : List (Str × Addr)} {outer : List Env} {A₀ : Around} {base h₀ : Heap} {L : Addr} {m : Str → Option Value} {s : Shared} {Q E : Value → Shared → Prop} {led dk gr lits : Led}
theorem ofString {tb dtb oc : Nat} {g1 g2 g3 g4 u1 u2 u3 u4} {nu gl lv : Value} {bs : Array UInt8} (B : Below A₀ base outer h₀) (F : Fr h₀ L s.heap m) (X : (top.heap_1_39 w.params).In h₀) (N : News h₀ L s.heap led) (T : Top p loose mean mg mb h₀) (hk : cs.kind = .function) (h1 : (tb, instObj 93 dtb) ∈ led) (h2 : (dtb, textD g1 g2 g3 g4 u1 u2 u3 u4 nu (.ref oc) gl lv) ∈ led) (h3 : (oc, baObj bs) ∈ led) (hz : bs.size ≤ 100)
    (hdp : dp + 5 < recursionLimit) (hun : un + 40 < cLine)
    (hret : ∀ (x dx y dy : Nat) t h1 h2 h3 h4 t1 t2 t3 t4 tk i1 i2 i3 v1 v2 v3 tz tl h' tk', Fr h₀ L h' m → News h₀ L h' ((x, instObj 72 dx) :: (dx, thingD h1 h2 h3 h4 t1 t2 t3 t4 (.str (Str.ofString "string") tk) (.ref y) (.bool false) (.int 3 t)) ::
       (y, instObj 168 dy) :: (dy, spanD i1 i2 i3 v1 v2 v3 (.ref tb) (.int 0 tz) (.int bs.size tl)) :: led) → AllLt dy led → dy < y → y < dx → dx < x → Q (.ref x) { s with heap := h', toks := tk' }) :
    wpAny (model PySem.Challenge.rw_nt0501_01.row.prog w) (ktrTop dp un gd cn cs L a ccd cl outer) (call (.ref 195) [.ref tb]) Q E s := by
  revert X; k_fill; intro X
  refine' entD (binds := [(Str.ofString "text", .ref tb), (Str.ofString "is_exec", .bool false), (Str.ofString "access", .int 3 247)]) ?k1 ?k2 ?k3 ?k4 ?k5 ?kK ?k6 ?k7 ?k8 ?k9 ?kO ?_; (case kK => first | exact rfl | assumption); (case k1 => k_asm); (case k2 => k_asm); (case k3 => k_asm); (case k4 => k_asm); (case k5 => k_asm); (case k6 => k_is); (case k7 => k_is); (case k8 => k_extra "ktr_room")
  (case k9 => exact binds_K (by k_in) rfl (by k_is) rfl rfl (by kernel_rfl))
  (case kO => kernel_rfl)
  intro g' L' h' tk9 g9 d9 o9 A9 m9 ek9 qk F' N' B' X' T'
  (try k_lift B')
  clear F N
  k_extra "k_steps"
  all_goals (apply hret <;> k_extra "kd_facts")
end

theorem words_25 : True := by
  w_top off
  (k_with "call ref" => ((first | (with_reducible show wpAny _ _ (call (Value.ref 195) [Value.ref _]) _ _ _) | ((conv => arg 3; dsimp only [List.cons_append, List.nil_append]); (with_reducible show wpAny _ _ (call (Value.ref 195) [Value.ref _]) _ _ _))); k_dflt (refine' ofString (by k_asm) (by k_asm) (by k_asm) (by k_asm) (by k_asm) (by first | exact rfl | assumption) (by k_extra "k_mem") (by k_extra "k_mem") (by k_extra "k_mem") (by first | omega | (simp <;> omega)) (by k_extra "ktr_room") (by k_extra "ktr_units") ?_); intro xZ dxZ yZ dyZ ttZ h1Z h2Z h3Z h4Z t1Z t2Z t3Z t4Z tk1Z i1Z i2Z i3Z v1Z v2Z v3Z tzZ tlZ hZ tkZ FZ NZ l1Z l2Z l3Z l4Z; (have lxZ := allLt_trans l1Z l2Z); (have lyZ := allLt_trans lxZ l3Z); (have lzZ := allLt_trans lyZ l4Z); (try dsimp only [List.cons_append, List.nil_append, AllLt] at l1Z lxZ lyZ lzZ); (try simp only [List.cons_append, List.nil_append] at NZ); (try k_sweep); (try dsimp only); (try k_fold)))
  trivial

theorem leaf_ne {kd : Str} (hk : kd = Str.ofString "null" ∨ kd = Str.ofString "integer" ∨ kd = Str.ofString "name") : kd ≠ Str.ofString "dict" ∧ kd ≠ Str.ofString "string" ∧ kd ≠ Str.ofString "array" ∧ kd ≠ Str.ofString "packed" := by
  rcases hk with rfl | rfl | rfl <;> decide +kernel
section
variable {w : World} {p : Program} {loose : List Str} {mean : ExcName → Option Value} {mg mb : Str → Option Value} {dp un : Nat} {gd : Option (List Code)} {cn : Str} {cs : Scope} {a : Addr} {ccd : Value} {cl : List (Str × Addr)} {outer : List Env} {A₀ : Around} {base h₀ : Heap} {L : Addr} {m : Str → Option Value} {s : Shared} {Q E : Value → Shared → Prop} {led dk gr lits : Led}
theorem bodyOf {x : Nat} {o : Option Addr} (B : Below A₀ base outer h₀) (F : Fr h₀ L s.heap m) (X : (top.heap_1_39 w.params).In h₀) (N : News h₀ L s.heap led) (T : Top p loose mean mg mb h₀) (hk : cs.kind = .function) (hD : Den led (.ref x) o)
    (hdp : dp + 5 < recursionLimit) (hun : un + 40 < cLine)
    (hret : ∀ h' tk', Fr h₀ L h' m → News h₀ L h' led → Q (optRef o) { s with heap := h', toks := tk' }) :
    wpAny (model PySem.Challenge.rw_nt0501_01.row.prog w) (ktrTop dp un gd cn cs L a ccd cl outer) (call (.ref 246) [.ref x]) Q E s := by
  rcases hD with ⟨m1, m2, hk9⟩ | ⟨m1, m2⟩ | ⟨m1, m2, m3, m4, (rfl | rfl | rfl)⟩
  (have hk9 := leaf_ne hk9; have hk1 := hk9.1; have hk2 := hk9.2.1; have hk3 := hk9.2.2.1; have hk4 := hk9.2.2.2; clear hk9)
  all_goals (
    revert X; k_fill; intro X
    refine' entD (binds := [(Str.ofString "thing", .ref x)]) ?k1 ?k2 ?k3 ?k4 ?k5 ?kK ?k6 ?k7 ?k8 ?k9 ?kO ?_; (case kK => first | exact rfl | assumption); (case k1 => k_asm); (case k2 => k_asm); (case k3 => k_asm); (case k4 => k_asm); (case k5 => k_asm); (case k6 => k_is); (case k7 => k_is); (case k8 => k_extra "ktr_room")
    (case k9 => exact BindsTo.of_eq (by kernel_rfl))
    (case kO => kernel_rfl)
    intro g' L' h' tk9 g9 d9 o9 A9 m9 ek9 qk F' N' B' X' T'
    (try k_lift B')
    clear F N
    k_extra "k_steps"
    all_goals (apply hret <;> k_extra "kd_facts"))
end

theorem words_27 : True := by
  w_top off
  (k_with "call ref" => ((first | (with_reducible show wpAny _ _ (call (Value.ref 246) [Value.ref _]) _ _ _) | ((conv => arg 3; dsimp only [List.cons_append, List.nil_append]); (with_reducible show wpAny _ _ (call (Value.ref 246) [Value.ref _]) _ _ _))); k_dflt (refine' bodyOf (by k_asm) (by k_asm) (by k_asm) (by k_asm) (by k_asm) (by first | exact rfl | assumption) (by first | assumption | exact Den.mono (by assumption) (by k_extra "kqd_sub")) (by k_extra "ktr_room") (by k_extra "ktr_units") ?_); intro hZ tkZ FZ NZ; (try simp only [List.cons_append, List.nil_append] at NZ); (try k_sweep); (try dsimp only); (try k_fold)))
  trivial

section
variable {w : World} {p : Program} {loose : List Str} {mean : ExcName → Option Value} {mg mb : Str → Option Value} {dp un : Nat} {gd : Option (List Code)} {cn : Str} {cs : Scope} {a : Addr} {ccd : Value} {cl : List (Str × Addr)} {outer : List Env} {A₀ : Around} {base h₀ : Heap} {L : Addr} {m : Str → Option Value} {s : Shared} {Q E : Value → Shared → Prop} {led dk gr lits : Led}
theorem keyOfInt {x dx : Nat} {h1 h2 h3 h4 : Int} {t1 t2 t3 t4 tk ti : Tok} {ex ac : Value} {i : Int} (B : Below A₀ base outer h₀) (F : Fr h₀ L s.heap m) (X : (top.heap_1_39 w.params).In h₀) (N : News h₀ L s.heap led) (T : Top p loose mean mg mb h₀) (hk : cs.kind = .function) (m1 : (x, instObj 72 dx) ∈ led) (m2 : (dx, thingD h1 h2 h3 h4 t1 t2 t3 t4 (.str (Str.ofString "integer") tk) (.int i ti) ex ac) ∈ led) (h0 : 0 ≤ i) (hi : i < 1000)
    (hdp : dp + 5 < recursionLimit) (hun : un + 40 < cLine)
    (hret : ∀ (kt : Nat) t t' h' tk', Fr h₀ L h' m → News h₀ L h' ((kt, tupOf #[.str (Str.ofString "number") t, .int (i * 1000000) t']) :: led) → AllLt kt led → Q (.ref kt) { s with heap := h', toks := tk' }) :
    wpAny (model PySem.Challenge.rw_nt0501_01.row.prog w) (ktrTop dp un gd cn cs L a ccd cl outer) (call (.ref 288) [.ref x]) Q E s := by
  revert X; k_fill; intro X
  refine' entD (binds := [(Str.ofString "thing", .ref x)]) ?k1 ?k2 ?k3 ?k4 ?k5 ?kK ?k6 ?k7 ?k8 ?k9 ?kO ?_; (case kK => first | exact rfl | assumption); (case k1 => k_asm); (case k2 => k_asm); (case k3 => k_asm); (case k4 => k_asm); (case k5 => k_asm); (case k6 => k_is); (case k7 => k_is); (case k8 => k_extra "ktr_room")
  (case k9 => exact BindsTo.of_eq (by kernel_rfl))
  (case kO => kernel_rfl)
  intro g' L' h' tk9 g9 d9 o9 A9 m9 ek9 qk F' N' B' X' T'
  (try k_lift B')
  clear F N
  k_extra "k_steps"
  all_goals (apply hret <;> k_extra "kd_facts")
theorem keyOfArr {x dx y dy b db : Nat} {h1 h2 h3 h4 : Int} {t1 t2 t3 t4 tk : Tok} {ex ac : Value} {i1 i2 i3 : Int} {v1 v2 v3 : Tok} {g1 g2 g3 g4 u1 u2 u3 u4} {th gl lv : Value} {st mn nu : Int} {ts tm tn : Tok} (B : Below A₀ base outer h₀) (F : Fr h₀ L s.heap m) (X : (top.heap_1_39 w.params).In h₀) (N : News h₀ L s.heap led) (T : Top p loose mean mg mb h₀) (hk : cs.kind = .function) (m1 : (x, instObj 72 dx) ∈ led) (m2 : (dx, thingD h1 h2 h3 h4 t1 t2 t3 t4 (.str (Str.ofString "array") tk) (.ref y) ex ac) ∈ led)
    (m3 : (y, instObj 168 dy) ∈ led) (m4 : (dy, spanD i1 i2 i3 v1 v2 v3 (.ref b) (.int st ts) (.int mn tm)) ∈ led) (m5 : (b, instObj 114 db) ∈ led) (m6 : (db, rowD g1 g2 g3 g4 u1 u2 u3 u4 (.int nu tn) th gl lv) ∈ led)
    (hdp : dp + 5 < recursionLimit) (hun : un + 40 < cLine)
    (hret : ∀ (kt : Nat) t h' tk', Fr h₀ L h' m → News h₀ L h' ((kt, tupOf #[.str (Str.ofString "array") t, .int nu tn, .int st ts, .int mn tm]) :: led) → AllLt kt led → Q (.ref kt) { s with heap := h', toks := tk' }) :
    wpAny (model PySem.Challenge.rw_nt0501_01.row.prog w) (ktrTop dp un gd cn cs L a ccd cl outer) (call (.ref 288) [.ref x]) Q E s := by
  revert X; k_fill; intro X
  refine' entD (binds := [(Str.ofString "thing", .ref x)]) ?k1 ?k2 ?k3 ?k4 ?k5 ?kK ?k6 ?k7 ?k8 ?k9 ?kO ?_; (case kK => first | exact rfl | assumption); (case k1 => k_asm); (case k2 => k_asm); (case k3 => k_asm); (case k4 => k_asm); (case k5 => k_asm); (case k6 => k_is); (case k7 => k_is); (case k8 => k_extra "ktr_room")
  (case k9 => exact BindsTo.of_eq (by kernel_rfl))
  (case kO => kernel_rfl)
  intro g' L' h' tk9 g9 d9 o9 A9 m9 ek9 qk F' N' B' X' T'
  (try k_lift B')
  clear F N
  k_extra "k_steps"
  all_goals (apply hret <;> k_extra "kd_facts")
theorem keyThing {x dx : Nat} {h1 h2 h3 h4 : Int} {t1 t2 t3 t4 tk : Tok} {kd : Str} {vv ex ac : Value} (B : Below A₀ base outer h₀) (F : Fr h₀ L s.heap m) (X : (top.heap_1_39 w.params).In h₀) (N : News h₀ L s.heap led) (T : Top p loose mean mg mb h₀) (hk : cs.kind = .function) (m1 : (x, instObj 72 dx) ∈ led) (m2 : (dx, thingD h1 h2 h3 h4 t1 t2 t3 t4 (.str kd tk) vv ex ac) ∈ led) (hk : kd = Str.ofString "integer" ∨ kd = Str.ofString "array")
    (hdp : dp + 5 < recursionLimit) (hun : un + 40 < cLine)
    (hret : ∀ h' tk', Fr h₀ L h' m → News h₀ L h' led → Q (.ref x) { s with heap := h', toks := tk' }) :
    wpAny (model PySem.Challenge.rw_nt0501_01.row.prog w) (ktrTop dp un gd cn cs L a ccd cl outer) (call (.ref 295) [.ref x]) Q E s := by
  rcases hk with rfl | rfl
  all_goals (
    revert X; k_fill; intro X
    refine' entD (binds := [(Str.ofString "thing", .ref x)]) ?k1 ?k2 ?k3 ?k4 ?k5 ?kK ?k6 ?k7 ?k8 ?k9 ?kO ?_; (case kK => first | exact rfl | assumption); (case k1 => k_asm); (case k2 => k_asm); (case k3 => k_asm); (case k4 => k_asm); (case k5 => k_asm); (case k6 => k_is); (case k7 => k_is); (case k8 => k_extra "ktr_room")
    (case k9 => exact BindsTo.of_eq (by kernel_rfl))
    (case kO => kernel_rfl)
    intro g' L' h' tk9 g9 d9 o9 A9 m9 ek9 qk F' N' B' X' T'
    (try k_lift B')
    clear F N
    k_extra "k_steps"
    all_goals (apply hret <;> k_extra "kd_facts"))
end

theorem words_29 : True := by
  w_top off
  (k_with "call ref" => ((first | (with_reducible show wpAny _ _ (call (Value.ref 288) [Value.ref _]) _ _ _) | ((conv => arg 3; dsimp only [List.cons_append, List.nil_append]); (with_reducible show wpAny _ _ (call (Value.ref 288) [Value.ref _]) _ _ _))); k_dflt (refine' keyOfInt (by k_asm) (by k_asm) (by k_asm) (by k_asm) (by k_asm) (by first | exact rfl | assumption) (by k_extra "k_mem") (by k_extra "k_mem") (by omega) (by omega) (by k_extra "ktr_room") (by k_extra "ktr_units") ?_); intro ktZ tZ t2Z hZ tkZ FZ NZ l1Z; (try dsimp only [List.cons_append, List.nil_append, AllLt] at l1Z); (try simp only [List.cons_append, List.nil_append] at NZ); (try k_sweep); (try dsimp only); (try k_fold)))
  (k_with "call ref" => ((first | (with_reducible show wpAny _ _ (call (Value.ref 288) [Value.ref _]) _ _ _) | ((conv => arg 3; dsimp only [List.cons_append, List.nil_append]); (with_reducible show wpAny _ _ (call (Value.ref 288) [Value.ref _]) _ _ _))); k_dflt (refine' keyOfArr (by k_asm) (by k_asm) (by k_asm) (by k_asm) (by k_asm) (by first | exact rfl | assumption) (by k_extra "k_mem") (by k_extra "k_mem") (by k_extra "k_mem") (by k_extra "k_mem") (by k_extra "k_mem") (by k_extra "k_mem") (by k_extra "ktr_room") (by k_extra "ktr_units") ?_); intro ktZ tZ hZ tkZ FZ NZ l1Z; (try dsimp only [List.cons_append, List.nil_append, AllLt] at l1Z); (try simp only [List.cons_append, List.nil_append] at NZ); (try k_sweep); (try dsimp only); (try k_fold)))
  (k_with "call ref" => ((first | (with_reducible show wpAny _ _ (call (Value.ref 295) [Value.ref _]) _ _ _) | ((conv => arg 3; dsimp only [List.cons_append, List.nil_append]); (with_reducible show wpAny _ _ (call (Value.ref 295) [Value.ref _]) _ _ _))); k_dflt (refine' keyThing (by k_asm) (by k_asm) (by k_asm) (by k_asm) (by k_asm) (by first | exact rfl | assumption) (by k_extra "k_mem") (by k_extra "k_mem") (by first | exact Or.inl rfl | exact Or.inr rfl | assumption) (by k_extra "ktr_room") (by k_extra "ktr_units") ?_); intro hZ tkZ FZ NZ; (try simp only [List.cons_append, List.nil_append] at NZ); (try k_sweep); (try dsimp only); (try k_fold)))
  trivial

section
variable {w : World} {p : Program} {loose : List Str} {mean : ExcName → Option Value} {mg mb : Str → Option Value} {dp un : Nat} {gd : Option (List Code)} {cn : Str} {cs : Scope} {a : Addr} {ccd : Value} {cl : List (Str × Addr)} {outer : List Env} {A₀ : Around} {base h₀ : Heap} {L : Addr} {m : Str → Option Value} {s : Shared} {Q E : Value → Shared → Prop} {led dk gr lits : Led}
theorem elderRow {mm dm sv b db : Nat} {b1 b2 b3 b4 b5 b6 b7 b8 b9 b10 : Tok} {w1 w4 w5 w6 w7 w8 w9 w10 : Value} {g1 g2 g3 g4 u1 u2 u3 u4 tl} {nu th : Value} (B : Below A₀ base outer h₀) (F : Fr h₀ L s.heap m) (X : (top.heap_1_39 w.params).In h₀) (N : News h₀ L s.heap led) (T : Top p loose mean mg mb h₀) (hk : cs.kind = .function) (m1 : (mm, instObj 594 dm) ∈ led) (m2 : (dm, memD w b1 b2 b3 b4 b5 b6 b7 b8 b9 b10 w1 (.bool false) (.ref sv) w4 w5 w6 w7 w8 w9 w10) ∈ led) (m5 : (sv, listOf #[] 0) ∈ led)
    (n1 : (b, instObj 114 db) ∈ led) (n2 : (db, rowD g1 g2 g3 g4 u1 u2 u3 u4 nu th (.bool false) (.int 0 tl)) ∈ led) (hdp : dp + 5 < recursionLimit) (hun : un + 40 < cLine)
    (hret : ∀ h' tk', Fr h₀ L h' m → News h₀ L h' led → Q (.bool false) { s with heap := h', toks := tk' }) :
    wpAny (model PySem.Challenge.rw_nt0501_01.row.prog w) (ktrTop dp un gd cn cs L a ccd cl outer) (call (.ref 430) [.ref mm, .ref b]) Q E s := by
  revert X; k_fill; intro X
  refine' entD (binds := [(Str.ofString "self", .ref mm), (Str.ofString "body", .ref b)]) ?k1 ?k2 ?k3 ?k4 ?k5 ?kK ?k6 ?k7 ?k8 ?k9 ?kO ?_; (case kK => first | exact rfl | assumption); (case k1 => k_asm); (case k2 => k_asm); (case k3 => k_asm); (case k4 => k_asm); (case k5 => k_asm); (case k6 => k_is); (case k7 => k_is); (case k8 => k_extra "ktr_room")
  (case k9 => exact BindsTo.of_eq (by kernel_rfl))
  (case kO => kernel_rfl)
  intro g' L' h' tk9 g9 d9 o9 A9 m9 ek9 qk F' N' B' X' T'
  (try k_lift B')
  clear F N
  k_extra "k_steps"
  all_goals (apply hret <;> k_extra "kd_facts")
theorem elderDict {mm dm sv b db : Nat} {b1 b2 b3 b4 b5 b6 b7 b8 b9 b10 : Tok} {w1 w4 w5 w6 w7 w8 w9 w10 : Value} {g1 g2 g3 g4 g5 g6 u1 u2 u3 u4 u5 u6 tl} {nu mo ac en : Value} (B : Below A₀ base outer h₀) (F : Fr h₀ L s.heap m) (X : (top.heap_1_39 w.params).In h₀) (N : News h₀ L s.heap led) (T : Top p loose mean mg mb h₀) (hk : cs.kind = .function) (m1 : (mm, instObj 594 dm) ∈ led) (m2 : (dm, memD w b1 b2 b3 b4 b5 b6 b7 b8 b9 b10 w1 (.bool false) (.ref sv) w4 w5 w6 w7 w8 w9 w10) ∈ led) (m5 : (sv, listOf #[] 0) ∈ led)
    (n1 : (b, instObj 147 db) ∈ led) (n2 : (db, dictD g1 g2 g3 g4 g5 g6 u1 u2 u3 u4 u5 u6 nu mo (.bool false) (.int 0 tl) ac en) ∈ led) (hdp : dp + 5 < recursionLimit) (hun : un + 40 < cLine)
    (hret : ∀ h' tk', Fr h₀ L h' m → News h₀ L h' led → Q (.bool false) { s with heap := h', toks := tk' }) :
    wpAny (model PySem.Challenge.rw_nt0501_01.row.prog w) (ktrTop dp un gd cn cs L a ccd cl outer) (call (.ref 430) [.ref mm, .ref b]) Q E s := by
  revert X; k_fill; intro X
  refine' entD (binds := [(Str.ofString "self", .ref mm), (Str.ofString "body", .ref b)]) ?k1 ?k2 ?k3 ?k4 ?k5 ?kK ?k6 ?k7 ?k8 ?k9 ?kO ?_; (case kK => first | exact rfl | assumption); (case k1 => k_asm); (case k2 => k_asm); (case k3 => k_asm); (case k4 => k_asm); (case k5 => k_asm); (case k6 => k_is); (case k7 => k_is); (case k8 => k_extra "ktr_room")
  (case k9 => exact BindsTo.of_eq (by kernel_rfl))
  (case kO => kernel_rfl)
  intro g' L' h' tk9 g9 d9 o9 A9 m9 ek9 qk F' N' B' X' T'
  (try k_lift B')
  clear F N
  k_extra "k_steps"
  all_goals (apply hret <;> k_extra "kd_facts")
theorem holdsRow {mm b db : Nat} {v : Value} {g1 g2 g3 g4 u1 u2 u3 u4} {nu th lv : Value} (B : Below A₀ base outer h₀) (F : Fr h₀ L s.heap m) (X : (top.heap_1_39 w.params).In h₀) (N : News h₀ L s.heap led) (T : Top p loose mean mg mb h₀) (hk : cs.kind = .function)
    (n1 : (b, instObj 114 db) ∈ led) (n2 : (db, rowD g1 g2 g3 g4 u1 u2 u3 u4 nu th (.bool false) lv) ∈ led) (hdp : dp + 5 < recursionLimit) (hun : un + 40 < cLine)
    (hret : ∀ h' tk', Fr h₀ L h' m → News h₀ L h' led → Q .none { s with heap := h', toks := tk' }) :
    wpAny (model PySem.Challenge.rw_nt0501_01.row.prog w) (ktrTop dp un gd cn cs L a ccd cl outer) (call (.ref 437) [.ref mm, .ref b, v]) Q E s := by
  revert X; k_fill; intro X
  refine' entD (binds := [(Str.ofString "self", .ref mm), (Str.ofString "body", .ref b), (Str.ofString "thing", v)]) ?k1 ?k2 ?k3 ?k4 ?k5 ?kK ?k6 ?k7 ?k8 ?k9 ?kO ?_; (case kK => first | exact rfl | assumption); (case k1 => k_asm); (case k2 => k_asm); (case k3 => k_asm); (case k4 => k_asm); (case k5 => k_asm); (case k6 => k_is); (case k7 => k_is); (case k8 => k_extra "ktr_room")
  (case k9 => exact BindsTo.of_eq (by kernel_rfl))
  (case kO => kernel_rfl)
  intro g' L' h' tk9 g9 d9 o9 A9 m9 ek9 qk F' N' B' X' T'
  (try k_lift B')
  clear F N
  k_extra "k_steps"
  all_goals (apply hret <;> k_extra "kd_facts")
theorem holdsDict {mm b db : Nat} {v : Value} {g1 g2 g3 g4 g5 g6 u1 u2 u3 u4 u5 u6} {nu mo lv ac en : Value} (B : Below A₀ base outer h₀) (F : Fr h₀ L s.heap m) (X : (top.heap_1_39 w.params).In h₀) (N : News h₀ L s.heap led) (T : Top p loose mean mg mb h₀) (hk : cs.kind = .function)
    (n1 : (b, instObj 147 db) ∈ led) (n2 : (db, dictD g1 g2 g3 g4 g5 g6 u1 u2 u3 u4 u5 u6 nu mo (.bool false) lv ac en) ∈ led) (hdp : dp + 5 < recursionLimit) (hun : un + 40 < cLine)
    (hret : ∀ h' tk', Fr h₀ L h' m → News h₀ L h' led → Q .none { s with heap := h', toks := tk' }) :
    wpAny (model PySem.Challenge.rw_nt0501_01.row.prog w) (ktrTop dp un gd cn cs L a ccd cl outer) (call (.ref 437) [.ref mm, .ref b, v]) Q E s := by
  revert X; k_fill; intro X
  refine' entD (binds := [(Str.ofString "self", .ref mm), (Str.ofString "body", .ref b), (Str.ofString "thing", v)]) ?k1 ?k2 ?k3 ?k4 ?k5 ?kK ?k6 ?k7 ?k8 ?k9 ?kO ?_; (case kK => first | exact rfl | assumption); (case k1 => k_asm); (case k2 => k_asm); (case k3 => k_asm); (case k4 => k_asm); (case k5 => k_asm); (case k6 => k_is); (case k7 => k_is); (case k8 => k_extra "ktr_room")
  (case k9 => exact BindsTo.of_eq (by kernel_rfl))
  (case kO => kernel_rfl)
  intro g' L' h' tk9 g9 d9 o9 A9 m9 ek9 qk F' N' B' X' T'
  (try k_lift B')
  clear F N
  k_extra "k_steps"
  all_goals (apply hret <;> k_extra "kd_facts")
end

theorem words_31 : True := by
  w_top off
  (k_with "call ref" => ((first | (with_reducible show wpAny _ _ (call (Value.ref 430) [Value.ref _, Value.ref _]) _ _ _) | ((conv => arg 3; dsimp only [List.cons_append, List.nil_append]); (with_reducible show wpAny _ _ (call (Value.ref 430) [Value.ref _, Value.ref _]) _ _ _))); k_dflt (refine' elderRow (by k_asm) (by k_asm) (by k_asm) (by k_asm) (by k_asm) (by first | exact rfl | assumption) (by k_extra "k_mem") (by k_extra "k_mem") (by k_extra "k_mem") (by k_extra "k_mem") (by k_extra "k_mem") (by k_extra "ktr_room") (by k_extra "ktr_units") ?_); intro hZ tkZ FZ NZ; (try simp only [List.cons_append, List.nil_append] at NZ); (try k_sweep); (try dsimp only); (try k_fold)))
  (k_with "call ref" => ((first | (with_reducible show wpAny _ _ (call (Value.ref 430) [Value.ref _, Value.ref _]) _ _ _) | ((conv => arg 3; dsimp only [List.cons_append, List.nil_append]); (with_reducible show wpAny _ _ (call (Value.ref 430) [Value.ref _, Value.ref _]) _ _ _))); k_dflt (refine' elderDict (by k_asm) (by k_asm) (by k_asm) (by k_asm) (by k_asm) (by first | exact rfl | assumption) (by k_extra "k_mem") (by k_extra "k_mem") (by k_extra "k_mem") (by k_extra "k_mem") (by k_extra "k_mem") (by k_extra "ktr_room") (by k_extra "ktr_units") ?_); intro hZ tkZ FZ NZ; (try simp only [List.cons_append, List.nil_append] at NZ); (try k_sweep); (try dsimp only); (try k_fold)))
  (k_with "call ref" => ((first | (with_reducible show wpAny _ _ (call (Value.ref 437) [Value.ref _, Value.ref _, _]) _ _ _) | ((conv => arg 3; dsimp only [List.cons_append, List.nil_append]); (with_reducible show wpAny _ _ (call (Value.ref 437) [Value.ref _, Value.ref _, _]) _ _ _))); k_dflt (refine' holdsRow (by k_asm) (by k_asm) (by k_asm) (by k_asm) (by k_asm) (by first | exact rfl | assumption) (by k_extra "k_mem") (by k_extra "k_mem") (by k_extra "ktr_room") (by k_extra "ktr_units") ?_); intro hZ tkZ FZ NZ; (try simp only [List.cons_append, List.nil_append] at NZ); (try k_sweep); (try dsimp only); (try k_fold)))
  (k_with "call ref" => ((first | (with_reducible show wpAny _ _ (call (Value.ref 437) [Value.ref _, Value.ref _, _]) _ _ _) | ((conv => arg 3; dsimp only [List.cons_append, List.nil_append]); (with_reducible show wpAny _ _ (call (Value.ref 437) [Value.ref _, Value.ref _, _]) _ _ _))); k_dflt (refine' holdsDict (by k_asm) (by k_asm) (by k_asm) (by k_asm) (by k_asm) (by first | exact rfl | assumption) (by k_extra "k_mem") (by k_extra "k_mem") (by k_extra "ktr_room") (by k_extra "ktr_units") ?_); intro hZ tkZ FZ NZ; (try simp only [List.cons_append, List.nil_append] at NZ); (try k_sweep); (try dsimp only); (try k_fold)))
  trivial

section
variable {w : World} {p : Program} {loose : List Str} {mean : ExcName → Option Value} {mg mb : Str → Option Value} {dp un : Nat} {gd : Option (List Code)} {cn : Str} {cs : Scope} {a : Addr} {ccd : Value} {cl : List (Str × Addr)} {outer : List Env} {A₀ : Around} {base h₀ : Heap} {L : Addr} {m : Str → Option Value} {s : Shared} {Q E : Value → Shared → Prop} {led dk gr lits : Led}
theorem putItem0 {mm dm sv b db c k : Nat} {its : List Value} {v : Value} {i : Int} {ti : Tok} {rest : Led} {b1 b2 b3 b4 b5 b6 b7 b8 b9 b10 : Tok} {w1 w4 w5 w6 w7 w8 w9 w10 : Value} {g1 g2 g3 g4 u1 u2 u3 u4 tl} {nu : Value} (B : Below A₀ base outer h₀) (F : Fr h₀ L s.heap m) (X : (top.heap_1_39 w.params).In h₀) (N : News h₀ L s.heap led) (T : Top p loose mean mg mb h₀) (hk : cs.kind = .function) (hled : led = (c, listOf its.toArray k) :: rest) (hc : Off c rest)
    (m1 : (mm, instObj 594 dm) ∈ rest) (m2 : (dm, memD w b1 b2 b3 b4 b5 b6 b7 b8 b9 b10 w1 (.bool false) (.ref sv) w4 w5 w6 w7 w8 w9 w10) ∈ rest) (m5 : (sv, listOf #[] 0) ∈ rest)
    (n1 : (b, instObj 114 db) ∈ rest) (n2 : (db, rowD g1 g2 g3 g4 u1 u2 u3 u4 nu (.ref c) (.bool false) (.int 0 tl)) ∈ rest) (h0 : 0 ≤ i) (h1 : i < its.length) (hz : its.length < 1000) (hdp : dp + 9 < recursionLimit) (hun : un + 72 < cLine)
    (hret : ∀ k' h' tk', Fr h₀ L h' m → News h₀ L h' ((c, listOf (its.set i.toNat v).toArray k') :: rest) → Q .none { s with heap := h', toks := tk' }) :
    wpAny (model PySem.Challenge.rw_nt0501_01.row.prog w) (ktrTop dp un gd cn cs L a ccd cl outer) (call (.ref 444) [.ref mm, .ref b, .int i ti, v]) Q E s := by
  subst hled
  revert X; k_fill; intro X
  refine' entD (binds := [(Str.ofString "self", .ref mm), (Str.ofString "row", .ref b), (Str.ofString "at", .int i ti), (Str.ofString "thing", v)]) ?k1 ?k2 ?k3 ?k4 ?k5 ?kK ?k6 ?k7 ?k8 ?k9 ?kO ?_; (case kK => first | exact rfl | assumption); (case k1 => k_asm); (case k2 => k_asm); (case k3 => k_asm); (case k4 => k_asm); (case k5 => k_asm); (case k6 => k_is); (case k7 => k_is); (case k8 => k_extra "ktr_room")
  (case k9 => exact BindsTo.of_eq (by kernel_rfl))
  (case kO => kernel_rfl)
  intro g' L' h' tk9 g9 d9 o9 A9 m9 ek9 qk F' N' B' X' T'
  (try k_lift B')
  clear F N
  k_extra "k_steps"
  refine' for_one ?hh ?F0 ?hx ?hk ?F ?N ?m ?hev ?step ?hs ?hE
  (case F0 => k_asm)
  (case F => k_asm)
  (case N => k_asm)
  (case hx => kernel_rfl)
  (case hk => exact rfl)
  (case hh => exact rfl)
  (case m => k_extra "k_mem")
  (case hev => exact fun Q' q => nameX_L (by k_asm) rfl q (by kernel_rfl) (by kernel_rfl))
  (case hs => exact fun _ => rfl)
  (case hE => passes_own)
  intro h2 tk2 I oI lI F2 N2
  k_lt lI
  k_extra "k_steps"
  refine' ⟨_, _, _, _, rfl, ?e1, ?e2, ?e3, ?e4⟩
  (case e1 => k_asm)
  (case e2 => k_asm)
  (case e3 => exact off_one (by simp only [AllLt, and_true]; exact lI))
  intro h3 tk3 F3 N3
  k_sweep

  refine wpAny_execs_cons ?_
  refine' enum_one ?zhh ?zF0 ?zhx ?zhy ?zhk ?zF ?zN ?zm ?zhev ?zstep ?zhs ?zhE
  (case zF0 => k_asm)
  (case zF => k_asm)
  (case zN => k_asm)
  (case zhx => kernel_rfl)
  (case zhy => kernel_rfl)
  (case zhk => exact rfl)
  (case zhh => exact rfl)
  (case zm => k_extra "k_mem")
  (case zhev =>
    intro Q' q
    k_extra "k_steps"
    exact q)
  (case zhs => exact fun _ => rfl)
  (case zhE => passes_own)

  intro h2 tk2 t I I' oI oI' lI lI' F2 N2
  k_lt lI
  k_extra "k_steps"
  refine' ⟨_, _, _, _, rfl, ?g1, ?g2, ?g3, ?g4⟩
  (case g1 => k_asm)
  (case g2 => k_asm)
  (case g3 => exact off_two (by simp only [AllLt, and_true]; exact lI) lI')
  intro h4 tk4 F4 N4
  k_sweep
  k_extra "k_steps"
  rename News h₀ _ _ _ => nE
  simp only [Int.add_zero] at nE
  refine' hret _ _ _ ?f1 (news_sub nE ?f2)
  (case f1 => k_asm)
  (case f2 => k_extra "kqd_sub")
theorem putItem {mm nb b db c k : Nat} {mk : Led} {its : List Value} {v : Value} {i : Int} {ti : Tok} {g1 g2 g3 g4 u1 u2 u3 u4 tl} {nu : Value} (B : Below A₀ base outer h₀) (F : Fr h₀ L s.heap m) (X : (top.heap_1_39 w.params).In h₀) (N : News h₀ L s.heap led) (T : Top p loose mean mg mb h₀) (hk : cs.kind = .function) (hM : Mem w mm mk nb) (hs : Sub mk led) (hc : (c, listOf its.toArray k) ∈ led)
    (n1 : (b, instObj 114 db) ∈ led) (n2 : (db, rowD g1 g2 g3 g4 u1 u2 u3 u4 nu (.ref c) (.bool false) (.int 0 tl)) ∈ led) (hcm : Off c mk) (h0 : 0 ≤ i) (h1 : i < its.length) (hz : its.length < 1000) (hdp : dp + 9 < recursionLimit) (hun : un + 72 < cLine)
    (hret : ∀ k' h' tk', Fr h₀ L h' m → News h₀ L h' (setL c (listOf (its.set i.toNat v).toArray k') led) → Q .none { s with heap := h', toks := tk' }) :
    wpAny (model PySem.Challenge.rw_nt0501_01.row.prog w) (ktrTop dp un gd cn cs L a ccd cl outer) (call (.ref 444) [.ref mm, .ref b, .int i ti, v]) Q E s := by
  obtain ⟨mr, mf1, mf2, mf3, mf4, mf5⟩ := mem_one hM
  have st : ∀ p ∈ led, p.1 ≠ c → p ∈ led.filter fun p => decide (p.1 ≠ c) := fun p hp hn => List.mem_filter.mpr ⟨hp, by simpa using hn⟩
  refine putItem0 (rest := led.filter fun p => decide (p.1 ≠ c)) B F X (led := (c, listOf its.toArray k) :: led.filter fun p => decide (p.1 ≠ c)) (news_sub N (Sub.cons hc fun p hp => (List.mem_filter.mp hp).1)) T hk rfl (fun p hp => by simpa using (List.mem_filter.mp hp).2)
    (st _ (hs _ mf1) (hcm _ mf1)) (st _ (hs _ mf2) (hcm _ mf2)) (st _ (hs _ mf5) (hcm _ mf5)) (st _ n1 (news_ne N n1 hc (by intro e; cases congrArg Obj.data e))) (st _ n2 (news_ne N n2 hc (by intro e; cases congrArg Obj.data e))) h0 h1 hz hdp hun fun k' h' tk' F' N' => hret k' h' tk' F' N'
end

section
variable {w : World} {p : Program} {loose : List Str} {mean : ExcName → Option Value} {mg mb : Str → Option Value} {dp un : Nat} {gd : Option (List Code)} {cn : Str} {cs : Scope} {a : Addr} {ccd : Value} {cl : List (Str × Addr)} {outer : List Env} {A₀ : Around} {base h₀ : Heap} {L : Addr} {m : Str → Option Value} {s : Shared} {Q E : Value → Shared → Prop} {led dk gr lits : Led}
theorem keyOf {x : Nat} {nm : Str} {l : List Int} (B : Below A₀ base outer h₀) (F : Fr h₀ L s.heap m) (X : (top.heap_1_39 w.params).In h₀) (N : News h₀ L s.heap led) (T : Top p loose mean mg mb h₀) (hk : cs.kind = .function) (hK : KeyTh led x nm l) (hdp : dp + 5 < recursionLimit) (hun : un + 40 < cLine)
    (hret : ∀ (kt : Nat) t us h' tk', Fr h₀ L h' m → News h₀ L h' ((kt, tupOf (.str nm t :: us).toArray) :: led) → IntsAre us l → AllLt kt led → Q (.ref kt) { s with heap := h', toks := tk' }) :
    wpAny (model PySem.Challenge.rw_nt0501_01.row.prog w) (ktrTop dp un gd cn cs L a ccd cl outer) (call (.ref 288) [.ref x]) Q E s := by
  cases hK with
  | num m1 m2 h0 hi => exact keyOfInt B F X N T hk m1 m2 h0 hi hdp hun fun kt t t' h' tk' F' N' l1 => hret kt t [_] h' tk' F' N' (.cons _ _ .nil) l1
  | arr m1 m2 m3 m4 m5 m6 => exact keyOfArr B F X N T hk m1 m2 m3 m4 m5 m6 hdp hun fun kt t h' tk' F' N' l1 => hret kt t [_, _, _] h' tk' F' N' (.cons _ _ (.cons _ _ (.cons _ _ .nil))) l1
theorem keyThing2 {x : Nat} {nm : Str} {l : List Int} (B : Below A₀ base outer h₀) (F : Fr h₀ L s.heap m) (X : (top.heap_1_39 w.params).In h₀) (N : News h₀ L s.heap led) (T : Top p loose mean mg mb h₀) (hk : cs.kind = .function) (hK : KeyTh led x nm l) (hdp : dp + 5 < recursionLimit) (hun : un + 40 < cLine)
    (hret : ∀ h' tk', Fr h₀ L h' m → News h₀ L h' led → Q (.ref x) { s with heap := h', toks := tk' }) :
    wpAny (model PySem.Challenge.rw_nt0501_01.row.prog w) (ktrTop dp un gd cn cs L a ccd cl outer) (call (.ref 295) [.ref x]) Q E s := by
  cases hK with
  | num m1 m2 h0 hi => exact keyThing B F X N T hk m1 m2 (.inl rfl) hdp hun hret
  | arr m1 m2 m3 m4 m5 m6 => exact keyThing B F X N T hk m1 m2 (.inr rfl) hdp hun hret
end

theorem words_34 : True := by
  w_top off
  (k_with "call ref" => ((first | (with_reducible show wpAny _ _ (call (Value.ref 288) [Value.ref _]) _ _ _) | ((conv => arg 3; dsimp only [List.cons_append, List.nil_append]); (with_reducible show wpAny _ _ (call (Value.ref 288) [Value.ref _]) _ _ _))); k_dflt (refine' keyOf (by k_asm) (by k_asm) (by k_asm) (by k_asm) (by k_asm) (by first | exact rfl | assumption) (by first | assumption | exact KeyTh.mono (by assumption) (by k_extra "kqd_sub")) (by k_extra "ktr_room") (by k_extra "ktr_units") ?_); intro ktZ tZ usZ hZ tkZ FZ NZ hIZ l1Z; (try dsimp only [List.cons_append, List.nil_append, AllLt] at l1Z); (try simp only [List.cons_append, List.nil_append] at NZ); (try k_sweep); (try dsimp only); (try k_fold)))
  (k_with "call ref" => ((first | (with_reducible show wpAny _ _ (call (Value.ref 295) [Value.ref _]) _ _ _) | ((conv => arg 3; dsimp only [List.cons_append, List.nil_append]); (with_reducible show wpAny _ _ (call (Value.ref 295) [Value.ref _]) _ _ _))); k_dflt (refine' keyThing2 (by k_asm) (by k_asm) (by k_asm) (by k_asm) (by k_asm) (by first | exact rfl | assumption) (by first | assumption | exact KeyTh.mono (by assumption) (by k_extra "kqd_sub")) (by k_extra "ktr_room") (by k_extra "ktr_units") ?_); intro hZ tkZ FZ NZ; (try simp only [List.cons_append, List.nil_append] at NZ); (try k_sweep); (try dsimp only); (try k_fold)))
  trivial

section
variable {w : World} {p : Program} {loose : List Str} {mean : ExcName → Option Value} {mg mb : Str → Option Value} {dp un : Nat} {gd : Option (List Code)} {cn : Str} {cs : Scope} {a : Addr} {ccd : Value} {cl : List (Str × Addr)} {outer : List Env} {A₀ : Around} {base h₀ : Heap} {L : Addr} {m : Str → Option Value} {s : Shared} {Q E : Value → Shared → Prop} {led dk gr lits : Led}
theorem putEntry0 {mm dm sv b db en n x : Nat} {xs : List KX} {v : Value} {nm : Str} {l : List Int} {mo : Int} {rest : Led} {b1 b2 b3 b4 b5 b6 b7 b8 b9 b10 : Tok} {w1 w4 w5 w6 w7 w8 w9 w10 : Value} {g1 g2 g3 g4 g5 g6 u1 u2 u3 u4 u5 u6 tl tm} {nu ac : Value} (B : Below A₀ base outer h₀) (F : Fr h₀ L s.heap m) (X : (top.heap_1_39 w.params).In h₀) (N : News h₀ L s.heap led) (T : Top p loose mean mg mb h₀) (hk : cs.kind = .function) (hled : led = (en, kdict w xs n) :: rest) (hc : Off en rest) (lo : (en == sysModules) = false)
    (m1 : (mm, instObj 594 dm) ∈ rest) (m2 : (dm, memD w b1 b2 b3 b4 b5 b6 b7 b8 b9 b10 w1 (.bool false) (.ref sv) w4 w5 w6 w7 w8 w9 w10) ∈ rest) (m5 : (sv, listOf #[] 0) ∈ rest)
    (n1 : (b, instObj 147 db) ∈ rest) (n2 : (db, dictD g1 g2 g3 g4 g5 g6 u1 u2 u3 u4 u5 u6 nu (.int mo tm) (.bool false) (.int 0 tl) ac (.ref en)) ∈ rest) (hK : KeyTh rest x nm l) (his : KeysIn rest xs) (hn : KNd xs) (hz : xs.length < 1000)
    (hg : kget (.tup nm l) xs = none ∧ (xs.length : Int) < mo) (hdp : dp + 9 < recursionLimit) (hun : un + 72 < cLine)
    (hret : ∀ (kt tt k' : Nat) t us h' tk', Fr h₀ L h' m → News h₀ L h' ((en, kdict w (kput (.tup nm l) (.ref kt) (.ref tt) xs) k') :: (tt, tupOf #[.ref x, v]) :: (kt, tupOf (.str nm t :: us).toArray) :: rest) → IntsAre us l → AllLt kt rest → en < kt → kt < tt → Q .none { s with heap := h', toks := tk' }) :
    wpAny (model PySem.Challenge.rw_nt0501_01.row.prog w) (ktrTop dp un gd cn cs L a ccd cl outer) (call (.ref 479) [.ref mm, .ref b, .ref x, v]) Q E s := by
  subst hled
  have hok := hK.ok
  (refine xA hg fun hg1 hg2 => ?_; clear hg)
  revert X; k_fill; intro X
  refine' entD (binds := [(Str.ofString "self", .ref mm), (Str.ofString "body", .ref b), (Str.ofString "key", .ref x), (Str.ofString "thing", v)]) ?k1 ?k2 ?k3 ?k4 ?k5 ?kK ?k6 ?k7 ?k8 ?k9 ?kO ?_; (case kK => first | exact rfl | assumption); (case k1 => k_asm); (case k2 => k_asm); (case k3 => k_asm); (case k4 => k_asm); (case k5 => k_asm); (case k6 => k_is); (case k7 => k_is); (case k8 => k_extra "ktr_room")
  (case k9 => exact BindsTo.of_eq (by kernel_rfl))
  (case kO => kernel_rfl)
  intro g' L' h' tk9 g9 d9 o9 A9 m9 ek9 qk F' N' B' X' T'
  (try k_lift B')
  clear F N
  k_extra "k_steps"
  rename News h₀ _ _ _ => nE
  rename IntsAre _ _ => hI
  refine' hret _ _ _ _ _ _ _ ?f1 (news_sub nE ?f2) hI ?f3 ?f5 ?f4
  (case f1 => k_asm)
  (case f2 => k_extra "kqd_sub")
  (case f3 => tbn_find)
  (case f5 => first | omega | tbn_find)
  (case f4 => first | omega | tbn_find)
theorem putEntry1 {mm dm sv b db en n x t0 : Nat} {kept th0 : Value} {xs : List KX} {v : Value} {nm : Str} {l : List Int} {mo : Int} {rest : Led} {b1 b2 b3 b4 b5 b6 b7 b8 b9 b10 : Tok} {w1 w4 w5 w6 w7 w8 w9 w10 : Value} {g1 g2 g3 g4 g5 g6 u1 u2 u3 u4 u5 u6 tl tm} {nu ac : Value} (B : Below A₀ base outer h₀) (F : Fr h₀ L s.heap m) (X : (top.heap_1_39 w.params).In h₀) (N : News h₀ L s.heap led) (T : Top p loose mean mg mb h₀) (hk : cs.kind = .function) (hled : led = (en, kdict w xs n) :: rest) (hc : Off en rest) (lo : (en == sysModules) = false)
    (m1 : (mm, instObj 594 dm) ∈ rest) (m2 : (dm, memD w b1 b2 b3 b4 b5 b6 b7 b8 b9 b10 w1 (.bool false) (.ref sv) w4 w5 w6 w7 w8 w9 w10) ∈ rest) (m5 : (sv, listOf #[] 0) ∈ rest)
    (n1 : (b, instObj 147 db) ∈ rest) (n2 : (db, dictD g1 g2 g3 g4 g5 g6 u1 u2 u3 u4 u5 u6 nu (.int mo tm) (.bool false) (.int 0 tl) ac (.ref en)) ∈ rest) (hK : KeyTh rest x nm l) (his : KeysIn rest xs) (hn : KNd xs) (hz : xs.length < 1000)
    (hg1 : kget (.tup nm l) xs = some (.ref t0)) (hg2 : (t0, tupOf #[kept, th0]) ∈ rest) (hdp : dp + 9 < recursionLimit) (hun : un + 72 < cLine)
    (hret : ∀ (kt tt k' : Nat) t us h' tk', Fr h₀ L h' m → News h₀ L h' ((en, kdict w (kput (.tup nm l) (.ref kt) (.ref tt) xs) k') :: (tt, tupOf #[kept, v]) :: (kt, tupOf (.str nm t :: us).toArray) :: rest) → IntsAre us l → AllLt kt rest → en < kt → kt < tt → Q .none { s with heap := h', toks := tk' }) :
    wpAny (model PySem.Challenge.rw_nt0501_01.row.prog w) (ktrTop dp un gd cn cs L a ccd cl outer) (call (.ref 479) [.ref mm, .ref b, .ref x, v]) Q E s := by
  subst hled
  have hok := hK.ok
  revert X; k_fill; intro X
  refine' entD (binds := [(Str.ofString "self", .ref mm), (Str.ofString "body", .ref b), (Str.ofString "key", .ref x), (Str.ofString "thing", v)]) ?k1 ?k2 ?k3 ?k4 ?k5 ?kK ?k6 ?k7 ?k8 ?k9 ?kO ?_; (case kK => first | exact rfl | assumption); (case k1 => k_asm); (case k2 => k_asm); (case k3 => k_asm); (case k4 => k_asm); (case k5 => k_asm); (case k6 => k_is); (case k7 => k_is); (case k8 => k_extra "ktr_room")
  (case k9 => exact BindsTo.of_eq (by kernel_rfl))
  (case kO => kernel_rfl)
  intro g' L' h' tk9 g9 d9 o9 A9 m9 ek9 qk F' N' B' X' T'
  (try k_lift B')
  clear F N
  k_extra "k_steps"
  rename News h₀ _ _ _ => nE
  rename IntsAre _ _ => hI
  refine' hret _ _ _ _ _ _ _ ?f1 (news_sub nE ?f2) hI ?f3 ?f5 ?f4
  (case f1 => k_asm)
  (case f2 => k_extra "kqd_sub")
  (case f3 => tbn_find)
  (case f5 => first | omega | tbn_find)
  (case f4 => first | omega | tbn_find)
end

section
variable {w : World} {p : Program} {loose : List Str} {mean : ExcName → Option Value} {mg mb : Str → Option Value} {dp un : Nat} {gd : Option (List Code)} {cn : Str} {cs : Scope} {a : Addr} {ccd : Value} {cl : List (Str × Addr)} {outer : List Env} {A₀ : Around} {base h₀ : Heap} {L : Addr} {m : Str → Option Value} {s : Shared} {Q E : Value → Shared → Prop} {led dk gr lits : Led}
theorem putEntry {mm nb b db en n x : Nat} {mk : Led} {xs : List KX} {v : Value} {nm : Str} {l : List Int} {mo : Int} {g1 g2 g3 g4 g5 g6 u1 u2 u3 u4 u5 u6 tl tm} {nu ac : Value} (B : Below A₀ base outer h₀) (F : Fr h₀ L s.heap m) (X : (top.heap_1_39 w.params).In h₀) (N : News h₀ L s.heap led) (T : Top p loose mean mg mb h₀) (hk : cs.kind = .function) (hM : Mem w mm mk nb) (hs : Sub mk led) (hc : (en, kdict w xs n) ∈ led) (lo : (en == sysModules) = false) (hcm : Off en mk)
    (n1 : (b, instObj 147 db) ∈ led) (n2 : (db, dictD g1 g2 g3 g4 g5 g6 u1 u2 u3 u4 u5 u6 nu (.int mo tm) (.bool false) (.int 0 tl) ac (.ref en)) ∈ led) (hK : KeyTh led x nm l) (his : KeysIn led xs) (hn : KNd xs) (hz : xs.length < 1000)
    (hg : (kget (.tup nm l) xs = none ∧ (xs.length : Int) < mo) ∨ ∃ t0 kept th0, kget (.tup nm l) xs = some (.ref t0) ∧ (t0, tupOf #[kept, th0]) ∈ led) (hdp : dp + 9 < recursionLimit) (hun : un + 72 < cLine)
    (hret : ∀ (kt tt k' : Nat) t us kept h' tk', Fr h₀ L h' m → News h₀ L h' ((en, kdict w (kput (.tup nm l) (.ref kt) (.ref tt) xs) k') :: (tt, tupOf #[kept, v]) :: (kt, tupOf (.str nm t :: us).toArray) :: restL en led) → IntsAre us l → AllLt kt (restL en led) → en < kt → kt < tt →
      ((kget (.tup nm l) xs = none ∧ kept = .ref x) ∨ ∃ t0 th0, kget (.tup nm l) xs = some (.ref t0) ∧ (t0, tupOf #[kept, th0]) ∈ led) → Q .none { s with heap := h', toks := tk' }) :
    wpAny (model PySem.Challenge.rw_nt0501_01.row.prog w) (ktrTop dp un gd cn cs L a ccd cl outer) (call (.ref 479) [.ref mm, .ref b, .ref x, v]) Q E s := by
  obtain ⟨mr, mf1, mf2, mf3, mf4, mf5⟩ := mem_one hM
  rcases hg with hg | ⟨t0, kept, th0, hg1, hg2⟩
  · exact putEntry0 (rest := restL en led) B F X (led := (en, kdict w xs n) :: restL en led) (news_sub N (Sub.cons hc rest_sub)) T hk rfl rest_off lo (rest_of (hs _ mf1) (hcm _ mf1)) (rest_of (hs _ mf2) (hcm _ mf2)) (rest_of (hs _ mf5) (hcm _ mf5)) (rest_inst N hc n1) (rest_dict N hc his n2) (rest_key N hc his hK) (rest_keys N hc his) hn hz hg hdp hun
      fun kt tt k' t us h' tk' F' N' hI l1 l2 l3 => hret kt tt k' t us _ h' tk' F' N' hI l1 l2 l3 (.inl ⟨hg.1, rfl⟩)
  · exact putEntry1 (rest := restL en led) B F X (led := (en, kdict w xs n) :: restL en led) (news_sub N (Sub.cons hc rest_sub)) T hk rfl rest_off lo (rest_of (hs _ mf1) (hcm _ mf1)) (rest_of (hs _ mf2) (hcm _ mf2)) (rest_of (hs _ mf5) (hcm _ mf5)) (rest_inst N hc n1) (rest_dict N hc his n2) (rest_key N hc his hK) (rest_keys N hc his) hn hz hg1 (rest_tup N hc hg2) hdp hun
      fun kt tt k' t us h' tk' F' N' hI l1 l2 l3 => hret kt tt k' t us _ h' tk' F' N' hI l1 l2 l3 (.inr ⟨t0, th0, hg1, hg2⟩)
theorem dropEntry0 {mm dm sv b db en n x : Nat} {xs : List KX} {v : Value} {nm : Str} {l : List Int} {rest : Led} {b1 b2 b3 b4 b5 b6 b7 b8 b9 b10 : Tok} {w1 w4 w5 w6 w7 w8 w9 w10 : Value} {g1 g2 g3 g4 g5 g6 u1 u2 u3 u4 u5 u6 tl} {nu mo ac : Value} (B : Below A₀ base outer h₀) (F : Fr h₀ L s.heap m) (X : (top.heap_1_39 w.params).In h₀) (N : News h₀ L s.heap led) (T : Top p loose mean mg mb h₀) (hk : cs.kind = .function) (hled : led = (en, kdict w xs n) :: rest) (hc : Off en rest) (lo : (en == sysModules) = false)
    (m1 : (mm, instObj 594 dm) ∈ rest) (m2 : (dm, memD w b1 b2 b3 b4 b5 b6 b7 b8 b9 b10 w1 (.bool false) (.ref sv) w4 w5 w6 w7 w8 w9 w10) ∈ rest) (m5 : (sv, listOf #[] 0) ∈ rest)
    (n1 : (b, instObj 147 db) ∈ rest) (n2 : (db, dictD g1 g2 g3 g4 g5 g6 u1 u2 u3 u4 u5 u6 nu mo (.bool false) (.int 0 tl) ac (.ref en)) ∈ rest) (hK : KeyTh rest x nm l) (his : KeysIn rest xs) (hn : KNd xs) (hz : xs.length < 1000)
    (hg : kget (.tup nm l) xs = some v) (hdp : dp + 9 < recursionLimit) (hun : un + 72 < cLine)
    (hret : ∀ (k' : Nat) h' tk', Fr h₀ L h' m → News h₀ L h' ((en, kdict w (kdel (.tup nm l) xs) k') :: rest) → Q .none { s with heap := h', toks := tk' }) :
    wpAny (model PySem.Challenge.rw_nt0501_01.row.prog w) (ktrTop dp un gd cn cs L a ccd cl outer) (call (.ref 486) [.ref mm, .ref b, .ref x]) Q E s := by
  subst hled
  have hok := hK.ok
  revert X; k_fill; intro X
  refine' entD (binds := [(Str.ofString "self", .ref mm), (Str.ofString "body", .ref b), (Str.ofString "key", .ref x)]) ?k1 ?k2 ?k3 ?k4 ?k5 ?kK ?k6 ?k7 ?k8 ?k9 ?kO ?_; (case kK => first | exact rfl | assumption); (case k1 => k_asm); (case k2 => k_asm); (case k3 => k_asm); (case k4 => k_asm); (case k5 => k_asm); (case k6 => k_is); (case k7 => k_is); (case k8 => k_extra "ktr_room")
  (case k9 => exact BindsTo.of_eq (by kernel_rfl))
  (case kO => kernel_rfl)
  intro g' L' h' tk9 g9 d9 o9 A9 m9 ek9 qk F' N' B' X' T'
  (try k_lift B')
  clear F N
  k_extra "k_steps"

  rename News h₀ _ _ _ => nE
  refine' hret _ _ _ ?f1 (news_sub nE ?f2)
  (case f1 => k_asm)
  (case f2 => k_extra "kqd_sub")
theorem dropEntry {mm nb b db en n x : Nat} {mk : Led} {xs : List KX} {v : Value} {nm : Str} {l : List Int} {g1 g2 g3 g4 g5 g6 u1 u2 u3 u4 u5 u6 tl} {nu mo ac : Value} (B : Below A₀ base outer h₀) (F : Fr h₀ L s.heap m) (X : (top.heap_1_39 w.params).In h₀) (N : News h₀ L s.heap led) (T : Top p loose mean mg mb h₀) (hk : cs.kind = .function) (hM : Mem w mm mk nb) (hs : Sub mk led) (hc : (en, kdict w xs n) ∈ led) (lo : (en == sysModules) = false) (hcm : Off en mk)
    (n1 : (b, instObj 147 db) ∈ led) (n2 : (db, dictD g1 g2 g3 g4 g5 g6 u1 u2 u3 u4 u5 u6 nu mo (.bool false) (.int 0 tl) ac (.ref en)) ∈ led) (hK : KeyTh led x nm l) (his : KeysIn led xs) (hn : KNd xs) (hz : xs.length < 1000)
    (hg : kget (.tup nm l) xs = some v) (hdp : dp + 9 < recursionLimit) (hun : un + 72 < cLine)
    (hret : ∀ (k' : Nat) h' tk', Fr h₀ L h' m → News h₀ L h' ((en, kdict w (kdel (.tup nm l) xs) k') :: restL en led) → Q .none { s with heap := h', toks := tk' }) :
    wpAny (model PySem.Challenge.rw_nt0501_01.row.prog w) (ktrTop dp un gd cn cs L a ccd cl outer) (call (.ref 486) [.ref mm, .ref b, .ref x]) Q E s := by
  obtain ⟨mr, mf1, mf2, mf3, mf4, mf5⟩ := mem_one hM
  exact dropEntry0 (rest := restL en led) B F X (led := (en, kdict w xs n) :: restL en led) (news_sub N (Sub.cons hc rest_sub)) T hk rfl rest_off lo (rest_of (hs _ mf1) (hcm _ mf1)) (rest_of (hs _ mf2) (hcm _ mf2)) (rest_of (hs _ mf5) (hcm _ mf5)) (rest_inst N hc n1) (rest_dict N hc his n2) (rest_key N hc his hK) (rest_keys N hc his) hn hz hg hdp hun hret
end

section
variable {w : World} {p : Program} {loose : List Str} {mean : ExcName → Option Value} {mg mb : Str → Option Value} {dp un : Nat} {gd : Option (List Code)} {cn : Str} {cs : Scope} {a : Addr} {ccd : Value} {cl : List (Str × Addr)} {outer : List Env} {A₀ : Around} {base h₀ : Heap} {L : Addr} {m : Str → Option Value} {s : Shared} {Q E : Value → Shared → Prop} {led dk gr lits : Led}
theorem withinRow {b db c k : Nat} {its : List Value} {g1 g2 g3 g4 u1 u2 u3 u4} {nu gl lv : Value} (B : Below A₀ base outer h₀) (F : Fr h₀ L s.heap m) (X : (top.heap_1_39 w.params).In h₀) (N : News h₀ L s.heap led) (T : Top p loose mean mg mb h₀) (hk : cs.kind = .function) (m1 : (b, instObj 114 db) ∈ led) (m2 : (db, rowD g1 g2 g3 g4 u1 u2 u3 u4 nu (.ref c) gl lv) ∈ led) (hdp : dp + 5 < recursionLimit) (hun : un + 40 < cLine)
    (hret : ∀ h' tk', Fr h₀ L h' m → News h₀ L h' led → Q (.ref c) { s with heap := h', toks := tk' }) :
    wpAny (model PySem.Challenge.rw_nt0501_01.row.prog w) (ktrTop dp un gd cn cs L a ccd cl outer) (call (.ref 610) [.ref b]) Q E s := by
  revert X; k_fill; intro X
  refine' entD (binds := [(Str.ofString "body", .ref b)]) ?k1 ?k2 ?k3 ?k4 ?k5 ?kK ?k6 ?k7 ?k8 ?k9 ?kO ?_; (case kK => first | exact rfl | assumption); (case k1 => k_asm); (case k2 => k_asm); (case k3 => k_asm); (case k4 => k_asm); (case k5 => k_asm); (case k6 => k_is); (case k7 => k_is); (case k8 => k_extra "ktr_room")
  (case k9 => exact BindsTo.of_eq (by kernel_rfl))
  (case kO => kernel_rfl)
  intro g' L' h' tk9 g9 d9 o9 A9 m9 ek9 qk F' N' B' X' T'
  (try k_lift B')
  clear F N
  k_extra "k_steps"
  all_goals (apply hret <;> k_extra "kd_facts")
theorem withinText {b db : Nat} {g1 g2 g3 g4 u1 u2 u3 u4} {nu oc gl lv : Value} (B : Below A₀ base outer h₀) (F : Fr h₀ L s.heap m) (X : (top.heap_1_39 w.params).In h₀) (N : News h₀ L s.heap led) (T : Top p loose mean mg mb h₀) (hk : cs.kind = .function) (m1 : (b, instObj 93 db) ∈ led) (m2 : (db, textD g1 g2 g3 g4 u1 u2 u3 u4 nu oc gl lv) ∈ led) (hdp : dp + 5 < recursionLimit) (hun : un + 40 < cLine)
    (hret : ∀ (c : Nat) h' tk', Fr h₀ L h' m → News h₀ L h' ((c, listOf #[] 0) :: led) → Q (.ref c) { s with heap := h', toks := tk' }) :
    wpAny (model PySem.Challenge.rw_nt0501_01.row.prog w) (ktrTop dp un gd cn cs L a ccd cl outer) (call (.ref 610) [.ref b]) Q E s := by
  revert X; k_fill; intro X
  refine' entD (binds := [(Str.ofString "body", .ref b)]) ?k1 ?k2 ?k3 ?k4 ?k5 ?kK ?k6 ?k7 ?k8 ?k9 ?kO ?_; (case kK => first | exact rfl | assumption); (case k1 => k_asm); (case k2 => k_asm); (case k3 => k_asm); (case k4 => k_asm); (case k5 => k_asm); (case k6 => k_is); (case k7 => k_is); (case k8 => k_extra "ktr_room")
  (case k9 => exact BindsTo.of_eq (by kernel_rfl))
  (case kO => kernel_rfl)
  intro g' L' h' tk9 g9 d9 o9 A9 m9 ek9 qk F' N' B' X' T'
  (try k_lift B')
  clear F N
  k_extra "k_steps"

  all_goals (apply hret <;> k_extra "kd_facts")
end

section
variable {w : World} {p : Program} {loose : List Str} {mean : ExcName → Option Value} {mg mb : Str → Option Value} {dp un : Nat} {gd : Option (List Code)} {cn : Str} {cs : Scope} {a : Addr} {ccd : Value} {cl : List (Str × Addr)} {outer : List Env} {A₀ : Around} {base h₀ : Heap} {L : Addr} {m : Str → Option Value} {s : Shared} {Q E : Value → Shared → Prop} {led dk gr lits : Led}
theorem withinDict {b db en n : Nat} {xs : List KX} {its : List Value} {g1 g2 g3 g4 g5 g6 u1 u2 u3 u4 u5 u6} {nu mo gl lv ac : Value} (B : Below A₀ base outer h₀) (F : Fr h₀ L s.heap m) (X : (top.heap_1_39 w.params).In h₀) (N : News h₀ L s.heap led) (T : Top p loose mean mg mb h₀) (hk : cs.kind = .function) (m1 : (b, instObj 147 db) ∈ led) (m2 : (db, dictD g1 g2 g3 g4 g5 g6 u1 u2 u3 u4 u5 u6 nu mo gl lv ac (.ref en)) ∈ led) (m3 : (en, kdict w xs n) ∈ led) (lo : (en == sysModules) = false) (his : KeysIn led xs) (hn : KNd xs) (hz : xs.length < 500) (hE : Ents led xs its) (hdp : dp + 9 < recursionLimit) (hun : un + 72 < cLine)
    (hret : ∀ (c k' : Nat) h' tk', Fr h₀ L h' m → News h₀ L h' ((c, listOf its.toArray k') :: led) → Q (.ref c) { s with heap := h', toks := tk' }) :
    wpAny (model PySem.Challenge.rw_nt0501_01.row.prog w) (ktrTop dp un gd cn cs L a ccd cl outer) (call (.ref 610) [.ref b]) Q E s := by
  revert X; k_fill; intro X
  refine' entD (binds := [(Str.ofString "body", .ref b)]) ?k1 ?k2 ?k3 ?k4 ?k5 ?kK ?k6 ?k7 ?k8 ?k9 ?kO ?_; (case kK => first | exact rfl | assumption); (case k1 => k_asm); (case k2 => k_asm); (case k3 => k_asm); (case k4 => k_asm); (case k5 => k_asm); (case k6 => k_is); (case k7 => k_is); (case k8 => k_extra "ktr_room")
  (case k9 => exact BindsTo.of_eq (by kernel_rfl))
  (case kO => kernel_rfl)
  intro g' L' h' tk9 g9 d9 o9 A9 m9 ek9 qk F' N' B' X' T'
  (try k_lift B')
  clear F N
  k_extra "k_steps"
  have hfd9 : ∃ f : Addr, f = lZ := ⟨_, rfl⟩
  (revert hfd9; intro zo; refine xE zo fun fd hfd9 => ?_; clear zo)
  subst hfd9
  refine' for_pairs2 (vs := xs.map (·.2.2)) (fun i X => ∃ k', X = (fd, listOf (its.take (2 * i)).toArray k') :: led) ?hh ?F0 ?hx ?hy ?hk ?h ?hs ?hE
  (case F0 => k_asm)
  (case hx => kernel_rfl)
  (case hy => kernel_rfl)
  (case hk => exact rfl)
  (case hh => exact rfl)
  (case hs => exact fun _ => rfl)
  (case hE => passes_own)
  k_extra "k_steps"
  rename Addr => L2
  refine' comp_expr ?c0 ?c1 ?c2 ?c3 ?c4 ?c5 (fun _ => rfl)
  (case c0 => k_asm)
  (case c1 => with_unfolding_all rfl)
  (case c2 => decide)
  (case c3 => exact rfl)
  (case c4 => decide)
  k_extra "k_steps"
  refine' psrc_dict (fun i ys => ys = (xs.take i).map (·.2.2)) ?d0 ?d1 ?d2 ?d3 ?d4 ?d5 ?d6 ?d7 ?d8 ?d9 ?da
  (case d0 => exact rfl)
  (case d1 => k_asm)
  (case d2 => k_asm)
  (case d3 => k_extra "k_mem")
  (case d4 => assumption)
  (case d5 => omega)
  (case d6 => decide)
  (case d7 => exact rfl)
  (case d8 => exact rfl)
  · rintro i ys h₁ tk₁ own C oC D mC E' hi ⟨x, hx, hxm⟩ rfl hoC hCD F₁ N₁
    have hkx := kget_at hn hx
    have hki := his x (List.mem_of_getElem? hx)
    refine wpAny_tests_nil ?_
    simp only [if_true]
    k_extra "k_steps"
    exact ⟨_, _, rfl, by k_asm, by k_asm, (take_map_succ (·.2.2) hx).symm⟩
  · rintro D h2 tk2 ys F2 N2 oD rfl
    k_sweep
    rw [List.take_length] at N2
    k_extra "k_steps"
    rename News _ _ _ ((D, _) :: _) => nD
    have ofd : Off fd led := allLt_off (allLt_of (by assumption))
    have hfD : @Ne Nat fd D := oD (fd, _) (by k_extra "k_mem")
    have hlen := hE.length
    refine' ⟨D, _, (fd, listOf #[] 0) :: led, _, _, rfl, rfl, ?x1, news_sub nD ?x2, News.one nD ?x3, ?x4, ?x5, ?x6, ?x7, ?x8⟩
    (case x1 => k_asm)
    (case x2 => k_extra "kqd_sub")
    (case x3 => k_extra "k_mem")
    (case x4 => simp; omega)
    (case x5 => exact ⟨0, by simp⟩)
    · rintro i v X hv ⟨k', rfl⟩
      (refine xEEEAA (hE.at hv) fun tt u u' zr1 hm _ => ?_; subst zr1)
      exact ⟨tt, u, u', rfl, List.mem_cons_of_mem _ hm⟩
    · rintro i tt u u' X h₁ tk₁ I oI hv hT ⟨k', rfl⟩ off lt F₁ N₁
      refine xEEEAA (hE.at hv) fun tt' v v' e1 hm ht => ?_
      cases e1
      cases news_func N₁ (List.mem_cons_of_mem _ (List.mem_cons_of_mem _ hT)) (List.mem_cons_of_mem _ (List.mem_cons_of_mem _ (List.mem_cons_of_mem _ hm)))
      have hfI : @Ne Nat fd I := by simpa using off (fd, _) (.head _)
      k_extra "k_steps"
      refine' ⟨_, _, (fd, listOf (its.take (2 * i) ++ [u] ++ [u']).toArray _) :: led, rfl, ?y1, ?y2, ?y3, ?y4⟩
      (case y1 => k_asm)
      (case y2 => k_asm)
      (case y3 => exact fun p hp => (List.mem_cons.mp hp).elim (fun e => by rw [e]; simpa using hfI) fun hp => off p (.tail _ hp))
      (case y4 => exact ⟨_, by rw [ht, List.append_assoc]; rfl⟩)
    · rintro h3 tk3 p q X F3 N3 ⟨k', rfl⟩
      k_sweep
      k_extra "k_steps"
      rename News h₀ _ _ _ => nE
      rw [List.length_map, ← hlen, List.take_length] at nE
      exact hret fd _ _ _ (by k_asm) nE
end

section
variable {w : World} {p : Program} {loose : List Str} {mean : ExcName → Option Value} {mg mb : Str → Option Value} {dp un : Nat} {gd : Option (List Code)} {cn : Str} {cs : Scope} {a : Addr} {ccd : Value} {cl : List (Str × Addr)} {outer : List Env} {A₀ : Around} {base h₀ : Heap} {L : Addr} {m : Str → Option Value} {s : Shared} {Q E : Value → Shared → Prop} {led dk gr lits : Led}
theorem within {b : Nat} {num : Int} {its : List Value} (B : Below A₀ base outer h₀) (F : Fr h₀ L s.heap m) (X : (top.heap_1_39 w.params).In h₀) (N : News h₀ L s.heap led) (T : Top p loose mean mg mb h₀) (hk : cs.kind = .function) (hH : HoldsB w led b num its) (hdp : dp + 9 < recursionLimit) (hun : un + 72 < cLine)
    (hret : ∀ (c k' : Nat) h' tk', Fr h₀ L h' m → News h₀ L h' ((c, listOf its.toArray k') :: led) → Q (.ref c) { s with heap := h', toks := tk' }) :
    wpAny (model PySem.Challenge.rw_nt0501_01.row.prog w) (ktrTop dp un gd cn cs L a ccd cl outer) (call (.ref 610) [.ref b]) Q E s := by
  cases hH with
  | row m1 m2 m3 hz => exact withinRow (k := 0) (its := its) B F X N T hk m1 m2 (by omega) (by omega) fun h' tk' F' N' => hret _ _ h' tk' F' (news_sub N' (Sub.cons m3 Sub.refl))
  | dict m1 m2 m3 lo his hn hz hE => exact withinDict B F X N T hk m1 m2 m3 lo his hn hz hE hdp hun hret
  | text m1 m2 => exact withinText B F X N T hk m1 m2 (by omega) (by omega) fun c h' tk' F' N' => hret _ _ h' tk' F' N'
theorem numAt {b : Nat} {num : Int} {its : List Value} {ex : Bool} (B : Below A₀ base outer h₀) (F : Fr h₀ L s.heap m) (X : (top.heap_1_39 w.params).In h₀) (N : News h₀ L s.heap led) (T : Top p loose mean mg mb h₀) (hk : cs.kind = .function) (hH : HoldsB w led b num its) (hret : ∀ t tk', Q (.int num t) { s with toks := tk' }) :
    wpAny (model PySem.Challenge.rw_nt0501_01.row.prog w) (ktrTop dp un gd cn cs L a ccd cl outer) (getAttr (.ref b) (Str.ofString "number") ex) Q E s := by
  cases hH with
  | row m1 m2 m3 hz =>
    revert X; k_fill; intro X
    k_extra "k_steps"
    exact hret _ _
  | dict m1 m2 m3 lo his hn hz hE =>
    revert X; k_fill; intro X
    k_extra "k_steps"
    exact hret _ _
  | text m1 m2 =>
    revert X; k_fill; intro X
    k_extra "k_steps"
    exact hret _ _
theorem kindAt {x : Nat} {o : Option Addr} {ex : Bool} (B : Below A₀ base outer h₀) (F : Fr h₀ L s.heap m) (X : (top.heap_1_39 w.params).In h₀) (N : News h₀ L s.heap led) (T : Top p loose mean mg mb h₀) (hk : cs.kind = .function) (hD : Den led (.ref x) o) (hret : ∀ kd t tk', kd ≠ Str.ofString "gstate" → Q (.str kd t) { s with toks := tk' }) :
    wpAny (model PySem.Challenge.rw_nt0501_01.row.prog w) (ktrTop dp un gd cn cs L a ccd cl outer) (getAttr (.ref x) (Str.ofString "kind") ex) Q E s := by
  cases hD with
  | leaf m1 m2 hk =>
    revert X; k_fill; intro X
    k_extra "k_steps"
    exact hret _ _ _ (by rcases hk with rfl | rfl | rfl <;> decide +kernel)
  | dict m1 m2 =>
    revert X; k_fill; intro X
    k_extra "k_steps"
    exact hret _ _ _ (by decide +kernel)
  | span m1 m2 m3 m4 hk =>
    revert X; k_fill; intro X
    k_extra "k_steps"
    exact hret _ _ _ (by rcases hk with rfl | rfl | rfl <;> decide +kernel)
end

theorem words_40 : True := by
  w_top off
  (k_with "call ref" => ((first | (with_reducible show wpAny _ _ (call (Value.ref 610) [Value.ref _]) _ _ _) | ((conv => arg 3; dsimp only [List.cons_append, List.nil_append]); (with_reducible show wpAny _ _ (call (Value.ref 610) [Value.ref _]) _ _ _))); k_dflt (refine' within (by k_asm) (by k_asm) (by k_asm) (by k_asm) (by k_asm) (by first | exact rfl | assumption) (by first | assumption | exact HoldsB.mono (by assumption) (by k_extra "kqd_sub")) (by k_extra "ktr_room") (by k_extra "ktr_units") ?_); intro cZ kZ hZ tkZ FZ NZ; (try simp only [List.cons_append, List.nil_append] at NZ); (try k_sweep); (try dsimp only); (try k_fold)))
  (k_with "getAttr ref" => ((with_reducible show wpAny _ _ (getAttr _ (PySem.Str.ofString "number") _) _ _ _); k_dflt (refine' numAt (by k_asm) (by k_asm) (by k_asm) (by k_asm) (by k_asm) (by first | exact rfl | assumption) (by first | assumption | exact HoldsB.mono (by assumption) (by k_extra "kqd_sub")) ?_); intro tZ tkZ; (try dsimp only)))
  (k_with "getAttr ref" => ((with_reducible show wpAny _ _ (getAttr _ (PySem.Str.ofString "kind") _) _ _ _); k_dflt (refine' kindAt (by k_asm) (by k_asm) (by k_asm) (by k_asm) (by k_asm) (by first | exact rfl | assumption) (by first | assumption | exact Den.mono (by assumption) (by k_extra "kqd_sub")) ?_); intro kdZ tZ tkZ hkdZ; (try dsimp only)))
  (k_with "storeName" => (k_dflt (refine' storeX_L (by k_asm) (by k_asm) ?_ (by kernel_rfl) (by kernel_rfl); k_whole; intro hZ FZ NZ; (try k_sweep))))
  trivial

inductive WInv (w : World) (led : Led) (n c c1 : Nat) (a b : Str) (key : Nat → Int) (P : List Value → List (Option Nat) → Prop) (D : List Nat → List (Option Nat) → Prop) (m : Str → Option Value) (nn : Nat) (X : Led) : Prop
  | mk (wt rd k1 k2 : Nat) (found : List Nat) (ws : List (Option Nat)) (wvs : List Value) (xs : List KX) (q1 : m a = some (.ref wt)) (q2 : m b = some (.ref rd)) (q3 : X = (wt, listOf wvs.toArray k1) :: (rd, kdict w xs k2) :: led) (q4 : xs.map (·.1) = found.map fun j => DK.num (key j)) (q5 : AllNum xs) (q6 : KNd xs) (q7 : P wvs ws) (q8 : D found ws) (q9 : ∀ j ∈ found, j < n) (q10 : ws.length ≤ c + found.length * c) (q11 : nn = (n - found.length) * c1 + ws.length)
inductive LInv (w : World) (led : Led) (wt rd n9 : Nat) (us : List Value) (xs : List KX) (P : List Value → Prop) (X : Led) : Prop
  | mk (k6 : Nat) (part : List Value) (q1 : X = (wt, listOf (us ++ part).toArray k6) :: (rd, kdict w xs n9) :: led) (q2 : P part)
section
variable {w : World} {p : Program} {loose : List Str} {mean : ExcName → Option Value} {mg mb : Str → Option Value} {dp un : Nat} {gd : Option (List Code)} {cn : Str} {cs : Scope} {a : Addr} {ccd : Value} {cl : List (Str × Addr)} {outer : List Env} {A₀ : Around} {base h₀ : Heap} {L : Addr} {m : Str → Option Value} {s : Shared} {Q E : Value → Shared → Prop} {led dk gr lits : Led}
theorem collect {rl k n : Nat} {mv : Value} {rvs : List Value} {rs : List (Option Nat)} {bA : Nat → Nat} {adj : Nat → List (Option Nat)} (B : Below A₀ base outer h₀) (F : Fr h₀ L s.heap m) (X : (top.heap_1_39 w.params).In h₀) (N : News h₀ L s.heap led) (T : Top p loose mean mg mb h₀) (hk : cs.kind = .function) (hr : (rl, listOf rvs.toArray k) ∈ led) (hR : Paired (DJ led bA n) rvs rs) (hG : Gr w led bA n adj) (hn : n ≤ 20) (hz : rvs.length ≤ 1000) (hdp : dp + 11 < recursionLimit) (hun : un + 88 < cLine)
    (hret : ∀ (D : Nat) vs ns c (found : List Nat) h' tk', Fr h₀ L h' m → News h₀ L h' ((D, listOf vs.toArray c) :: led) → AllLt D led → IntsAre vs ns → ns.Perm (found.map fun j : Nat => (j : Int) + 1) → ns.Pairwise (· ≤ ·) → found.Nodup → found.length ≤ n →
      (∀ j, j ∈ found ↔ Reach (fun j k => some k ∈ adj j ∧ j < n) (fun j => some j ∈ rs) j) → Q (.ref D) { s with heap := h', toks := tk' }) :
    wpAny (model PySem.Challenge.rw_nt0501_01.row.prog w) (ktrTop dp un gd cn cs L a ccd cl outer) (call (.ref 576) [mv, .ref rl]) Q E s := by
  revert X; k_fill; intro X
  refine' entD (binds := [(Str.ofString "self", mv), (Str.ofString "roots", .ref rl)]) ?k1 ?k2 ?k3 ?k4 ?k5 ?kK ?k6 ?k7 ?k8 ?k9 ?kO ?_; (case kK => first | exact rfl | assumption); (case k1 => k_asm); (case k2 => k_asm); (case k3 => k_asm); (case k4 => k_asm); (case k5 => k_asm); (case k6 => k_is); (case k7 => k_is); (case k8 => k_extra "ktr_room")
  (case k9 => exact BindsTo.of_eq (by kernel_rfl))
  (case kO => kernel_rfl)
  intro g' L' h' tk9 g9 d9 o9 A9 m9 ek9 qk F' N' B' X' T'
  (try k_lift B')
  clear F N
  k_extra "k_steps"
  refine' while2 (x := Str.ofString "body") (y := Str.ofString "thing") (n₀ := n * 1001 + rs.length) (fun m nn X => WInv w led n 1000 1001 (Str.ofString "waiting") (Str.ofString "reached") (fun j => (j : Int) + 1) (Paired (DJ led bA n)) (Dfs (fun j k => some k ∈ adj j ∧ j < n) (fun j => some j ∈ rs)) m nn X) ?F0 ?N0 ?h0 ?turn ?hE
  (case F0 => k_asm)
  (case N0 => k_asm)
  (case hE => passes_own)
  (case h0 => exact ⟨_, _, _, _, [], rs, rvs, [], rfl, rfl, rfl, rfl, (fun _ h => nomatch h), List.nodup_nil, hR, Dfs.init fun _ => Iff.rfl, (fun _ h => nomatch h), by have := hR.length; simp; omega, by simp⟩)
  rintro nn p q X h₁ tk₁ ⟨wt, rd, k1, k2, found, ws, wvs, xs, hwt, hrd, rfl, hxs, hxa, hxn, hP, hDf, hfn, hwl, rfl⟩ F₁ N₁
  have e1 := (Value.ref.inj (Option.some.inj (show some (Value.ref _) = some (Value.ref wt) from hwt))).symm
  have e2 := (Value.ref.inj (Option.some.inj (show some (Value.ref _) = some (Value.ref rd) from hrd))).symm
  subst e1 e2
  clear hwt hrd
  have hfl := nodup_le n found hDf.nod hfn
  have hxl : xs.length = found.length := by have := congrArg List.length hxs; simpa using this
  have hwvl := hP.length
  have owt : Off wt led := allLt_off (by tbn_find)
  have ord : Off rd led := allLt_off (allLt_of (by assumption))
  have hxs' : xs.map (·.1) = (found.map fun j : Nat => (j : Int) + 1).map DK.num := by rw [hxs, List.map_map]; rfl
  rcases List.eq_nil_or_concat wvs with rfl | ⟨us, y, rfl⟩
  · have hw0 : ws = [] := by
      cases hP
      rfl
    subst hw0
    k_extra "k_steps"
    rename News _ _ _ _ => nE
    refine hret _ _ _ _ found _ _ (by k_asm) (news_sub nE (by k_extra "kqd_sub")) ?_ (by assumption) (by assumption) (by assumption) hDf.nod hfl fun j => hDf.done j
    exact allLt_sub (by assumption) (by k_extra "kqd_sub")
  · rw [List.concat_eq_append] at hP N₁ hwvl
    (refine xEEAA (paired_snoc hP) fun ws' o zr1 hP' hO => ?_; subst zr1)
    (refine xE (hO.2.ref) fun x zr2 => ?_; subst zr2)
    have hD0 := hO.2
    have hwl' : us.length < 100000 := by simp at hwl hwvl; omega
    k_extra "k_steps"
    obtain _ | j := o
    · rename Fr _ _ _ _ => F9
      simp only [Option.map_none, optRef] at F9 ⊢
      k_extra "k_steps"
      rename News g' _ _ _ => nE
      refine' ⟨_, _, _, _, _, rfl, ?u1, fun z h1 h2 => ?u2, news_sub nE ?u3, ?u4, wt, rd, _, k2, found, ws', us, xs, rfl, rfl, rfl, hxs, hxa, hxn, hP', hDf.skip (fun _ h => nomatch h), hfn, ?u5, rfl⟩
      (case u1 => k_asm)
      (case u2 => first | (simp only [h1, h2, if_false]; done) | simp +zetaDelta only [h1, h2, if_false])
      (case u3 => k_extra "kqd_sub")
      (case u4 => simp)
      (case u5 => simp at hwl; omega)
    · rename Fr _ _ _ _ => F9
      simp only [Option.map_some, optRef] at F9 ⊢
      have hjn := hO.1 j rfl
      refine xAEA (hG j hjn) fun hal its hH hPi => ?_
      by_cases hj : j ∈ found
      · refine xE (kget_some_of ((numMem hxs).mpr hj)) fun vj hvj => ?_
        k_extra "k_steps"
        rename News g' _ _ _ => nE
        refine' ⟨_, _, _, _, _, rfl, ?v1, fun z h1 h2 => ?v2, news_sub nE ?v3, ?v4, wt, rd, _, k2, found, ws', us, xs, rfl, rfl, rfl, hxs, hxa, hxn, hP', hDf.skip (fun i h => by cases h; exact hj), hfn, ?v5, rfl⟩
        (case v1 => k_asm)
        (case v2 => first | (simp only [h1, h2, if_false]; done) | simp +zetaDelta only [h1, h2, if_false])
        (case v3 => k_extra "kqd_sub")
        (case v4 => simp)
        (case v5 => simp at hwl; omega)
      · have hvj := kget_none_of (mt (numMem hxs).mp hj)
        have hil := hPi.length
        k_extra "k_steps"
        rename News g' _ _ _ => nE
        refine' lst_extend2 (led := (wt, listOf us.toArray _) :: (rd, kdict w _ _) :: led) ?q1 (news_sub nE ?q2) ?q3 (nE _ (.head _)).1 ?q5 ?q6
        (case q1 => k_asm)
        (case q2 => k_extra "kqd_sub")
        (case q3 => k_updF)
        (case q5 => simp at hwl hwvl; omega)
        intro h6 k6 F6 N6
        clear nE
        k_extra "k_steps"
        rename News g' _ _ _ => nE
        have hfn' : ∀ i ∈ found ++ [j], i < n := fun i hi => (List.mem_append.mp hi).elim (hfn i) fun h => by rw [List.mem_singleton.mp h]; exact hjn
        have hf1 := nodup_le n (found ++ [j]) (hDf.add hj (l := adj j) (fun k => ⟨fun h => h.1, fun h => ⟨h, hjn⟩⟩)).nod hfn'
        refine' ⟨_, _, _, _, _, rfl, ?w1, fun z h1 h2 => ?w2, news_sub nE ?w3, ?w4, wt, rd, _, _, found ++ [j], ws' ++ adj j, us ++ its, kput (.num ((j : Int) + 1)) _ _ xs, rfl, rfl, rfl, ?w6, ?w7, ?w8, paired_app hP' hPi, hDf.add hj (fun k => ⟨fun h => h.1, fun h => ⟨h, hjn⟩⟩), ?w9, ?w5, rfl⟩
        (case w1 => k_asm)
        (case w2 => first | (simp only [h1, h2, if_false]; done) | simp +zetaDelta only [h1, h2, if_false])
        (case w3 => k_extra "kqd_sub")
        (case w6 => exact numPut hxs hj)
        (case w7 => exact AllNum.put hxa)
        (case w8 => exact KNd.put hxn)
        (case w9 => exact hfn')
        (case w5 => simp at hwl ⊢; omega)
        (case w4 =>
          simp only [List.length_append, List.length_singleton] at hf1 ⊢
          exact meas_down hf1 (by assumption))
end

section
variable {w : World} {p : Program} {loose : List Str} {mean : ExcName → Option Value} {mg mb : Str → Option Value} {dp un : Nat} {gd : Option (List Code)} {cn : Str} {cs : Scope} {a : Addr} {ccd : Value} {cl : List (Str × Addr)} {outer : List Env} {A₀ : Around} {base h₀ : Heap} {L : Addr} {m : Str → Option Value} {s : Shared} {Q E : Value → Shared → Prop} {led dk gr lits : Led}
theorem reached {bl bg k kb n : Nat} {bts gvs : List Value} {rs : List (Option Nat)} {ladj : Nat → List (Option Nat)} (B : Below A₀ base outer h₀) (F : Fr h₀ L s.heap m) (X : (top.heap_1_39 w.params).In h₀) (N : News h₀ L s.heap led) (T : Top p loose mean mg mb h₀) (hk : cs.kind = .function) (hb : (bl, listOf bts.toArray kb) ∈ led) (hr : (bg, listOf gvs.toArray k) ∈ led) (hR : Paired (IV n) gvs rs) (hG : LG w led bts n ladj) (hn : n ≤ 20) (hz : gvs.length ≤ 200) (hdp : dp + 5 < recursionLimit) (hun : un + 40 < cLine)
    (hret : ∀ (D : Nat) vs ns c (found : List Nat) h' tk', Fr h₀ L h' m → News h₀ L h' ((D, listOf vs.toArray c) :: led) → AllLt D led → IntsAre vs ns → ns.Perm (found.map fun j : Nat => (j : Int)) → ns.Pairwise (· ≤ ·) → found.Nodup → found.length ≤ n → (∀ j ∈ found, j < n) →
      (∀ j, j ∈ found ↔ Reach (fun j k => some k ∈ ladj j ∧ j < n) (fun j => some j ∈ rs) j) → Q (.ref D) { s with heap := h', toks := tk' }) :
    wpAny (model PySem.Challenge.rw_nt0501_01.row.prog w) (ktrTop dp un gd cn cs L a ccd cl outer) (call (.ref 655) [.ref bl, .ref bg]) Q E s := by
  revert X; k_fill; intro X
  refine' entD (binds := [(Str.ofString "bodies", .ref bl), (Str.ofString "begun", .ref bg)]) ?k1 ?k2 ?k3 ?k4 ?k5 ?kK ?k6 ?k7 ?k8 ?k9 ?kO ?_; (case kK => first | exact rfl | assumption); (case k1 => k_asm); (case k2 => k_asm); (case k3 => k_asm); (case k4 => k_asm); (case k5 => k_asm); (case k6 => k_is); (case k7 => k_is); (case k8 => k_extra "ktr_room")
  (case k9 => exact BindsTo.of_eq (by kernel_rfl))
  (case kO => kernel_rfl)
  intro g' L' h' tk9 g9 d9 o9 A9 m9 ek9 qk F' N' B' X' T'
  (try k_lift B')
  clear F N
  k_extra "k_steps"
  rename News _ _ _ _ => nA
  have nB := news_sub nA (Sub.skip Sub.refl)
  clear nA
  refine' while2 (x := Str.ofString "key") (y := Str.ofString "here") (n₀ := n * 201 + rs.length) (fun m nn X => WInv w led n 200 201 (Str.ofString "waiting") (Str.ofString "found") (fun j => (j : Int)) (Paired (IV n)) (Dfs (fun j k => some k ∈ ladj j ∧ j < n) (fun j => some j ∈ rs)) m nn X) ?F0 ?N0 ?h0 ?turn ?hE
  (case F0 => k_asm)
  (case N0 => exact nB)
  (case hE => passes_own)
  (case h0 => exact ⟨_, _, _, _, [], rs, gvs, [], rfl, rfl, rfl, rfl, (fun _ h => nomatch h), List.nodup_nil, hR, Dfs.init fun _ => Iff.rfl, (fun _ h => nomatch h), by have := hR.length; simp; omega, by simp⟩)
  rintro nn p q X h₁ tk₁ ⟨wt, rd, k1, k2, found, ws, wvs, xs, hwt, hrd, rfl, hxs, hxa, hxn, hP, hDf, hfn, hwl, rfl⟩ F₁ N₁
  have e1 := (Value.ref.inj (Option.some.inj (show some (Value.ref _) = some (Value.ref wt) from hwt))).symm
  have e2 := (Value.ref.inj (Option.some.inj (show some (Value.ref _) = some (Value.ref rd) from hrd))).symm
  subst e1 e2
  clear hwt hrd
  have hfl := nodup_le n found hDf.nod hfn
  have hxl : xs.length = found.length := by have := congrArg List.length hxs; simpa using this
  have hwvl := hP.length
  have owt : Off wt led := allLt_off (by tbn_find)
  have ord : Off rd led := allLt_off (allLt_of (by assumption))
  have hxs' : xs.map (·.1) = (found.map fun j : Nat => (j : Int)).map DK.num := by rw [hxs, List.map_map]; rfl
  rcases List.eq_nil_or_concat wvs with rfl | ⟨us, y, rfl⟩
  · have hw0 : ws = [] := by
      cases hP
      rfl
    subst hw0
    k_extra "k_steps"
    rename News _ _ _ _ => nE
    refine hret _ _ _ _ found _ _ (by k_asm) (news_sub nE (by k_extra "kqd_sub")) ?_ (by assumption) (by assumption) (by assumption) hDf.nod hfl hfn fun j => hDf.done j
    exact allLt_sub (by assumption) (by k_extra "kqd_sub")
  · rw [List.concat_eq_append] at hP N₁ hwvl
    (refine xEEAA (paired_snoc hP) fun ws' o zr1 hP' hO => ?_; subst zr1)
    have hwl' : us.length < 50000 := by simp at hwl hwvl; omega
    rcases hO with ⟨j, t, rfl, rfl, hjn⟩ | ⟨rfl, rfl⟩
    · by_cases hj : j ∈ found
      · refine xE (kget_some_of ((numMem0 hxs).mpr hj)) fun vj hvj => ?_
        k_extra "k_steps"
        rename News g' _ _ _ => nE
        refine' ⟨_, _, _, _, _, rfl, ?v1, fun z h1 h2 => ?v2, news_sub nE ?v3, ?v4, wt, rd, _, k2, found, ws', us, xs, rfl, rfl, rfl, hxs, hxa, hxn, hP', hDf.skip (fun i h => by cases h; exact hj), hfn, ?v5, rfl⟩
        (case v1 => k_asm)
        (case v2 => first | (simp only [h1, h2, if_false]; done) | simp +zetaDelta only [h1, h2, if_false])
        (case v3 => k_extra "kqd_sub")
        (case v4 => simp)
        (case v5 => simp at hwl; omega)
      · have hvj := kget_none_of (mt (numMem0 hxs).mp hj)
        obtain ⟨t₀, hd, kh, kd, bv, ys, ls, hbt, mt, mh, loh, hki, hkn, hkl, hHE, hadj⟩ := hG j hjn
        k_extra "k_steps"
        rename News g' _ _ _ => nE
        refine xEE (two_form nE) fun k9 n9 nF => ?_
        clear nE
        refine' for_list2 (vs := ys.map (·.2.1)) (fun i X => LInv w led wt rd n9 us (kput (.num (j : Int)) (.int (j : Int) t) (.bool true) xs) (fun part => Paired (IV n) part (ls.take i).flatten) X) ?fh ?fF ?fx ?fk ?fi ?fs ?fE
        (case fF => k_asm)
        (case fx => kernel_rfl)
        (case fk => exact rfl)
        (case fh => exact rfl)
        (case fs => exact fun _ => rfl)
        (case fE => passes_own)
        k_extra "k_steps"
        rename News g' _ _ _ => nD
        refine' ⟨_, _, (wt, listOf us.toArray k9) :: (rd, kdict w _ n9) :: led, _, _, rfl, rfl, ?x1, news_sub nD ?x2, News.one nD ?x3, ?x4, ?x5, ?x6, ?x7⟩
        (case x1 => k_asm)
        (case x2 => k_extra "kqd_sub")
        (case x3 => k_extra "k_mem")
        (case x4 => simp; omega)
        (case x5 => exact ⟨k9, [], by simp, by simpa using Paired.nil⟩)
        · rintro i v X h₂ tk₂ I oI hv ⟨k8, part, rfl, hPp⟩ off lt F₂ N₂
          obtain ⟨x, hx, rfl⟩ : ∃ x, ys[i]? = some x ∧ x.2.1 = v := by simpa using hv
          obtain ⟨os, hos, l, kl, vs, hxl2, hml, hpv, hvl⟩ := paired_at hHE hx
          have hgx := kget_at hkn hx
          rw [hxl2] at hgx
          have hkx := hki x (List.mem_of_getElem? hx)
          have hwI : @Ne Nat wt I := by simpa using off (wt, _) (.head _)
          have hpl : part.length ≤ 200 := by have := hPp.length; have := flat_le ls i; have := held_len hHE; omega
          k_extra "k_steps"
          rename News g' _ _ _ => nG
          refine' ⟨_, _, (wt, listOf (us ++ part ++ vs).toArray _) :: (rd, kdict w _ n9) :: led, rfl, ?y1, nG, ?y3, _, part ++ vs, ?y4, ?y5⟩
          (case y1 => k_asm)
          (case y3 => exact fun p hp => (List.mem_cons.mp hp).elim (fun e => by rw [e]; simpa using hwI) fun hp => off p (.tail _ hp))
          (case y4 => rw [List.append_assoc])
          (case y5 => rw [flat_take hos]; exact paired_app hPp hpv)
        · rintro h7 tk7 p7 X F7 N7 ⟨k8, part, rfl, hPp⟩
          k_extra "k_steps"
          have hf1 := nodup_le n (found ++ [j]) (hDf.add hj (l := ladj j) (fun k => ⟨fun h => h.1, fun h => ⟨h, hjn⟩⟩)).nod (fun i hi => (List.mem_append.mp hi).elim (hfn i) fun h => by rw [List.mem_singleton.mp h]; exact hjn)
          have hal : (ladj j).length ≤ 200 := by have := held_len hHE; rw [hadj]; omega
          refine' ⟨_, _, _, _, _, rfl, ?w1, fun z h1 h2 => ?w2, N7, ?w4, wt, rd, k8, n9, found ++ [j], ws' ++ ladj j, us ++ part, kput (.num (j : Int)) _ _ xs, rfl, rfl, rfl, ?w6, ?w7, ?w8, ?wa, hDf.add hj (fun k => ⟨fun h => h.1, fun h => ⟨h, hjn⟩⟩), ?w9, ?w5, rfl⟩
          (case w1 => k_asm)
          (case w2 => first | (simp only [h1, h2, if_false]; done) | simp +zetaDelta only [h1, h2, if_false])
          (case w6 => exact numPut0 hxs hj)
          (case w7 => exact AllNum.put hxa)
          (case w8 => exact KNd.put hxn)
          (case wa => rw [hadj]; rw [List.length_map, List.take_of_length_le (Nat.le_of_eq hHE.length.symm)] at hPp; exact paired_app hP' hPp)
          (case w9 => exact fun i hi => (List.mem_append.mp hi).elim (hfn i) fun h => by rw [List.mem_singleton.mp h]; exact hjn)
          (case w5 => simp at hwl ⊢; omega)
          (case w4 =>
            simp only [List.length_append, List.length_singleton] at hf1 ⊢
            exact meas_down hf1 (by assumption))
    · k_extra "k_steps"
      rename News g' _ _ _ => nE
      refine' ⟨_, _, _, _, _, rfl, ?u1, fun z h1 h2 => ?u2, news_sub nE ?u3, ?u4, wt, rd, _, k2, found, ws', us, xs, rfl, rfl, rfl, hxs, hxa, hxn, hP', hDf.skip (fun _ h => nomatch h), hfn, ?u5, rfl⟩
      (case u1 => k_asm)
      (case u2 => first | (simp only [h1, h2, if_false]; done) | simp +zetaDelta only [h1, h2, if_false])
      (case u3 => k_extra "kqd_sub")
      (case u4 => simp)
      (case u5 => simp at hwl; omega)

end

theorem words_43 : True := by
  w_top off
  (k_with "newList" => (k_dflt (refine' newList_K (by k_asm) (by k_asm) ?_; k_whole); intro lZ hZ FZ NZ l1Z; (try replace l1Z := allLt_of l1Z); (try dsimp only [List.cons_append, List.nil_append, AllLt] at l1Z); (try k_sweep)))
  (k_with "eval Dict nil nil" => (k_dflt (refine' kd_new (by k_asm) (by k_asm) (TopRead.nolimit (by k_asm)) ?_; k_whole); intro dZ hZ FZ NZ l1Z loZ; (try replace l1Z := allLt_of l1Z); (try dsimp only [List.cons_append, List.nil_append, AllLt] at l1Z); (try k_sweep)))
  (k_with "call type:list" => ((with_reducible show wpAny _ _ (call (Value.type "list") [Value.ref _]) _ _ _); k_dflt (refine' lst_copy (by k_asm) (by k_asm) (by k_extra "k_mem") (by first | omega | (simp <;> omega)) ?_; k_whole); intro DZ cZ hZ FZ NZ l1Z; (try replace l1Z := allLt_of l1Z); (try dsimp only [List.cons_append, List.nil_append, AllLt] at l1Z); (try k_sweep)))
  (k_with "binaryOp Mult ref int" => (k_dflt (refine' lst_mul (by k_asm) (by k_asm) (by k_extra "k_mem") (by omega) (by omega) ?_; k_whole); intro DZ hZ FZ NZ l1Z; (try replace l1Z := allLt_of l1Z); (try dsimp only [List.cons_append, List.nil_append, AllLt] at l1Z); (try k_sweep)))
  (k_with "call type:list" => ((with_reducible show wpAny _ _ (call (Value.type "list") [Value.ref _]) _ _ _); k_dflt (refine' kd_list (by exact rfl) (by k_asm) (by k_asm) (by k_extra "k_mem") (by assumption) (by omega) ?_; k_whole); intro DZ cZ hZ tkZ FZ NZ l1Z; (try replace l1Z := allLt_of l1Z); (try dsimp only [List.cons_append, List.nil_append, AllLt] at l1Z); (try k_sweep)))
  (k_with "newTuple" => (k_dflt (refine' kup_newTuple (by k_asm) (by k_asm) ?_ (by first | kmk_size | (simp <;> omega))); intro DZ hZ FZ NZ l1Z; (try replace l1Z := allLt_of l1Z); (try dsimp only [List.cons_append, List.nil_append, AllLt] at l1Z); (try k_sweep)))
  (k_with "kd_subs" => first | exact allLt_off (by tbn_find) | exact off_left (allLt_off (by tbn_find)) | exact off_left (off_right (allLt_off (by tbn_find))) | exact off_left (off_right (off_right (allLt_off (by tbn_find)))) | exact off_right (off_right (off_right (allLt_off (by tbn_find)))) | exact off_left (off_right (by with_reducible assumption)) | exact off_left (off_right (off_right (by with_reducible assumption))) | exact off_right (off_right (off_right (by with_reducible assumption))) | exact Apart.off (by assumption) (by k_extra "k_mem"))
  (k_with "call ref" => ((first | (with_reducible show wpAny _ _ (call (Value.ref 636) [Value.ref _, Value.ref _]) _ _ _) | ((conv => arg 3; dsimp only [List.cons_append, List.nil_append]); (with_reducible show wpAny _ _ (call (Value.ref 636) [Value.ref _, Value.ref _]) _ _ _))); k_dflt (refine' pick (by k_asm) (by k_asm) (by k_asm) (by k_asm) (by k_asm) (by first | exact rfl | assumption) (by assumption) (by assumption) (by k_extra "kd_mem") (by k_extra "kd_all") (by omega) (by k_extra "k_mem") (by first | omega | (simp <;> omega)) (by first | omega | (simp <;> omega)) (by k_extra "ktr_room") (by k_extra "ktr_units") ?_); intro iZ vZ dkZ hZ tkZ hiZ FZ NZ hDZ hlZ hgZ; (try simp only [List.cons_append, List.nil_append] at NZ); (try k_sweep); (try dsimp only); (try k_fold)))
  (k_with "k_steps" => repeat' (first | (k_end; first | (with_reducible refine nextQ_end ?_) | ((with_reducible refine' nextQ_next (by k_asm) (by exact rfl) ?_); intro tkZ) | (with_reducible refine nextQ_ret ?_) | ((with_reducible refine' back_init (by k_asm) (by k_asm) (by exact rfl) ?_); intro kFZ kNZ) | ((with_reducible refine' back_ret (by k_asm) (by k_asm) (by exact rfl) ?_); intro kFZ kNZ) | ((with_reducible refine' back_next (by k_asm) (by k_asm) (by exact rfl) ?_); intro kFZ kNZ)) | (k_unfold; (try dsimp only [List.cons_append, List.nil_append])) | ((fail_if_success (first | (with_reducible show wpAny _ _ (eval (Expr.ListComp _ _ _ _) _) _ _ _) | (with_reducible show wpAny _ _ (exec (Stmt.For _ _ _ _ _) _) _ _ _) | (with_reducible show wpAny _ _ (exec (Stmt.While _ _ _ _) _) _ _ _) | (with_reducible show wpAny _ _ (exec (Stmt.Assign _ (Expr.ListComp _ _ _ _) _) _) _ _ _) | (with_reducible show wpAny _ _ (call (Value.ref 643) _) _ _ _) | (with_reducible show wpAny _ _ (call (Value.ref 444) _) _ _ _) | (with_reducible show wpAny _ _ (call (Value.ref 479) _) _ _ _) | (with_reducible show wpAny _ _ (call (Value.ref 486) _) _ _ _) | (with_reducible show wpAny _ _ (call (Value.ref 313) _) _ _ _) | (with_reducible show wpAny _ _ (call (Value.ref 594) _) _ _ _) | (with_reducible show wpAny _ _ (call (Value.ref 622) _) _ _ _) | (with_reducible show wpAny _ _ (call (Value.ref 648) _) _ _ _) | (with_reducible show wpAny _ _ (call (Value.ref 655) _) _ _ _) | (with_reducible show wpAny _ _ (call (Value.ref 576) _) _ _ _))); (first | walk1 | (dsimp only; walk1))) | (leave1; walk_say "STEP leave1"; try dsimp only) | fail "no step"))
  (k_with "kp_flats" => repeat' (first | (k_end; first | (with_reducible refine nextQ_end ?_) | ((with_reducible refine' nextQ_next (by k_asm) (by exact rfl) ?_); intro tkZ) | (with_reducible refine nextQ_ret ?_) | ((with_reducible refine' back_init (by k_asm) (by k_asm) (by exact rfl) ?_); intro kFZ kNZ) | ((with_reducible refine' back_ret (by k_asm) (by k_asm) (by exact rfl) ?_); intro kFZ kNZ) | ((with_reducible refine' back_next (by k_asm) (by k_asm) (by exact rfl) ?_); intro kFZ kNZ)) | (k_unfold; (try dsimp only [List.cons_append, List.nil_append])) | ((fail_if_success (first | (with_reducible show wpAny _ _ (eval (Expr.ListComp _ _ _ _) _) _ _ _) | (with_reducible show wpAny _ _ (exec (Stmt.For _ _ _ _ _) _) _ _ _) | (with_reducible show wpAny _ _ (exec (Stmt.While _ _ _ _) _) _ _ _) | (with_reducible show wpAny _ _ (exec (Stmt.Assign _ (Expr.ListComp _ _ _ _) _) _) _ _ _) | (with_reducible show wpAny _ _ (call (Value.ref 643) _) _ _ _) | (with_reducible show wpAny _ _ (call (Value.ref 444) _) _ _ _) | (with_reducible show wpAny _ _ (call (Value.ref 479) _) _ _ _) | (with_reducible show wpAny _ _ (call (Value.ref 486) _) _ _ _) | (with_reducible show wpAny _ _ (call (Value.ref 313) _) _ _ _) | (with_reducible show wpAny _ _ (call (Value.ref 594) _) _ _ _) | (with_reducible show wpAny _ _ (call (Value.ref 622) _) _ _ _) | (with_reducible show wpAny _ _ (call (Value.ref 648) _) _ _ _) | (with_reducible show wpAny _ _ (call (Value.ref 655) _) _ _ _) | (with_reducible show wpAny _ _ (call (Value.ref 576) _) _ _ _) | (with_reducible show wpAny _ _ (exec (Stmt.If _ _ _ _) _) _ _ _) | (with_reducible show wpAny _ _ (eval (Expr.IfExp _ _ _ _) _) _ _ _))); (first | walk1 | (dsimp only; walk1))) | (leave1; walk_say "STEP leave1"; try dsimp only) | fail "no step"))
  trivial

section
variable {w : World} {p : Program} {loose : List Str} {mean : ExcName → Option Value} {mg mb : Str → Option Value} {dp un : Nat} {gd : Option (List Code)} {cn : Str} {cs : Scope} {a : Addr} {ccd : Value} {cl : List (Str × Addr)} {outer : List Env} {A₀ : Around} {base h₀ : Heap} {L : Addr} {m : Str → Option Value} {s : Shared} {Q E : Value → Shared → Prop} {led dk gr lits : Led}
theorem lawThing {d bl j t b kb n : Nat} {bts : List Value} {kd : Str} {tk tj : Tok} {hv : Value} (B : Below A₀ base outer h₀) (F : Fr h₀ L s.heap m) (X : (top.heap_1_39 w.params).In h₀) (N : News h₀ L s.heap led) (T : Top p loose mean mg mb h₀) (hk : cs.kind = .function) (hT : Tail (dk ++ gr) led lits) (hl : Apart lits dk) (hg : Apart gr dk) (hD : DeckOk w d dk n) (hn : n < 9000) (hbl : (bl, listOf bts.toArray kb) ∈ gr) (hbt : bts[(j : Int).toNat]? = some (.ref t)) (hj : j < 1000) (ht : (t, tupOf #[.str kd tk, .ref b, hv]) ∈ gr) (hK : KB w gr b kd)
    (hdp : dp + 7 < recursionLimit) (hun : un + 56 < cLine)
    (hret : ∀ v dk' new h' tk' n', Fr h₀ L h' m → News h₀ L h' (new ++ (lits ++ (dk' ++ gr))) → Above new (lits ++ (dk' ++ gr)) → Den new v (some b) → DeckOk w d dk' n' → n' ≤ n + 1 → Apart lits dk' → Apart gr dk' → Q v { s with heap := h', toks := tk' }) :
    wpAny (model PySem.Challenge.rw_nt0501_01.row.prog w) (ktrTop dp un gd cn cs L a ccd cl outer) (call (.ref 643) [.ref d, .ref bl, .int j tj]) Q E s := by
  have e := hT.eq
  subst e
  cases hK with
  | row m1 m2 m3 hz =>
    revert X; k_fill; intro X
    refine' entD (binds := [(Str.ofString "deck", .ref d), (Str.ofString "bodies", .ref bl), (Str.ofString "number", .int j tj)]) ?k1 ?k2 ?k3 ?k4 ?k5 ?kK ?k6 ?k7 ?k8 ?k9 ?kO ?_; (case kK => first | exact rfl | assumption); (case k1 => k_asm); (case k2 => k_asm); (case k3 => k_asm); (case k4 => k_asm); (case k5 => k_asm); (case k6 => k_is); (case k7 => k_is); (case k8 => k_extra "ktr_room")
    (case k9 => exact BindsTo.of_eq (by kernel_rfl))
    (case kO => kernel_rfl)
    intro g' L' h' tk9 g9 d9 o9 A9 m9 ek9 qk F' N' B' X' T'
    (try k_lift B')
    clear F N
    k_extra "k_steps"
    rename [_, _, _][_]? = some _ => hv
    rename News h₀ _ _ _ => nE
    rename Apart (_ :: _) _ => hA
    rename DeckOk _ _ _ (n + 1) => hD1
    rename Apart gr _ => hg1
    rcases three_at hv with rfl | rfl | rfl
    · refine' hret _ _ [(_, _), (_, _), (_, _), (_, _)] _ _ _ ?a1 (news_sub nE ?a2) ?a3 (.span (.head _) (.tail _ (.head _)) (.tail _ (.tail _ (.head _))) (.tail _ (.tail _ (.tail _ (.head _)))) ?a4) hD1 (Nat.le_refl _) (hA.sub (Sub.skip Sub.refl) Sub.refl) hg1
      (case a1 => k_asm)
      (case a2 => k_extra "kqd_sub")
      (case a3 => exact Above.cons (by tbn_find) (Above.cons (by tbn_find) (Above.cons (by tbn_find) (Above.cons (by tbn_find) Above.nil))))
      (case a4 => first | exact .inl rfl | exact .inr (.inl rfl) | exact .inr (.inr rfl))
    · refine' hret _ _ [(_, _), (_, _), (_, _), (_, _)] _ _ _ ?b1 (news_sub nE ?b2) ?b3 (.span (.head _) (.tail _ (.head _)) (.tail _ (.tail _ (.head _))) (.tail _ (.tail _ (.tail _ (.head _)))) ?b4) hD1 (Nat.le_refl _) (hA.sub (Sub.skip Sub.refl) Sub.refl) hg1
      (case b1 => k_asm)
      (case b2 => k_extra "kqd_sub")
      (case b3 => exact Above.cons (by tbn_find) (Above.cons (by tbn_find) (Above.cons (by tbn_find) (Above.cons (by tbn_find) Above.nil))))
      (case b4 => first | exact .inl rfl | exact .inr (.inl rfl) | exact .inr (.inr rfl))
    · refine' hret _ _ [(_, _), (_, _), (_, _), (_, _)] _ _ _ ?c1 (news_sub nE ?c2) ?c3 (.span (.head _) (.tail _ (.head _)) (.tail _ (.tail _ (.head _))) (.tail _ (.tail _ (.tail _ (.head _)))) ?c4) hD1 (Nat.le_refl _) (hA.sub (Sub.skip Sub.refl) Sub.refl) hg1
      (case c1 => k_asm)
      (case c2 => k_extra "kqd_sub")
      (case c3 => exact Above.cons (by tbn_find) (Above.cons (by tbn_find) (Above.cons (by tbn_find) (Above.cons (by tbn_find) Above.nil))))
      (case c4 => first | exact .inl rfl | exact .inr (.inl rfl) | exact .inr (.inr rfl))
  | dict m1 =>
    revert X; k_fill; intro X
    refine' entD (binds := [(Str.ofString "deck", .ref d), (Str.ofString "bodies", .ref bl), (Str.ofString "number", .int j tj)]) ?k1 ?k2 ?k3 ?k4 ?k5 ?kK ?k6 ?k7 ?k8 ?k9 ?kO ?_; (case kK => first | exact rfl | assumption); (case k1 => k_asm); (case k2 => k_asm); (case k3 => k_asm); (case k4 => k_asm); (case k5 => k_asm); (case k6 => k_is); (case k7 => k_is); (case k8 => k_extra "ktr_room")
    (case k9 => exact BindsTo.of_eq (by kernel_rfl))
    (case kO => kernel_rfl)
    intro g' L' h' tk9 g9 d9 o9 A9 m9 ek9 qk F' N' B' X' T'
    (try k_lift B')
    clear F N
    k_extra "k_steps"
    rename News h₀ _ _ _ => nE
    refine' hret _ _ [(_, _), (_, _)] _ _ _ ?a1 (news_sub nE ?a2) ?a3 (.dict (.head _) (.tail _ (.head _))) hD (Nat.le_succ _) hl hg
    (case a1 => k_asm)
    (case a2 => k_extra "kqd_sub")
    (case a3 => exact Above.cons (by tbn_find) (Above.cons (by tbn_find) Above.nil))
  | text m1 m2 m3 hz =>
    revert X; k_fill; intro X
    refine' entD (binds := [(Str.ofString "deck", .ref d), (Str.ofString "bodies", .ref bl), (Str.ofString "number", .int j tj)]) ?k1 ?k2 ?k3 ?k4 ?k5 ?kK ?k6 ?k7 ?k8 ?k9 ?kO ?_; (case kK => first | exact rfl | assumption); (case k1 => k_asm); (case k2 => k_asm); (case k3 => k_asm); (case k4 => k_asm); (case k5 => k_asm); (case k6 => k_is); (case k7 => k_is); (case k8 => k_extra "ktr_room")
    (case k9 => exact BindsTo.of_eq (by kernel_rfl))
    (case kO => kernel_rfl)
    intro g' L' h' tk9 g9 d9 o9 A9 m9 ek9 qk F' N' B' X' T'
    (try k_lift B')
    clear F N
    k_extra "k_steps"
    rename News h₀ _ _ _ => nE
    refine' hret _ _ [(_, _), (_, _), (_, _), (_, _)] _ _ _ ?a1 (news_sub nE ?a2) ?a3 (.span (.head _) (.tail _ (.head _)) (.tail _ (.tail _ (.head _))) (.tail _ (.tail _ (.tail _ (.head _)))) ?a4) hD (Nat.le_succ _) hl hg
    (case a1 => k_asm)
    (case a2 => k_extra "kqd_sub")
    (case a3 => exact Above.cons (by tbn_find) (Above.cons (by tbn_find) (Above.cons (by tbn_find) (Above.cons (by tbn_find) Above.nil))))
    (case a4 => first | exact .inl rfl | exact .inr (.inl rfl) | exact .inr (.inr rfl))
end

section
variable {w : World} {p : Program} {loose : List Str} {mean : ExcName → Option Value} {mg mb : Str → Option Value} {dp un : Nat} {gd : Option (List Code)} {cn : Str} {cs : Scope} {a : Addr} {ccd : Value} {cl : List (Str × Addr)} {outer : List Env} {A₀ : Around} {base h₀ : Heap} {L : Addr} {m : Str → Option Value} {s : Shared} {Q E : Value → Shared → Prop} {led dk gr lits : Led}
theorem lawDeck {sc : Nat} {vs : List Value} {ns : List Int} (B : Below A₀ base outer h₀) (F : Fr h₀ L s.heap m) (X : (top.heap_1_39 w.params).In h₀) (N : News h₀ L s.heap led) (T : Top p loose mean mg mb h₀) (hk : cs.kind = .function) (hs : base.IsList sc vs.toArray) (hi : IntsAre vs ns) (hz : vs.length ≤ 63) (hdp : dp + 7 < recursionLimit) (hun : un + 56 < cLine)
    (hret : ∀ (d : Nat) dk h' tk', Fr h₀ L h' m → News h₀ L h' (dk ++ led) → DeckOk w d dk 0 → Above dk led → Q (.ref d) { s with heap := h', toks := tk' }) :
    wpAny (model PySem.Challenge.rw_nt0501_01.row.prog w) (ktrTop dp un gd cn cs L a ccd cl outer) (call (.ref 622) [.ref sc]) Q E s := by
  revert X; k_fill; intro X
  refine' entD (binds := [(Str.ofString "script", .ref sc)]) ?k1 ?k2 ?k3 ?k4 ?k5 ?kK ?k6 ?k7 ?k8 ?k9 ?kO ?_; (case kK => first | exact rfl | assumption); (case k1 => k_asm); (case k2 => k_asm); (case k3 => k_asm); (case k4 => k_asm); (case k5 => k_asm); (case k6 => k_is); (case k7 => k_is); (case k8 => k_extra "ktr_room")
  (case k9 => exact BindsTo.of_eq (by kernel_rfl))
  (case kO => kernel_rfl)
  intro g' L' h' tk9 g9 d9 o9 A9 m9 ek9 qk F' N' B' X' T'
  (try k_lift B')
  k_extra "k_steps"
  refine' comp_expr ?c0 ?c1 ?c2 ?c3 ?c4 ?c5 (fun _ => rfl)
  (case c0 => k_asm)
  (case c1 => with_unfolding_all rfl)
  (case c2 => decide)
  (case c3 => exact rfl)
  (case c4 => decide)
  k_extra "k_steps"
  rename IntsAre _ (List.take 16 ns) => hI
  have hl16 := hI.length
  refine' psrc_list (fun i ys => ∃ ms, IntsAre ys ms ∧ ys.length = i) ?d0 ?d1 ?d2 ?d3 ?d5 ?d6 ?d7 ?d8 ?d9 ?da
  (case d0 => exact rfl)
  (case d1 => k_asm)
  (case d2 => k_asm)
  (case d3 => k_extra "k_mem")
  (case d5 => omega)
  (case d6 => decide)
  (case d7 => exact rfl)
  (case d8 => exact ⟨[], .nil, rfl⟩)
  · rintro i ys h₁ tk₁ own C oC D mC E' hi' ⟨v, hv, hxm⟩ ⟨ms, hms, hyl⟩ hoC hCD F₁ N₁
    obtain ⟨z, t, rfl⟩ : ∃ (z : Int) (t : Tok), v = .int z t := ints_get hI hv
    refine wpAny_tests_nil ?_
    simp only [if_true]
    k_extra "k_steps"
    exact ⟨_, _, rfl, by k_asm, by k_asm, ms ++ [z], ints_snoc hms, by simp [hyl]⟩
  · rintro D h2 tk2 ys F2 N2 oD ⟨ms, hms, hyl⟩
    k_sweep
    k_extra "k_steps"
    refine' for_listI (y := Str.ofString "mixed") (fun z => 0 ≤ z ∧ z < 2147483587) ?fh ?fF ?fx ?fk ?fxy ?fG ?fN ?fm ?fz ?fy ?fP ?fv ?fst ?ffin ?fs ?fE
    (case fF => k_asm)
    (case fG => k_asm)
    (case fN => k_asm)
    (case fx => kernel_rfl)
    (case fk => exact rfl)
    (case fh => exact rfl)
    (case fxy => decide)
    (case fs => exact fun _ => rfl)
    (case fE => passes_own)
    (case fv => exact fun Q' q => nameX_L (by k_asm) rfl q (by kernel_rfl) (by kernel_rfl))
    (case fm => k_extra "k_mem")
    (case fz => omega)
    (case fy => exact rfl)
    (case fP => omega)
    · rintro i v z t h₁ tk₁ I oI hv ⟨hz0, hz1⟩ off F₁ N₁
      obtain ⟨zc, tc, rfl⟩ : ∃ (z : Int) (t : Tok), v = .int z t := ints_get hms hv
      k_extra "k_steps"
      rotate_left 2
      · k_asm
      · k_asm
      · rw [Int.fmod_eq_emod_of_nonneg _ (by decide)]; exact Int.emod_nonneg _ (by decide)
      · rw [Int.fmod_eq_emod_of_nonneg _ (by decide)]; exact Int.emod_lt_of_pos _ (by decide)
    · rintro h3 tk3 p z t ⟨hz0, hz1⟩ F3 N3
      k_sweep
      k_extra "k_steps"
      rename News h₀ _ _ _ => nE
      rename IntsAre _ ms.reverse => hR
      rename Obj.IsDictOf (PySem.strKind _ _) _ [(_, _), (_, _), (_, _)] => hDd
      have hRl := hR.length
      have hml := hms.length
      refine' hret _ [(_, _), (_, _)] _ _ ?g1 (news_sub nE ?g2) ⟨_, _, _, z, 0, _, _, _, _, rfl, ?g3, hDd, hR, ?g4, hz0, hz1, Int.le_refl _, Int.le_refl _⟩ ?g5
      (case g1 => k_asm)
      (case g2 => k_extra "kqd_sub")
      (case g3 => (refine neN ?_; omega))
      (case g4 => rw [List.length_reverse] at hRl; omega)
      (case g5 => exact Above.cons (by tbn_find) (Above.cons (by tbn_find) Above.nil))
end

section
variable {w : World} {p : Program} {loose : List Str} {mean : ExcName → Option Value} {mg mb : Str → Option Value} {dp un : Nat} {gd : Option (List Code)} {cn : Str} {cs : Scope} {a : Addr} {ccd : Value} {cl : List (Str × Addr)} {outer : List Env} {A₀ : Around} {base h₀ : Heap} {L : Addr} {m : Str → Option Value} {s : Shared} {Q E : Value → Shared → Prop} {led dk gr lits : Led}
theorem textNew {bs : Array UInt8} {tb : Tok} {nu gl lv : Value} (B : Below A₀ base outer h₀) (F : Fr h₀ L s.heap m) (X : (top.heap_1_39 w.params).In h₀) (N : News h₀ L s.heap led) (T : Top p loose mean mg mb h₀) (hk : cs.kind = .function) (hz : bs.size ≤ 100) (hdp : dp + 3 < recursionLimit) (hun : un + 24 < cLine)
    (hret : ∀ (x dx oc : Nat) h1 h2 h3 h4 t1 t2 t3 t4 h' tk', Fr h₀ L h' m → News h₀ L h' ((x, instObj 93 dx) :: (dx, textD h1 h2 h3 h4 t1 t2 t3 t4 nu (.ref oc) gl lv) :: (oc, baObj bs) :: led) → AllLt dx led → dx < x → x < oc → Q (.ref x) { s with heap := h', toks := tk' }) :
    wpC (model PySem.Challenge.rw_nt0501_01.row.prog w) (ktrTop dp un gd cn cs L a ccd cl outer) (call (.ref 93) [nu, .bytes bs tb, gl, lv]) Q E s := by
  revert X; k_fill; intro X
  refine' callC_cls ?c1 ?c2 ?c3 ?c4 ?c5 ?c6 ?_; (case c1 => k_asm); (case c2 => k_asm); (case c3 => k_asm); (case c4 => k_is); (case c5 => k_is); (case c6 => k_is)
  intro x' d' h' F' N' l1 l2; (try k_lt l1); (try k_lt2 l2)
  clear F N
  refine' codeC_def (binds := [(Str.ofString "self", .ref x'), (Str.ofString "number", nu), (Str.ofString "octets", .bytes bs tb), (Str.ofString "is_global", gl), (Str.ofString "level", lv)]) ?k1 ?k2 ?k3 ?k4 ?k5 ?kA ?kF ?kK ?k6 ?k7 ?k8 ?k9 ?kB ?_ ?c2 ?c3 ?c4 ?c5; (case kA => exact rfl); (case kF => exact rfl); (case kK => first | exact rfl | assumption); (case k1 => k_asm); (case k2 => k_asm); (case k3 => k_asm); (case k4 => k_asm); (case k5 => k_asm); (case k6 => k_is); (case k7 => k_is); (case k8 => k_extra "ktr_room")
  (case k9 => exact BindsTo.of_eq (by kernel_rfl))
  (case c5 => decide +kernel); (case kB => exact locs (by kernel_rfl)); (case c2 => kernel_rfl); (case c3 => kernel_rfl); (case c4 => kernel_rfl)
  clear F' N'
  intro g' L' h' FG' F' N' B' X' T'
  (try dsimp only)
  revert F'; refine let_m ?_; intro m9 F'
  (try k_lift B')
  (try k_fold)
  clear FG' 
  refine wpC_execs_cons (wpC.of ?_)
  k_extra "k_steps"
  show wpC _ _ _ _ _ _
  refine wpC_execs_cons (wpC_Assign_Attr (wpC_Call ?_ rfl) rfl)
  k_extra "k_steps"
  refine callWithC_type (wpC_items_cons (wpC.of ?_) rfl) rfl rfl
  k_extra "k_steps"
  refine wpC_items_nil ?_
  rename News _ _ _ _ => N5
  rename Fr _ _ _ _ => F5
  refine call_baN F5 N5 hz fun oc h9 F9 N9 l9 => ?_
  clear F5 N5
  simp only [AllLt, and_true] at l9
  k_extra "k_steps"
  show wpC _ _ _ _ _ _
  refine wpC.of ?_
  k_extra "k_steps"
  rename News h₀ _ _ _ => nE
  refine hret _ _ _ _ _ _ _ _ _ _ _ _ _ (by k_asm) (news_sub nE (by k_extra "kqd_sub")) (allLt_of l1) l2 l9.1
end

section
variable {w : World} {p : Program} {loose : List Str} {mean : ExcName → Option Value} {mg mb : Str → Option Value} {dp un : Nat} {gd : Option (List Code)} {cn : Str} {cs : Scope} {a : Addr} {ccd : Value} {cl : List (Str × Addr)} {outer : List Env} {A₀ : Around} {base h₀ : Heap} {L : Addr} {m : Str → Option Value} {s : Shared} {Q E : Value → Shared → Prop} {led dk gr lits : Led}
theorem textOf {mm nb : Nat} {mk : Led} {bs : Array UInt8} {tb : Tok} (B : Below A₀ base outer h₀) (F : Fr h₀ L s.heap m) (X : (top.heap_1_39 w.params).In h₀) (N : News h₀ L s.heap led) (T : Top p loose mean mg mb h₀) (hk : cs.kind = .function) (hT : Tail (dk ++ (mk ++ gr)) led lits) (hM : Mem w mm mk nb) (hl : Apart lits mk) (hd : Apart dk mk) (hg : Apart gr mk) (hnb : nb < 1000) (hz : bs.size ≤ 100) 
    (hdp : dp + 9 < recursionLimit) (hun : un + 72 < cLine)
    (hret : ∀ (x dx oc : Nat) h1 h2 h3 h4 t1 t2 t3 t4 tn tl mk' h' tk', Fr h₀ L h' m → News h₀ L h' ((x, instObj 93 dx) :: (dx, textD h1 h2 h3 h4 t1 t2 t3 t4 (.int (nb + 1) tn) (.ref oc) (.bool false) (.int 0 tl)) :: (oc, baObj bs) :: (lits ++ (dk ++ (mk' ++ gr)))) →
      AllLt dx (lits ++ (dk ++ (mk' ++ gr))) → dx < x → x < oc → Mem w mm mk' (nb + 1) → Apart lits mk' → Apart dk mk' → Apart gr mk' → Q (.ref x) { s with heap := h', toks := tk' }) :
    wpC (model PySem.Challenge.rw_nt0501_01.row.prog w) (ktrTop dp un gd cn cs L a ccd cl outer) (call (.ref 395) [.ref mm, .bytes bs tb]) Q E s := by
  have e := hT.eq
  subst e
  obtain ⟨mr, mf1, mf2, mf3, mf4, mf5⟩ := mem_one hM
  revert X; k_fill; intro X
  refine wpC_call ?_
  refine' codeC_def (binds := [(Str.ofString "self", .ref mm), (Str.ofString "octets", .bytes bs tb)]) ?k1 ?k2 ?k3 ?k4 ?k5 ?kA ?kF ?kK ?k6 ?k7 ?k8 ?k9 ?kB ?_ ?c2 ?c3 ?c4 ?c5; (case kA => exact rfl); (case kF => exact rfl); (case kK => first | exact rfl | assumption); (case k1 => k_asm); (case k2 => k_asm); (case k3 => k_asm); (case k4 => k_asm); (case k5 => k_asm); (case k6 => k_is); (case k7 => k_is); (case k8 => k_extra "ktr_room")
  (case k9 => exact BindsTo.of_eq (by kernel_rfl))
  (case c5 => decide +kernel); (case kB => exact locs (by kernel_rfl)); (case c2 => kernel_rfl); (case c3 => kernel_rfl); (case c4 => kernel_rfl)
  intro g' L' h' FG' F' N' B' X' T'
  (try dsimp only)
  revert F'; refine let_m ?_; intro m9 F'
  (try k_lift B')
  (try k_fold)
  clear FG' 
  clear F N
  refine wpC_execs_cons (wpC.of ?_)
  k_extra "k_steps"
  show wpC _ _ _ _ _ _
  refine wpC_execs_cons (wpC_Return_some (wpC_Call ?_ rfl))
  k_extra "k_steps"
  refine' callWithC_K ?zX ?zk (wpC_items_cons (wpC.of ?_) rfl) rfl rfl
  (case zX => k_asm)
  (case zk => k_is)
  k_extra "k_steps"
  refine wpC_items_cons (wpC.of ?_) rfl
  k_extra "k_steps"
  refine wpC_items_cons (wpC.of ?_) rfl
  k_extra "k_steps"
  refine wpC_items_cons (wpC.of ?_) rfl
  k_extra "k_steps"
  refine wpC_items_nil ?_
  refine ⟨by k_in, ?_⟩
  rename Apart lits _ => hl5
  rename Apart dk _ => hd5
  rename Apart gr _ => hg5
  rename Mem w mm _ (nb + 1) => hM5
  k_dflt (refine' textNew ?zB ?zF ?zX ?zN ?zT ?zK hz ?zd ?zu ?_)
  (case zB => k_asm)
  (case zF => k_asm)
  (case zX => k_asm)
  (case zN => k_asm)
  (case zT => k_asm)
  (case zK => first | exact rfl | assumption)
  (case zd => k_extra "ktr_room")
  (case zu => k_extra "ktr_units")
  intro x dx oc h1 h2 h3 h4 t1 t2 t3 t4 h9 tk9 F9 N9 l1 l2 l3
  (try dsimp only)
  k_extra "k_steps"
  rename News h₀ _ _ _ => nE
  exact hret _ _ _ _ _ _ _ _ _ _ _ _ _ _ _ _ (by k_asm) nE l1 l2 l3 hM5 hl5 hd5 hg5
end

section
variable {w : World} {p : Program} {loose : List Str} {mean : ExcName → Option Value} {mg mb : Str → Option Value} {dp un : Nat} {gd : Option (List Code)} {cn : Str} {cs : Scope} {a : Addr} {ccd : Value} {cl : List (Str × Addr)} {outer : List Env} {A₀ : Around} {base h₀ : Heap} {L : Addr} {m : Str → Option Value} {s : Shared} {Q E : Value → Shared → Prop} {led dk gr lits : Led}
theorem makeText {mm nb : Nat} {mk : Led} {ti : Tok} (B : Below A₀ base outer h₀) (F : Fr h₀ L s.heap m) (X : (top.heap_1_39 w.params).In h₀) (N : News h₀ L s.heap led) (T : Top p loose mean mg mb h₀) (hk : cs.kind = .function) (hT : Tail (dk ++ (mk ++ gr)) led lits) (hM : Mem w mm mk nb) (hl : Apart lits mk) (hd : Apart dk mk) (hg : Apart gr mk) (hnb : nb < 1000)
    (hdp : dp + 11 < recursionLimit) (hun : un + 88 < cLine)
    (hret : ∀ (x dx oc : Nat) bs h1 h2 h3 h4 t1 t2 t3 t4 tn tl mk' h' tk', Array.size bs ≤ 100 → Fr h₀ L h' m → News h₀ L h' ((x, instObj 93 dx) :: (dx, textD h1 h2 h3 h4 t1 t2 t3 t4 (.int (nb + 1) tn) (.ref oc) (.bool false) (.int 0 tl)) :: (oc, baObj bs) :: (lits ++ (dk ++ (mk' ++ gr)))) →
      AllLt dx (lits ++ (dk ++ (mk' ++ gr))) → dx < x → x < oc → Mem w mm mk' (nb + 1) → Apart lits mk' → Apart dk mk' → Apart gr mk' → Q (.ref x) { s with heap := h', toks := tk' }) :
    wpC (model PySem.Challenge.rw_nt0501_01.row.prog w) (ktrTop dp un gd cn cs L a ccd cl outer) (call (.ref 388) [.ref mm, .int 2 ti]) Q E s := by
  have e := hT.eq
  subst e
  obtain ⟨mr, mf1, mf2, mf3, mf4, mf5⟩ := mem_one hM
  revert X; k_fill; intro X
  refine wpC_call ?_
  refine' codeC_def (binds := [(Str.ofString "self", .ref mm), (Str.ofString "many", .int 2 ti)]) ?k1 ?k2 ?k3 ?k4 ?k5 ?kA ?kF ?kK ?k6 ?k7 ?k8 ?k9 ?kB ?_ ?c2 ?c3 ?c4 ?c5; (case kA => exact rfl); (case kF => exact rfl); (case kK => first | exact rfl | assumption); (case k1 => k_asm); (case k2 => k_asm); (case k3 => k_asm); (case k4 => k_asm); (case k5 => k_asm); (case k6 => k_is); (case k7 => k_is); (case k8 => k_extra "ktr_room")
  (case k9 => exact BindsTo.of_eq (by kernel_rfl))
  (case c5 => decide +kernel); (case kB => exact locs (by kernel_rfl)); (case c2 => kernel_rfl); (case c3 => kernel_rfl); (case c4 => kernel_rfl)
  intro g' L' h' FG' F' N' B' X' T'
  (try dsimp only)
  revert F'; refine let_m ?_; intro m9 F'
  (try k_lift B')
  (try k_fold)
  clear FG' 
  clear F N
  refine wpC_execs_cons (wpC.of ?_)
  k_extra "k_steps"
  show wpC _ _ _ _ _ _
  refine wpC_execs_cons (wpC_Return_some (wpC_MethodCall ?_ rfl))
  k_extra "k_steps"
  refine' callWithC_K ?zX ?zk (wpC_items_cons (wpC.of ?_) rfl) rfl rfl
  (case zX => k_asm)
  (case zk => k_is)
  k_extra "k_steps"
  refine call_bytes_int (by decide) (by decide) fun t9 tk9 => ?_
  refine wpC_items_nil ?_
  refine ⟨by k_in, ?_⟩
  show wpC _ _ (call (.ref 395) [.ref mm, .bytes _ _]) _ _ _
  k_dflt (refine' textOf (lits := lits) ?zB ?zF ?zX ?zN ?zT ?zK hT hM hl hd hg hnb ?zz ?zd ?zu ?_)
  (case zB => k_asm)
  (case zF => k_asm)
  (case zX => k_asm)
  (case zN => k_asm)
  (case zT => k_asm)
  (case zK => first | exact rfl | assumption)
  (case zz => simp)
  (case zd => k_extra "ktr_room")
  (case zu => k_extra "ktr_units")
  intro x dx oc h1 h2 h3 h4 t1 t2 t3 t4 tn tl mk' h9 tk9 F9 N9 l1 l2 l3 hM5 hl5 hd5 hg5
  (try dsimp only)
  k_extra "k_steps"
  rename News h₀ _ _ _ => nE
  exact hret _ _ _ _ _ _ _ _ _ _ _ _ _ _ _ _ _ (by simp) (by k_asm) nE l1 l2 l3 hM5 hl5 hd5 hg5
end

def lawDeedP : Prop := ∀ {w : World} {p : Program} {loose : List Str} {mean : ExcName → Option Value} {mg mb : Str → Option Value} {dp un : Nat} {gd : Option (List Code)} {cn : Str} {cs : Scope} {a : Addr} {ccd : Value} {cl : List (Str × Addr)} {outer : List Env} {A₀ : Around} {base h₀ : Heap} {L : Addr} {m : Str → Option Value} {s : Shared} {Q E : Value → Shared → Prop} {led dk gr lits : Led} {d bl mm kb nb nd : Nat} {mk imm : Led} {bts : List Value} {kind : Nat → Str} {tA bA cA hA : Nat → Nat} {cO hO : Nat → Obj} {adj ladj : Nat → List (Option Nat)} (B : Below A₀ base outer h₀) (F : Fr h₀ L s.heap m) (X : (top.heap_1_39 w.params).In h₀) (N : News h₀ L s.heap led) (T : Top p loose mean mg mb h₀) (hk : cs.kind = .function) (hT : Tail (dk ++ (mk ++ gr)) led lits) (hl : Apart lits dk) (hlg : Apart lits gr) (hg : Apart (mk ++ gr) dk) (hgm : Apart gr mk) (hM : Mem w mm mk nb) (hD : DeckOk w d dk nd) (hnd : nd < 8000)
    (hG : GInv w bl kb bts kind tA bA cA hA gr imm cO hO adj ladj)
    (hdp : dp + 13 < recursionLimit) (hun : un + 104 < cLine)
    (hret : ∀ gr' imm' cO' hO' adj' ladj' dk' nd' h' tk', Fr h₀ L h' m → News h₀ L h' (lits ++ (dk' ++ (mk ++ gr'))) → GInv w bl kb bts kind tA bA cA hA gr' imm' cO' hO' adj' ladj' → DeckOk w d dk' nd' → nd' ≤ nd + 20 → Apart lits dk' → Apart lits gr' → Apart (mk ++ gr') dk' → Apart gr' mk → Q .none { s with heap := h', toks := tk' }), wpAny (model PySem.Challenge.rw_nt0501_01.row.prog w) (ktrTop dp un gd cn cs L a ccd cl outer) (call (.ref 648) [.ref d, .ref mm, .ref bl]) Q E s

def q28 : PSigma fun S : Prop => PLift S → lawDeedP := ⟨_, fun hCut => by
  intro w p loose mean mg mb dp un gd cn cs a ccd cl outer A₀ base h₀ L m s Q E led dk gr lits d bl mm kb nb nd mk imm bts kind tA bA cA hA cO hO adj ladj B F X N T hk hT hl hlg hg hgm hM hD hnd hG hdp hun hret
  have e := hT.eq
  subst e
  have hBL := hG.isBL
  have hbz := hG.hbz
  have hbl := hG.sub _ hG.hbl
  revert X; k_fill; intro X
  refine' entD (binds := [(Str.ofString "deck", .ref d), (Str.ofString "memory", .ref mm), (Str.ofString "bodies", .ref bl)]) ?k1 ?k2 ?k3 ?k4 ?k5 ?kK ?k6 ?k7 ?k8 ?k9 ?kO ?_; (case kK => first | exact rfl | assumption); (case k1 => k_asm); (case k2 => k_asm); (case k3 => k_asm); (case k4 => k_asm); (case k5 => k_asm); (case k6 => k_is); (case k7 => k_is); (case k8 => k_extra "ktr_room")
  (case k9 => exact BindsTo.of_eq (by kernel_rfl))
  (case kO => kernel_rfl)
  intro g' L' h' tk9 g9 d9 o9 A9 m9 ek9 qk F' N' B' X' T'
  (try k_lift B')
  (try clear N); (try clear F)
  k_extra "k_steps"
  refine' comp_assign ?c0 ?c1 ?c2 ?c3 ?c4 ?c5 ?c6 ?c7 ?c8 ?c9 ?ca
  (case c0 => k_asm)
  (case c1 => exact rfl)
  (case c2 => exact rfl)
  (case c3 => with_unfolding_all rfl)
  (case c4 => decide)
  (case c5 => exact rfl)
  (case c6 => decide)
  (case c7 => kernel_rfl)
  (case c8 => exact rfl)
  (case ca => exact fun _ => rfl)
  k_extra "k_steps"
  refine' psrc_enum (fun i ys => IntsAre ys ((places (fun x => x != Str.ofString "text") kind i).map fun k : Nat => (k : Int))) ?d0 ?d1 ?d2 ?d3 ?d4 ?d5 ?d6 ?d7 ?d8 ?d9 ?da ?db
  (case d0 => exact rfl)
  (case d1 => k_asm)
  (case d2 => k_asm)
  (case d3 => k_extra "k_mem")
  (case d4 => omega)
  (case d5 => decide)
  (case d6 => decide)
  (case d7 => decide)
  (case d8 => exact rfl)
  (case d9 => exact .nil)
  · rintro i ys h₁ tk₁ own C oC D mC E' hi ⟨tv, v, hv, hm1, hm2⟩ hK hoC hCD F₁ N₁
    (refine xEEA (hBL i v hv) fun t tk zr1 hmt => ?_; subst zr1)
    have hmt' := List.mem_append_right lits (List.mem_append_right dk (List.mem_append_right mk hmt))
    refine wpAny_tests_one ?_
    k_extra "k_steps"
    · exact ⟨_, _, rfl, by k_asm, by k_asm, places_pos hK (by first | assumption | simp_all)⟩
    · exact ⟨_, _, rfl, by k_asm, by k_asm, places_neg hK (by first | assumption | simp_all)⟩
  · rintro D h2 tk2 ys F2 N2 oD hY
    k_sweep
    rw [hbz] at hY
    have hyl := hY.length
    rw [List.length_map] at hyl
    have hp0 : 0 ∈ places (fun x => x != Str.ofString "text") kind 5 := mem_places.mpr ⟨by omega, by rw [hG.k0]; decide +kernel⟩
    have hp1 := List.length_pos_of_mem hp0
    have hp2 : (places (fun x => x != Str.ofString "text") kind 5).length ≤ 5 := Nat.le_trans (List.length_filter_le _ _) (by simp)
    k_extra "k_steps"
    rename _[_]? = some _ => hpl
    (refine xEEAA (place_at hY hpl) fun pk pt zr2 hpk hpt => ?_; subst zr2)
    refine xEEA (hBL.at (k := pk) (by omega)) fun tt tkk hbt hmt => ?_
    have hmt' := List.mem_append_right mk hmt
    k_extra "k_steps"
    rename DeckOk _ _ _ _ => hD3
    rename Apart (mk ++ gr) _ => hg3
    rename Apart (_ :: _) _ => hl3
    rename _ < ((bts.length : Nat) : Int) => hr5
    rename 0 ≤ (_ : Int) => hr0
    refine xE (Int.eq_ofNat_of_zero_le hr0) fun gj hgj => ?_
    subst hgj
    have hgl : gj < 5 := by omega
    refine xEEA (hBL.at (k := gj) (by omega)) fun tg tkg hbg hmg => ?_
    rename_i v28_1 v28_2 v28_3 v28_4 v28_5 v28_6 v28_7 v28_8 v28_9 v28_10 v28_11 v28_12 v28_13 v28_14 v28_15 v28_16 v28_17 v28_18 v28_19 v28_20
    (try clear qk); (try clear v28_20); (try clear v28_19); (try clear v28_18); (try clear hbt); (try clear v28_17); (try clear hpl); (try clear v28_16); (try clear v28_15); (try clear v28_14); (try clear v28_13); (try clear v28_12); (try clear v28_11); (try clear ek); (try clear v28_10); (try clear v28_9); (try clear v28_8); (try clear hgZ); (try clear hlZ); (try clear hDZ); (try clear v28_7); (try clear v28_6); (try clear v28_5); (try clear iZ); (try clear v28_4); (try clear v28_3); (try clear hp2); (try clear hp1); (try clear hp0); (try clear hyl); (try clear hY); (try clear oD); (try clear tk2); (try clear h2); (try clear v28_2); (try clear tk9); (try clear h'); (try clear X); (try clear hT); (try clear hD); (try clear hg); (try clear hl); (try clear hk); (try clear T); (try clear B); (try clear dk); (try clear A₀); revert w p loose mean mg mb dp un gd cn cs a ccd cl outer base h₀ L m s Q E gr lits d bl mm kb nb nd mk imm bts kind tA bA cA hA cO hO adj ladj hlg hgm hM hnd hG hdp hun hret hBL hbz hbl g' L' g9 d9 o9 A9 m9 ek9 v28_1 B' X' T' D ys tZ dkZ hD3 hl3 hg3 DZ l1Z pk pt hpk hpt tt tkk hmt hmt' hZ tkZ qkZ gj hr0 hr5 FZ NZ hgl tg tkg hbg hmg
    have hz := PLift.down hCut
    exact hz⟩

def q29 : PSigma fun S : Prop => PLift S → q28.1 := ⟨_, fun hCut => by
  intro w p loose mean mg mb dp un gd cn cs a ccd cl outer base h₀ L m s Q E gr lits d bl mm kb nb nd mk imm bts kind tA bA cA hA cO hO adj ladj hlg hgm hM hnd hG hdp hun hret hBL hbz hbl g' L' g9 d9 o9 A9 m9 ek9 v28_1 B' X' T' D ys tZ dkZ hD3 hl3 hg3 DZ l1Z pk pt hpk hpt tt tkk hmt hmt' hZ tkZ qkZ gj hr0 hr5 FZ NZ hgl tg tkg hbg hmg
  revert X'; k_fill; intro X'
  k_dflt (refine' lawThing (t := tg) ?lB ?lF ?lX ?lN ?lT ?lK ?ltl ?lhl ?lhg hD3 ?ln ?lbl hbg ?lj ?lt ?lkb ?ld ?lu ?_)
  (case lB => k_asm)
  (case lF => k_asm)
  (case lX => k_asm)
  (case lN => k_asm)
  (case lT => k_asm)
  (case lK => first | exact rfl | assumption)
  (case lhg => exact hg3)
  (case ltl => k_extra "kd_mem")
  (case lhl => k_extra "kd_all")
  (case ln => omega)
  (case lbl => exact List.mem_append_right mk hbl)
  (case lj => omega)
  (case lt => exact List.mem_append_right mk hmg)
  (case lkb => exact (hG.isKB hgl).mono (Sub.inr Sub.refl))
  (case ld => k_extra "ktr_room")
  (case lu => k_extra "ktr_units")
  intro th dk4 new4 h4 tk4 n4 F4 N4 ab4 den4 hD4 hn4 hl4 hg4
  (refine xE (den4.ref) fun x4 zr1 => ?_; subst zr1)
  have hlm : Apart new4 dk4 := ab4.apart.sub Sub.refl (Sub.inr (Sub.inl Sub.refl))
  have hlg4 : Apart new4 (lits ++ (mk ++ gr)) := ab4.apart.sub Sub.refl (by k_extra "kqd_sub")
  have hl5 : Apart (new4 ++ lits) dk4 := Apart.append hlm (hl4.sub (by k_extra "kqd_sub") Sub.refl)
  have N5 : News g' L' h4 ((new4 ++ lits) ++ (dk4 ++ (mk ++ gr))) := news_sub N4 (by k_extra "kqd_sub")
  (try clear hl4); (try clear N4)
  have hg5 := hg4
  (try clear hg4)
  k_sweep
  k_extra "kp_flats"
  refine' TN.join (w := w) (d := d) (bA := bA) (nd + 10) lits mk gr ?jF ?j1 ?j2
  (case jF => k_asm)
  (case j1 =>
    k_extra "k_steps"
    · rename News _ _ _ _ => nE
      rename DeckOk _ _ _ (n4 + 1) => hD6
      rename Apart (mk ++ gr) _ => hg6
      rename Apart (_ :: (new4 ++ lits)) _ => hl6
      rename Fr _ _ _ _ => fE
      rename _ ∧ AllLt _ _ => q1
      (revert q1; intro zo; refine xA zo fun _ q1 => ?_; clear zo)
      rename _ ∧ AllLt _ _ => q2
      (revert q2; intro zo; refine xA zo fun _ q2 => ?_; clear zo)
      refine' ⟨_, _, none, [(_, _), (_, _)], _, _, _, _, rfl, fr_twice fE, news_sub nE ?u2, .leaf (.head _) (.tail _ (.head _)) (.inr (.inl rfl)), (fun _ h => nomatch h), .inr ⟨rfl, rfl⟩, hD6, ?u4, ?u5, ?u6, hg6⟩
      (case u2 => k_extra "kqd_sub")
      (case u4 => omega)
      (case u5 => exact Apart.append ((Above.cons q1 (Above.cons q2 Above.nil)).apart.sub Sub.refl (Sub.inr (Sub.inl Sub.refl))) (hl6.sub (by k_extra "kqd_sub") Sub.refl))
      (case u6 => exact (Above.cons q1 (Above.cons q2 Above.nil)).apart.sub Sub.refl (by k_extra "kqd_sub"))
    · rename News _ _ _ _ => nE
      rename DeckOk _ _ _ (n4 + 1) => hD6
      rename Apart (mk ++ gr) _ => hg6
      rename Apart (_ :: (new4 ++ lits)) _ => hl6
      rename Fr _ _ _ _ => fE
      exact ⟨_, _, some gj, new4, _, _, _, _, rfl, fE, news_sub nE (by k_extra "kqd_sub"), den4, (fun k h => by cases h; exact hgl), .inl ⟨gj, _, rfl, rfl, hgl⟩, hD6, by omega, hl6.sub (by k_extra "kqd_sub") Sub.refl, hlg4, hg6⟩)
  (try clear hg); (try clear hT); (try clear hD); (try clear hr5); (try clear hr0); (try clear hp2); (try clear hp1); (try clear hp0); (try clear hyl); (try clear hY); (try clear hpl); (try clear hg3); (try clear hl3); (try clear hD3); (try clear ab4); (try clear den4); (try clear hn4); (try clear hD4); (try clear hlg4); (try clear hlm); (try clear hg5); (try clear hl5)
  rintro s₂ ⟨x5, nv, o, new5, dk5, n5, h5, tk5, rfl, F5, N5, den5, ho5, hiv5, hD5, hn5, hl5, hlg5, hg5⟩
  k_sweep
  (try clear hgl); (try clear hmg); (try clear hbg)
  (try dsimp only)
  k_extra "kp_flats"
  rename_i v29_1 v29_2 v29_3 v29_4 v29_5 v29_6 v29_7 v29_8 v29_9 v29_10
  (try clear tk5); (try clear v29_10); (try clear v29_9); (try clear hZ); (try clear v29_8); (try clear v29_7); (try clear l1Z); (try clear v29_6); (try clear DZ); (try clear x4); (try clear n4); (try clear tk4); (try clear h4); (try clear new4); (try clear dk4); (try clear tkg); (try clear tg); (try clear qk); (try clear v29_5); (try clear v29_4); (try clear v29_3); (try clear v28_20); (try clear v28_19); (try clear v28_18); (try clear hbt); (try clear v28_17); (try clear v28_16); (try clear v28_15); (try clear v28_14); (try clear v28_13); (try clear v28_12); (try clear v29_2); (try clear v28_11); (try clear ek); (try clear v28_10); (try clear v28_9); (try clear dkZ); (try clear v28_8); (try clear hgZ); (try clear hlZ); (try clear hDZ); (try clear v28_7); (try clear v28_6); (try clear v28_5); (try clear iZ); (try clear v28_4); (try clear v28_3); (try clear oD); (try clear ys); (try clear tk2); (try clear h2); (try clear v28_2); (try clear tk9); (try clear h'); (try clear X); (try clear hl); (try clear hk); (try clear T); (try clear B); (try clear dk); (try clear A₀); revert w p loose mean mg mb dp un gd cn cs a ccd cl outer base h₀ L m s Q E gr lits d bl mm kb nb nd mk imm bts kind tA bA cA hA cO hO adj ladj hlg hgm hM hnd hG hdp hun hret hBL hbz hbl g' L' g9 d9 o9 A9 m9 ek9 v28_1 B' T' D tZ v29_1 pk pt hpk hpt tt tkk hmt hmt' gj X' x5 nv o new5 dk5 n5 h5 F5 N5 den5 ho5 hiv5 hD5 hn5 hl5 hlg5 hg5 tkZ qkZ
  have hz := PLift.down hCut
  exact hz⟩

def q30 : PSigma fun S : Prop => PSigma fun S2 : Prop => PLift S → PLift S2 → q29.1 := ⟨_, _, fun hCut hCuu => by
  intro w p loose mean mg mb dp un gd cn cs a ccd cl outer base h₀ L m s Q E gr lits d bl mm kb nb nd mk imm bts kind tA bA cA hA cO hO adj ladj hlg hgm hM hnd hG hdp hun hret hBL hbz hbl g' L' g9 d9 o9 A9 m9 ek9 v28_1 B' T' D tZ v29_1 pk pt hpk hpt tt tkk hmt hmt' gj X' x5 nv o new5 dk5 n5 h5 F5 N5 den5 ho5 hiv5 hD5 hn5 hl5 hlg5 hg5 tkZ qkZ
  revert X'; k_fill; intro X'
  have hb := hG.body pk hpk
  obtain ⟨mr, mf1, mf2, mf3, mf4, mf5⟩ := mem_one hM
  refine xA (hG.cell pk hpk) fun hcc hch => ?_
  generalize hkd : kind pk = kd at hb F5 hmt hmt' hpt
  generalize hco : cO pk = co at hb hcc
  generalize hho : hO pk = ho at hb hch
  generalize haj : adj pk = aj at hb
  generalize hla : ladj pk = la at hb
  cases hb with
  | row m1 m2 h3 hp ha hn hh hR =>
    have m1' := hG.sub _ m1
    have m2' := hG.sub _ m2
    k_extra "k_steps"
    rename DeckOk _ _ _ (n5 + 1) => hD6
    rename Apart (mk ++ gr) _ => hg6
    rename Apart (new5 ++ lits) _ => hl6
    rename _ < (3 : Int) => hr3
    rename 0 ≤ (_ : Int) => hr0
    obtain ⟨at_, hat⟩ := Int.eq_ofNat_of_zero_le hr0
    subst hat
    have hat3 : at_ < 3 := by omega
    k_dflt (refine' putItem (c := cA pk) (nb := nb) ?zB ?zF ?zX ?zN ?zT ?zK hM ?zs (List.mem_append_right _ (List.mem_append_right _ (List.mem_append_right _ hcc))) (List.mem_append_right _ (List.mem_append_right _ (List.mem_append_right _ m1'))) (List.mem_append_right _ (List.mem_append_right _ (List.mem_append_right _ m2'))) ?zo hr0 ?zi ?zz ?zd ?zu ?_)
    (case zB => k_asm)
    (case zF => k_asm)
    (case zX => k_asm)
    (case zN => k_asm)
    (case zT => k_asm)
    (case zK => first | exact rfl | assumption)
    (case zs => k_extra "kqd_sub")
    (case zo => exact hgm _ hcc)
    (case zi => omega)
    (case zz => omega)
    (case zd => k_extra "ktr_room")
    (case zu => k_extra "ktr_units")
    intro k6 h6 tk6 F6 N6
    k_sweep
    k_extra "k_steps"
    rename News _ _ _ (_ :: setL _ _ _) => N7
    rename Fr _ _ _ _ => F7
    rename AllLt _ (setL _ _ _) => l7
    have hne : hA pk ≠ cA pk := fun e => hG.ich pk pk hpk hpk e.symm
    k_dflt (refine' kd_set (w := w) F7 N7 (List.mem_cons_of_mem _ (mem_setL_of (List.mem_append_right _ (List.mem_append_right _ (List.mem_append_right _ hch))) hne)) inNum ha.keysIn hn ?zz ?zu ?_)
    (case zz => have := hh.length; have := hR.few (hn.par hh); omega)
    (case zu => k_extra "ktr_units")
    intro h8 tk8 k8 F8 N8
    (try clear N7); (try clear F7)
    (try dsimp only)
    k_extra "k_steps"
    rename News h₀ _ _ _ => nE
    rename Fr h₀ _ _ _ => fE
    rename AllLt _ (setL _ _ _) => l7
    obtain ⟨n5d, n5l⟩ := hl6.app_left
    have ol7 := allLt_off (allLt_setL l7)
    have hnw : Apart ((_, W.listOf #[nv] 0) :: new5) (lits ++ (_ ++ (mk ++ gr))) := Apart.cons (off_app (off_right (off_left ol7)) (off_right ol7)) (Apart.app_right (hlg5.sub Sub.refl (Sub.inl Sub.refl)) (Apart.app_right n5d (hlg5.sub Sub.refl (Sub.inr Sub.refl))))
    obtain ⟨gr', imm', cO', hO', adj', ladj', N9, G9, a1, a2, a3⟩ := hG.next hpk ((_, W.listOf #[nv] 0) :: new5) hnw
      (by rw [hkd]; exact row_put (List.mem_append_right _ m1) (List.mem_append_right _ m2) h3 (paired_mono (fun _ _ z => z.mono (Sub.inr Sub.refl)) hp) ha hn (hh.mono fun _ _ z => z.mono (Sub.inr Sub.refl)) hR ⟨ho5, den5.mono (Sub.inl (Sub.skip Sub.refl))⟩ hiv5 (.head _) hat3)
      nE (mem_setL_of (.tail _ mem_setL_self) (Ne.symm hne)) mem_setL_self (fun q hq h1 h2 => mem_setL_of (by
        rcases List.mem_append.mp hq with hq | hq
        · rcases List.mem_cons.mp hq with rfl | hq
          · exact .head _
          · exact .tail _ (mem_setL_of (by simp [hq]) h1)
        · exact .tail _ (mem_setL_of (by rw [List.append_assoc]; exact List.mem_append_right _ hq) h1)) h2) n5l hlg hg6 hgm
    exact hret gr' imm' cO' hO' adj' ladj' _ (n5 + 1) _ _ fE N9 G9 hD6 (by omega) n5l a1 a2 a3
  | dict m1 m2 lo his hn hE hki hkn hh hD =>
    have m1' := hG.sub _ m1
    have m2' := hG.sub _ m2
    k_extra "k_steps"
    rename News _ _ _ _ => nE
    obtain ⟨led5, hled5, nF⟩ : ∃ X, X = _ ∧ News g' L' _ X := ⟨_, rfl, nE⟩
    (try clear nE)
    have hin : ∀ q ∈ gr, q ∈ led5 := by intro q hq; rw [hled5]; k_extra "k_mem"
    have hbl5 := hin _ hbl
    refine' comp_assign ?c0 ?c1 ?c2 ?c3 ?c4 ?c5 ?c6 ?c7 ?c8 ?c9 ?ca
    (case c0 => k_asm)
    (case c1 => exact rfl)
    (case c2 => exact rfl)
    (case c3 => with_unfolding_all rfl)
    (case c4 => decide)
    (case c5 => exact rfl)
    (case c6 => decide)
    (case c7 => kernel_rfl)
    (case c8 => exact rfl)
    (case ca => exact fun _ => rfl)
    k_extra "k_steps"
    refine' psrc_enum (fun i ys => IntsAre ys ((places (fun x => x == Str.ofString "row") kind i).map fun k : Nat => (k : Int))) ?d0 ?d1 ?d2 ?d3 ?d4 ?d5 ?d6 ?d7 ?d8 ?d9 ?da ?db
    (case d0 => exact rfl)
    (case d1 => k_asm)
    (case d2 => k_asm)
    (case d3 => k_extra "k_mem")
    (case d4 => omega)
    (case d5 => decide)
    (case d6 => decide)
    (case d7 => decide)
    (case d8 => exact rfl)
    (case d9 => exact .nil)
    · rintro i ys h₁ tk₁ own C oC D mC E' hi ⟨tv, v, hv, hm1, hm2⟩ hK hoC hCD F₁ N₁
      (refine xEEA (hBL i v hv) fun t tk zr1 hmt => ?_; subst zr1)
      have hmt' := hin _ hmt
      refine wpAny_tests_one ?_
      k_extra "k_steps"
      · exact ⟨_, _, rfl, by k_asm, by k_asm, places_pos hK (by first | assumption | simp_all)⟩
      · exact ⟨_, _, rfl, by k_asm, by k_asm, places_neg hK (by first | assumption | simp_all)⟩
    · rintro D h2 tk2 ys F2 N2 oD hY
      subst hled5
      k_sweep
      rw [hbz] at hY
      have hyl := hY.length
      rw [List.length_map] at hyl
      have hp0 : 0 ∈ places (fun x => x == Str.ofString "row") kind 5 := mem_places.mpr ⟨by omega, by rw [hG.k0]; decide +kernel⟩
      have hp1 := List.length_pos_of_mem hp0
      have hp2 : (places (fun x => x == Str.ofString "row") kind 5).length ≤ 5 := Nat.le_trans (List.length_filter_le _ _) (by simp)
      rename Apart (mk ++ gr) _ => hg6
      rename Apart (new5 ++ lits) _ => hl6
      rename DeckOk _ _ _ (n5 + 1) => hD6
      rename _ < (4 : Int) => hr4
      rename 0 ≤ (_ : Int) => hr0
      obtain ⟨nw6, N6, oD6, hs6, hk6, hj6, hlg6, hl7⟩ := key_pack (w := w) N2 oD hr0 (by omega) (by tbn_find) (by tbn_find) hl6 hlg5
      (try clear hin); (try clear hbl5); (try clear hl6); (try clear oD); (try clear N2)
      have hg7 := hg6
      (try clear hg6)
      have hg6 := hg7
      (try clear hg7)
      k_extra "kp_flats"
      refine' KM.join (w := w) lits mk gr imm d x5 bA nv o (nd + 14) ?jF ?j1 ?j2
      (case jF => k_asm)
      (case j1 => (rename_i v30a_1 v30a_5 v30a_12 v30a_13 v30a_14 v30a_15 v30a_16 v30a_17 v30a_18 v30a_19 v30a_20 v30a_21 v30a_22 v30a_23 v30a_24 v30a_25 v30a_26 v30a_27 v30a_28 v30a_29 v30a_30 v30a_31 v30a_32 v30a_33 v30a_34 v30a_35 v30a_36 v30a_37 v30a_38 v30a_39 v30a_40 v30a_41 v30a_42 v30a_43 v30a_44 v30a_45 v30a_46 v30a_47 v30a_48 v30a_49 v30a_50 v30a_51; (try clear qkZ); (try clear hp0); (try clear tk2); (try clear v30a_51); (try clear v30a_50); (try clear hZ); (try clear v30a_49); (try clear v30a_48); (try clear l1Z); (try clear v30a_47); (try clear lxZ); (try clear l2Z); (try clear v30a_46); (try clear v30a_45); (try clear v30a_44); (try clear t4Z); (try clear t3Z); (try clear t2Z); (try clear t1Z); (try clear h4Z); (try clear h3Z); (try clear h2Z); (try clear h1Z); (try clear v30a_43); (try clear v30a_42); (try clear v30a_41); (try clear ek); (try clear qk); (try clear v30a_40); (try clear v30a_39); (try clear v30a_38); (try clear v30a_37); (try clear tk); (try clear m2'); (try clear m1'); (try clear hla); (try clear haj); (try clear hch); (try clear hho); (try clear hcc); (try clear hco); (try clear hpt); (try clear hmt'); (try clear hmt); (try clear hkd); (try clear hD); (try clear hh); (try clear hkn); (try clear hki); (try clear hE); (try clear hn); (try clear his); (try clear lo); (try clear m2); (try clear m1); (try clear v30a_36); (try clear v30a_35); (try clear v30a_34); (try clear v30a_33); (try clear v30a_32); (try clear v30a_31); (try clear v30a_30); (try clear v30a_29); (try clear v30a_28); (try clear v30a_27); (try clear v30a_26); (try clear v30a_25); (try clear v30a_24); (try clear v30a_23); (try clear v30a_22); (try clear v30a_21); (try clear v30a_20); (try clear v30a_19); (try clear v30a_18); (try clear v30a_17); (try clear v30a_16); (try clear v30a_15); (try clear v30a_14); (try clear mf5); (try clear mf4); (try clear mf3); (try clear mf2); (try clear mf1); (try clear mr); (try clear v30a_13); (try clear v30a_12); (try clear hg5); (try clear hlg5); (try clear hl5); (try clear hD5); (try clear hiv5); (try clear tk5); (try clear h5); (try clear dk5); (try clear v29_10); (try clear v29_9); (try clear v29_8); (try clear v29_7); (try clear v29_6); (try clear x4); (try clear n4); (try clear tk4); (try clear h4); (try clear new4); (try clear dk4); (try clear tkg); (try clear tg); (try clear v29_5); (try clear v29_4); (try clear v29_3); (try clear v28_20); (try clear v28_19); (try clear v28_18); (try clear hbt); (try clear tt); (try clear v28_17); (try clear hpk); (try clear v28_16); (try clear v28_15); (try clear v28_14); (try clear v28_13); (try clear v28_12); (try clear v29_2); (try clear v28_11); (try clear v28_10); (try clear v28_9); (try clear v28_8); (try clear hgZ); (try clear hlZ); (try clear hDZ); (try clear v28_7); (try clear v28_6); (try clear v28_5); (try clear iZ); (try clear v28_4); (try clear v28_3); (try clear oD); (try clear v28_2); (try clear v28_1); (try clear tk9); (try clear h'); (try clear X); (try clear hret); (try clear hM); (try clear hgm); (try clear hlg); (try clear hl); (try clear hk); (try clear T); (try clear B); (try clear nb); (try clear dk); (try clear Q); (try clear m); (try clear h₀); (try clear A₀); revert w p loose mean mg mb dp un gd cn cs a ccd cl outer base L s E gr lits d bl mm kb nd mk imm bts kind tA bA cA hA cO hO adj ladj hnd hG hdp hun hBL hbz hbl g' L' g9 d9 o9 A9 m9 ek9 B' T' v30a_1 v30a_5 v29_1 pk pt tkk gj x5 nv o new5 n5 den5 ho5 hn5 X' rZ tZ dkZ hD6 hr0 hr4 xZ dxZ DZ D h2 ys F2 hY hyl hp1 hp2 nw6 N6 oD6 hs6 hk6 hj6 hlg6 hl7 hg6 tkZ; have hz := PLift.down hCut; exact hz))
      intro s₂ hKM
      rename_i v30b_1 v30b_5 v30b_12 v30b_13 v30b_14 v30b_15 v30b_16 v30b_17 v30b_18 v30b_19 v30b_20 v30b_21 v30b_22 v30b_23 v30b_24 v30b_25 v30b_26 v30b_27 v30b_28 v30b_29 v30b_30 v30b_31 v30b_32 v30b_33 v30b_34 v30b_35 v30b_36 v30b_37 v30b_38 v30b_39 v30b_40 v30b_41 v30b_42 v30b_43 v30b_44 v30b_45 v30b_46 v30b_47 v30b_48 v30b_49 v30b_50 v30b_51
      (try clear hg6); (try clear hl7); (try clear hlg6); (try clear hj6); (try clear hk6); (try clear hs6); (try clear oD6); (try clear N6); (try clear nw6); (try clear hp2); (try clear hp1); (try clear hp0); (try clear hyl); (try clear hY); (try clear F2); (try clear ys); (try clear tk2); (try clear v30b_51); (try clear v30b_50); (try clear hZ); (try clear v30b_49); (try clear v30b_48); (try clear l1Z); (try clear v30b_47); (try clear lxZ); (try clear l2Z); (try clear v30b_46); (try clear v30b_45); (try clear v30b_44); (try clear t4Z); (try clear t3Z); (try clear t2Z); (try clear t1Z); (try clear h4Z); (try clear h3Z); (try clear h2Z); (try clear h1Z); (try clear v30b_43); (try clear v30b_42); (try clear v30b_41); (try clear ek); (try clear qk); (try clear hr4); (try clear hr0); (try clear hD6); (try clear v30b_40); (try clear v30b_39); (try clear dkZ); (try clear v30b_38); (try clear v30b_37); (try clear tk); (try clear hla); (try clear haj); (try clear hho); (try clear hpt); (try clear hmt'); (try clear hmt); (try clear mf5); (try clear mf4); (try clear mf3); (try clear v30b_13); (try clear v30b_12); (try clear hg5); (try clear hlg5); (try clear hl5); (try clear hn5); (try clear hD5); (try clear tk5); (try clear h5); (try clear dk5); (try clear v29_10); (try clear v29_9); (try clear v29_8); (try clear v29_7); (try clear v29_6); (try clear x4); (try clear n4); (try clear tk4); (try clear h4); (try clear new4); (try clear dk4); (try clear tkg); (try clear tg); (try clear v29_5); (try clear v29_4); (try clear v29_3); (try clear v28_20); (try clear v28_19); (try clear v28_18); (try clear hbt); (try clear tt); (try clear v28_17); (try clear v28_16); (try clear v28_15); (try clear v28_14); (try clear v28_13); (try clear v28_12); (try clear v29_2); (try clear v28_11); (try clear v28_10); (try clear v28_9); (try clear v28_8); (try clear hgZ); (try clear hlZ); (try clear hDZ); (try clear v28_7); (try clear v28_6); (try clear v28_5); (try clear iZ); (try clear v28_4); (try clear v28_3); (try clear oD); (try clear v28_2); (try clear tk9); (try clear h'); (try clear X); (try clear hbl); (try clear hbz); (try clear hBL); (try clear hnd); (try clear hl); (try clear hk); (try clear T); (try clear B); (try clear dk); (try clear A₀); revert w p loose mean mg mb dp un gd cn cs a ccd cl outer base h₀ L m s Q E gr lits d bl mm kb nb nd mk imm bts kind tA bA cA hA cO hO adj ladj hlg hgm hM hG hdp hun hret g' L' g9 d9 o9 A9 m9 ek9 v28_1 B' T' v30b_1 v30b_5 v29_1 pk pt hpk tkk gj x5 nv o new5 n5 den5 ho5 hiv5 X' mr mf1 mf2 v30b_14 v30b_15 v30b_16 v30b_17 v30b_18 v30b_19 v30b_20 v30b_21 v30b_22 v30b_23 v30b_24 v30b_25 v30b_26 v30b_27 v30b_28 v30b_29 v30b_30 v30b_31 v30b_32 v30b_33 v30b_34 v30b_35 v30b_36 m1 m2 lo his hn hE hki hkn hh hD hkd hco hcc hch m1' m2' rZ tZ xZ dxZ DZ D h2 tkZ qkZ s₂ hKM
      have hz := PLift.down hCuu
      exact hz
  | text m1 m2 hz => exact absurd hpt (by decide +kernel)⟩

theorem q31 : q30.1 := by
  intro w p loose mean mg mb dp un gd cn cs a ccd cl outer base L s E gr lits d bl mm kb nd mk imm bts kind tA bA cA hA cO hO adj ladj hnd hG hdp hun hBL hbz hbl g' L' g9 d9 o9 A9 m9 ek9 B' T' v30a_1 v30a_5 v29_1 pk pt tkk gj x5 nv o new5 n5 den5 ho5 hn5 X' rZ tZ dkZ hD6 hr0 hr4 xZ dxZ DZ D h2 ys F2 hY hyl hp1 hp2 nw6 N6 oD6 hs6 hk6 hj6 hlg6 hl7 hg6 tkZ
  revert X'; k_fill; intro X'
  k_extra "k_steps"
  · rename _[_]? = some _ => hpl
    (refine xEEAA (place_at hY hpl) fun pf ptk zr1 hpf hpr => ?_; subst zr1)
    refine xEEA (hBL.at (k := pf) (by omega)) fun tf tkf hbf hmf => ?_
    have hpr := beq_iff_eq.mp hpr
    obtain ⟨db9, _, _, _, _, _, _, _, _, _, _, its9, k9, r1, r2, r3, r4⟩ := (hG.body pf hpf).isRow hpr
    have r5 := (hG.cell pf hpf).1
    rw [r3] at r5
    have r1' := hG.sub _ r1
    have r2' := hG.sub _ r2
    k_extra "k_steps"
    rename News _ _ _ _ => nE
    rename Fr _ _ _ _ => fE
    rename Apart (_ :: (nw6 ++ lits)) _ => hl8
    rename Apart (mk ++ gr) _ => hg8
    rename DeckOk _ _ _ (n5 + 1 + 1) => hD8
    obtain ⟨nw9, s9, N9, K9, I9, J9, m9, a9, b9⟩ := row_pack (w := w) (bA := bA) nE (by omega) r1 r2 hpf rfl (by tbn_find) (by tbn_find) (by tbn_find) (by tbn_find) (by tbn_find) (by tbn_find) hl8 hlg6
    exact ⟨_, _, _, _, _, _, _, some pf, nw9, _, n5 + 1 + 1, _, _, rfl, fr_four fE rfl rfl rfl rfl (fun _ e1 e2 e3 e4 => by simp only [e1, e2, e3, e4, if_false]), N9, .row pf hpf, K9, I9, J9.mono (Sub.inl Sub.refl),
      ⟨ho5, den5.mono fun p hp => s9 p (hs6 p hp)⟩, .inr ⟨pf, _, _, _, rfl, hpf, rfl, m9⟩, hD8, by omega, a9, b9, hg8⟩
  · refine xE (Int.eq_ofNat_of_zero_le hr0) fun iw hiw => ?_
    subst hiw
    rename Fr _ _ _ _ => fE
    exact ⟨_, _, nv, none, _, _, .num iw, none, nw6, _, n5 + 1, _, _, rfl, fr_four fE rfl rfl rfl rfl (fun _ _ _ _ _ => rfl), news_sub N6 (Sub.skip Sub.refl), .num iw (by omega), hk6.mono (Sub.inl Sub.refl), ⟨_, rfl⟩, (hj6 bA 5).mono (Sub.inl Sub.refl),
      ⟨ho5, den5.mono hs6⟩, .inl ⟨rfl, rfl⟩, hD6, by omega, hl7, hlg6, hg6⟩

def q32 : PSigma fun S : Prop => PLift S → q30.2.1 := ⟨_, fun hCut => by
  intro w p loose mean mg mb dp un gd cn cs a ccd cl outer base h₀ L m s Q E gr lits d bl mm kb nb nd mk imm bts kind tA bA cA hA cO hO adj ladj hlg hgm hM hG hdp hun hret g' L' g9 d9 o9 A9 m9 ek9 v28_1 B' T' v30b_1 v30b_5 v29_1 pk pt hpk tkk gj x5 nv o new5 n5 den5 ho5 hiv5 X' mr mf1 mf2 v30b_14 v30b_15 v30b_16 v30b_17 v30b_18 v30b_19 v30b_20 v30b_21 v30b_22 v30b_23 v30b_24 v30b_25 v30b_26 v30b_27 v30b_28 v30b_29 v30b_30 v30b_31 v30b_32 v30b_33 v30b_34 v30b_35 v30b_36 m1 m2 lo his hn hE hki hkn hh hD hkd hco hcc hch m1' m2' rZ tZ xZ dxZ DZ D h2 tkZ qkZ s₂ hKM
  (try clear N6); (try clear hD6); (try clear hg6); (try clear hl7); (try clear hlg6); (try clear hj6); (try clear hk6); (try clear hs6); (try clear oD6); (try clear hp2); (try clear hp1); (try clear hp0); (try clear hyl); (try clear hY); (try clear hr0); (try clear hr4)
  obtain ⟨kx, mv, nv', pf, nm, li, b', q, nw, dk7, n7, h7, tk7, rfl, F7, N7, hkp, hK, hI, hJk, hJx, hnv, hD7, hn7, hl8, hlg8, hg8⟩ := hKM
  k_sweep
  (try dsimp only)
  k_extra "kp_flats"
  revert X'; k_fill; intro X'
  have hsub := hG.sub
  have lo2 := hG.lo pk hpk
  have hne : hA pk ≠ cA pk := fun e => hG.ich pk pk hpk hpk e.symm
  have hcnw : Off (cA pk) nw := (hlg8.sub Sub.refl (Sub.inr (Sub.inr Sub.refl))).symm _ hcc
  have hbase : ∀ q ∈ nw ++ (lits ++ (dk7 ++ (mk ++ gr))), q ∈ nw ++ lits ++ (dk7 ++ (mk ++ gr)) := fun q hq => by rw [List.append_assoc]; exact hq
  have hcg : (cA pk, cO pk) ∈ nw ++ lits ++ (dk7 ++ (mk ++ gr)) := by rw [hco]; k_extra "k_mem"
  refine' DS.join (w := w) imm (nw ++ (lits ++ (dk7 ++ (mk ++ gr)))) bA (cA pk) (hA pk) ?jF ?j1 ?j2
  (case jF => k_asm)
  (case j1 =>
    rcases DL.get (k := .num 0) hh with ⟨hg0, hg1⟩ | ⟨v0, hg0, hg1⟩
    · k_extra "k_steps"
      · rename Fr _ _ _ _ => fE
        rename News _ _ _ _ => nE
        exact ⟨_, _, _, _, _, _, _, _, _, rfl, fE, nE, hco ▸ hcg, by k_extra "k_mem", fun q hq _ _ => hbase q hq, his, hn, hE, hki, hkn, hh, hD⟩
      · rename Fr _ _ _ _ => fE
        rename News _ _ _ _ => nE
        exact ⟨_, _, _, _, _, _, _, _, _, rfl, fE, nE, hco ▸ hcg, by k_extra "k_mem", fun q hq _ _ => hbase q hq, his, hn, hE, hki, hkn, hh, hD⟩
    · k_extra "k_steps"
      · have hk0 := (hD.key (KP.num 0 (by decide))).mp hg1
        refine xE (hE.get_of hk0) fun v1 hv1 => ?_
        k_dflt (refine' dropEntry (nb := nb) (l := [0 * 1000000]) ?zB ?zF ?zX ?zN ?zT ?zK hM ?zs ?zc lo (hgm _ hcc) ?z1 ?z2 (.num (.head _) (.tail _ (.head _)) (by decide) (by decide)) ?zh hn ?zz hv1 ?zd ?zu ?_)
        (case zB => k_asm)
        (case zF => k_asm)
        (case zX => k_asm)
        (case zN => k_asm)
        (case zT => k_asm)
        (case zK => first | exact rfl | assumption)
        (case zs => k_extra "kqd_sub")
        (case zc => k_extra "k_mem")
        (case z1 => k_extra "k_mem")
        (case z2 => k_extra "k_mem")
        (case zh => exact keysIn_sub his (by k_extra "kqd_sub"))
        (case zz => have := hE.length; have := hD.few (hn.par hE); omega)
        (case zd => k_extra "ktr_room")
        (case zu => k_extra "ktr_units")
        intro k8 h8 tk8 F8 N8
        refine xEAA (drop_pack N8) fun X8 N9 c8 e8 => ?_
        have d8 := e8 _ (.tail _ (.tail _ (List.mem_append_right _ (List.mem_append_right _ (List.mem_append_right _ hch))))) hne
        have b8 : ∀ q ∈ nw ++ (lits ++ (dk7 ++ (mk ++ gr))), q.1 ≠ cA pk → q ∈ X8 := fun q hq h1 => e8 q (.tail _ (.tail _ (hbase q hq))) h1
        have i8 : Sub imm X8 := fun q hq => b8 q (by simp [hsub q hq]) ((hG.off pk hpk).1 q hq)
        (try clear N8); (try clear e8)
        k_sweep
        k_extra "k_steps"
        k_dflt (refine' kd_pop (w := w) ?zF N9 d8 inNum (keysIn_sub hki i8) hkn ?zz hg0 ?zu ?_)
        (case zF => k_asm)
        (case zz => have := hh.length; have := hD.few2 (hkn.par hh); omega)
        (case zu => k_extra "ktr_units")
        intro h9 tk9 k9 F9 N10
        refine xEAA (set_pack N10) fun X9 N11 d9 e9 => ?_
        have c9 := e9 _ c8 hne.symm
        (try clear N10); (try clear N9)
        k_sweep
        (try dsimp only)
        k_extra "k_steps"
        rename Fr _ _ _ _ => fE
        exact ⟨_, _, _, _, _, _, _, _, _, rfl, fE, N11, c9, d9, fun q hq h1 h2 => e9 q (b8 q hq h1) h2, KeysIn.del his, KNd.del hn, hE.del, KeysIn.del hki, KNd.del hkn, hh.del, hD.del (hn.par hE) (hkn.par hh) (KP.num 0 (by decide))⟩
      · rename Fr _ _ _ _ => fE
        rename News _ _ _ _ => nE
        exact ⟨_, _, _, _, _, _, _, _, _, rfl, fE, nE, hco ▸ hcg, by k_extra "k_mem", fun q hq _ _ => hbase q hq, his, hn, hE, hki, hkn, hh, hD⟩)
  intro s₂ hDS
  rename_i v32_1 v32_2
  (try clear hcg); (try clear hbase); (try clear hcnw); (try clear lo2); (try clear N7); (try clear F7); (try clear tk7); (try clear v32_2); (try clear v32_1); (try clear nw6); (try clear ys); (try clear tk2); (try clear h2); (try clear v30b_51); (try clear v30b_50); (try clear hZ); (try clear v30b_49); (try clear v30b_48); (try clear l1Z); (try clear v30b_47); (try clear lxZ); (try clear l2Z); (try clear v30b_46); (try clear v30b_45); (try clear v30b_44); (try clear t4Z); (try clear t3Z); (try clear t2Z); (try clear t1Z); (try clear h4Z); (try clear h3Z); (try clear h2Z); (try clear h1Z); (try clear v30b_43); (try clear v30b_42); (try clear v30b_41); (try clear ek); (try clear qk); (try clear v30b_40); (try clear v30b_39); (try clear dkZ); (try clear v30b_38); (try clear v30b_37); (try clear tk); (try clear m2'); (try clear m1'); (try clear hla); (try clear haj); (try clear hho); (try clear hco); (try clear hpt); (try clear hmt'); (try clear hmt); (try clear hD); (try clear hh); (try clear hkn); (try clear hki); (try clear hE); (try clear hn); (try clear his); (try clear v30b_20); (try clear v30b_19); (try clear mf5); (try clear mf4); (try clear mf3); (try clear v30b_13); (try clear v30b_12); (try clear hg5); (try clear hlg5); (try clear hl5); (try clear hn5); (try clear hD5); (try clear tk5); (try clear h5); (try clear dk5); (try clear v29_10); (try clear v29_9); (try clear v30b_11); (try clear v29_8); (try clear v29_7); (try clear v30b_10); (try clear v29_6); (try clear v30b_9); (try clear x4); (try clear n4); (try clear tk4); (try clear h4); (try clear new4); (try clear dk4); (try clear tkg); (try clear tg); (try clear v30b_8); (try clear v29_5); (try clear v29_4); (try clear v29_3); (try clear v28_20); (try clear v28_19); (try clear v28_18); (try clear hbt); (try clear tt); (try clear v28_17); (try clear v28_16); (try clear v28_15); (try clear v28_14); (try clear v28_13); (try clear v28_12); (try clear v29_2); (try clear v28_11); (try clear v30b_7); (try clear v28_10); (try clear v28_9); (try clear v30b_6); (try clear v28_8); (try clear hgZ); (try clear hlZ); (try clear hDZ); (try clear v28_7); (try clear v28_6); (try clear v28_5); (try clear iZ); (try clear v28_4); (try clear v28_3); (try clear oD); (try clear v30b_4); (try clear v30b_3); (try clear v30b_2); (try clear v28_2); (try clear tk9); (try clear h'); (try clear X); (try clear hbl); (try clear hbz); (try clear hBL); (try clear hnd); (try clear hl); (try clear hk); (try clear T); (try clear B); (try clear dk); (try clear A₀); revert w p loose mean mg mb dp un gd cn cs a ccd cl outer base h₀ L m s Q E gr lits d bl mm kb nb nd mk imm bts kind tA bA cA hA cO hO adj ladj hlg hgm hM hG hdp hun hret g' L' g9 d9 o9 A9 m9 ek9 v28_1 B' T' v30b_1 v30b_5 v29_1 pk pt hpk tkk gj x5 nv o new5 n5 den5 ho5 hiv5 mr mf1 mf2 v30b_14 v30b_15 v30b_16 v30b_17 v30b_18 v30b_21 v30b_22 v30b_23 v30b_24 v30b_25 v30b_26 v30b_27 v30b_28 v30b_29 v30b_30 v30b_31 v30b_32 v30b_33 v30b_34 v30b_35 v30b_36 m1 m2 lo hkd hcc hch rZ tZ xZ dxZ DZ D kx mv nv' pf nm li b' q nw dk7 n7 h7 hkp hK hI hJk hJx hnv hD7 hn7 hl8 hlg8 hg8 tkZ qkZ X' hsub hne s₂ hDS
  have hz := PLift.down hCut
  exact hz⟩

theorem q33 : q32.1 := by
  intro w p loose mean mg mb dp un gd cn cs a ccd cl outer base h₀ L m s Q E gr lits d bl mm kb nb nd mk imm bts kind tA bA cA hA cO hO adj ladj hlg hgm hM hG hdp hun hret g' L' g9 d9 o9 A9 m9 ek9 v28_1 B' T' v30b_1 v30b_5 v29_1 pk pt hpk tkk gj x5 nv o new5 n5 den5 ho5 hiv5 mr mf1 mf2 v30b_14 v30b_15 v30b_16 v30b_17 v30b_18 v30b_21 v30b_22 v30b_23 v30b_24 v30b_25 v30b_26 v30b_27 v30b_28 v30b_29 v30b_30 v30b_31 v30b_32 v30b_33 v30b_34 v30b_35 v30b_36 m1 m2 lo hkd hcc hch rZ tZ xZ dxZ DZ D kx mv nv' pf nm li b' q nw dk7 n7 h7 hkp hK hI hJk hJx hnv hD7 hn7 hl8 hlg8 hg8 tkZ qkZ X' hsub hne s₂ hDS
  (try clear hbase); (try clear hcg); (try clear hD); (try clear hh); (try clear hkn); (try clear hki); (try clear hE); (try clear hn); (try clear his)
  obtain ⟨X, xs, ys, el, hl', k1, k2, h9, tk9, rfl, F9, N9, c9, d9, b9, his, hn, hE, hki, hkn, hh, hD⟩ := hDS
  have sb : ∀ {l : Led}, Sub l (nw ++ (lits ++ (dk7 ++ (mk ++ gr)))) → Off (cA pk) l → Off (hA pk) l → Sub l X := fun hs h1 h2 q hq => b9 q (hs q hq) (h1 q hq) (h2 q hq)
  have hng := hlg8.sub Sub.refl (r' := gr) (Sub.inr (Sub.inr Sub.refl))
  have si : Sub imm X := sb (fun q hq => by simp [hsub q hq]) (hG.off pk hpk).1 (hG.off pk hpk).2
  have sm : Sub mk X := sb (by k_extra "kqd_sub") (hgm _ hcc) (hgm _ hch)
  have sn : Sub nw X := sb (by k_extra "kqd_sub") (hng.symm _ hcc) (hng.symm _ hch)
  have mf1' := sm _ mf1
  have mf2' := sm _ mf2
  k_sweep
  (try dsimp only)
  k_extra "kp_flats"
  revert X'; k_fill; intro X'
  k_extra "kp_flats"
  k_dflt (refine' putEntry (nb := nb) (en := cA pk) (mo := 9) ?zB ?zF ?zX ?zN ?zT ?zK hM sm c9 lo (hgm _ hcc) (si _ m1) (si _ m2) (hK.mono (Sub.app sn si)) (keysIn_sub his si) hn ?zz (grow_pack (w := w) si hn hE hD) ?zd ?zu ?_)
  (case zB => k_asm)
  (case zF => k_asm)
  (case zX => k_asm)
  (case zN => k_asm)
  (case zT => k_asm)
  (case zK => first | exact rfl | assumption)
  (case zz => have := hE.length; have := hD.few (hn.par hE); omega)
  (case zd => k_extra "ktr_room")
  (case zu => k_extra "ktr_units")
  intro kt tt k5 t5 us kept h5 tk5 F5 N5 hI5 lk1 lk2 lk3 hkept
  have hkept := kept_pack (w := w) N9 si hE hD hkp hJk hkept
  have blt := base_lt b9 d9 hne lk1 lk2
  obtain ⟨X2, hX2, N10⟩ : ∃ X2, X2 = _ ∧ News g' L' h5 X2 := ⟨_, rfl, N5⟩
  have c10 : (cA pk, kdict w (kput (.tup nm li) (.ref kt) (.ref tt) xs) k5) ∈ X2 := by rw [hX2]; exact .head _
  have e10 : ((tt, tupOf #[kept, .ref x5]) : Addr × Obj) ∈ X2 := by rw [hX2]; exact .tail _ (.head _)
  have f10 : ((kt, tupOf (.str nm t5 :: us).toArray) : Addr × Obj) ∈ X2 := by rw [hX2]; exact .tail _ (.tail _ (.head _))
  have g10 : ∀ q ∈ X, q.1 ≠ cA pk → q ∈ X2 := fun q hq h1 => by rw [hX2]; exact .tail _ (.tail _ (.tail _ (rest_of hq h1)))
  have d10 := g10 _ d9 hne
  (try clear N5); (try clear hX2)
  k_sweep
  k_extra "kp_flats"
  have sn2 : Sub nw X2 := fun q hq => g10 q (sn q hq) ((hng.symm _ hcc) q hq)
  refine' HJ.join (w := w) nw X2 o q ?jF ?j1 ?j2
  (case jF => k_asm)
  (case j1 =>
    rcases hnv with ⟨rfl, rfl⟩ | ⟨f, l, lk, t, rfl, hf, rfl, hm⟩
    · rcases hiv5 with ⟨j, t, rfl, rfl, hj⟩ | ⟨rfl, rfl⟩
      · k_extra "k_steps"
        rename Fr _ _ _ _ => fE
        rename News _ _ _ _ => nE
        rename AllLt _ X2 => l9
        exact ⟨_, _, [_], [(_, _)], _, _, rfl, rfl, fE, nE, .head _, (fun p hp => by rw [List.mem_singleton.mp hp]; exact l9), .cons (.inl ⟨j, t, rfl, rfl, hj⟩) .nil, by simp⟩
      · k_extra "k_steps"
        rename Fr _ _ _ _ => fE
        rename News _ _ _ _ => nE
        rename AllLt _ X2 => l9
        exact ⟨_, _, [_], [(_, _)], _, _, rfl, rfl, fE, nE, .head _, (fun p hp => by rw [List.mem_singleton.mp hp]; exact l9), .cons (.inr ⟨rfl, rfl⟩) .nil, by simp⟩
    · have hm2 := sn2 _ hm
      k_extra "k_steps"
      rename Fr _ _ _ _ => fE
      rename News _ _ _ _ => nE
      exact ⟨l, lk, [nv, .int f t], [], _, _, rfl, rfl, fE, nE, hm, (fun _ h => nomatch h), .cons hiv5 (.cons (.inl ⟨f, t, rfl, rfl, hf⟩) .nil), by simp⟩)
  intro v s₂ hHJ
  obtain ⟨l, lk, vs, nl, h6, tk6, rfl, rfl, F6, N6, hm6, ab6, hP6, hz6⟩ := hHJ
  k_sweep
  k_extra "k_steps"
  have si2 : Sub imm X2 := fun q hq => g10 q (si q hq) ((hG.off pk hpk).1 q hq)
  k_dflt (refine' kd_set (w := w) ?zF N6 (List.mem_append_right _ d10) (inSub hI (Sub.inr sn2)) (keysIn_sub hki (Sub.inr si2)) hkn ?zz ?zu ?_)
  (case zF => k_asm)
  (case zz => have := hh.length; have := hD.few2 (hkn.par hh); omega)
  (case zu => k_extra "ktr_units")
  intro h7 tk7 k7 F7 N7
  (try clear N6)
  k_sweep
  (try dsimp only)
  k_extra "k_steps"
  rename News h₀ _ _ _ => nE
  rename Fr h₀ _ _ _ => fE
  refine xA (hl8.app_left) fun hl81 hl82 => ?_
  have hnn : Apart nw (lits ++ (dk7 ++ (mk ++ gr))) := Apart.app_right (hlg8.sub Sub.refl (Sub.inl Sub.refl)) (Apart.app_right hl81 (hlg8.sub Sub.refl (Sub.inr Sub.refl)))
  have okt : Off kt (lits ++ (dk7 ++ (mk ++ gr))) := fun q hq => Nat.ne_of_lt (blt q (List.mem_append_right _ hq))
  have ott : Off tt (lits ++ (dk7 ++ (mk ++ gr))) := fun q hq => Nat.ne_of_lt (Nat.lt_trans (blt q (List.mem_append_right _ hq)) lk3)
  have onl : Apart nl (lits ++ (dk7 ++ (mk ++ gr))) := fun p hp q hq => Nat.ne_of_lt (by
    by_cases e1 : q.1 = cA pk
    · rw [e1]; exact allLt_mem (ab6 p hp) _ c10
    · by_cases e2 : q.1 = hA pk
      · rw [e2]; exact allLt_mem (ab6 p hp) _ d10
      · exact allLt_mem (ab6 p hp) q (g10 q (b9 q (List.mem_append_right _ hq) e1 e2) e1))
  have hnw : Apart (nl ++ (tt, tupOf #[kept, .ref x5]) :: (kt, tupOf (.str nm t5 :: us).toArray) :: nw) (lits ++ (dk7 ++ (mk ++ gr))) := Apart.append onl (Apart.cons ott (Apart.cons okt hnn))
  have snw : Sub nw (nl ++ (tt, tupOf #[kept, .ref x5]) :: (kt, tupOf (.str nm t5 :: us).toArray) :: nw) := Sub.inr (Sub.skip (Sub.skip Sub.refl))
  have sni : Sub (nw ++ imm) ((nl ++ (tt, tupOf #[kept, .ref x5]) :: (kt, tupOf (.str nm t5 :: us).toArray) :: nw) ++ imm) := Sub.app (Sub.inl snw) (Sub.inr Sub.refl)
  have sii : Sub imm ((nl ++ (tt, tupOf #[kept, .ref x5]) :: (kt, tupOf (.str nm t5 :: us).toArray) :: nw) ++ imm) := Sub.inr Sub.refl
  obtain ⟨gr', imm', cO', hO', adj', ladj', N9, G9, a1, a2, a3⟩ := hG.next hpk (nl ++ (tt, tupOf #[kept, .ref x5]) :: (kt, tupOf (.str nm t5 :: us).toArray) :: nw) hnw
    (by
      rw [hkd]
      exact dict_put (sii _ m1) (sii _ m2) lo (keysIn_sub his sii) hn (hE.mono fun _ _ z => z.mono sii) (keysIn_sub hki sii) hkn (hh.mono fun _ _ z => z.mono sii) hD hkp hK.ok
        (List.mem_append_left _ (List.mem_append_right _ (.tail _ (.head _)))) hI5 (List.mem_append_left _ (List.mem_append_right _ (.head _))) (hkept.mono sni) (hJx.mono fun p hp => sni p (List.mem_append_left _ hp)) (inSub hI (Sub.inl snw))
        (List.mem_append_left _ (by rcases List.mem_append.mp hm6 with h | h; exact List.mem_append_left _ h; exact snw _ h)) hP6 hz6)
    nE (mem_setL_of (List.mem_append_right _ c10) hne.symm) mem_setL_self (fun q hq h1 h2 => mem_setL_of (by
      rcases List.mem_append.mp hq with hq | hq
      · rcases List.mem_append.mp hq with hq | hq
        · exact List.mem_append_left _ hq
        · refine List.mem_append_right _ ?_
          rcases List.mem_cons.mp hq with rfl | hq
          · exact e10
          · rcases List.mem_cons.mp hq with rfl | hq
            · exact f10
            · exact sn2 _ hq
      · exact List.mem_append_right _ (g10 q (b9 q (List.mem_append_right _ hq) h1 h2) h1)) h2) hl82 hlg hg8 hgm
  exact hret gr' imm' cO' hO' adj' ladj' _ n7 _ _ fE N9 G9 hD7 (by omega) hl82 a1 a2 a3

section
variable {w : World} {p : Program} {loose : List Str} {mean : ExcName → Option Value} {mg mb : Str → Option Value} {dp un : Nat} {gd : Option (List Code)} {cn : Str} {cs : Scope} {a : Addr} {ccd : Value} {cl : List (Str × Addr)} {outer : List Env} {A₀ : Around} {base h₀ : Heap} {L : Addr} {m : Str → Option Value} {s : Shared} {Q E : Value → Shared → Prop} {led dk gr lits : Led}
theorem lawDeed {d bl mm kb nb nd : Nat} {mk imm : Led} {bts : List Value} {kind : Nat → Str} {tA bA cA hA : Nat → Nat} {cO hO : Nat → Obj} {adj ladj : Nat → List (Option Nat)} (B : Below A₀ base outer h₀) (F : Fr h₀ L s.heap m) (X : (top.heap_1_39 w.params).In h₀) (N : News h₀ L s.heap led) (T : Top p loose mean mg mb h₀) (hk : cs.kind = .function) (hT : Tail (dk ++ (mk ++ gr)) led lits) (hl : Apart lits dk) (hlg : Apart lits gr) (hg : Apart (mk ++ gr) dk) (hgm : Apart gr mk) (hM : Mem w mm mk nb) (hD : DeckOk w d dk nd) (hnd : nd < 8000)
    (hG : GInv w bl kb bts kind tA bA cA hA gr imm cO hO adj ladj)
    (hdp : dp + 13 < recursionLimit) (hun : un + 104 < cLine)
    (hret : ∀ gr' imm' cO' hO' adj' ladj' dk' nd' h' tk', Fr h₀ L h' m → News h₀ L h' (lits ++ (dk' ++ (mk ++ gr'))) → GInv w bl kb bts kind tA bA cA hA gr' imm' cO' hO' adj' ladj' → DeckOk w d dk' nd' → nd' ≤ nd + 20 → Apart lits dk' → Apart lits gr' → Apart (mk ++ gr') dk' → Apart gr' mk → Q .none { s with heap := h', toks := tk' }) :
    wpAny (model PySem.Challenge.rw_nt0501_01.row.prog w) (ktrTop dp un gd cn cs L a ccd cl outer) (call (.ref 648) [.ref d, .ref mm, .ref bl]) Q E s :=
  (q28.2 ⟨q29.2 ⟨q30.2.2 ⟨q31⟩ ⟨q32.2 ⟨q33⟩⟩⟩⟩ : lawDeedP) B F X N T hk hT hl hlg hg hgm hM hD hnd hG hdp hun hret
end

theorem words_57 : True := by
  w_top off
  (k_with "storeName" => (k_dflt (first | (refine' storeX_L (by k_asm) (by k_asm) ?_ (by kernel_rfl) (by kernel_rfl!); k_whole; intro hZ FZ NZ; (try k_sweep)) | (refine' storeX_C (by k_asm) (by k_asm) (by rfl) (by k_updF) (by k_asm) ?_ (by kernel_rfl) (by kernel_rfl!); k_whole; intro hZ oZ FZ NZ dZ; (try dsimp only at NZ); (try k_sweep)))))
  (k_with "eval Name" => (k_dflt (first | (name_kind "local"; refine' nameX_L (by k_asm) (by rfl) ?_ (by kernel_rfl) (by kernel_rfl!); k_whole) | (name_kind "cell"; refine' nameX_C (by k_asm) (by rfl) (by k_extra "k_mem") (by k_asm) ?_ (by kernel_rfl) (by kernel_rfl!); k_whole) | (name_kind "free"; refine' lcf_free (by k_asm) (by rfl) (by k_extra "k_mem") (by k_asm) ?_ (by rfl) (by rfl); k_whole) | (name_kind "globalImplicit"; refine' nameX_K (by k_asm) (by k_asm) (by k_asm) (by k_is) ?_ (by kernel_rfl) (by kernel_rfl!); k_whole) | (name_kind "globalImplicit"; refine' nameX_B (by k_asm) (by k_asm) (by k_asm) (by k_is) (by boot_fast) (by decide) ?_ (by kernel_rfl) (by kernel_rfl!); k_whole))))
  (k_with "call type:range" => ((with_reducible show wpAny _ _ (call (Value.type "range") [Value.int _ _]) _ _ _); k_dflt (refine' call_range_N (by k_asm) (by k_asm) ?_); intro hZ tkZ rZ t1Z u1Z v1Z hrZ FZ NZ; (try k_sweep)))
  (k_with "call builtin:list.append" => ((with_reducible show wpAny _ _ (call (Value.builtin _) [Value.ref _, _]) _ _ _); k_dflt (refine' lst_appendM (by k_asm) (by k_asm) (by k_extra "k_mem") (by first | omega | (simp <;> omega)) ?_; k_whole); intro hZ kZ FZ NZ; (try dsimp only at NZ); (try k_sweep)))
  (k_with "binaryOp Add ref ref" => ((with_reducible show wpAny _ _ (binaryOp Operator.Add (Value.ref _) (Value.ref _)) _ _ _); k_dflt (refine' lst_add (by k_asm) (by k_asm) (by k_extra "k_mem") (by k_extra "k_mem") (by first | omega | (simp <;> omega)) ?_; k_whole); intro DZ hZ FZ NZ l1Z; (try dsimp only [List.cons_append, List.nil_append, AllLt] at l1Z); (try k_sweep)))
  (k_with "call builtin:sorted" => ((with_reducible show wpAny _ _ (call (Value.builtin "sorted") [Value.ref _]) _ _ _); k_dflt (refine' lst_sorted (by k_asm) (by k_asm) (by k_extra "k_mem") (by first | assumption | exact .cons _ _ (.cons _ _ (.cons _ _ .nil))) (by first | omega | (simp <;> omega)) ?_; k_whole); intro DZ vsZ nsZ cZ hZ FZ NZ l1Z hIZ hpZ hsZ; (try dsimp only [List.cons_append, List.nil_append, AllLt] at l1Z); (try k_sweep)))
  (k_with "compareOp NotEq ref ref" => ((with_reducible show wpAny _ _ (compareOp CmpOp.NotEq (Value.ref _) (Value.ref _)) _ _ _); k_dflt (refine' ints_same_ne (by k_asm) (by k_extra "k_mem") (by k_extra "k_mem") (by assumption) (by assumption) (by first | assumption | exact Told.go (by assumption) (by assumption) (by assumption)) (by k_extra "ktr_units") ?_; k_whole)))
  (k_with "compareOp Eq ref ref" => ((with_reducible show wpAny _ _ (compareOp CmpOp.Eq (Value.ref _) (Value.ref _)) _ _ _); k_dflt (refine' ints_same_eq (by k_asm) (by k_extra "k_mem") (by k_extra "k_mem") (by assumption) (by first | assumption | exact .nil) (by assumption) (by k_extra "ktr_units") ?_; k_whole)))
  (k_with "subscriptTail Name Name ref int" => ((with_reducible show wpAny _ _ (subscriptTail _ _ (Value.ref _) (Value.int _ _)) _ _ _); k_dflt (refine' item_at (by k_asm) (by k_extra "k_mem") (by with_reducible assumption) (by omega) (by omega) ?_ (by with_unfolding_all rfl))))
  (k_with "subscriptTail Subscript Name Name Constant ref int" => ((with_reducible show wpAny _ _ (subscriptTail _ _ (Value.ref _) (Value.int _ _)) _ _ _); k_dflt (refine' tup_item (by k_asm) (by k_extra "k_mem") (by decide) (by decide) (by rfl) (by rfl) ?_ (by with_unfolding_all rfl))))
  (k_with "call type:list" => ((with_reducible show wpAny _ _ (call (Value.type "list") [Value.ref _]) _ _ _); k_dflt (refine' lst_copy (by k_asm) (by k_asm) (by k_extra "k_mem") (by first | omega | (simp <;> omega)) ?_; k_whole); intro DZ cZ hZ FZ NZ l1Z; (try replace l1Z := allLt_of l1Z); (try dsimp only [List.cons_append, List.nil_append, AllLt] at l1Z); (try k_sweep)))
  trivial

def q50 : PSigma fun S : Prop => PLift S → PySem.Challenge.rw_nt0501_01.Holds := ⟨_, fun hCut => top._proof_1_896 (by
  k_fill
  intro w s₀ s₁ mg mb G Y fa o pm cd doc dV kV ho hd hcd hDf hmg hg args vals as hpre hlay hrd hwl hlo
  have KX := kIn_of Y
  have X := (Ground.X G).1
  have V := (Ground.X G).2
  refine Ground.open G ?_
  intro T B D TE TW
  try (refine guard_noD D (by decide +kernel) ?_; clear D)
  refine xEE (bmod_of_top T) fun _ _ M => ?_
  have TA := at_of_top T
  try (refine xEEA (based_of_top T rfl hmg ho hd) fun _ _ he B0 => ?_; have he' : cd = _ := he; subst he'; clear he)
  (try clear hmg)
  wrow_args hpre hlay hrd hwl hlo
  show wpC _ _ (PySem.call _ _) _ _ _
  refine enter_callC ?_
  w_top on
  have K0 := below_caller (Top.heap T)
  have he := Dflts.none hDf rfl
  subst he
  have he := Dflts.noKw hDf
  subst he
  refine call_cellsC (by decide) ho (fd_plain hd) (Top.nolimit T) hcd rfl (kinds_of (by kinds_ok)) (by decide) (fun h₁ tk₁ cells F N0 X0 => ?_) rfl rfl rfl
  refine xEEAA (PyProof.Rows.CellsAre.two X0) fun oc2 oc1 he dc2 dc1 => ?_
  subst he
  (try clear TA); (try clear hd)
  k_drop
  refine wpC_execs_cons (wpC.of ?_)
  k_extra "k_steps"
  rename Heap.IsList _ _ _ => hL
  rename IntsAre _ _ => hI
  have hlen := hI.length
  k_dflt (refine' lawDeck ?zB ?zF ?zX ?zN ?zT ?zK hL hI ?zz ?zd ?zu ?_)
  (case zB => k_asm)
  (case zF => k_asm)
  (case zX => k_asm)
  (case zN => k_asm)
  (case zT => k_asm)
  (case zK => first | exact rfl | assumption)
  (case zz => omega)
  (case zd => k_extra "ktr_room")
  (case zu => k_extra "ktr_units")
  intro d dk0 h3 tk3 F3 N3 hD3 ab3
  k_sweep
  k_extra "k_steps"
  k_dflt (refine' limits0 ?aB ?aF ?aX ?aN ?aT ?aK ?ad ?au ?_)
  (case aB => k_asm)
  (case aF => k_asm)
  (case aX => k_asm)
  (case aN => k_asm)
  (case aT => k_asm)
  (case aK => first | exact rfl | assumption)
  (case ad => k_extra "ktr_room")
  (case au => k_extra "ktr_units")
  intro lx ldx t1 t2 t3 t4 t5 t6 t7 t8 t9 t10 t11 t12 t13 t14 h4 tk4 F4 N4 l41 l42
  k_sweep
  k_extra "k_steps"
  k_dflt (refine' memory1 ?bB ?bF ?bX ?bN ?bT ?bK rfl l41 l42 ?bd ?bu ?_)
  (case bB => k_asm)
  (case bF => k_asm)
  (case bX => k_asm)
  (case bN => k_asm)
  (case bT => k_asm)
  (case bK => first | exact rfl | assumption)
  (case bd => k_extra "ktr_room")
  (case bu => k_extra "ktr_units")
  intro mm mk0 h5 tk5 F5 N5 hM5 hm5
  (try clear N4)
  have N6 := news_sub (l' := (s₁.heap.objs.size + 1 + 1, oc2) :: (s₁.heap.objs.size + 1, oc1) :: (dk0 ++ mk0)) N5 (by k_extra "kqd_sub")
  have ad3 := ab3.apart
  have off2 : ∀ p ∈ dk0 ++ mk0, p.1 ≠ s₁.heap.objs.size + 1 + 1 := off_app (ad3.symm _ (.head _)) ((hm5.sub Sub.refl (Sub.inr Sub.refl)).symm _ (.head _))
  have off1 : ∀ p ∈ dk0 ++ mk0, p.1 ≠ s₁.heap.objs.size + 1 := off_app (ad3.symm _ (.tail _ (.head _))) ((hm5.sub Sub.refl (Sub.inr Sub.refl)).symm _ (.tail _ (.head _)))
  (try clear N5)
  k_sweep
  k_extra "k_steps"
  show wpC _ _ _ _ _ _
  rename News T.heap _ _ _ => nE
  rename Obj.data _ = Data.cell (some (Value.ref d)) => dd1
  rename Obj.data _ = Data.cell (some (Value.ref _)) => dd2
  rename _ ∧ _ ∧ AllLt _ (dk0 ++ mk0) => ll1
  rename Fr T.heap _ _ _ => fE
  obtain ⟨bl, q2, q1, lits, N7, mc2, mc1, dc2, dc1, alk, alm0, alb, akm, abm, amd⟩ := law_pack nE (by assumption) dd2 dd1 off2 off1 (hm5.sub Sub.refl (Sub.inl Sub.refl))
  rename_i v50_1 v50_2 v50_3 v50_4 v50_5 v50_6 v50_7 v50_8 v50_9 v50_10 v50_11 v50_12 v50_13 v50_14 v50_15 v50_16 v50_17 v50_18 v50_19 v50_20 v50_21 v50_22 v50_23 v50_24 v50_25 v50_26 v50_27 v50_28 v50_29
  (try clear dd2); (try clear nE); (try clear oZ); (try clear dd1); (try clear v50_28); (try clear l1Z); (try clear ll1); (try clear off1); (try clear off2); (try clear ad3); (try clear hm5); (try clear h5); (try clear l42); (try clear l41); (try clear tk4); (try clear h4); (try clear t14); (try clear t13); (try clear t12); (try clear t11); (try clear t10); (try clear t9); (try clear t8); (try clear t7); (try clear t6); (try clear t5); (try clear t4); (try clear t3); (try clear t2); (try clear t1); (try clear ldx); (try clear lx); (try clear ab3); (try clear tk3); (try clear h3); (try clear hlen); (try clear X0); (try clear N0); (try clear v50_23); (try clear v50_22); (try clear oc1); (try clear oc2); (try clear F); (try clear tk₁); (try clear h₁); (try clear hDf); (try clear v50_21); (try clear v50_20); (try clear v50_19); (try clear hI); (try clear v50_18); (try clear v50_17); (try clear v50_16); (try clear hL); (try clear v50_15); (try clear v50_12); (try clear v50_11); (try clear v50_10); (try clear v50_9); (try clear v50_8); (try clear v50_7); (try clear v50_6); (try clear hcd); (try clear v50_4); (try clear M); (try clear v50_2); (try clear v50_1); (try clear TW); (try clear TE); (try clear B); (try clear V); (try clear X); (try clear ho); (try clear o); (try clear Y); (try clear G); revert w s₀ s₁ mg mb fa pm doc hg KX T v50_3 v50_5 v50_13 v50_14 K0 d dk0 hD3 mm mk0 tk5 hM5 lZ v50_24 DZ v50_25 v50_26 v50_27 v50_29 hZ fE bl q2 q1 lits N7 mc2 mc1 dc2 dc1 alk alm0 alb akm abm amd
  exact hCut.down)⟩

theorem words_off : True := by
  w_top off
  trivial

def q51 : PSigma fun S : Prop => PSigma fun S2 : Prop => PLift S → PLift S2 → q50.1 := ⟨_, _, fun hCut hCuu => by
  intro w s₀ s₁ mg mb fa pm doc hg KX T v50_3 v50_5 v50_13 v50_14 K0 d dk0 hD3 mm mk0 tk5 hM5 lZ v50_24 DZ v50_25 v50_26 v50_27 v50_29 hZ fE bl q2 q1 lits N7 mc2 mc1 dc2 dc1 alk alm0 alb akm abm amd
  revert KX; k_fill; intro KX
  have hla : LA lits dk0 mk0 bl [] := ⟨alk, alm0, (fun p hp => fun e => alb p hp (bl, _) (.head _) e.symm), (fun x hx p hp => nomatch hp), akm, abm _ (.head _), Apart.nil, (fun p hp => amd _ (List.mem_append_right _ (.head _)) p hp), Apart.nil, (fun p hp => nomatch hp)⟩
  refine wpC_execs_cons ?_
  refine xE (fr_map fE) fun m0 hm0 => ?_
  refine' for_rangeC fE (LJ w mm d bl lits m0) ?hh ?hx ?hk 5 (by decide) ?hi ?hs ?hf ?hz ?hE
  (case hh => exact rfl)
  (case hx => kernel_rfl)
  (case hk => exact rfl)
  (case hz => exact fun _ => rfl)
  (case hE => passes_own)
  · subst hm0
    k_extra "k_steps"
    rename Fr T.heap _ _ _ => fR
    rename News T.heap _ _ _ => nR
    rename IsRange _ _ _ _ _ _ _ _ => hR
    refine ⟨_, _, _, _, _, _, _, rfl, rfl, hR, fR, nR, dk0, mk0, [], [], [], 0, 0, _, _, rfl, rfl, FI.nil, hD3, Nat.le_refl _, hM5, hla, LJ.map fun _ _ _ => rfl⟩
  · subst hm0
    (try clear l42); (try clear l41); (try clear ll1); (try clear dd2); (try clear dd1); (try clear off2); (try clear off1); (try clear amd); (try clear abm); (try clear akm); (try clear alb); (try clear alm0); (try clear alk); (try clear hm5); (try clear ad3); (try clear ab3); (try clear hla); (try clear hM5); (try clear hD3); (try clear N7); (try clear nE); (try clear fE)
    rintro i I m₁ led₁ h1 tk1 t oI hi ⟨dk, mk, g, imm, recs, n, kb, p, q, rfl, hrl, hFI, hD, hn, hM, hLA, rfl⟩ off F1 N1
    replace F1 : Fr T.heap s₁.heap.objs.size h1 _ := F1
    replace N1 : News T.heap s₁.heap.objs.size h1 _ := N1
    (try clear oZ); (try clear v50_28); (try clear l1Z); (try clear h5); (try clear mk0); (try clear tk4); (try clear h4); (try clear t14); (try clear t13); (try clear t12); (try clear t11); (try clear t10); (try clear t9); (try clear t8); (try clear t7); (try clear t6); (try clear t5); (try clear t4); (try clear t3); (try clear t2); (try clear t1); (try clear ldx); (try clear lx); (try clear tk3); (try clear h3); (try clear dk0); (try clear hlen); (try clear X0); (try clear N0); (try clear v50_23); (try clear v50_22); (try clear oc1); (try clear oc2); (try clear F); (try clear tk₁); (try clear h₁); (try clear hDf); (try clear v50_21); (try clear v50_20); (try clear v50_19); (try clear hI); (try clear v50_18); (try clear v50_17); (try clear v50_16); (try clear hL); (try clear v50_15); (try clear v50_12); (try clear v50_11); (try clear v50_10); (try clear v50_9); (try clear v50_8); (try clear v50_7); (try clear v50_6); (try clear hcd); (try clear v50_4); (try clear M); (try clear v50_2); (try clear v50_1); (try clear TW); (try clear TE); (try clear B); (try clear V); (try clear X); (try clear hg); (try clear ho); (try clear o); (try clear Y); (try clear G); revert w s₀ s₁ mg mb fa pm doc T v50_3 v50_5 v50_13 v50_14 K0 d mm tk5 lZ v50_24 DZ v50_25 v50_26 v50_27 v50_29 hZ bl q2 q1 lits mc2 mc1 dc2 dc1 KX i I h1 tk1 t oI hi dk mk g imm recs n kb p q hrl hFI hD hn hM hLA off F1 N1
    exact hCut.down
  · subst hm0
    (try clear l42); (try clear l41); (try clear ll1); (try clear dd2); (try clear dd1); (try clear off2); (try clear off1); (try clear amd); (try clear abm); (try clear akm); (try clear alb); (try clear alm0); (try clear alk); (try clear hm5); (try clear ad3); (try clear ab3); (try clear hla); (try clear hM5); (try clear hD3); (try clear N7); (try clear nE); (try clear fE)
    rintro h1 tk1 m₁ led₁ F1 N1 ⟨dk, mk, g, imm, recs, n, kb, p, q, rfl, hrl, hFI, hD, hn, hM, hLA, rfl⟩
    replace F1 : Fr T.heap s₁.heap.objs.size h1 _ := F1
    replace N1 : News T.heap s₁.heap.objs.size h1 _ := N1
    obtain ⟨kind, tA, bA, cA, hA, cO, hO, adj, ladj, hG, _⟩ := hFI.done hrl (bl := bl) rfl hLA.bg
    have alg : Apart lits ((bl, W.listOf (recs.map fun r : Rec => Value.ref r.t).toArray kb) :: g) := fun x hx z hz => by
      rcases List.mem_cons.mp hz with rfl | hz
      · exact fun e => hLA.lb x hx e.symm
      · exact hLA.lg x hx z hz
    have agm : Apart ((bl, W.listOf (recs.map fun r : Rec => Value.ref r.t).toArray kb) :: g) mk := Apart.cons hLA.bm hLA.gm
    have agd : Apart (mk ++ ((bl, W.listOf (recs.map fun r : Rec => Value.ref r.t).toArray kb) :: g)) dk := Apart.append hLA.dm.symm (Apart.cons hLA.bd hLA.gd)
    have ald := hLA.ld
    have alm := hLA.lm
    generalize ((bl, W.listOf (recs.map fun r : Rec => Value.ref r.t).toArray kb) :: imm) = imm1 at hG
    generalize hgr : ((bl, W.listOf (recs.map fun r : Rec => Value.ref r.t).toArray kb) :: g) = gr at hG alg agm agd N1
    generalize (recs.map fun r : Rec => Value.ref r.t) = bts at hG
    (try clear hrl); (try clear hgr); (try clear hFI); (try clear hLA)
    show wpC _ _ _ _ _ _
    refine wpC.of ?_
    rename_i v51b_1
    (try clear alm); (try clear v51b_1); (try clear recs); (try clear imm); (try clear g); (try clear oZ); (try clear v50_28); (try clear l1Z); (try clear h5); (try clear mk0); (try clear tk4); (try clear h4); (try clear t14); (try clear t13); (try clear t12); (try clear t11); (try clear t10); (try clear t9); (try clear t8); (try clear t7); (try clear t6); (try clear t5); (try clear t4); (try clear t3); (try clear t2); (try clear t1); (try clear ldx); (try clear lx); (try clear tk3); (try clear h3); (try clear dk0); (try clear hlen); (try clear X0); (try clear N0); (try clear v50_23); (try clear v50_22); (try clear oc1); (try clear oc2); (try clear F); (try clear tk₁); (try clear h₁); (try clear hDf); (try clear v50_21); (try clear v50_20); (try clear v50_19); (try clear hI); (try clear v50_18); (try clear v50_17); (try clear v50_16); (try clear hL); (try clear v50_15); (try clear v50_12); (try clear v50_11); (try clear v50_10); (try clear v50_9); (try clear v50_8); (try clear v50_7); (try clear v50_6); (try clear hcd); (try clear v50_4); (try clear M); (try clear v50_2); (try clear v50_1); (try clear TW); (try clear TE); (try clear B); (try clear V); (try clear X); (try clear ho); (try clear o); (try clear Y); (try clear G); revert w s₀ s₁ mg mb fa pm doc hg T v50_3 v50_5 v50_13 v50_14 K0 d mm tk5 lZ v50_24 DZ v50_25 v50_26 v50_27 v50_29 hZ bl q2 q1 lits mc2 mc1 dc2 dc1 KX h1 tk1 dk mk n kb p q hD hn hM F1 kind tA bA cA hA cO hO adj ladj ald imm1 gr alg agm agd N1 bts hG
    exact hCuu.down⟩

def q52 : PSigma fun S : Prop => PLift S → q51.1 := ⟨_, fun hCut => by
  intro w s₀ s₁ mg mb fa pm doc T v50_3 v50_5 v50_13 v50_14 K0 d mm tk5 lZ v50_24 DZ v50_25 v50_26 v50_27 v50_29 hZ bl q2 q1 lits mc2 mc1 dc2 dc1 KX i I h1 tk1 t oI hi dk mk g imm recs n kb p q hrl hFI hD hn hM hLA off F1 N1
  revert KX; k_fill; intro KX
  have hoI : Off I (lits ++ (dk ++ (mk ++ ((bl, W.listOf (recs.map fun r => Value.ref r.t).toArray kb) :: g)))) := off
  have hdk1 : Apart ((I, oI) :: lits) dk := Apart.cons (off_left (off_right hoI)) hLA.ld
  have hrd : Apart (mk ++ ((bl, W.listOf (recs.map fun r => Value.ref r.t).toArray kb) :: g)) dk := Apart.append hLA.dm.symm (Apart.cons hLA.bd hLA.gd)
  refine wpC_execs_cons (wpC.of ?_)
  refine' KD.join (w := w) ((I, oI) :: lits) (mk ++ ((bl, W.listOf (recs.map fun r => Value.ref r.t).toArray kb) :: g)) d i (i + 1) ?jF ?j1 ?j2
  (case jF => k_asm)
  (case j1 => 
    k_extra "k_steps"
    all_goals (try trivial)
    all_goals (
      rename News T.heap _ _ _ => nE
      rename Fr T.heap _ _ _ => fE
      first
        | (rename [_, _, _][_]? = some _ => hv
           rename DeckOk _ _ _ (n + 1) => hD6
           rename Apart (mk ++ _) _ => hg6
           rename Apart (_ :: (I, oI) :: lits) _ => hl6
           rcases three_at hv with rfl | rfl | rfl
           · exact ⟨_, _, _, n + 1, _, _, rfl, fE, news_sub nE (by k_extra "kqd_sub"), hD6, by omega, hl6.sub (Sub.skip Sub.refl) Sub.refl, hg6, .inl rfl, fun _ => rfl⟩
           · exact ⟨_, _, _, n + 1, _, _, rfl, fE, news_sub nE (by k_extra "kqd_sub"), hD6, by omega, hl6.sub (Sub.skip Sub.refl) Sub.refl, hg6, .inr (.inl rfl), fun h => by omega⟩
           · exact ⟨_, _, _, n + 1, _, _, rfl, fE, news_sub nE (by k_extra "kqd_sub"), hD6, by omega, hl6.sub (Sub.skip Sub.refl) Sub.refl, hg6, .inr (.inr rfl), fun h => by omega⟩)
        | (rename [_, _][_]? = some _ => hv
           rcases two_at hv with ⟨hi0, rfl⟩ | ⟨hi0, rfl⟩
           · exact ⟨_, _, dk, n, _, _, rfl, fE, news_sub nE (by k_extra "kqd_sub"), hD, by omega, hdk1, hrd, .inl rfl, fun _ => rfl⟩
           · exact ⟨_, _, dk, n, _, _, rfl, fE, news_sub nE (by k_extra "kqd_sub"), hD, by omega, hdk1, hrd, .inr (.inl rfl), fun h => by omega⟩)))
  rintro s₂ ⟨kd, tkd, dk2, n2, h2, tk2, rfl, F2, N2, hD2, hn2, hl2, hg2, hkd, hk0⟩
  (try clear hn); (try clear hD); (try clear hrd); (try clear hdk1); (try clear N1); (try clear F1)
  show wpC _ _ _ _ _ _
  (try clear off); (try clear n); (try clear dc1); (try clear mc1); (try clear q1); (try clear oZ); (try clear v50_28); (try clear l1Z); (try clear h5); (try clear mk0); (try clear tk4); (try clear h4); (try clear t14); (try clear t13); (try clear t12); (try clear t11); (try clear t10); (try clear t9); (try clear t8); (try clear t7); (try clear t6); (try clear t5); (try clear t4); (try clear t3); (try clear t2); (try clear t1); (try clear ldx); (try clear lx); (try clear tk3); (try clear h3); (try clear dk0); (try clear hlen); (try clear X0); (try clear N0); (try clear v50_23); (try clear v50_22); (try clear oc1); (try clear oc2); (try clear F); (try clear tk₁); (try clear h₁); (try clear hDf); (try clear v50_21); (try clear v50_20); (try clear v50_19); (try clear hI); (try clear v50_18); (try clear v50_17); (try clear v50_16); (try clear hL); (try clear v50_15); (try clear v50_12); (try clear v50_11); (try clear v50_10); (try clear v50_9); (try clear v50_8); (try clear v50_7); (try clear v50_6); (try clear hcd); (try clear v50_4); (try clear M); (try clear v50_2); (try clear v50_1); (try clear TW); (try clear TE); (try clear B); (try clear V); (try clear X); (try clear hg); (try clear ho); (try clear o); (try clear Y); (try clear G); revert w s₀ s₁ mg mb fa pm doc T v50_3 v50_5 v50_13 v50_14 K0 d mm tk5 lZ v50_24 DZ v50_25 v50_26 v50_27 v50_29 hZ bl q2 lits mc2 dc2 i I h1 tk1 t oI hi dk mk g imm recs kb p q hrl hFI hM hLA KX hoI kd tkd dk2 n2 h2 tk2 F2 N2 hD2 hn2 hl2 hg2 hkd hk0
  exact hCut.down⟩

theorem q53 : q52.1 := by
  intro w s₀ s₁ mg mb fa pm doc T v50_3 v50_5 v50_13 v50_14 K0 d mm tk5 lZ v50_24 DZ v50_25 v50_26 v50_27 v50_29 hZ bl q2 lits mc2 dc2 i I h1 tk1 t oI hi dk mk g imm recs kb p q hrl hFI hM hLA KX hoI kd tkd dk2 n2 h2 tk2 F2 N2 hD2 hn2 hl2 hg2 hkd hk0
  revert KX; k_fill; intro KX
  obtain ⟨mr, mf1, mf2, mf3, mf4, mf5⟩ := mem_one hM
  have hIm : Apart ((I, oI) :: lits) mk := Apart.cons (off_left (off_right (off_right hoI))) hLA.lm
  have hdm : Apart dk2 mk := (hg2.sub (Sub.inl Sub.refl) Sub.refl).symm
  have hgm : Apart ((bl, W.listOf (recs.map fun r => Value.ref r.t).toArray kb) :: g) mk := Apart.cons hLA.bm hLA.gm
  have hbg : (bl, W.listOf (recs.map fun r => Value.ref r.t).toArray kb) ∈ (bl, W.listOf (recs.map fun r => Value.ref r.t).toArray kb) :: g := .head _
  refine wpC_execs_cons (wpC_If ?_)
  rcases hkd with rfl | rfl | rfl
  · k_extra "k_steps"
    refine wpC.of ?_
    k_extra "k_steps"
    show wpC _ _ _ _ _ _
    refine wpC.of (wpAny_execs_nil ?_)
    rename News s₁.heap _ _ _ => nE
    rename Fr s₁.heap _ _ _ => fE
    rename Mem w mm _ (i + 1) => hM6
    rename Apart (_ :: g) _ => hg6
    rename Apart dk2 _ => hd6
    rename Apart ((I, oI) :: lits) _ => hl6
    have hLA6 : LA lits dk2 _ bl g := ⟨hl2.sub (Sub.skip Sub.refl) Sub.refl, hl6.sub (Sub.skip Sub.refl) Sub.refl, hLA.lb, hLA.lg, hd6, hg6 _ (.head _), hg6.sub (Sub.skip Sub.refl) Sub.refl, hg2 _ (List.mem_append_right _ (.head _)), hg2.sub (Sub.inr (Sub.skip Sub.refl)) Sub.refl, hLA.bg⟩
    have hoI6 := off_app (off_left hoI) (off_app (hl2 (I, oI) (.head _)) (off_app (hl6 (I, oI) (.head _)) (off_right (off_right (off_right hoI)))))
    refine GEnd.of fE ?_
    exact row_made (w := w) (LJ.map fun z h1z53 h2z53 => by simp only [h1z53, h2z53, if_false]) nE hrl hFI hD2 hn2 hM6 hLA6 hoI6 (by first | assumption | tbn_find) (by first | assumption | omega | tbn_find) (by first | assumption | omega | tbn_find) (by tbn_find) (by first | assumption | omega | tbn_find) (by first | assumption | omega | tbn_find) (by first | assumption | omega | tbn_find) (by first | assumption | omega | tbn_find) (by assumption)
  · k_extra "k_steps"
    refine wpC_execs_cons (wpC_If ?_)
    k_extra "k_steps"
    refine wpC.of ?_
    k_extra "k_steps"
    show wpC _ _ _ _ _ _
    refine wpC.of (wpAny_execs_nil ?_)
    show wpC _ _ _ _ _ _
    refine wpC.of (wpAny_execs_nil ?_)
    rename News s₁.heap _ _ _ => nE
    rename Fr s₁.heap _ _ _ => fE
    rename Mem w mm _ (i + 1) => hM6
    rename Apart (_ :: g) _ => hg6
    rename Apart dk2 _ => hd6
    rename Apart ((I, oI) :: lits) _ => hl6
    have hLA6 : LA lits dk2 _ bl g := ⟨hl2.sub (Sub.skip Sub.refl) Sub.refl, hl6.sub (Sub.skip Sub.refl) Sub.refl, hLA.lb, hLA.lg, hd6, hg6 _ (.head _), hg6.sub (Sub.skip Sub.refl) Sub.refl, hg2 _ (List.mem_append_right _ (.head _)), hg2.sub (Sub.inr (Sub.skip Sub.refl)) Sub.refl, hLA.bg⟩
    have hoI6 := off_app (off_left hoI) (off_app (hl2 (I, oI) (.head _)) (off_app (hl6 (I, oI) (.head _)) (off_right (off_right (off_right hoI)))))
    refine GEnd.of fE ?_
    exact dict_made (w := w) (LJ.map fun z h1z53 h2z53 => by simp only [h1z53, h2z53, if_false]) nE hrl hFI hD2 hn2 hM6 hLA6 hoI6 (fun h => absurd (hk0 h) (by decide +kernel)) (by first | assumption | tbn_find) (by first | assumption | omega | tbn_find) (by first | assumption | omega | tbn_find) (by first | assumption | omega | tbn_find) (by first | assumption | omega | tbn_find) (by assumption) (by assumption)
  · k_extra "k_steps"
    refine wpC_execs_cons (wpC_If ?_)
    k_extra "k_steps"
    refine wpC_execs_cons (wpC_Expr (wpC_MethodCall ?_ rfl) rfl rfl)
    k_extra "k_steps"
    refine' callWithC_bi (wpC_items_cons (wpC_TupleN (h₀ := s₁.heap) (L := s₁.heap.objs.size) (wpC_items_cons (wpC.of ?_) rfl)) rfl) rfl rfl
    k_extra "k_steps"
    refine wpC_items_cons (wpC_MethodCall ?_ rfl) rfl
    k_extra "k_steps"
    refine' callWithC_K ?xX ?xk (wpC_items_cons (wpC.of ?_) rfl) rfl rfl
    (case xX => k_asm)
    (case xk => k_is)
    k_extra "k_steps"
    refine wpC_items_nil ?_
    refine ⟨by k_in, ?_⟩
    show wpC _ _ (call (.ref 388) [.ref mm, .int 2 _]) _ _ _
    k_dflt (refine' makeText (lits := (I, oI) :: lits) (dk := dk2) (mk := mk) (gr := (bl, W.listOf (recs.map fun r => Value.ref r.t).toArray kb) :: g) ?yB ?yF ?yX ?yN ?yT ?yK ?yt hM hIm hdm hgm ?yn ?yd ?yu ?_)
    (case yB => k_asm)
    (case yF => k_asm)
    (case yX => k_asm)
    (case yN => k_asm)
    (case yT => k_asm)
    (case yK => first | exact rfl | assumption)
    (case yt => exact Tail.cons (Tail.app _))
    (case yn => omega)
    (case yd => k_extra "ktr_room")
    (case yu => k_extra "ktr_units")
    intro x dx oc bs h1z53 h2z53 h3z53 h4z53 t1z53 t2z53 t3z53 t4z53 tn tl mk' h9 tk9 hbz F9 N9 l1 l2 l3 hM' hl' hd' hg'
    (try simp only [List.cons_append, List.nil_append, AllLt, and_true] at l1 N9)
    have lxz53 := allLt_trans l1.2 l2
    have ly := allLt_trans lxz53 l3
    have l1i := l1.1
    k_sweep
    (try dsimp only)
    refine wpC_items_cons (wpC.of ?_) rfl
    k_extra "k_steps"
    refine wpC_items_nil ?_
    rename News s₁.heap _ _ _ => nA
    rename Fr s₁.heap _ _ _ => fA
    refine ⟨_, _, fA, nA, by simp, ?_⟩
    (try clear fA); (try clear nA)
    intro D7 h7 F7 N7 l7
    simp only [List.cons_append, List.nil_append, AllLt, and_true] at l7
    k_sweep
    refine wpC_items_nil ?_
    show wpC _ _ (call (.builtin "list.append") [.ref bl, .ref D7]) _ _ _
    refine wpC.of ?_
    k_extra "k_steps"
    show wpC _ _ _ _ _ _
    refine wpC.of (wpAny_execs_nil ?_)
    show wpC _ _ _ _ _ _
    refine wpC.of (wpAny_execs_nil ?_)
    show wpC _ _ _ _ _ _
    refine wpC.of (wpAny_execs_nil ?_)
    rename News s₁.heap _ _ _ => nE
    rename Fr s₁.heap _ _ _ => fE
    have hLA6 : LA lits dk2 _ bl g := ⟨hl2.sub (Sub.skip Sub.refl) Sub.refl, hl'.sub (Sub.skip Sub.refl) Sub.refl, hLA.lb, hLA.lg, hd', hg' _ (.head _), hg'.sub (Sub.skip Sub.refl) Sub.refl, hg2 _ (List.mem_append_right _ (.head _)), hg2.sub (Sub.inr (Sub.skip Sub.refl)) Sub.refl, hLA.bg⟩
    have hoI6 := off_app (off_left hoI) (off_app (hl2 (I, oI) (.head _)) (off_app (hl' (I, oI) (.head _)) (off_right (off_right (off_right hoI)))))
    refine GEnd.of fE ?_
    exact text_made (w := w) (LJ.map fun z h1z53 h2z53 => by simp only [h1z53, h2z53, if_false]) nE hrl hFI hD2 hn2 hM' hLA6 hoI6 (fun h => absurd (hk0 h) (by decide +kernel)) hbz l1 l2 l3 (by first | assumption | omega | tbn_find) (by first | assumption | omega | tbn_find) (by assumption)

def q54 : PSigma fun S : Prop => PLift S → q51.2.1 := ⟨_, fun hCut => by
  intro w s₀ s₁ mg mb fa pm doc hg T v50_3 v50_5 v50_13 v50_14 K0 d mm tk5 lZ v50_24 DZ v50_25 v50_26 v50_27 v50_29 hZ bl q2 q1 lits mc2 mc1 dc2 dc1 KX h1 tk1 dk mk n kb p q hD hn hM F1 kind tA bA cA hA cO hO adj ladj ald imm1 gr alg agm agd N1 bts hG
  revert KX; k_fill; intro KX
  refine wpAny_execs_cons ?_
  refine xE (fr_map F1) fun m0 hm0 => ?_
  refine' for_range F1 (DJ2 w d bl kb bts kind tA bA cA hA lits mk m0) ?hh ?hx ?hk ?hi ?hs ?hz ?hE
  (case hh => exact rfl)
  (case hx => kernel_rfl)
  (case hk => exact rfl)
  (case hz => exact fun _ => rfl)
  (case hE => passes_own)
  · subst hm0
    k_extra "k_steps"
    rename Fr T.heap _ _ _ => fR
    rename News T.heap _ _ _ => nR
    rename IsRange _ _ _ _ _ _ _ _ => hR
    rename DeckOk w d _ (n + 1) => hD6
    rename Apart lits _ => hl6
    rename Apart (mk ++ gr) _ => hg6
    rename _ < (6 : Int) => hr6
    rename 0 ≤ (_ : Int) => hr0
    refine xE (Int.eq_ofNat_of_zero_le hr0) fun rr hrr => ?_
    subst hrr
    refine ⟨3 + rr, by omega, ⟨_, _, _, _, _, _, _, rfl, rfl, by have e : ((3 + rr : Nat) : Int) = 3 + (rr : Int) := by push_cast; rfl
                                                                 rw [e]; exact hR, fR, nR, _, gr, imm1, cO, hO, adj, ladj, n + 1, _, rfl, hG, hD6, by omega, hl6, alg, hg6, agm, one_map fun _ _ => rfl⟩, ?_⟩
    intro h2 tk2 m₂ led₂ F2 N2 hJ
    rename_i v54_1 v54_2 v54_3
    (try clear hR); (try clear nR); (try clear fR); (try clear v1Z); (try clear u1Z); (try clear t1Z); (try clear rZ); (try clear tkZ); (try clear hZ); (try clear ek); (try clear qk); (try clear hg6); (try clear hl6); (try clear hD6); (try clear v54_3); (try clear v54_2); (try clear dkZ); (try clear tZ); (try clear hG); (try clear agd); (try clear agm); (try clear alg); (try clear gr); (try clear imm1); (try clear alm); (try clear ald); (try clear v51b_1); (try clear ladj); (try clear adj); (try clear hO); (try clear cO); (try clear hn); (try clear hD); (try clear recs); (try clear imm); (try clear g); (try clear dk); (try clear oZ); (try clear v54_1); (try clear v50_29); (try clear v50_28); (try clear v50_27); (try clear v50_26); (try clear l1Z); (try clear v50_25); (try clear v50_24); (try clear tk5); (try clear h5); (try clear mk0); (try clear tk4); (try clear h4); (try clear t14); (try clear t13); (try clear t12); (try clear t11); (try clear t10); (try clear t9); (try clear t8); (try clear t7); (try clear t6); (try clear t5); (try clear t4); (try clear t3); (try clear t2); (try clear t1); (try clear ldx); (try clear lx); (try clear tk3); (try clear h3); (try clear dk0); (try clear hlen); (try clear X0); (try clear N0); (try clear v50_23); (try clear v50_22); (try clear oc1); (try clear oc2); (try clear F); (try clear tk₁); (try clear h₁); (try clear hDf); (try clear v50_21); (try clear v50_20); (try clear v50_19); (try clear hI); (try clear v50_18); (try clear v50_17); (try clear v50_16); (try clear hL); (try clear v50_15); (try clear v50_12); (try clear v50_11); (try clear v50_10); (try clear v50_9); (try clear v50_8); (try clear v50_7); (try clear v50_6); (try clear hcd); (try clear v50_4); (try clear M); (try clear v50_2); (try clear v50_1); (try clear TW); (try clear TE); (try clear B); (try clear V); (try clear X); (try clear ho); (try clear o); (try clear Y); (try clear G); revert w s₀ s₁ mg mb fa pm doc hg T v50_3 v50_5 v50_13 v50_14 K0 d mm lZ DZ bl q2 q1 lits mc2 mc1 dc2 dc1 h1 tk1 mk n kb p q hM kind tA bA cA hA bts KX rr hr0 hr6 h2 tk2 m₂ led₂ F2 N2 hJ
    exact hCut.down
  · subst hm0
    rintro i I m₁ led₁ h2 tk2 t oI hi ⟨dk2, gr2, imm2, cO2, hO2, adj2, ladj2, n2, p2, rfl, hG2, hD2, hn2, ald2, alg2, agd2, agm2, rfl⟩ off F2 N2
    replace F2 : Fr T.heap s₁.heap.objs.size h2 _ := F2
    replace N2 : News T.heap s₁.heap.objs.size h2 _ := N2
    k_sweep
    k_extra "k_steps"
    have hoI : Off I (lits ++ (dk2 ++ (mk ++ gr2))) := off
    k_dflt (refine' lawDeed (lits := (I, oI) :: lits) (dk := dk2) (mk := mk) (gr := gr2) (nb := 5) ?yB ?yF ?yX ?yN ?yT ?yK (Tail.cons (Tail.app _)) (Apart.cons (off_left (off_right hoI)) ald2) (Apart.cons (off_right (off_right (off_right hoI))) alg2) agd2 agm2 hM hD2 (by omega) hG2 ?yd ?yu ?_)
    (case yB => k_asm)
    (case yF => k_asm)
    (case yX => k_asm)
    (case yN => k_asm)
    (case yT => k_asm)
    (case yK => first | exact rfl | assumption)
    (case yd => k_extra "ktr_room")
    (case yu => k_extra "ktr_units")
    intro gr3 imm3 cO3 hO3 adj3 ladj3 dk3 n3 h3z54 tk3z54 F3 N3 hG3 hD3 hn3 hl3 hlg3 hgd3 hgm3
    (try dsimp only)
    k_extra "k_steps"
    rename Fr T.heap _ _ _ => fE
    refine GEnd.of fE ⟨_, N3, fun z hz => ?_, dk3, gr3, imm3, cO3, hO3, adj3, ladj3, n3, _, rfl, hG3, hD3, by omega, hl3.sub (Sub.skip Sub.refl) Sub.refl, hlg3.sub (Sub.skip Sub.refl) Sub.refl, hgd3, hgm3, one_map fun z h1 => by simp only [h1, if_false]⟩
    replace hz : z ∈ lits ++ (dk3 ++ (mk ++ gr3)) := hz
    simp only [List.mem_append] at hz
    rcases hz with hz | hz | hz | hz
    · exact off_left hoI z hz
    · exact hl3 (I, oI) (.head _) z hz
    · exact off_left (off_right (off_right hoI)) z hz
    · exact hlg3 (I, oI) (.head _) z hz⟩

def q55 : PSigma fun S : Prop => PLift S → q54.1 := ⟨_, fun hCut => by
  intro w s₀ s₁ mg mb fa pm doc hg T v50_3 v50_5 v50_13 v50_14 K0 d mm lZ DZ bl q2 q1 lits mc2 mc1 dc2 dc1 h1 tk1 mk n kb p q hM kind tA bA cA hA bts KX rr hr0 hr6 h2 tk2 m₂ led₂ F2 N2 hJ
  revert KX; k_fill; intro KX
  obtain ⟨dk2, gr2, imm2, cO2, hO2, adj2, ladj2, n2, p2, rfl, hG2, hD2, hn2, ald2, alg2, agd2, agm2, rfl⟩ := hJ
  refine wpAny_execs_cons ?_
  refine' comp_assign ?c0 ?c1 ?c2 ?c3 ?c4 ?c5 ?c6 ?c7 ?c8 ?c9 ?ca
  (case c0 => k_asm)
  (case c1 => exact rfl)
  (case c2 => exact rfl)
  (case c3 => with_unfolding_all rfl)
  (case c4 => decide)
  (case c5 => exact rfl)
  (case c6 => decide)
  (case c7 => kernel_rfl)
  (case c8 => exact rfl)
  (case ca => exact fun _ => rfl)
  k_extra "k_steps"
  rename IsRange _ _ _ _ _ _ _ _ => hRz55
  rename Fr T.heap _ _ _ => fRz55
  rename News T.heap _ _ _ => nRz55
  rename DeckOk w d _ (n2 + 1) => hD6z55
  rename Apart lits _ => hl6z55
  rename Apart (mk ++ gr2) _ => hg6z55
  rename _ < (2 : Int) => hr6z55
  rename 0 ≤ (_ : Int) => hr0z55
  refine xE (Int.eq_ofNat_of_zero_le hr0z55) fun r1 hr1 => ?_
  subst hr1
  have e1 : ((1 + r1 : Nat) : Int) = 1 + (r1 : Int) := by push_cast; rfl
  rw [← e1] at hRz55
  refine' src_range (BJ w d lits (mk ++ gr2) 300) ?d0 hRz55 ?d1 fRz55 nRz55 ?d2 ?d3 ?d4 ?d5 ?d6
  (case d0 => exact rfl)
  (case d1 => omega)
  (case d2 => decide)
  (case d3 => exact rfl)
  (case d4 => exact ⟨_, n2 + 1, [], rfl, hD6z55, by omega, hl6z55, hg6z55, .nil, rfl⟩)
  · rintro s₂ ⟨h3z55, tk3z55, rfl⟩ I hIz55 i ys led₁ h₁z55 tk₁z55 own C oC D mC E' hi ⟨ti, hmi⟩ ⟨dk3, n3, js, rfl, hD3, hn3, hl3, hg3, hP, hjl⟩ hoC hown hex off hC hD' hCD F₁ N₁
    obtain ⟨lits1, N4, hl4, hs4, mC6, back⟩ := turn_pack N₁ hown (fun x hx => .inl hx) hex off hl3
    have mc4 := hs4 _ mc1
    have hg4 := hg3
    (try clear hl3); (try clear N₁)
    refine wpAny_tests_nil ?_
    simp only [if_true]
    k_extra "k_steps"
    rename News T.heap _ _ _ => nE
    rename Fr T.heap _ _ _ => fE
    rename DeckOk w d _ (n3 + 1) => hD9
    rename Apart lits1 _ => hl9
    rename Apart (mk ++ gr2) _ => hg9
    rename _ < (5 : Int) => hr5
    rename 0 ≤ (_ : Int) => hr00
    refine xE (Int.eq_ofNat_of_zero_le hr00) fun j hj => ?_
    subst hj
    refine xA (back _ [] _ nE Apart.nil hl9) fun N7 off7 => ?_
    exact ⟨_, _, _, rfl, fE, N7, off7, _, n3 + 1, js ++ [j], rfl, hD9, by omega, hl9.sub hs4 Sub.refl, hg9, by rw [List.map_append]; exact paired_app hP (.cons (.inl ⟨j, _, rfl, rfl, by omega⟩) .nil), by simp [hjl]⟩
  · rintro D h4z55 tk4z55 ys led₄ F4 N4 oD ⟨dk4, n4, js, rfl, hD4, hn4, hl4, hg4, hP, hjl⟩
    k_sweep
    rename_i v55_11 v55_12
    (try clear e1); (try clear hRz55); (try clear nRz55); (try clear fRz55); (try clear v1Z); (try clear u1Z); (try clear t1Z); (try clear rZ); (try clear ek); (try clear qk); (try clear hg6z55); (try clear hl6z55); (try clear hD6z55); (try clear dkZ); (try clear tZ); (try clear agd2); (try clear alg2); (try clear ald2); (try clear hn2); (try clear hD2); (try clear dk2); (try clear tk2); (try clear h2); (try clear hR); (try clear hr6); (try clear hr0); (try clear hg6); (try clear hl6); (try clear hD6); (try clear v54_3); (try clear v54_2); (try clear hG); (try clear agd); (try clear agm); (try clear alg); (try clear gr); (try clear imm1); (try clear alm); (try clear ald); (try clear v51b_1); (try clear ladj); (try clear adj); (try clear hO); (try clear cO); (try clear hn); (try clear hD); (try clear recs); (try clear imm); (try clear g); (try clear dk); (try clear tk1); (try clear h1); (try clear oZ); (try clear v54_1); (try clear v50_29); (try clear v50_28); (try clear v50_27); (try clear v50_26); (try clear l1Z); (try clear v50_25); (try clear v50_24); (try clear tk5); (try clear h5); (try clear mk0); (try clear tk4); (try clear h4); (try clear t14); (try clear t13); (try clear t12); (try clear t11); (try clear t10); (try clear t9); (try clear t8); (try clear t7); (try clear t6); (try clear t5); (try clear t4); (try clear t3); (try clear t2); (try clear t1); (try clear ldx); (try clear lx); (try clear tk3); (try clear h3); (try clear dk0); (try clear hlen); (try clear X0); (try clear N0); (try clear v50_23); (try clear v50_22); (try clear oc1); (try clear oc2); (try clear F); (try clear tk₁); (try clear h₁); (try clear hDf); (try clear v50_21); (try clear v50_20); (try clear v50_19); (try clear hI); (try clear v50_18); (try clear v50_17); (try clear v50_16); (try clear hL); (try clear v50_15); (try clear v50_12); (try clear v50_11); (try clear v50_10); (try clear v50_9); (try clear v50_8); (try clear v50_7); (try clear v50_6); (try clear hcd); (try clear v50_4); (try clear M); (try clear v50_2); (try clear v50_1); (try clear TW); (try clear TE); (try clear B); (try clear V); (try clear X); (try clear ho); (try clear o); (try clear Y); (try clear G); revert w s₀ s₁ mg mb fa pm doc hg T v50_3 v50_5 v50_13 v50_14 K0 d mm lZ DZ bl q2 q1 lits mc2 mc1 dc2 dc1 mk n kb p q hM kind tA bA cA hA bts rr KX gr2 imm2 cO2 hO2 adj2 ladj2 n2 p2 hG2 agm2 v55_11 v55_12 hZ tkZ r1 hr0z55 hr6z55 D h4z55 tk4z55 ys F4 dk4 n4 js hD4 hn4 hl4 hg4 hP hjl N4 oD
    exact hCut.down⟩

def q56 : PSigma fun S : Prop => PLift S → q55.1 := ⟨_, fun hCut => by
  intro w s₀ s₁ mg mb fa pm doc hg T v50_3 v50_5 v50_13 v50_14 K0 d mm lZ DZ bl q2 q1 lits mc2 mc1 dc2 dc1 mk n kb p q hM kind tA bA cA hA bts rr KX gr2 imm2 cO2 hO2 adj2 ladj2 n2 p2 hG2 agm2 v55_11 v55_12 hZ tkZ r1 hr0z55 hr6z55 D h4z55 tk4z55 ys F4 dk4 n4 js hD4 hn4 hl4 hg4 hP hjl N4 oD
  revert KX; k_fill; intro KX
  have hl5 : Apart ((D, PyProof.Rows.LCg.lst ys) :: lits) dk4 := Apart.cons (fun p hp => oD p (List.mem_append_right _ (List.mem_append_left _ hp))) hl4
  have hyl : ys.length = js.length := by have := hP.length; simpa using this
  refine wpAny_execs_cons ?_
  k_extra "k_steps"
  refine' comp_expr ?c0 ?c1 ?c2 ?c3 ?c4 ?c5 (fun _ => rfl)
  (case c0 => k_asm)
  (case c1 => with_unfolding_all rfl)
  (case c2 => decide)
  (case c3 => exact rfl)
  (case c4 => decide)
  k_extra "k_steps"
  rename Fr T.heap _ _ _ => fRz56
  rename News T.heap _ _ _ => nRz56
  refine' src_list (RJ w d bA ((D, PyProof.Rows.LCg.lst ys) :: lits) (mk ++ gr2) js 400) ?d0 fRz56 nRz56 ?d3 ?d4 ?d5 ?d6 ?d7 ?d8 ?d9
  (case d0 => exact rfl)
  (case d3 => k_extra "k_mem")
  (case d4 => omega)
  (case d5 => decide)
  (case d6 => exact rfl)
  (case d7 => exact ⟨[], _, n4, rfl, hD4, by omega, Apart.nil, hl5, hg4, .nil, rfl⟩)
  · rintro s₂ ⟨h3z56, tk3z56, rfl⟩ fp wr hfp i zs led₁ h₁z56 tk₁z56 own C oC D' mC E' hi ⟨v, hv, hmv⟩ ⟨nw, dk5, n5, rfl, hD5, hn5, hnd5, hl5, hg5, hZ, hzl⟩ hoC hown hex off hC hD' hCD F₁ N₁
    refine xEA (paired_at hP hv) fun oz56 hoz56 hIV => ?_
    obtain ⟨j, t, rfl, rfl, hj5⟩ : ∃ (j : Nat) (t : Tok), v = .int j t ∧ oz56 = some j ∧ j < 5 := by
      rcases hIV with ⟨j, t, rfl, rfl, hj⟩ | ⟨_, rfl⟩
      · exact ⟨j, t, rfl, rfl, hj⟩
      · simp at hoz56
    have hjs : js[i]? = some j := by simpa using hoz56
    rw [← List.append_assoc] at N₁ off
    obtain ⟨lits1, N4z56, hl4z56, hs4, mC6, back⟩ := turn_pack N₁ hown (fun x hx => (hfp x hx).elim (fun e => .inr ⟨PyProof.Rows.LCg.lst ys, by rw [e]; exact List.mem_append_right _ (.head _)⟩) .inl) hex off (Apart.append hnd5 hl5)
    have mc4 := hs4 _ (List.mem_append_right _ (.tail _ mc1))
    have mc5 := hs4 _ (List.mem_append_right _ (.tail _ mc2))
    refine xAE (hG2.tup j hj5) fun hbt tkk hmt => ?_
    (try clear N₁)
    have hg6z56 := hg5
    refine wpAny_tests_nil ?_
    simp only [if_true]
    k_extra "k_steps"
    refine' lawThing (lits := lits1) (dk := dk5) (gr := mk ++ gr2) (t := tA j) (kd := kind j) (b := bA j) ?yB ?yF ?yX ?yN ?yT ?yK ?yt hl4z56 hg5 hD5 ?yn (List.mem_append_right _ (hG2.sub _ hG2.hbl)) hbt ?yj (List.mem_append_right _ (hG2.sub _ hmt)) ((hG2.isKB hj5).mono (Sub.inr Sub.refl)) ?yd ?yu ?_
    (case yB => k_asm)
    (case yF => k_asm)
    (case yX => k_asm)
    (case yN => k_asm)
    (case yT => k_asm)
    (case yK => first | exact rfl | assumption)
    (case yt => exact Tail.app _)
    (case yn => omega)
    (case yj => omega)
    (case yd => k_extra "ktr_room")
    (case yu => k_extra "ktr_units")
    intro v dk6 nw6 h6 tk6 n6 F6 N6 hA6 hDen hD6z56 hn6 hl6z56 hg6z56
    refine xA (back h6 nw6 dk6 N6 (hA6.apart.sub Sub.refl (Sub.inl Sub.refl)) hl6z56) fun N7 off7 => ?_
    refine ⟨_, _, _, rfl, F6, N7, off7, nw6 ++ nw, dk6, n6, by simp only [List.append_assoc], hD6z56, by omega, ?_, ?_, hg6z56, ?_, by simp [hzl]⟩
    · exact Apart.append (hA6.apart.sub Sub.refl (Sub.inr (Sub.inl Sub.refl))) (hl6z56.sub (fun p hp => hs4 p (List.mem_append_left _ hp)) Sub.refl)
    · exact hl6z56.sub (fun p hp => hs4 p (List.mem_append_right _ hp)) Sub.refl
    · rw [take_map_succ some hjs]
      exact paired_app (paired_mono (fun _ _ z => z.mono (Sub.inr Sub.refl)) hZ) (.cons ⟨(fun k e => by cases e; exact hj5), hDen.mono (Sub.inl Sub.refl)⟩ .nil)
  · rintro D7 h7 tk7 zs led7 F7 N7 o7 ⟨nw, dk7, n7, rfl, hD7, hn7, hnd7, hl7, hg7, hZ, hzl⟩
    rw [hyl, List.take_of_length_le (Nat.le_refl _)] at hZ
    have agn : Apart nw dk7 := hnd7
    k_sweep
    rename_i v56_1
    (try clear agn); (try clear o7); (try clear hl7); (try clear hnd7); (try clear hn7); (try clear hD7); (try clear hl5); (try clear oD); (try clear hg4); (try clear hl4); (try clear hn4); (try clear hD4); (try clear dk4); (try clear e1); (try clear hRz55); (try clear nRz55); (try clear fRz55); (try clear v1Z); (try clear u1Z); (try clear t1Z); (try clear rZ); (try clear ek); (try clear qk); (try clear hg6z55); (try clear hl6z55); (try clear hD6z55); (try clear dkZ); (try clear tZ); (try clear agd2); (try clear alg2); (try clear ald2); (try clear hn2); (try clear hD2); (try clear dk2); (try clear tk2); (try clear h2); (try clear hR); (try clear hr6); (try clear hr0); (try clear v55_10); (try clear v55_9); (try clear v55_8); (try clear v55_7); (try clear v55_6); (try clear v55_5); (try clear v55_4); (try clear v55_3); (try clear hg6); (try clear hl6); (try clear hD6); (try clear v54_3); (try clear v54_2); (try clear v55_2); (try clear v55_1); (try clear hG); (try clear agd); (try clear agm); (try clear alg); (try clear gr); (try clear imm1); (try clear alm); (try clear ald); (try clear v51b_1); (try clear ladj); (try clear adj); (try clear hO); (try clear cO); (try clear hn); (try clear hD); (try clear recs); (try clear imm); (try clear g); (try clear dk); (try clear tk1); (try clear h1); (try clear dc1); (try clear oZ); (try clear v54_1); (try clear v50_29); (try clear v50_28); (try clear v50_27); (try clear v50_26); (try clear l1Z); (try clear v50_25); (try clear v50_24); (try clear tk5); (try clear h5); (try clear mk0); (try clear tk4); (try clear h4); (try clear t14); (try clear t13); (try clear t12); (try clear t11); (try clear t10); (try clear t9); (try clear t8); (try clear t7); (try clear t6); (try clear t5); (try clear t4); (try clear t3); (try clear t2); (try clear t1); (try clear ldx); (try clear lx); (try clear tk3); (try clear h3); (try clear dk0); (try clear d); (try clear hlen); (try clear X0); (try clear N0); (try clear v50_23); (try clear v50_22); (try clear oc1); (try clear oc2); (try clear F); (try clear tk₁); (try clear h₁); (try clear hDf); (try clear v50_21); (try clear v50_20); (try clear v50_19); (try clear hI); (try clear v50_18); (try clear v50_17); (try clear v50_16); (try clear hL); (try clear v50_15); (try clear v50_12); (try clear v50_11); (try clear v50_10); (try clear v50_9); (try clear v50_8); (try clear v50_7); (try clear v50_6); (try clear hcd); (try clear v50_4); (try clear M); (try clear v50_2); (try clear v50_1); (try clear TW); (try clear TE); (try clear B); (try clear V); (try clear X); (try clear ho); (try clear o); (try clear Y); (try clear G); revert w s₀ s₁ mg mb fa pm doc hg T v50_3 v50_5 v50_13 v50_14 K0 mm lZ DZ bl q2 q1 lits mc2 mc1 dc2 mk n kb p q hM kind tA bA cA hA bts rr gr2 imm2 cO2 hO2 adj2 ladj2 n2 p2 hG2 agm2 v55_11 v55_12 v56_1 tkZ r1 hr0z55 hr6z55 D h4z55 tk4z55 ys n4 js hP hjl KX hyl D7 h7 tk7 zs F7 nw dk7 n7 hg7 hZ hzl N7
    exact hCut.down⟩

def q57 : PSigma fun S : Prop => PLift S → q56.1 := ⟨_, fun hCut => by
  intro w s₀ s₁ mg mb fa pm doc hg T v50_3 v50_5 v50_13 v50_14 K0 mm lZ DZ bl q2 q1 lits mc2 mc1 dc2 mk n kb p q hM kind tA bA cA hA bts rr gr2 imm2 cO2 hO2 adj2 ladj2 n2 p2 hG2 agm2 v55_11 v55_12 v56_1 tkZ r1 hr0z55 hr6z55 D h4z55 tk4z55 ys n4 js hP hjl KX hyl D7 h7 tk7 zs F7 nw dk7 n7 hg7 hZ hzl N7
  revert KX; k_fill; intro KX
  obtain ⟨lits7, hL7⟩ : ∃ l : Led, l = (D7, PyProof.Rows.LCg.lst zs) :: (nw ++ ((D, PyProof.Rows.LCg.lst ys) :: lits)) := ⟨_, rfl⟩
  have N8 : News T.heap s₁.heap.objs.size h7 (lits7 ++ (dk7 ++ (mk ++ gr2))) := by
    refine news_sub N7 ?_
    subst hL7
    intro p hp
    simp only [List.mem_append, List.mem_cons] at hp ⊢
    rcases hp with (h | h | h | h) | h | h | h <;> simp [h]
  have my7 : (D, PyProof.Rows.LCg.lst ys) ∈ lits7 := hL7 ▸ .tail _ (List.mem_append_right _ (.head _))
  have mz7 : (D7, PyProof.Rows.LCg.lst zs) ∈ lits7 := hL7 ▸ .head _
  have mc7 : (s₁.heap.objs.size + 1, q1) ∈ lits7 := hL7 ▸ .tail _ (List.mem_append_right _ (.tail _ mc1))
  have mc8 : (s₁.heap.objs.size + 1 + 1, q2) ∈ lits7 := hL7 ▸ .tail _ (List.mem_append_right _ (.tail _ mc2))
  have hZ7 : Paired (DJ lits7 bA 5) zs (js.map some) := paired_mono (fun _ _ z => z.mono (by subst hL7; exact Sub.skip (Sub.inl Sub.refl))) hZ
  have hbm : (bl, W.listOf bts.toArray kb) ∈ mk ++ gr2 := List.mem_append_right _ (hG2.sub _ hG2.hbl)
  (try clear hL7); (try clear hZ); (try clear N7)
  k_extra "k_steps"
  refine' comp_expr ?c0 ?c1 ?c2 ?c3 ?c4 ?c5 (fun _ => rfl)
  (case c0 => k_asm)
  (case c1 => with_unfolding_all rfl)
  (case c2 => decide)
  (case c3 => exact rfl)
  (case c4 => decide)
  k_extra "k_steps"
  rename_i v57_1 v57_2 v57_4 v57_6 v57_7 v57_8 v57_9 v57_10 v57_11 v57_12 v57_13 v57_14 v57_15 v57_16 v57_17 v57_18 v57_19 v57_20 v57_21 v57_22 v57_23 v57_24 v57_25
  (try clear l1Z); (try clear v57_24); (try clear lxZ); (try clear l2Z); (try clear v57_22); (try clear v57_20); (try clear v57_19); (try clear v57_18); (try clear v57_16); (try clear mc7); (try clear mz7); (try clear agn); (try clear o7); (try clear hl7); (try clear hnd7); (try clear hn7); (try clear hD7); (try clear nw); (try clear F7); (try clear h7); (try clear D7); (try clear hl5); (try clear oD); (try clear hg4); (try clear hl4); (try clear hn4); (try clear hD4); (try clear dk4); (try clear tk4z55); (try clear h4z55); (try clear e1); (try clear hRz55); (try clear v1Z); (try clear u1Z); (try clear rZ); (try clear v57_4); (try clear v56_1); (try clear ek); (try clear qk); (try clear hg6z55); (try clear hl6z55); (try clear hD6z55); (try clear v55_12); (try clear v55_11); (try clear dkZ); (try clear tZ); (try clear agd2); (try clear alg2); (try clear ald2); (try clear hn2); (try clear hD2); (try clear dk2); (try clear tk2); (try clear h2); (try clear hR); (try clear hr6); (try clear hr0); (try clear v55_10); (try clear v55_9); (try clear v55_8); (try clear v55_7); (try clear v55_6); (try clear v55_5); (try clear v55_4); (try clear v55_3); (try clear hg6); (try clear hl6); (try clear hD6); (try clear v54_3); (try clear v54_2); (try clear v55_2); (try clear v55_1); (try clear hG); (try clear agd); (try clear agm); (try clear alg); (try clear gr); (try clear imm1); (try clear alm); (try clear ald); (try clear v51b_1); (try clear ladj); (try clear adj); (try clear hO); (try clear cO); (try clear hn); (try clear hD); (try clear recs); (try clear imm); (try clear g); (try clear dk); (try clear tk1); (try clear h1); (try clear dc1); (try clear mc1); (try clear mc2); (try clear lits); (try clear q1); (try clear oZ); (try clear v54_1); (try clear v50_29); (try clear v50_28); (try clear v50_27); (try clear v50_26); (try clear v50_25); (try clear v50_24); (try clear tk5); (try clear h5); (try clear mk0); (try clear tk4); (try clear h4); (try clear t14); (try clear t13); (try clear t12); (try clear t11); (try clear t10); (try clear t9); (try clear t8); (try clear t7); (try clear t6); (try clear t5); (try clear t4); (try clear t3); (try clear t2); (try clear t1); (try clear ldx); (try clear lx); (try clear tk3); (try clear h3); (try clear dk0); (try clear d); (try clear hlen); (try clear X0); (try clear N0); (try clear v50_23); (try clear v50_22); (try clear oc1); (try clear oc2); (try clear F); (try clear tk₁); (try clear h₁); (try clear hDf); (try clear v50_21); (try clear v50_20); (try clear v50_19); (try clear hI); (try clear v50_18); (try clear v50_17); (try clear v50_16); (try clear hL); (try clear v50_15); (try clear v50_12); (try clear v50_11); (try clear v50_10); (try clear v50_9); (try clear v50_8); (try clear v50_7); (try clear v50_6); (try clear hcd); (try clear v50_4); (try clear M); (try clear v50_2); (try clear v50_1); (try clear TW); (try clear TE); (try clear B); (try clear V); (try clear X); (try clear ho); (try clear o); (try clear Y); (try clear G); revert w s₀ s₁ mg mb fa pm doc hg T v50_3 v50_5 v50_13 v50_14 K0 mm v57_1 v57_2 bl q2 dc2 mk n kb p q hM kind tA bA cA hA bts rr gr2 imm2 cO2 hO2 adj2 ladj2 n2 p2 hG2 agm2 r1 hr0z55 hr6z55 D ys n4 js hP hjl hyl tk7 zs dk7 n7 hg7 hzl KX lits7 my7 mc8 hZ7 hbm v57_6 v57_7 v57_8 v57_9 v57_10 v57_11 v57_12 v57_13 v57_14 v57_15 v57_17 xZ dxZ h1Z h2Z h3Z h4Z t1Z t2Z t3Z t4Z v57_21 tkZ lZ v57_23 DZ v57_25 hZ FZ NZ qkZ
  exact hCut.down⟩

def q58 : PSigma fun S : Prop => PLift S → q57.1 := ⟨_, fun hCut => by
  intro w s₀ s₁ mg mb fa pm doc hg T v50_3 v50_5 v50_13 v50_14 K0 mm v57_1 v57_2 bl q2 dc2 mk n kb p q hM kind tA bA cA hA bts rr gr2 imm2 cO2 hO2 adj2 ladj2 n2 p2 hG2 agm2 r1 hr0z55 hr6z55 D ys n4 js hP hjl hyl tk7 zs dk7 n7 hg7 hzl KX lits7 my7 mc8 hZ7 hbm v57_6 v57_7 v57_8 v57_9 v57_10 v57_11 v57_12 v57_13 v57_14 v57_15 v57_17 xZ dxZ h1Z h2Z h3Z h4Z t1Z t2Z t3Z t4Z v57_21 tkZ lZ v57_23 DZ v57_25 hZ FZ NZ qkZ
  revert KX; k_fill; intro KX
  refine' reached (bl := bl) (bg := D) (bts := bts) (gvs := ys) (rs := js.map some) (ladj := ladj2) (n := 5) ?yB ?yF ?yX ?yN ?yT ?yK ?yb ?yr hP ?yG ?yn ?yz ?yd ?yu ?_
  (case yB => k_asm)
  (case yF => k_asm)
  (case yX => k_asm)
  (case yN => k_asm)
  (case yT => k_asm)
  (case yK => first | exact rfl | assumption)
  (case yb => k_extra "k_mem")
  (case yr => k_extra "k_mem")
  (case yG => exact hG2.isLG.mono (by k_extra "kqd_sub"))
  (case yn => omega)
  (case yz => omega)
  (case yd => k_extra "ktr_room")
  (case yu => k_extra "ktr_units")
  intro D9 vr nr cr fr h9 tk9 F9 N9 l9 hI9 hp9 hs9 hn9 hfl9 hfb9 hr9
  (try simp only [List.cons_append, List.nil_append, AllLt, and_true] at l9)
  k_sweep
  (try dsimp only)
  have hvl := hI9.length
  have hnl : nr.length ≤ 5 := by have := hp9.length_eq; simp at this; omega
  refine' psrc_list (fun i us => IntsAre us ((nr.take i).map (· + 1))) ?d0 ?d1 ?d2 ?d3 ?d5 ?d6 ?d7 ?d8 ?d9 ?da
  (case d0 => exact rfl)
  (case d1 => k_asm)
  (case d2 => k_asm)
  (case d3 => k_extra "k_mem")
  (case d5 => omega)
  (case d6 => decide)
  (case d7 => exact rfl)
  (case d8 => exact .nil)
  · rintro i us h₁z58 tk₁z58 own C oC D' mC E' hi' ⟨v, hv, hxm⟩ hK hoC hCD F₁ N₁
    obtain ⟨z, t, rfl, hz⟩ := ints_at hI9 hv
    obtain ⟨j, hj, ej⟩ := List.mem_map.mp (hp9.mem_iff.mp (List.mem_of_getElem? hz))
    replace ej : (j : Int) = z := ej
    subst ej
    have hj5 := hfb9 j hj
    obtain ⟨hbt0, tkk, hmt⟩ := hG2.tup j hj5
    have hbt : bts[(j : Int).toNat]? = some (.ref (tA j)) := hbt0
    have hmt' : (tA j, tupOf #[.str (kind j) tkk, .ref (bA j), .ref (hA j)]) ∈ lits7 ++ (dk7 ++ (mk ++ gr2)) := List.mem_append_right _ (List.mem_append_right _ (List.mem_append_right _ (hG2.sub _ hmt)))
    have hcA : (s₁.heap.objs.size + 1 + 1, q2) ∈ lits7 ++ (dk7 ++ (mk ++ gr2)) := List.mem_append_left _ mc8
    have hbA : (bl, W.listOf bts.toArray kb) ∈ lits7 ++ (dk7 ++ (mk ++ gr2)) := List.mem_append_right _ (List.mem_append_right _ hbm)
    obtain ⟨_, its, hHB, _⟩ := hG2.isGr j hj5
    have hHB' : HoldsB w (mk ++ gr2) (bA j) ((j : Int) + 1) its := hHB.mono (Sub.inr Sub.refl)
    refine wpAny_tests_nil ?_
    simp only [if_true]
    k_extra "k_steps"
    exact ⟨_, _, rfl, by k_asm, by k_asm, ints_take_succ hK hz⟩
  · rintro D8 h8 tk8 us F8 N8 o8 hY
    rw [hvl, List.take_of_length_le (Nat.le_refl _)] at hY
    k_sweep
    obtain ⟨mr, mf1, mf2, mf3, mf4, mf5⟩ := mem_one hM
    k_extra "k_steps"
    rename_i v58_1 v58_2 v58_4 v58_5 v58_6
    (try clear l1Z); (try clear v58_6); (try clear mf5); (try clear mf4); (try clear mf3); (try clear hY); (try clear o8); (try clear tk8); (try clear h8); (try clear hnl); (try clear hvl); (try clear hfb9); (try clear hfl9); (try clear hs9); (try clear hI9); (try clear l9); (try clear tk9); (try clear h9); (try clear v58_5); (try clear v58_4); (try clear v57_24); (try clear lxZ); (try clear l2Z); (try clear v57_22); (try clear v57_20); (try clear v57_19); (try clear v57_18); (try clear v57_16); (try clear hbm); (try clear mc8); (try clear mc7); (try clear mz7); (try clear my7); (try clear agn); (try clear o7); (try clear hl7); (try clear hnd7); (try clear hn7); (try clear hD7); (try clear nw); (try clear F7); (try clear h7); (try clear D7); (try clear hl5); (try clear oD); (try clear hP); (try clear hg4); (try clear hl4); (try clear hn4); (try clear hD4); (try clear dk4); (try clear tk4z55); (try clear h4z55); (try clear e1); (try clear hRz55); (try clear v1Z); (try clear u1Z); (try clear v57_5); (try clear rZ); (try clear v57_4); (try clear v56_1); (try clear ek); (try clear qk); (try clear hg6z55); (try clear hl6z55); (try clear hD6z55); (try clear v55_12); (try clear v55_11); (try clear dkZ); (try clear tZ); (try clear agd2); (try clear alg2); (try clear ald2); (try clear hn2); (try clear hD2); (try clear dk2); (try clear tk2); (try clear h2); (try clear hR); (try clear hr6); (try clear hr0); (try clear v55_10); (try clear v55_9); (try clear v55_8); (try clear v55_7); (try clear v55_6); (try clear v55_5); (try clear v55_4); (try clear v55_3); (try clear hg6); (try clear hl6); (try clear hD6); (try clear v54_3); (try clear v54_2); (try clear v55_2); (try clear v55_1); (try clear hG); (try clear agd); (try clear agm); (try clear alg); (try clear gr); (try clear imm1); (try clear alm); (try clear ald); (try clear v51b_1); (try clear ladj); (try clear adj); (try clear hO); (try clear cO); (try clear hn); (try clear hD); (try clear recs); (try clear imm); (try clear g); (try clear dk); (try clear tk1); (try clear h1); (try clear dc1); (try clear dc2); (try clear mc1); (try clear mc2); (try clear lits); (try clear q1); (try clear q2); (try clear oZ); (try clear v54_1); (try clear v50_29); (try clear v50_28); (try clear v50_27); (try clear v50_26); (try clear v57_3); (try clear v50_25); (try clear v50_24); (try clear tk5); (try clear h5); (try clear mk0); (try clear tk4); (try clear h4); (try clear t14); (try clear t13); (try clear t12); (try clear t11); (try clear t10); (try clear t9); (try clear t8); (try clear t7); (try clear t6); (try clear t5); (try clear t4); (try clear t3); (try clear t2); (try clear t1); (try clear ldx); (try clear lx); (try clear tk3); (try clear h3); (try clear dk0); (try clear d); (try clear hlen); (try clear X0); (try clear N0); (try clear v50_23); (try clear v50_22); (try clear oc1); (try clear oc2); (try clear F); (try clear tk₁); (try clear h₁); (try clear hDf); (try clear v50_21); (try clear v50_20); (try clear v50_19); (try clear hI); (try clear v50_18); (try clear v50_17); (try clear v50_16); (try clear hL); (try clear v50_15); (try clear v50_12); (try clear v50_11); (try clear v50_10); (try clear v50_9); (try clear v50_8); (try clear v50_7); (try clear v50_6); (try clear hcd); (try clear v50_4); (try clear M); (try clear v50_2); (try clear v50_1); (try clear TW); (try clear TE); (try clear B); (try clear V); (try clear X); (try clear ho); (try clear o); (try clear Y); (try clear G); revert w s₀ s₁ mg mb fa pm doc hg T v50_3 v50_5 v50_13 v50_14 K0 mm v57_1 v57_2 bl mk n kb p q hM kind tA bA cA hA bts rr gr2 imm2 cO2 hO2 adj2 ladj2 n2 p2 hG2 agm2 r1 hr0z55 hr6z55 D ys n4 js hjl hyl tk7 zs dk7 n7 hg7 hzl lits7 hZ7 v57_6 v57_7 v57_8 v57_9 v57_10 v57_11 v57_12 v57_13 v57_14 v57_15 v57_17 xZ dxZ h1Z h2Z h3Z h4Z t1Z t2Z t3Z t4Z v57_21 v58_1 lZ v57_23 v58_2 v57_25 KX D9 vr nr cr fr hp9 hn9 hr9 D8 us mr mf1 mf2 DZ vsZ nsZ cZ hIZ hpZ hsZ hZ FZ NZ tkZ qkZ
    exact hCut.down⟩

def q59 : PSigma fun S : Prop => PLift S → q58.1 := ⟨_, fun hCut => by
  intro w s₀ s₁ mg mb fa pm doc hg T v50_3 v50_5 v50_13 v50_14 K0 mm v57_1 v57_2 bl mk n kb p q hM kind tA bA cA hA bts rr gr2 imm2 cO2 hO2 adj2 ladj2 n2 p2 hG2 agm2 r1 hr0z55 hr6z55 D ys n4 js hjl hyl tk7 zs dk7 n7 hg7 hzl lits7 hZ7 v57_6 v57_7 v57_8 v57_9 v57_10 v57_11 v57_12 v57_13 v57_14 v57_15 v57_17 xZ dxZ h1Z h2Z h3Z h4Z t1Z t2Z t3Z t4Z v57_21 v58_1 lZ v57_23 v58_2 v57_25 KX D9 vr nr cr fr hp9 hn9 hr9 D8 us mr mf1 mf2 DZ vsZ nsZ cZ hIZ hpZ hsZ hZ FZ NZ tkZ qkZ
  revert KX; k_fill; intro KX
  rename List.Perm _ (List.map (fun x => x + 1) nr) => hpd
  rename List.Pairwise _ _ => hsd
  rename IntsAre _ _ => hId
  refine' collect (rvs := zs ++ [_, _]) (rs := js.map some ++ [none, none]) (bA := bA) (adj := adj2) (n := 5) ?yB ?yF ?yX ?yN ?yT ?yK ?yr ?yR ?yG ?yn ?yz ?yd ?yu ?_
  (case yB => k_asm)
  (case yF => k_asm)
  (case yX => k_asm)
  (case yN => k_asm)
  (case yT => k_asm)
  (case yK => first | exact rfl | assumption)
  (case yr => k_extra "k_mem")
  (case yR => exact paired_app (paired_mono (fun _ _ z => z.mono (by k_extra "kqd_sub")) hZ7) (.cons ⟨(fun _ h => nomatch h), .leaf (by k_extra "k_mem") (by k_extra "k_mem") (.inr (.inl rfl))⟩ (.cons ⟨(fun _ h => nomatch h), .leaf (by k_extra "k_mem") (by k_extra "k_mem") (.inr (.inr rfl))⟩ .nil)))
  (case yG => exact hG2.isGr.mono (by k_extra "kqd_sub"))
  (case yn => omega)
  (case yz => simp; omega)
  (case yd => k_extra "ktr_room")
  (case yu => k_extra "ktr_units")
  intro D10 v10 i10 c10 f10 h10 tk10 F10 N10 l10 hI10 hp10 hs10 hn10 hfl10 hr10
  have e10 := told_same (fun j hj k => hG2.link hj k) hp10 hs10 hn10 hr10 hp9 hn9 hr9 hpd hsd
  have hz10 : v10.length ≤ 5 := by have := hI10.length; have := hp10.length_eq; simp at this; omega
  (try simp only [List.cons_append, List.nil_append, AllLt, and_true] at l10)
  k_sweep
  (try dsimp only)
  k_extra "k_steps"
  rename_i v59_1 v59_2 v59_4
  (try clear l1Z); (try clear hz10); (try clear e10); (try clear hr10); (try clear hfl10); (try clear hn10); (try clear hs10); (try clear hp10); (try clear hI10); (try clear l10); (try clear i10); (try clear tkZ); (try clear v59_4); (try clear v58_6); (try clear mf5); (try clear mf4); (try clear mf3); (try clear hY); (try clear o8); (try clear tk8); (try clear h8); (try clear hnl); (try clear hvl); (try clear hfb9); (try clear hfl9); (try clear hs9); (try clear hI9); (try clear l9); (try clear tk9); (try clear h9); (try clear v58_5); (try clear v58_4); (try clear v58_3); (try clear v57_24); (try clear lxZ); (try clear l2Z); (try clear v57_22); (try clear v57_20); (try clear v57_19); (try clear v57_18); (try clear v57_16); (try clear hbm); (try clear mc8); (try clear mc7); (try clear mz7); (try clear my7); (try clear agn); (try clear o7); (try clear hl7); (try clear hnd7); (try clear hn7); (try clear hD7); (try clear nw); (try clear F7); (try clear h7); (try clear D7); (try clear hl5); (try clear oD); (try clear hP); (try clear hg4); (try clear hl4); (try clear hn4); (try clear hD4); (try clear dk4); (try clear tk4z55); (try clear h4z55); (try clear e1); (try clear hRz55); (try clear v1Z); (try clear u1Z); (try clear v57_5); (try clear rZ); (try clear v57_4); (try clear v56_1); (try clear ek); (try clear qk); (try clear hg6z55); (try clear hl6z55); (try clear hD6z55); (try clear v55_12); (try clear v55_11); (try clear dkZ); (try clear tZ); (try clear agd2); (try clear alg2); (try clear ald2); (try clear hn2); (try clear hD2); (try clear dk2); (try clear tk2); (try clear h2); (try clear hR); (try clear hr6); (try clear hr0); (try clear v55_10); (try clear v55_9); (try clear v55_8); (try clear v55_7); (try clear v55_6); (try clear v55_5); (try clear v55_4); (try clear v55_3); (try clear hg6); (try clear hl6); (try clear hD6); (try clear v54_3); (try clear v54_2); (try clear v55_2); (try clear v55_1); (try clear hG); (try clear agd); (try clear agm); (try clear alg); (try clear gr); (try clear imm1); (try clear alm); (try clear ald); (try clear v51b_1); (try clear ladj); (try clear adj); (try clear hO); (try clear cO); (try clear hn); (try clear hD); (try clear recs); (try clear imm); (try clear g); (try clear dk); (try clear tk1); (try clear h1); (try clear dc1); (try clear dc2); (try clear mc1); (try clear mc2); (try clear lits); (try clear q1); (try clear q2); (try clear oZ); (try clear v54_1); (try clear v50_29); (try clear v50_28); (try clear v50_27); (try clear v50_26); (try clear v57_3); (try clear v50_25); (try clear v50_24); (try clear tk5); (try clear h5); (try clear mk0); (try clear tk4); (try clear h4); (try clear t14); (try clear t13); (try clear t12); (try clear t11); (try clear t10); (try clear t9); (try clear t8); (try clear t7); (try clear t6); (try clear t5); (try clear t4); (try clear t3); (try clear t2); (try clear t1); (try clear ldx); (try clear lx); (try clear tk3); (try clear h3); (try clear dk0); (try clear d); (try clear hlen); (try clear X0); (try clear N0); (try clear v50_23); (try clear v50_22); (try clear oc1); (try clear oc2); (try clear F); (try clear tk₁); (try clear h₁); (try clear hDf); (try clear v50_21); (try clear v50_20); (try clear v50_19); (try clear hI); (try clear v50_18); (try clear v50_17); (try clear v50_16); (try clear hL); (try clear v50_15); (try clear v50_12); (try clear v50_11); (try clear v50_10); (try clear v50_9); (try clear v50_8); (try clear v50_7); (try clear v50_6); (try clear hcd); (try clear v50_4); (try clear M); (try clear v50_2); (try clear v50_1); (try clear TW); (try clear TE); (try clear B); (try clear V); (try clear X); (try clear ho); (try clear o); (try clear Y); (try clear G); revert w s₀ s₁ mg mb fa pm doc hg T v50_3 v50_5 v50_13 v50_14 K0 mm v57_1 v57_2 bl mk n kb p q hM kind tA bA cA hA bts rr gr2 imm2 cO2 hO2 adj2 ladj2 n2 p2 hG2 agm2 r1 hr0z55 hr6z55 D ys n4 js hjl hyl tk7 zs dk7 n7 hg7 hzl lits7 hZ7 v57_6 v57_7 v57_8 v57_9 v57_10 v57_11 v57_12 v57_13 v57_14 v57_15 v57_17 xZ dxZ h1Z h2Z h3Z h4Z t1Z t2Z t3Z t4Z v57_21 v58_1 lZ v57_23 v58_2 v57_25 D9 vr nr cr fr hp9 hn9 hr9 D8 us mr mf1 mf2 v59_1 vsZ nsZ v59_2 hId hpd hsd qkZ KX D10 v10 c10 f10 h10 tk10 DZ cZ hZ FZ NZ
  exact hCut.down⟩

theorem words_68 : True := by
  w_top off
  (k_with "k_steps" => repeat' (first | (k_end; first | (with_reducible refine nextQ_end ?_) | ((with_reducible refine' nextQ_next (by k_asm) (by exact rfl) ?_); intro tkZ) | (with_reducible refine nextQ_ret ?_) | ((with_reducible refine' back_init (by k_asm) (by k_asm) (by exact rfl) ?_); intro kFZ kNZ) | ((with_reducible refine' back_ret (by k_asm) (by k_asm) (by exact rfl) ?_); intro kFZ kNZ) | ((with_reducible refine' back_next (by k_asm) (by k_asm) (by exact rfl) ?_); intro kFZ kNZ)) | (k_unfold; (try dsimp only [List.cons_append, List.nil_append])) | ((fail_if_success (first | (with_reducible show wpAny _ _ (eval (Expr.ListComp _ _ _ _) _) _ _ _) | (with_reducible show wpAny _ _ (exec (Stmt.For _ _ _ _ _) _) _ _ _) | (with_reducible show wpAny _ _ (exec (Stmt.While _ _ _ _) _) _ _ _) | (with_reducible show wpAny _ _ (exec (Stmt.Assign _ (Expr.ListComp _ _ _ _) _) _) _ _ _) | (with_reducible show wpAny _ _ (call (Value.ref 643) _) _ _ _) | (with_reducible show wpAny _ _ (call (Value.ref 444) _) _ _ _) | (with_reducible show wpAny _ _ (call (Value.ref 479) _) _ _ _) | (with_reducible show wpAny _ _ (call (Value.ref 486) _) _ _ _) | (with_reducible show wpAny _ _ (call (Value.ref 313) _) _ _ _) | (with_reducible show wpAny _ _ (call (Value.ref 594) _) _ _ _) | (with_reducible show wpAny _ _ (call (Value.ref 622) _) _ _ _) | (with_reducible show wpAny _ _ (call (Value.ref 648) _) _ _ _) | (with_reducible show wpAny _ _ (call (Value.ref 655) _) _ _ _) | (with_reducible show wpAny _ _ (call (Value.ref 576) _) _ _ _) | (with_reducible show wpAny _ _ (call (Value.ref 402) _) _ _ _) | (with_reducible show wpAny _ _ (call (Value.ref 409) _) _ _ _))); (first | walk1 | (dsimp only; walk1))) | (leave1; walk_say "STEP leave1"; try dsimp only) | fail "no step"))
  trivial

def q60 : PSigma fun S : Prop => PLift S → q59.1 := ⟨_, fun hCut => by
  intro w s₀ s₁ mg mb fa pm doc hg T v50_3 v50_5 v50_13 v50_14 K0 mm v57_1 v57_2 bl mk n kb p q hM kind tA bA cA hA bts rr gr2 imm2 cO2 hO2 adj2 ladj2 n2 p2 hG2 agm2 r1 hr0z55 hr6z55 D ys n4 js hjl hyl tk7 zs dk7 n7 hg7 hzl lits7 hZ7 v57_6 v57_7 v57_8 v57_9 v57_10 v57_11 v57_12 v57_13 v57_14 v57_15 v57_17 xZ dxZ h1Z h2Z h3Z h4Z t1Z t2Z t3Z t4Z v57_21 v58_1 lZ v57_23 v58_2 v57_25 D9 vr nr cr fr hp9 hn9 hr9 D8 us mr mf1 mf2 v59_1 vsZ nsZ v59_2 hId hpd hsd qkZ KX D10 v10 c10 f10 h10 tk10 DZ cZ hZ FZ NZ
  revert KX; k_fill; intro KX
  refine' collect (rvs := zs ++ [_, _]) (rs := js.map some ++ [none, none]) (bA := bA) (adj := adj2) (n := 5) ?yB ?yF ?yX ?yN ?yT ?yK ?yr ?yR ?yG ?yn ?yz ?yd ?yu ?_
  (case yB => k_asm)
  (case yF => k_asm)
  (case yX => k_asm)
  (case yN => k_asm)
  (case yT => k_asm)
  (case yK => first | exact rfl | assumption)
  (case yr => k_extra "k_mem")
  (case yR => exact paired_app (paired_mono (fun _ _ z => z.mono (by k_extra "kqd_sub")) hZ7) (.cons ⟨(fun _ h => nomatch h), .leaf (by k_extra "k_mem") (by k_extra "k_mem") (.inr (.inl rfl))⟩ (.cons ⟨(fun _ h => nomatch h), .leaf (by k_extra "k_mem") (by k_extra "k_mem") (.inr (.inr rfl))⟩ .nil)))
  (case yG => exact hG2.isGr.mono (by k_extra "kqd_sub"))
  (case yn => omega)
  (case yz => simp; omega)
  (case yd => k_extra "ktr_room")
  (case yu => k_extra "ktr_units")
  intro D11 v11 i11 c11 f11 h11 tk11 F11 N11 l11 hI11 hp11 hs11 hn11 hfl11 hr11
  have e11 := told_same (fun j hj k => hG2.link hj k) hp11 hs11 hn11 hr11 hp9 hn9 hr9 hpd hsd
  have hz11 : v11.length ≤ 5 := by have := hI11.length; have := hp11.length_eq; simp at this; omega
  (try simp only [List.cons_append, List.nil_append, AllLt, and_true] at l11)
  k_sweep
  (try dsimp only)
  k_extra "k_steps"
  rename News T.heap _ _ _ => nE
  have n12 := news_sub nE (l' := dk7 ++ (mk ++ gr2)) (by k_extra "kqd_sub")
  have a12 : Apart dk7 mk := (hg7.sub (Sub.inl Sub.refl) Sub.refl).symm
  have g12 : Gr w gr2 bA 5 adj2 := hG2.isGr
  (try clear nE)
  rename_i v60_2 v60_3 v60_4 v60_5
  (try clear tk); (try clear l1Z); (try clear cZ); (try clear hz11); (try clear e11); (try clear hr11); (try clear hfl11); (try clear hn11); (try clear hs11); (try clear hp11); (try clear hI11); (try clear l11); (try clear tk11); (try clear h11); (try clear c11); (try clear i11); (try clear v60_5); (try clear v60_4); (try clear hz10); (try clear e10); (try clear hr10); (try clear hfl10); (try clear hn10); (try clear hs10); (try clear hp10); (try clear hI10); (try clear l10); (try clear tk10); (try clear h10); (try clear c10); (try clear i10); (try clear v60_2); (try clear v59_4); (try clear hsd); (try clear hpd); (try clear hId); (try clear v59_3); (try clear v58_6); (try clear v59_2); (try clear nsZ); (try clear vsZ); (try clear mf5); (try clear mf4); (try clear mf3); (try clear mf2); (try clear mf1); (try clear mr); (try clear hY); (try clear o8); (try clear us); (try clear tk8); (try clear h8); (try clear hnl); (try clear hvl); (try clear hr9); (try clear hfb9); (try clear hfl9); (try clear hn9); (try clear hs9); (try clear hp9); (try clear hI9); (try clear l9); (try clear tk9); (try clear h9); (try clear cr); (try clear v58_5); (try clear v58_4); (try clear v58_3); (try clear v57_24); (try clear lxZ); (try clear l2Z); (try clear v57_22); (try clear t4Z); (try clear t3Z); (try clear t2Z); (try clear t1Z); (try clear h4Z); (try clear h3Z); (try clear h2Z); (try clear h1Z); (try clear v57_20); (try clear v57_19); (try clear v57_18); (try clear v57_17); (try clear v57_16); (try clear v57_15); (try clear v57_14); (try clear v57_13); (try clear v57_12); (try clear v57_11); (try clear v57_10); (try clear v57_9); (try clear v57_8); (try clear hbm); (try clear hZ7); (try clear mc8); (try clear mc7); (try clear mz7); (try clear my7); (try clear lits7); (try clear agn); (try clear o7); (try clear hzl); (try clear hg7); (try clear hl7); (try clear hnd7); (try clear hn7); (try clear hD7); (try clear nw); (try clear F7); (try clear tk7); (try clear h7); (try clear D7); (try clear hyl); (try clear hl5); (try clear oD); (try clear hjl); (try clear hP); (try clear hg4); (try clear hl4); (try clear hn4); (try clear hD4); (try clear dk4); (try clear tk4z55); (try clear h4z55); (try clear e1); (try clear hRz55); (try clear hr6z55); (try clear hr0z55); (try clear v1Z); (try clear u1Z); (try clear v57_5); (try clear rZ); (try clear v57_4); (try clear v56_1); (try clear ek); (try clear qk); (try clear hg6z55); (try clear hl6z55); (try clear hD6z55); (try clear v55_12); (try clear v55_11); (try clear dkZ); (try clear tZ); (try clear agd2); (try clear alg2); (try clear ald2); (try clear hn2); (try clear hD2); (try clear hG2); (try clear ladj2); (try clear hO2); (try clear cO2); (try clear imm2); (try clear dk2); (try clear tk2); (try clear h2); (try clear hR); (try clear hr6); (try clear hr0); (try clear v55_10); (try clear v55_9); (try clear v55_8); (try clear v55_7); (try clear v55_6); (try clear v55_5); (try clear v55_4); (try clear v55_3); (try clear hg6); (try clear hl6); (try clear hD6); (try clear v54_3); (try clear v54_2); (try clear v55_2); (try clear v55_1); (try clear hG); (try clear bts); (try clear agd); (try clear agm); (try clear alg); (try clear gr); (try clear imm1); (try clear alm); (try clear ald); (try clear v51b_1); (try clear ladj); (try clear adj); (try clear hO); (try clear cO); (try clear hA); (try clear cA); (try clear tA); (try clear kind); (try clear hn); (try clear hD); (try clear kb); (try clear recs); (try clear imm); (try clear g); (try clear dk); (try clear tk1); (try clear h1); (try clear dc1); (try clear dc2); (try clear mc1); (try clear mc2); (try clear lits); (try clear q1); (try clear q2); (try clear bl); (try clear oZ); (try clear v54_1); (try clear v50_29); (try clear v50_28); (try clear v50_27); (try clear v50_26); (try clear v57_3); (try clear v50_25); (try clear v50_24); (try clear tk5); (try clear h5); (try clear mk0); (try clear tk4); (try clear h4); (try clear t14); (try clear t13); (try clear t12); (try clear t11); (try clear t10); (try clear t9); (try clear t8); (try clear t7); (try clear t6); (try clear t5); (try clear t4); (try clear t3); (try clear t2); (try clear t1); (try clear ldx); (try clear lx); (try clear tk3); (try clear h3); (try clear dk0); (try clear d); (try clear hlen); (try clear X0); (try clear N0); (try clear v50_23); (try clear v50_22); (try clear oc1); (try clear oc2); (try clear F); (try clear tk₁); (try clear h₁); (try clear hDf); (try clear v50_21); (try clear v50_20); (try clear v50_19); (try clear hI); (try clear v50_18); (try clear v50_17); (try clear v50_16); (try clear hL); (try clear v50_15); (try clear v50_12); (try clear v50_11); (try clear v50_10); (try clear v50_9); (try clear v50_8); (try clear v50_7); (try clear v50_6); (try clear hcd); (try clear v50_4); (try clear M); (try clear v50_2); (try clear v50_1); (try clear TW); (try clear TE); (try clear B); (try clear V); (try clear X); (try clear ho); (try clear o); (try clear Y); (try clear G); revert w s₀ s₁ mg mb fa pm doc hg T v50_3 v50_5 v50_13 v50_14 K0 mm v57_1 v57_2 mk n p q hM bA rr gr2 adj2 n2 p2 agm2 r1 D ys n4 js zs dk7 n7 v57_6 v57_7 xZ dxZ v57_21 v58_1 lZ v57_23 v58_2 v57_25 D9 vr nr fr D8 v59_1 D10 v10 f10 v60_3 KX D11 v11 f11 DZ hZ FZ tkZ qkZ n12 a12 g12
  exact hCut.down⟩

def q61 : PSigma fun S : Prop => PLift S → q60.1 := ⟨_, fun hCut => by
  intro w s₀ s₁ mg mb fa pm doc hg T v50_3 v50_5 v50_13 v50_14 K0 mm v57_1 v57_2 mk n p q hM bA rr gr2 adj2 n2 p2 agm2 r1 D ys n4 js zs dk7 n7 v57_6 v57_7 xZ dxZ v57_21 v58_1 lZ v57_23 v58_2 v57_25 D9 vr nr fr D8 v59_1 D10 v10 f10 v60_3 KX D11 v11 f11 DZ hZ FZ tkZ qkZ n12 a12 g12
  revert KX; k_fill; intro KX
  refine' makeRowI (led := dk7 ++ (mk ++ gr2)) (lits := []) (dk := dk7) (mk := mk) (gr := gr2) (nb := 5) ?yB ?yF ?yX n12 ?yT ?yK hM Tail.nil Apart.nil a12 agm2 (by omega) (by omega) (by omega) ?yd ?yu ?_
  (case yB => k_asm)
  (case yF => k_asm)
  (case yX => k_asm)
  (case yT => k_asm)
  (case yK => first | exact rfl | assumption)
  (case yd => k_extra "ktr_room")
  (case yu => k_extra "ktr_units")
  intro xA dA cA' kA nA yA h1z61 h2z61 h3z61 h4z61 t1z61 t2z61 t3z61 t4z61 tnA tlA g1 g2 g3 g4 u1 u2 u3 u4 tkA ttA mkA hhA tkA' FA NA l0A l1A e1A e2A e3A e4A hMA _ hdA hgA
  have oA := null_off NA hMA (fun p hp => .tail _ (.tail _ (.tail _ (.tail _ (.tail _ (List.mem_append_right _ (List.mem_append_right _ (List.mem_append_left _ hp)))))))) (.tail _ (.tail _ (.tail _ (.head _)))) (.tail _ (.tail _ (.tail _ (.tail _ (.head _)))))
  have ox := allLt_off l1A
  have oy := allLt_off (allLt_trans l1A e3A)
  have oz := allLt_off (allLt_trans (allLt_trans l1A e3A) e4A)
  obtain ⟨grA, NA', sA, aA⟩ := obj_pack (nw := [_, _, _, _, _]) (dk := dk7) (mk := mkA) (gr := gr2) NA (Apart.cons (off_left (off_right oy)) (Apart.cons (off_left (off_right ox)) (Apart.cons (off_left (off_right oz)) (Apart.cons oA.1 (Apart.cons oA.2 Apart.nil))))) hgA
  have lA : HoldsB w grA xA (((5 : Nat) : Int) + 1) [.ref nA] := .row (sA _ (.head _)) (sA _ (.tail _ (.head _))) (sA _ (.tail _ (.tail _ (.head _)))) (by simp)
  have kxA : (xA, instObj 114 dA) ∈ grA := sA _ (.head _)
  have kdA := sA _ (.tail _ (.head _))
  have kcA := sA _ (.tail _ (.tail _ (.head _)))
  have dnA : Den grA (.ref nA) none := .leaf (sA _ (.tail _ (.tail _ (.tail _ (.head _))))) (sA _ (.tail _ (.tail _ (.tail _ (.tail _ (.head _)))))) (.inl rfl)
  have gGA := g12.mono (led' := grA) (fun p hp => sA p (List.mem_append_right _ hp))
  obtain ⟨mrA, mg1, mg2, mg3, mg4, mg5⟩ := mem_one hMA
  (try clear sA); (try clear n12); (try clear NA)
  k_sweep
  (try dsimp only)
  k_extra "k_steps"
  refine' makeDict (led := dk7 ++ (mkA ++ grA)) (lits := []) (dk := dk7) (mk := mkA) (gr := grA) (nb := 5 + 1) ?zB ?zF ?zX NA' ?zT ?zK hMA Tail.nil Apart.nil hdA aA (by omega) (by omega) (by omega) ?zd ?zu ?_
  (case zB => k_asm)
  (case zF => k_asm)
  (case zX => k_asm)
  (case zT => k_asm)
  (case zK => first | exact rfl | assumption)
  (case zd => k_extra "ktr_room")
  (case zu => k_extra "ktr_units")
  intro xB dB en i1 i2 i3 i4 i5 i6 r1z61 r2 r3 r4 r5 r6 taB tnB tlB mkB hhB tkB FB NB l1B e1B e2B loB hMB _ hdB hgB
  obtain ⟨NB', aB, lB⟩ := near_pack (dk := dk7) (mk := mkB) (gr := grA) NB l1B e1B e2B hgB
  obtain ⟨mrB, mp1, mp2, mp3, mp4, mp5⟩ := mem_one hMB
  (try clear NA'); (try clear NB)
  k_sweep
  (try dsimp only)
  k_extra "k_steps"
  refine' makeRowI (lits := []) (dk := dk7) (mk := mkB) (nb := 5 + 1 + 1) ?wB ?wF ?wX NB' ?wT ?wK hMB Tail.nil Apart.nil hdB aB (by omega) (by omega) (by omega) ?wd ?wu ?_
  (case wB => k_asm)
  (case wF => k_asm)
  (case wX => k_asm)
  (case wT => k_asm)
  (case wK => first | exact rfl | assumption)
  (case wd => k_extra "ktr_room")
  (case wu => k_extra "ktr_units")
  intro xC dC cC kC nC yC h1' h2' h3' h4' t1' t2' t3' t4' tnC tlC g1' g2' g3' g4' u1' u2' u3' u4' tkC ttC mkC hhC tkC' FC NC l0C l1C e1C e2C e3C e4C hMC _ hdC hgC
  rename_i v61_1 v61_2 v61_3
  (try clear hdC); (try clear v61_3); (try clear mp5); (try clear mp4); (try clear mp3); (try clear mp2); (try clear mp1); (try clear mrB); (try clear aB); (try clear NB'); (try clear hgB); (try clear hdB); (try clear v61_2); (try clear hMB); (try clear l1B); (try clear FB); (try clear mkB); (try clear mg5); (try clear mg4); (try clear mg3); (try clear mg2); (try clear mg1); (try clear mrA); (try clear aA); (try clear oz); (try clear oy); (try clear ox); (try clear oA); (try clear hgA); (try clear hdA); (try clear v61_1); (try clear hMA); (try clear e4A); (try clear e3A); (try clear e2A); (try clear e1A); (try clear l1A); (try clear l0A); (try clear hhA); (try clear mkA); (try clear ttA); (try clear tkA); (try clear u4); (try clear u3); (try clear u2); (try clear u1); (try clear g4); (try clear g3); (try clear g2); (try clear g1); (try clear g12); (try clear a12); (try clear tkZ); (try clear tk); (try clear l1Z); (try clear hZ); (try clear cZ); (try clear hz11); (try clear e11); (try clear hr11); (try clear hfl11); (try clear hn11); (try clear hs11); (try clear hp11); (try clear hI11); (try clear l11); (try clear tk11); (try clear h11); (try clear c11); (try clear i11); (try clear v60_6); (try clear v60_5); (try clear v60_4); (try clear hz10); (try clear e10); (try clear hr10); (try clear hfl10); (try clear hn10); (try clear hs10); (try clear hp10); (try clear hI10); (try clear l10); (try clear tk10); (try clear h10); (try clear c10); (try clear i10); (try clear v60_2); (try clear v60_1); (try clear v59_4); (try clear hsd); (try clear hpd); (try clear hId); (try clear v59_3); (try clear v58_6); (try clear v59_2); (try clear nsZ); (try clear vsZ); (try clear mf5); (try clear mf4); (try clear mf3); (try clear mf2); (try clear mf1); (try clear mr); (try clear hY); (try clear o8); (try clear us); (try clear tk8); (try clear h8); (try clear hnl); (try clear hvl); (try clear hr9); (try clear hfb9); (try clear hfl9); (try clear hn9); (try clear hs9); (try clear hp9); (try clear hI9); (try clear l9); (try clear tk9); (try clear h9); (try clear cr); (try clear v58_5); (try clear v58_4); (try clear v58_3); (try clear v57_24); (try clear lxZ); (try clear l2Z); (try clear v57_22); (try clear t4Z); (try clear t3Z); (try clear t2Z); (try clear t1Z); (try clear h4Z); (try clear h3Z); (try clear h2Z); (try clear h1Z); (try clear v57_20); (try clear v57_19); (try clear v57_18); (try clear v57_17); (try clear v57_16); (try clear v57_15); (try clear v57_14); (try clear v57_13); (try clear v57_12); (try clear v57_11); (try clear v57_10); (try clear v57_9); (try clear v57_8); (try clear hbm); (try clear hZ7); (try clear mc8); (try clear mc7); (try clear mz7); (try clear my7); (try clear lits7); (try clear agn); (try clear o7); (try clear hzl); (try clear hg7); (try clear hl7); (try clear hnd7); (try clear hn7); (try clear hD7); (try clear nw); (try clear F7); (try clear tk7); (try clear h7); (try clear D7); (try clear hyl); (try clear hl5); (try clear oD); (try clear hjl); (try clear hP); (try clear hg4); (try clear hl4); (try clear hn4); (try clear hD4); (try clear dk4); (try clear tk4z55); (try clear h4z55); (try clear e1); (try clear hRz55); (try clear hr6z55); (try clear hr0z55); (try clear v1Z); (try clear u1Z); (try clear v57_5); (try clear rZ); (try clear v57_4); (try clear v56_1); (try clear ek); (try clear qk); (try clear hg6z55); (try clear hl6z55); (try clear hD6z55); (try clear v55_12); (try clear v55_11); (try clear dkZ); (try clear tZ); (try clear agm2); (try clear agd2); (try clear alg2); (try clear ald2); (try clear hn2); (try clear hD2); (try clear hG2); (try clear ladj2); (try clear hO2); (try clear cO2); (try clear imm2); (try clear gr2); (try clear dk2); (try clear tk2); (try clear h2); (try clear hR); (try clear hr6); (try clear hr0); (try clear v55_10); (try clear v55_9); (try clear v55_8); (try clear v55_7); (try clear v55_6); (try clear v55_5); (try clear v55_4); (try clear v55_3); (try clear hg6); (try clear hl6); (try clear hD6); (try clear v54_3); (try clear v54_2); (try clear v55_2); (try clear v55_1); (try clear hG); (try clear bts); (try clear agd); (try clear agm); (try clear alg); (try clear gr); (try clear imm1); (try clear alm); (try clear ald); (try clear v51b_1); (try clear ladj); (try clear adj); (try clear hO); (try clear cO); (try clear hA); (try clear cA); (try clear tA); (try clear kind); (try clear hM); (try clear hn); (try clear hD); (try clear kb); (try clear recs); (try clear imm); (try clear g); (try clear mk); (try clear dk); (try clear tk1); (try clear h1); (try clear dc1); (try clear dc2); (try clear mc1); (try clear mc2); (try clear lits); (try clear q1); (try clear q2); (try clear bl); (try clear oZ); (try clear v54_1); (try clear v50_29); (try clear v50_28); (try clear v50_27); (try clear v50_26); (try clear v57_3); (try clear v50_25); (try clear v50_24); (try clear tk5); (try clear h5); (try clear mk0); (try clear tk4); (try clear h4); (try clear t14); (try clear t13); (try clear t12); (try clear t11); (try clear t10); (try clear t9); (try clear t8); (try clear t7); (try clear t6); (try clear t5); (try clear t4); (try clear t3); (try clear t2); (try clear t1); (try clear ldx); (try clear lx); (try clear tk3); (try clear h3); (try clear dk0); (try clear d); (try clear hlen); (try clear X0); (try clear N0); (try clear v50_23); (try clear v50_22); (try clear oc1); (try clear oc2); (try clear F); (try clear tk₁); (try clear h₁); (try clear hDf); (try clear v50_21); (try clear v50_20); (try clear v50_19); (try clear hI); (try clear v50_18); (try clear v50_17); (try clear v50_16); (try clear hL); (try clear v50_15); (try clear v50_12); (try clear v50_11); (try clear v50_10); (try clear v50_9); (try clear v50_8); (try clear v50_7); (try clear v50_6); (try clear hcd); (try clear v50_4); (try clear M); (try clear v50_2); (try clear v50_1); (try clear TW); (try clear TE); (try clear B); (try clear V); (try clear X); (try clear ho); (try clear o); (try clear Y); (try clear G); revert w s₀ s₁ mg mb fa pm doc hg T v50_3 v50_5 v50_13 v50_14 K0 mm v57_1 v57_2 n p q bA rr adj2 n2 p2 r1 D ys n4 js zs dk7 n7 v57_6 v57_7 xZ dxZ v57_21 v58_1 lZ v57_23 v58_2 v57_25 D9 vr nr fr D8 v59_1 D10 v10 f10 v60_3 D11 v11 f11 DZ qkZ KX xA dA cA' kA nA yA h1z61 h2z61 h3z61 h4z61 t1z61 t2z61 t3z61 t4z61 tnA tlA tkA' grA lA kxA kdA kcA dnA gGA xB dB en i1 i2 i3 i4 i5 i6 r1z61 r2 r3 r4 r5 r6 taB tnB tlB hhB tkB e1B e2B loB lB xC dC cC kC nC yC h1' h2' h3' h4' t1' t2' t3' t4' tnC tlC g1' g2' g3' g4' u1' u2' u3' u4' tkC ttC mkC hhC tkC' FC NC l0C l1C e1C e2C e3C e4C hMC hgC
  exact hCut.down⟩

def q62 : PSigma fun S : Prop => PLift S → q61.1 := ⟨_, fun hCut => by
  intro w s₀ s₁ mg mb fa pm doc hg T v50_3 v50_5 v50_13 v50_14 K0 mm v57_1 v57_2 n p q bA rr adj2 n2 p2 r1 D ys n4 js zs dk7 n7 v57_6 v57_7 xZ dxZ v57_21 v58_1 lZ v57_23 v58_2 v57_25 D9 vr nr fr D8 v59_1 D10 v10 f10 v60_3 D11 v11 f11 DZ qkZ KX xA dA cA' kA nA yA h1z61 h2z61 h3z61 h4z61 t1z61 t2z61 t3z61 t4z61 tnA tlA tkA' grA lA kxA kdA kcA dnA gGA xB dB en i1 i2 i3 i4 i5 i6 r1z61 r2 r3 r4 r5 r6 taB tnB tlB hhB tkB e1B e2B loB lB xC dC cC kC nC yC h1' h2' h3' h4' t1' t2' t3' t4' tnC tlC g1' g2' g3' g4' u1' u2' u3' u4' tkC ttC mkC hhC tkC' FC NC l0C l1C e1C e2C e3C e4C hMC hgC
  revert KX; k_fill; intro KX
  obtain ⟨immC, NI, oe, oc, hne, sI⟩ := fin_pack (dk := dk7) (mk := mkC) (gr := grA) NC lB e1B e2B (allLt_sub l1C (Sub.inr (Sub.inr Sub.refl))) (allLt_sub l0C (Sub.inr (Sub.inr Sub.refl))) e1C e2C e3C e4C (hgC _ (.tail _ (.tail _ (.head _))))
  have sM : Sub mkC immC := fun p hp => sI p (.tail _ (.tail _ (.tail _ (.tail _ (.tail _ (.tail _ (List.mem_append_left _ hp)))))))
  have sG : Sub grA immC := fun p hp => sI p (.tail _ (.tail _ (.tail _ (.tail _ (.tail _ (.tail _ (List.mem_append_right _ hp)))))))
  have mxC := sI _ (.head _)
  have mdC := sI _ (.tail _ (.head _))
  have mnC := sI _ (.tail _ (.tail _ (.head _)))
  have myC := sI _ (.tail _ (.tail _ (.tail _ (.head _))))
  have mxB := sI _ (.tail _ (.tail _ (.tail _ (.tail _ (.head _)))))
  have mdB := sI _ (.tail _ (.tail _ (.tail _ (.tail _ (.tail _ (.head _))))))
  have ixA := sG _ kxA
  have idA := sG _ kdA
  have icA := sG _ kcA
  have hA6 := lA.mono sG
  have dA6 := dnA.mono sG
  have gA6 := gGA.mono sG
  obtain ⟨mrC, mu1, mu2, mu3, mu4, mu5⟩ := mem_one hMC
  have iu1 := sM _ mu1
  have iu2 := sM _ mu2
  have iu3 := sM _ mu3
  have iu4 := sM _ mu4
  have iu5 := sM _ mu5
  (try clear hgC); (try clear lB); (try clear l1C); (try clear l0C); (try clear sI); (try clear NC)
  k_sweep
  (try dsimp only)
  k_extra "k_steps"
  rename_i v62_2 v62_3 v62_14 v62_18 v62_19 v62_20 v62_21 v62_22 v62_23 v62_24 v62_25 v62_26 v62_27 v62_28 v62_29 v62_30 v62_31 v62_32 v62_33 v62_34 v62_35 v62_36 v62_37 v62_38 v62_39 v62_40
  (try clear l2Z); (try clear l4Z); (try clear l3Z); (try clear v62_39); (try clear v62_36); (try clear v62_25); (try clear v62_24); (try clear v62_23); (try clear v62_22); (try clear v62_21); (try clear v62_19); (try clear mu5); (try clear mu4); (try clear mu3); (try clear mu2); (try clear mu1); (try clear icA); (try clear sG); (try clear hdC); (try clear v61_3); (try clear e4C); (try clear e3C); (try clear e2C); (try clear e1C); (try clear tkC'); (try clear hhC); (try clear mp5); (try clear mp4); (try clear mp3); (try clear mp2); (try clear mp1); (try clear mrB); (try clear aB); (try clear hgB); (try clear hdB); (try clear v61_2); (try clear hMB); (try clear e2B); (try clear e1B); (try clear l1B); (try clear tkB); (try clear hhB); (try clear mkB); (try clear mg5); (try clear mg4); (try clear mg3); (try clear mg2); (try clear mg1); (try clear mrA); (try clear gGA); (try clear dnA); (try clear kcA); (try clear kdA); (try clear kxA); (try clear lA); (try clear aA); (try clear grA); (try clear oz); (try clear oy); (try clear ox); (try clear oA); (try clear hgA); (try clear hdA); (try clear v61_1); (try clear hMA); (try clear e4A); (try clear e3A); (try clear e2A); (try clear e1A); (try clear l1A); (try clear l0A); (try clear hhA); (try clear mkA); (try clear ttA); (try clear tkA); (try clear u4); (try clear u3); (try clear u2); (try clear u1); (try clear g4); (try clear g3); (try clear g2); (try clear g1); (try clear kA); (try clear g12); (try clear a12); (try clear v62_18); (try clear tk); (try clear cZ); (try clear hz11); (try clear e11); (try clear hr11); (try clear hfl11); (try clear hn11); (try clear hs11); (try clear hp11); (try clear hI11); (try clear l11); (try clear tk11); (try clear h11); (try clear c11); (try clear i11); (try clear v60_6); (try clear v60_5); (try clear v60_4); (try clear hz10); (try clear e10); (try clear hr10); (try clear hfl10); (try clear hn10); (try clear hs10); (try clear hp10); (try clear hI10); (try clear l10); (try clear tk10); (try clear h10); (try clear c10); (try clear i10); (try clear v60_2); (try clear v60_1); (try clear v59_4); (try clear hsd); (try clear hpd); (try clear hId); (try clear v59_3); (try clear v58_6); (try clear v59_2); (try clear nsZ); (try clear vsZ); (try clear mf5); (try clear mf4); (try clear mf3); (try clear mf2); (try clear mf1); (try clear mr); (try clear hY); (try clear o8); (try clear us); (try clear tk8); (try clear h8); (try clear hnl); (try clear hvl); (try clear hr9); (try clear hfb9); (try clear hfl9); (try clear hn9); (try clear hs9); (try clear hp9); (try clear hI9); (try clear l9); (try clear tk9); (try clear h9); (try clear cr); (try clear v58_5); (try clear v58_4); (try clear v58_3); (try clear v57_24); (try clear v57_22); (try clear v57_20); (try clear v57_19); (try clear v57_18); (try clear v57_17); (try clear v57_16); (try clear v57_15); (try clear v57_14); (try clear v57_13); (try clear v57_12); (try clear v57_11); (try clear v57_10); (try clear v57_9); (try clear v57_8); (try clear hbm); (try clear hZ7); (try clear mc8); (try clear mc7); (try clear mz7); (try clear my7); (try clear lits7); (try clear agn); (try clear o7); (try clear hzl); (try clear hg7); (try clear hl7); (try clear hnd7); (try clear hn7); (try clear hD7); (try clear dk7); (try clear nw); (try clear F7); (try clear tk7); (try clear h7); (try clear D7); (try clear hyl); (try clear hl5); (try clear oD); (try clear hjl); (try clear hP); (try clear hg4); (try clear hl4); (try clear hn4); (try clear hD4); (try clear dk4); (try clear tk4z55); (try clear h4z55); (try clear e1); (try clear hRz55); (try clear hr6z55); (try clear hr0z55); (try clear u1Z); (try clear v57_5); (try clear rZ); (try clear v57_4); (try clear v56_1); (try clear ek); (try clear qk); (try clear hg6z55); (try clear hl6z55); (try clear hD6z55); (try clear v55_12); (try clear v55_11); (try clear dkZ); (try clear tZ); (try clear agm2); (try clear agd2); (try clear alg2); (try clear ald2); (try clear hn2); (try clear hD2); (try clear hG2); (try clear ladj2); (try clear hO2); (try clear cO2); (try clear imm2); (try clear gr2); (try clear dk2); (try clear tk2); (try clear h2); (try clear hR); (try clear hr6); (try clear hr0); (try clear v55_10); (try clear v55_9); (try clear v55_8); (try clear v55_7); (try clear v55_6); (try clear v55_5); (try clear v55_4); (try clear v55_3); (try clear hg6); (try clear hl6); (try clear hD6); (try clear v54_3); (try clear v54_2); (try clear v55_2); (try clear v55_1); (try clear hG); (try clear bts); (try clear agd); (try clear agm); (try clear alg); (try clear gr); (try clear imm1); (try clear alm); (try clear ald); (try clear v51b_1); (try clear ladj); (try clear adj); (try clear hO); (try clear cO); (try clear hA); (try clear cA); (try clear tA); (try clear kind); (try clear hM); (try clear hn); (try clear hD); (try clear kb); (try clear recs); (try clear imm); (try clear g); (try clear mk); (try clear dk); (try clear tk1); (try clear h1); (try clear dc1); (try clear dc2); (try clear mc1); (try clear mc2); (try clear lits); (try clear q1); (try clear q2); (try clear bl); (try clear oZ); (try clear v54_1); (try clear v50_29); (try clear v50_28); (try clear v50_27); (try clear v50_26); (try clear v57_3); (try clear v50_25); (try clear v50_24); (try clear tk5); (try clear h5); (try clear mk0); (try clear tk4); (try clear h4); (try clear t14); (try clear t13); (try clear t12); (try clear t11); (try clear t10); (try clear t9); (try clear t8); (try clear t7); (try clear t6); (try clear t5); (try clear t4); (try clear t3); (try clear t2); (try clear t1); (try clear ldx); (try clear lx); (try clear tk3); (try clear h3); (try clear dk0); (try clear d); (try clear hlen); (try clear X0); (try clear N0); (try clear v50_23); (try clear v50_22); (try clear oc1); (try clear oc2); (try clear F); (try clear tk₁); (try clear h₁); (try clear hDf); (try clear v50_21); (try clear v50_20); (try clear v50_19); (try clear hI); (try clear v50_18); (try clear v50_17); (try clear v50_16); (try clear hL); (try clear v50_15); (try clear v50_12); (try clear v50_11); (try clear v50_10); (try clear v50_9); (try clear v50_8); (try clear v50_7); (try clear v50_6); (try clear hcd); (try clear v50_4); (try clear M); (try clear v50_2); (try clear v50_1); (try clear TW); (try clear TE); (try clear B); (try clear V); (try clear X); (try clear ho); (try clear o); (try clear Y); (try clear G); revert w s₀ s₁ mg mb fa pm doc hg T v50_3 v50_5 v50_13 v50_14 K0 mm v57_1 v57_2 n p q bA rr adj2 n2 p2 r1 D ys n4 js zs n7 v57_6 v57_7 v62_2 v62_3 v57_21 v58_1 lZ v57_23 v58_2 v57_25 D9 vr nr fr D8 v59_1 D10 v10 f10 v60_3 D11 v11 f11 v62_14 xA dA cA' nA yA h1z61 h2z61 h3z61 h4z61 t1z61 t2z61 t3z61 t4z61 tnA tlA tkA' xB dB en i1 i2 i3 i4 i5 i6 r1z61 r2 r3 r4 r5 r6 taB tnB tlB loB xC dC cC kC nC yC h1' h2' h3' h4' t1' t2' t3' t4' tnC tlC g1' g2' g3' g4' u1' u2' u3' u4' tkC ttC mkC hMC KX immC oe oc hne sM mxC mdC mnC myC mxB mdB ixA idA hA6 dA6 gA6 mrC iu1 iu2 iu3 iu4 iu5 DZ v62_20 qkZ v62_26 v62_27 yZ dyZ ttZ v62_28 v62_29 v62_30 v62_31 v62_32 v62_33 v62_34 v62_35 tk1Z i1Z i2Z i3Z v1Z v2Z v3Z tzZ tlZ v62_37 v62_38 v62_40 lyZ lzZ xZ dxZ h1Z h2Z h3Z h4Z t1Z t2Z t3Z t4Z hZ tkZ FZ NZ l1Z lxZ
  exact hCut.down⟩

def q63 : PSigma fun S : Prop => PLift S → q62.1 := ⟨_, fun hCut => by
  intro w s₀ s₁ mg mb fa pm doc hg T v50_3 v50_5 v50_13 v50_14 K0 mm v57_1 v57_2 n p q bA rr adj2 n2 p2 r1 D ys n4 js zs n7 v57_6 v57_7 v62_2 v62_3 v57_21 v58_1 lZ v57_23 v58_2 v57_25 D9 vr nr fr D8 v59_1 D10 v10 f10 v60_3 D11 v11 f11 v62_14 xA dA cA' nA yA h1z61 h2z61 h3z61 h4z61 t1z61 t2z61 t3z61 t4z61 tnA tlA tkA' xB dB en i1 i2 i3 i4 i5 i6 r1z61 r2 r3 r4 r5 r6 taB tnB tlB loB xC dC cC kC nC yC h1' h2' h3' h4' t1' t2' t3' t4' tnC tlC g1' g2' g3' g4' u1' u2' u3' u4' tkC ttC mkC hMC KX immC oe oc hne sM mxC mdC mnC myC mxB mdB ixA idA hA6 dA6 gA6 mrC iu1 iu2 iu3 iu4 iu5 DZ v62_20 qkZ v62_26 v62_27 yZ dyZ ttZ v62_28 v62_29 v62_30 v62_31 v62_32 v62_33 v62_34 v62_35 tk1Z i1Z i2Z i3Z v1Z v2Z v3Z tzZ tlZ v62_37 v62_38 v62_40 lyZ lzZ xZ dxZ h1Z h2Z h3Z h4Z t1Z t2Z t3Z t4Z hZ tkZ FZ NZ l1Z lxZ
  revert KX; k_fill; intro KX
  refine' putEntry (mk := mkC) (xs := []) (n := 0) (en := en) (b := xB) (db := dB) (mo := 2) ?yB ?yF ?yX ?yN ?yT ?yK hMC ?ys ?yc loB (fun p hp => oe p (sM p hp)) ?y1 ?y2 ?yk (fun _ h => nomatch h) List.nodup_nil (by decide) (.inl ⟨rfl, by decide⟩) ?yd ?yu ?_
  (case yB => k_asm)
  (case yF => k_asm)
  (case yX => k_asm)
  (case yN => k_asm)
  (case yT => k_asm)
  (case yK => first | exact rfl | assumption)
  (case ys => exact Sub.skip (Sub.skip (Sub.skip (Sub.skip (Sub.skip (Sub.skip (Sub.skip (Sub.skip (Sub.skip sM)))))))))
  (case yc => k_extra "k_mem")
  (case y1 => k_extra "k_mem")
  (case y2 => k_extra "k_mem")
  (case yk => exact .arr (by k_extra "k_mem") (by k_extra "k_mem") (by k_extra "k_mem") (by k_extra "k_mem") (by k_extra "k_mem") (by k_extra "k_mem"))
  (case yd => k_extra "ktr_room")
  (case yu => k_extra "ktr_units")
  intro kt tt k9 tz us9 kept hh9 tk9' F9 N9 hI9' l1' l2' l3' hk9
  rcases hk9 with ⟨_, rfl⟩ | ⟨t0, th0, q, _⟩
  rotate_left
  · cases q
  obtain ⟨immD, NJ, oeD, ocD, sJ⟩ := entry_pack (nw := [_, _, _, _, _, _, _]) (o := kdict w [] 0) N9 oe oc hne (by
    intro p hp
    simp only [List.mem_cons, List.not_mem_nil, or_false] at hp
    rcases hp with rfl | rfl | rfl | rfl | rfl | rfl | rfl <;> exact ⟨neN (by dsimp only; omega), neN (by dsimp only; omega)⟩) l1' l2' l3'
  have sI2 : Sub immC immD := fun p hp => sJ p (.tail _ (.tail _ (List.mem_append_right _ hp)))
  have mtt := sJ _ (.head _)
  have mkt := sJ _ (.tail _ (.head _))
  have dV6 : Den immD (.ref _) none := .leaf (sJ _ (.tail _ (.tail _ (.head _)))) (sJ _ (.tail _ (.tail _ (.tail _ (.head _))))) (.inl rfl)
  have dK6 : Den immD (.ref _) (some xA) := .span (sJ _ (.tail _ (.tail _ (.tail _ (.tail _ (.head _)))))) (sJ _ (.tail _ (.tail _ (.tail _ (.tail _ (.tail _ (.head _))))))) (sJ _ (.tail _ (.tail _ (.tail _ (.tail _ (.tail _ (.tail _ (.head _)))))))) (sJ _ (.tail _ (.tail _ (.tail _ (.tail _ (.tail _ (.tail _ (.tail _ (.head _))))))))) (.inl rfl)
  have hA7 := hA6.mono sI2
  have dA7 := dA6.mono sI2
  have gA7 := gA6.mono sI2
  have jxC := sI2 _ mxC
  have jdC := sI2 _ mdC
  have jxB := sI2 _ mxB
  have jdB := sI2 _ mdB
  have jnC := sI2 _ mnC
  have jyC := sI2 _ myC
  have ju1 := sI2 _ iu1
  have ju2 := sI2 _ iu2
  have ju3 := sI2 _ iu3
  have ju4 := sI2 _ iu4
  have ju5 := sI2 _ iu5
  have sM2 : Sub mkC immD := fun p hp => sI2 p (sM p hp)
  (try clear sJ); (try clear N9)
  k_sweep
  (try dsimp only)
  k_extra "k_steps"
  rename_i v63_1 v63_2 v63_3 v63_4 v63_5 v63_6 v63_7 v63_8 v63_9 v63_10 v63_11 v63_12 v63_13 v63_14 v63_15 v63_16 v63_18 v63_19 v63_20
  (try clear l2Z); (try clear sI2); (try clear v63_19); (try clear l3'); (try clear l2'); (try clear l1'); (try clear tk9'); (try clear hh9); (try clear v63_18); (try clear v63_16); (try clear v63_15); (try clear v63_14); (try clear v63_13); (try clear v63_12); (try clear v63_11); (try clear v63_10); (try clear v63_9); (try clear v63_8); (try clear v63_7); (try clear v63_6); (try clear lzZ); (try clear lyZ); (try clear v62_40); (try clear l4Z); (try clear l3Z); (try clear v62_39); (try clear v62_38); (try clear v62_37); (try clear v62_36); (try clear tlZ); (try clear tzZ); (try clear v3Z); (try clear v2Z); (try clear v1Z); (try clear i3Z); (try clear i2Z); (try clear i1Z); (try clear v63_3); (try clear v62_35); (try clear v62_34); (try clear v62_33); (try clear v62_32); (try clear v62_31); (try clear v62_30); (try clear v62_29); (try clear v62_28); (try clear v63_2); (try clear v63_1); (try clear v62_25); (try clear v62_24); (try clear v62_23); (try clear v62_22); (try clear v62_21); (try clear v62_20); (try clear v62_19); (try clear iu5); (try clear iu4); (try clear iu3); (try clear iu2); (try clear iu1); (try clear mu5); (try clear mu4); (try clear mu3); (try clear mu2); (try clear mu1); (try clear gA6); (try clear dA6); (try clear hA6); (try clear icA); (try clear idA); (try clear ixA); (try clear mdB); (try clear mxB); (try clear myC); (try clear mnC); (try clear mdC); (try clear mxC); (try clear sG); (try clear sM); (try clear oc); (try clear oe); (try clear immC); (try clear hdC); (try clear v61_3); (try clear e4C); (try clear e3C); (try clear e2C); (try clear e1C); (try clear tkC'); (try clear hhC); (try clear mp5); (try clear mp4); (try clear mp3); (try clear mp2); (try clear mp1); (try clear mrB); (try clear aB); (try clear hgB); (try clear hdB); (try clear v61_2); (try clear hMB); (try clear e2B); (try clear e1B); (try clear l1B); (try clear tkB); (try clear hhB); (try clear mkB); (try clear mg5); (try clear mg4); (try clear mg3); (try clear mg2); (try clear mg1); (try clear mrA); (try clear gGA); (try clear dnA); (try clear kcA); (try clear kdA); (try clear kxA); (try clear lA); (try clear aA); (try clear grA); (try clear oz); (try clear oy); (try clear ox); (try clear oA); (try clear hgA); (try clear hdA); (try clear v61_1); (try clear hMA); (try clear e4A); (try clear e3A); (try clear e2A); (try clear e1A); (try clear l1A); (try clear l0A); (try clear hhA); (try clear mkA); (try clear ttA); (try clear tkA); (try clear u4); (try clear u3); (try clear u2); (try clear u1); (try clear g4); (try clear g3); (try clear g2); (try clear g1); (try clear tlA); (try clear tnA); (try clear t4z61); (try clear t3z61); (try clear t2z61); (try clear t1z61); (try clear h4z61); (try clear h3z61); (try clear h2z61); (try clear h1z61); (try clear kA); (try clear g12); (try clear a12); (try clear v62_18); (try clear v62_17); (try clear tk); (try clear v62_16); (try clear v62_15); (try clear cZ); (try clear hz11); (try clear e11); (try clear hr11); (try clear hfl11); (try clear hn11); (try clear hs11); (try clear hp11); (try clear hI11); (try clear l11); (try clear tk11); (try clear h11); (try clear c11); (try clear i11); (try clear v60_6); (try clear v60_5); (try clear v60_4); (try clear hz10); (try clear e10); (try clear hr10); (try clear hfl10); (try clear hn10); (try clear hs10); (try clear hp10); (try clear hI10); (try clear l10); (try clear tk10); (try clear h10); (try clear c10); (try clear i10); (try clear v60_2); (try clear v60_1); (try clear v59_4); (try clear hsd); (try clear hpd); (try clear hId); (try clear v59_3); (try clear v58_6); (try clear v59_2); (try clear nsZ); (try clear vsZ); (try clear mf5); (try clear mf4); (try clear mf3); (try clear mf2); (try clear mf1); (try clear mr); (try clear hY); (try clear o8); (try clear us); (try clear tk8); (try clear h8); (try clear hnl); (try clear hvl); (try clear hr9); (try clear hfb9); (try clear hfl9); (try clear hn9); (try clear hs9); (try clear hp9); (try clear hI9); (try clear l9); (try clear tk9); (try clear h9); (try clear cr); (try clear v58_5); (try clear v58_4); (try clear v58_3); (try clear v57_24); (try clear v62_13); (try clear v62_12); (try clear v57_22); (try clear v62_11); (try clear v62_10); (try clear v62_9); (try clear v62_8); (try clear v62_7); (try clear v62_6); (try clear v62_5); (try clear v62_4); (try clear v57_20); (try clear v57_19); (try clear v57_18); (try clear v57_17); (try clear v57_16); (try clear v57_15); (try clear v57_14); (try clear v57_13); (try clear v57_12); (try clear v57_11); (try clear v57_10); (try clear v57_9); (try clear v57_8); (try clear hbm); (try clear hZ7); (try clear mc8); (try clear mc7); (try clear mz7); (try clear my7); (try clear lits7); (try clear agn); (try clear o7); (try clear hzl); (try clear hg7); (try clear hl7); (try clear hnd7); (try clear hn7); (try clear hD7); (try clear dk7); (try clear nw); (try clear F7); (try clear tk7); (try clear h7); (try clear D7); (try clear hyl); (try clear hl5); (try clear oD); (try clear hjl); (try clear hP); (try clear hg4); (try clear hl4); (try clear hn4); (try clear hD4); (try clear dk4); (try clear tk4z55); (try clear h4z55); (try clear e1); (try clear hRz55); (try clear hr6z55); (try clear hr0z55); (try clear v62_1); (try clear u1Z); (try clear v57_5); (try clear rZ); (try clear v57_4); (try clear v56_1); (try clear ek); (try clear qk); (try clear hg6z55); (try clear hl6z55); (try clear hD6z55); (try clear v55_12); (try clear v55_11); (try clear dkZ); (try clear tZ); (try clear agm2); (try clear agd2); (try clear alg2); (try clear ald2); (try clear hn2); (try clear hD2); (try clear hG2); (try clear ladj2); (try clear hO2); (try clear cO2); (try clear imm2); (try clear gr2); (try clear dk2); (try clear tk2); (try clear h2); (try clear hR); (try clear hr6); (try clear hr0); (try clear v55_10); (try clear v55_9); (try clear v55_8); (try clear v55_7); (try clear v55_6); (try clear v55_5); (try clear v55_4); (try clear v55_3); (try clear hg6); (try clear hl6); (try clear hD6); (try clear v54_3); (try clear v54_2); (try clear v55_2); (try clear v55_1); (try clear hG); (try clear bts); (try clear agd); (try clear agm); (try clear alg); (try clear gr); (try clear imm1); (try clear alm); (try clear ald); (try clear v51b_1); (try clear ladj); (try clear adj); (try clear hO); (try clear cO); (try clear hA); (try clear cA); (try clear tA); (try clear kind); (try clear hM); (try clear hn); (try clear hD); (try clear kb); (try clear recs); (try clear imm); (try clear g); (try clear mk); (try clear dk); (try clear tk1); (try clear h1); (try clear dc1); (try clear dc2); (try clear mc1); (try clear mc2); (try clear lits); (try clear q1); (try clear q2); (try clear bl); (try clear oZ); (try clear v54_1); (try clear v50_29); (try clear v50_28); (try clear v50_27); (try clear v50_26); (try clear v57_3); (try clear v50_25); (try clear v50_24); (try clear tk5); (try clear h5); (try clear mk0); (try clear tk4); (try clear h4); (try clear t14); (try clear t13); (try clear t12); (try clear t11); (try clear t10); (try clear t9); (try clear t8); (try clear t7); (try clear t6); (try clear t5); (try clear t4); (try clear t3); (try clear t2); (try clear t1); (try clear ldx); (try clear lx); (try clear tk3); (try clear h3); (try clear dk0); (try clear d); (try clear hlen); (try clear X0); (try clear N0); (try clear v50_23); (try clear v50_22); (try clear oc1); (try clear oc2); (try clear F); (try clear tk₁); (try clear h₁); (try clear hDf); (try clear v50_21); (try clear v50_20); (try clear v50_19); (try clear hI); (try clear v50_18); (try clear v50_17); (try clear v50_16); (try clear hL); (try clear v50_15); (try clear v50_12); (try clear v50_11); (try clear v50_10); (try clear v50_9); (try clear v50_8); (try clear v50_7); (try clear v50_6); (try clear hcd); (try clear v50_4); (try clear M); (try clear v50_2); (try clear v50_1); (try clear TW); (try clear TE); (try clear B); (try clear V); (try clear X); (try clear ho); (try clear o); (try clear Y); (try clear G); revert w s₀ s₁ mg mb fa pm doc hg T v50_3 v50_5 v50_13 v50_14 K0 mm v57_1 v57_2 n p q bA rr adj2 n2 p2 r1 D ys n4 js zs n7 v57_6 v57_7 v62_2 v62_3 v57_21 v58_1 lZ v57_23 v58_2 v57_25 D9 vr nr fr D8 v59_1 D10 v10 f10 v60_3 D11 v11 f11 v62_14 xA dA cA' nA yA tkA' xB dB en i1 i2 i3 i4 i5 i6 r1z61 r2 r3 r4 r5 r6 taB tnB tlB loB xC dC cC kC nC yC h1' h2' h3' h4' t1' t2' t3' t4' tnC tlC g1' g2' g3' g4' u1' u2' u3' u4' tkC ttC mkC hMC hne mrC DZ v62_26 v62_27 yZ dyZ v63_4 v63_5 KX kt tt k9 tz us9 hI9' immD oeD ocD mtt mkt dV6 dK6 hA7 dA7 gA7 jxC jdC jxB jdB jnC jyC ju1 ju2 ju3 ju4 ju5 sM2 v63_20 qkZ xZ dxZ ttZ h1Z h2Z h3Z h4Z t1Z t2Z t3Z t4Z tk1Z hZ tkZ FZ NZ l1Z lxZ
  exact hCut.down⟩

def q64 : PSigma fun S : Prop => PLift S → q63.1 := ⟨_, fun hCut => by
  intro w s₀ s₁ mg mb fa pm doc hg T v50_3 v50_5 v50_13 v50_14 K0 mm v57_1 v57_2 n p q bA rr adj2 n2 p2 r1 D ys n4 js zs n7 v57_6 v57_7 v62_2 v62_3 v57_21 v58_1 lZ v57_23 v58_2 v57_25 D9 vr nr fr D8 v59_1 D10 v10 f10 v60_3 D11 v11 f11 v62_14 xA dA cA' nA yA tkA' xB dB en i1 i2 i3 i4 i5 i6 r1z61 r2 r3 r4 r5 r6 taB tnB tlB loB xC dC cC kC nC yC h1' h2' h3' h4' t1' t2' t3' t4' tnC tlC g1' g2' g3' g4' u1' u2' u3' u4' tkC ttC mkC hMC hne mrC DZ v62_26 v62_27 yZ dyZ v63_4 v63_5 KX kt tt k9 tz us9 hI9' immD oeD ocD mtt mkt dV6 dK6 hA7 dA7 gA7 jxC jdC jxB jdB jnC jyC ju1 ju2 ju3 ju4 ju5 sM2 v63_20 qkZ xZ dxZ ttZ h1Z h2Z h3Z h4Z t1Z t2Z t3Z t4Z tk1Z hZ tkZ FZ NZ l1Z lxZ
  revert KX; k_fill; intro KX
  refine' putItem (mk := mkC) (b := xC) (db := dC) (c := cC) ?yB ?yF ?yX ?yN ?yT ?yK hMC ?ys ?yc ?y1 ?y2 (fun p hp => ocD p (sM2 p hp)) (by decide) ?yl ?yz ?yd ?yu ?_
  (case yB => k_asm)
  (case yF => k_asm)
  (case yX => k_asm)
  (case yN => k_asm)
  (case yT => k_asm)
  (case yK => first | exact rfl | assumption)
  (case ys => exact Sub.skip (Sub.skip (Sub.skip (Sub.skip sM2))))
  (case yc => k_extra "k_mem")
  (case y1 => k_extra "k_mem")
  (case y2 => k_extra "k_mem")
  (case yl => exact (by decide : (1 : Int) < ((2 : Nat) : Int)))
  (case yz => exact (by decide : 2 < 1000))
  (case yd => k_extra "ktr_room")
  (case yu => k_extra "ktr_units")
  intro k10 hh10 tk10' F10' N10'
  obtain ⟨imm3, NK, oe3, oc3, sK⟩ := item_pack (nw := [_, _]) N10' oeD ocD hne (by
    intro p hp
    simp only [List.mem_cons, List.not_mem_nil, or_false] at hp
    rcases hp with rfl | rfl <;> exact ⟨neN (by dsimp only; omega), neN (by dsimp only; omega)⟩)
  have sI3 : Sub immD imm3 := fun p hp => sK p (List.mem_append_right _ hp)
  have dT8 : Den imm3 (.ref _) (some xB) := .dict (sK _ (.head _)) (sK _ (.tail _ (.head _)))
  obtain ⟨base, hbase, v5, v6, v7, v8⟩ := last3 NK sI3 hA7 dA7 gA7 jxB jdB loB mkt hI9' (by decide +kernel) mtt dK6 dV6 jxC jdC (.leaf jnC jyC (.inl rfl)) dT8
  rw [hbase] at v5 v6 v7 v8
  (try clear hbase)
  have vxC := sI3 _ jxC
  have vdC := sI3 _ jdC
  have vu1 := sI3 _ ju1
  have vu2 := sI3 _ ju2
  have vu3 := sI3 _ ju3
  have vu4 := sI3 _ ju4
  have vu5 := sI3 _ ju5
  have gA8 := gA7.mono sI3
  (try clear sK); (try clear N10')
  k_sweep
  (try dsimp only)
  k_extra "k_steps"
  rename_i v64_1 v64_2 v64_3 v64_16 v64_17 v64_18 v64_19 v64_20 v64_21 v64_22 v64_23 v64_24 v64_25 v64_26 v64_27 v64_28 v64_29 v64_30 v64_31 v64_33 v64_34 v64_35 v64_36
  (try clear l1Z); (try clear lzZ); (try clear lyZ); (try clear lxZ); (try clear l4Z); (try clear l3Z); (try clear l2Z); (try clear v64_36); (try clear v64_35); (try clear v64_34); (try clear vu5); (try clear vu4); (try clear vu3); (try clear v7); (try clear base); (try clear dT8); (try clear sI3); (try clear oc3); (try clear oe3); (try clear tk10'); (try clear hh10); (try clear v64_33); (try clear v64_31); (try clear v64_30); (try clear v64_29); (try clear v64_28); (try clear v64_27); (try clear v64_26); (try clear v64_25); (try clear v64_24); (try clear v64_23); (try clear v64_22); (try clear v64_21); (try clear v64_20); (try clear v64_19); (try clear v64_16); (try clear v63_20); (try clear sM2); (try clear ju5); (try clear ju4); (try clear ju3); (try clear ju2); (try clear ju1); (try clear jyC); (try clear jnC); (try clear jdB); (try clear jxB); (try clear jdC); (try clear jxC); (try clear gA7); (try clear dA7); (try clear hA7); (try clear dK6); (try clear dV6); (try clear mkt); (try clear mtt); (try clear sI2); (try clear ocD); (try clear oeD); (try clear immD); (try clear v63_19); (try clear l3'); (try clear l2'); (try clear l1'); (try clear hI9'); (try clear tk9'); (try clear hh9); (try clear us9); (try clear tz); (try clear v63_18); (try clear v63_17); (try clear v63_16); (try clear v63_15); (try clear v63_14); (try clear v63_13); (try clear v63_12); (try clear v63_11); (try clear v63_10); (try clear v63_9); (try clear v63_8); (try clear v63_7); (try clear v63_6); (try clear v62_40); (try clear v62_39); (try clear v62_38); (try clear v62_37); (try clear v62_36); (try clear v63_3); (try clear v62_35); (try clear v62_34); (try clear v62_33); (try clear v62_32); (try clear v62_31); (try clear v62_30); (try clear v62_29); (try clear v62_28); (try clear v63_2); (try clear v63_1); (try clear v62_25); (try clear v62_24); (try clear v62_23); (try clear v62_22); (try clear v62_21); (try clear v62_20); (try clear v62_19); (try clear iu5); (try clear iu4); (try clear iu3); (try clear iu2); (try clear iu1); (try clear mu5); (try clear mu4); (try clear mu3); (try clear mu2); (try clear mu1); (try clear gA6); (try clear dA6); (try clear hA6); (try clear icA); (try clear idA); (try clear ixA); (try clear mdB); (try clear mxB); (try clear myC); (try clear mnC); (try clear mdC); (try clear mxC); (try clear sG); (try clear sM); (try clear hne); (try clear oc); (try clear oe); (try clear immC); (try clear hdC); (try clear v61_3); (try clear hMC); (try clear e4C); (try clear e3C); (try clear e2C); (try clear e1C); (try clear tkC'); (try clear hhC); (try clear mkC); (try clear ttC); (try clear tkC); (try clear u4'); (try clear u3'); (try clear u2'); (try clear u1'); (try clear g4'); (try clear g3'); (try clear g2'); (try clear g1'); (try clear kC); (try clear mp5); (try clear mp4); (try clear mp3); (try clear mp2); (try clear mp1); (try clear mrB); (try clear aB); (try clear hgB); (try clear hdB); (try clear v61_2); (try clear hMB); (try clear loB); (try clear e2B); (try clear e1B); (try clear l1B); (try clear tkB); (try clear hhB); (try clear mkB); (try clear tlB); (try clear tnB); (try clear taB); (try clear r6); (try clear r5); (try clear r4); (try clear r3); (try clear r2); (try clear r1z61); (try clear i6); (try clear i5); (try clear i4); (try clear i3); (try clear i2); (try clear i1); (try clear mg5); (try clear mg4); (try clear mg3); (try clear mg2); (try clear mg1); (try clear mrA); (try clear gGA); (try clear dnA); (try clear kcA); (try clear kdA); (try clear kxA); (try clear lA); (try clear aA); (try clear grA); (try clear oz); (try clear oy); (try clear ox); (try clear oA); (try clear hgA); (try clear hdA); (try clear v61_1); (try clear hMA); (try clear e4A); (try clear e3A); (try clear e2A); (try clear e1A); (try clear l1A); (try clear l0A); (try clear tkA'); (try clear hhA); (try clear mkA); (try clear ttA); (try clear tkA); (try clear u4); (try clear u3); (try clear u2); (try clear u1); (try clear g4); (try clear g3); (try clear g2); (try clear g1); (try clear tlA); (try clear tnA); (try clear t4z61); (try clear t3z61); (try clear t2z61); (try clear t1z61); (try clear h4z61); (try clear h3z61); (try clear h2z61); (try clear h1z61); (try clear kA); (try clear g12); (try clear a12); (try clear v62_18); (try clear v62_17); (try clear tk); (try clear v62_16); (try clear v62_15); (try clear cZ); (try clear hz11); (try clear e11); (try clear hr11); (try clear hfl11); (try clear hn11); (try clear hs11); (try clear hp11); (try clear hI11); (try clear l11); (try clear tk11); (try clear h11); (try clear c11); (try clear i11); (try clear v60_6); (try clear v60_5); (try clear v60_4); (try clear hz10); (try clear e10); (try clear hr10); (try clear hfl10); (try clear hn10); (try clear hs10); (try clear hp10); (try clear hI10); (try clear l10); (try clear tk10); (try clear h10); (try clear c10); (try clear i10); (try clear v60_2); (try clear v60_1); (try clear v59_4); (try clear hsd); (try clear hpd); (try clear hId); (try clear v59_3); (try clear v58_6); (try clear v59_2); (try clear nsZ); (try clear vsZ); (try clear mf5); (try clear mf4); (try clear mf3); (try clear mf2); (try clear mf1); (try clear mr); (try clear hY); (try clear o8); (try clear us); (try clear tk8); (try clear h8); (try clear hnl); (try clear hvl); (try clear hr9); (try clear hfb9); (try clear hfl9); (try clear hn9); (try clear hs9); (try clear hp9); (try clear hI9); (try clear l9); (try clear tk9); (try clear h9); (try clear cr); (try clear v58_5); (try clear v58_4); (try clear v58_3); (try clear v57_24); (try clear v62_13); (try clear v62_12); (try clear v57_22); (try clear v62_11); (try clear v62_10); (try clear v62_9); (try clear v62_8); (try clear v62_7); (try clear v62_6); (try clear v62_5); (try clear v62_4); (try clear v57_20); (try clear v57_19); (try clear v57_18); (try clear v57_17); (try clear v57_16); (try clear v57_15); (try clear v57_14); (try clear v57_13); (try clear v57_12); (try clear v57_11); (try clear v57_10); (try clear v57_9); (try clear v57_8); (try clear hbm); (try clear hZ7); (try clear mc8); (try clear mc7); (try clear mz7); (try clear my7); (try clear lits7); (try clear agn); (try clear o7); (try clear hzl); (try clear hg7); (try clear hl7); (try clear hnd7); (try clear hn7); (try clear hD7); (try clear dk7); (try clear nw); (try clear F7); (try clear tk7); (try clear h7); (try clear D7); (try clear hyl); (try clear hl5); (try clear oD); (try clear hjl); (try clear hP); (try clear hg4); (try clear hl4); (try clear hn4); (try clear hD4); (try clear dk4); (try clear tk4z55); (try clear h4z55); (try clear e1); (try clear hRz55); (try clear hr6z55); (try clear hr0z55); (try clear v62_1); (try clear u1Z); (try clear v57_5); (try clear rZ); (try clear v57_4); (try clear v56_1); (try clear ek); (try clear qk); (try clear hg6z55); (try clear hl6z55); (try clear hD6z55); (try clear v55_12); (try clear v55_11); (try clear dkZ); (try clear tZ); (try clear agm2); (try clear agd2); (try clear alg2); (try clear ald2); (try clear hn2); (try clear hD2); (try clear hG2); (try clear ladj2); (try clear hO2); (try clear cO2); (try clear imm2); (try clear gr2); (try clear dk2); (try clear tk2); (try clear h2); (try clear hR); (try clear hr6); (try clear hr0); (try clear v55_10); (try clear v55_9); (try clear v55_8); (try clear v55_7); (try clear v55_6); (try clear v55_5); (try clear v55_4); (try clear v55_3); (try clear hg6); (try clear hl6); (try clear hD6); (try clear v54_3); (try clear v54_2); (try clear v55_2); (try clear v55_1); (try clear hG); (try clear bts); (try clear agd); (try clear agm); (try clear alg); (try clear gr); (try clear imm1); (try clear alm); (try clear ald); (try clear v51b_1); (try clear ladj); (try clear adj); (try clear hO); (try clear cO); (try clear hA); (try clear cA); (try clear tA); (try clear kind); (try clear hM); (try clear hn); (try clear hD); (try clear kb); (try clear recs); (try clear imm); (try clear g); (try clear mk); (try clear dk); (try clear tk1); (try clear h1); (try clear dc1); (try clear dc2); (try clear mc1); (try clear mc2); (try clear lits); (try clear q1); (try clear q2); (try clear bl); (try clear oZ); (try clear v54_1); (try clear v50_29); (try clear v50_28); (try clear v50_27); (try clear v50_26); (try clear v57_3); (try clear v50_25); (try clear v50_24); (try clear tk5); (try clear h5); (try clear mk0); (try clear tk4); (try clear h4); (try clear t14); (try clear t13); (try clear t12); (try clear t11); (try clear t10); (try clear t9); (try clear t8); (try clear t7); (try clear t6); (try clear t5); (try clear t4); (try clear t3); (try clear t2); (try clear t1); (try clear ldx); (try clear lx); (try clear tk3); (try clear h3); (try clear dk0); (try clear d); (try clear hlen); (try clear X0); (try clear N0); (try clear v50_23); (try clear v50_22); (try clear oc1); (try clear oc2); (try clear F); (try clear tk₁); (try clear h₁); (try clear hDf); (try clear v50_21); (try clear v50_20); (try clear v50_19); (try clear hI); (try clear v50_18); (try clear v50_17); (try clear v50_16); (try clear hL); (try clear v50_15); (try clear v50_12); (try clear v50_11); (try clear v50_10); (try clear v50_9); (try clear v50_8); (try clear v50_7); (try clear v50_6); (try clear hcd); (try clear v50_4); (try clear M); (try clear v50_2); (try clear v50_1); (try clear TW); (try clear TE); (try clear B); (try clear V); (try clear X); (try clear ho); (try clear o); (try clear Y); (try clear G); revert w s₀ s₁ mg mb fa pm doc hg T v50_3 v50_5 v50_13 v50_14 K0 mm v57_1 v57_2 n p q bA rr adj2 n2 p2 r1 D ys n4 js zs n7 v57_6 v57_7 v62_2 v62_3 v57_21 v58_1 v64_1 v57_23 v58_2 v57_25 D9 vr nr fr D8 v59_1 D10 v10 f10 v60_3 D11 v11 f11 v62_14 xA dA cA' nA yA xB dB en xC dC cC nC yC h1' h2' h3' h4' t1' t2' t3' t4' tnC tlC mrC DZ v62_26 v62_27 v64_2 v64_3 v63_4 v63_5 kt tt k9 v64_17 v64_18 KX k10 imm3 v5 v6 v8 vxC vdC vu1 vu2 gA8 qkZ xZ dxZ yZ dyZ ttZ h1Z h2Z h3Z h4Z t1Z t2Z t3Z t4Z tk1Z i1Z i2Z i3Z v1Z v2Z v3Z tzZ tlZ tkZ lZ hZ FZ NZ
  exact hCut.down⟩

def q65 : PSigma fun S : Prop => PLift S → q64.1 := ⟨_, fun hCut => by
  intro w s₀ s₁ mg mb fa pm doc hg T v50_3 v50_5 v50_13 v50_14 K0 mm v57_1 v57_2 n p q bA rr adj2 n2 p2 r1 D ys n4 js zs n7 v57_6 v57_7 v62_2 v62_3 v57_21 v58_1 v64_1 v57_23 v58_2 v57_25 D9 vr nr fr D8 v59_1 D10 v10 f10 v60_3 D11 v11 f11 v62_14 xA dA cA' nA yA xB dB en xC dC cC nC yC h1' h2' h3' h4' t1' t2' t3' t4' tnC tlC mrC DZ v62_26 v62_27 v64_2 v64_3 v63_4 v63_5 kt tt k9 v64_17 v64_18 KX k10 imm3 v5 v6 v8 vxC vdC vu1 vu2 gA8 qkZ xZ dxZ yZ dyZ ttZ h1Z h2Z h3Z h4Z t1Z t2Z t3Z t4Z tk1Z i1Z i2Z i3Z v1Z v2Z v3Z tzZ tlZ tkZ lZ hZ FZ NZ
  revert KX; k_fill; intro KX
  refine' collect (rvs := [_]) (rs := [some 7]) (bA := bA3 bA xA xB xC) (adj := adj3 adj2) (n := 8) ?yB ?yF ?yX ?yN ?yT ?yK ?yr ?yR ?yG ?yn ?yz ?yd ?yu ?_
  (case yB => k_asm)
  (case yF => k_asm)
  (case yX => k_asm)
  (case yN => k_asm)
  (case yT => k_asm)
  (case yK => first | exact rfl | assumption)
  (case yr => k_extra "k_mem")
  (case yR => exact .cons ⟨(fun k e => by cases e; omega), .span (b := xC) (by k_extra "k_mem") (by k_extra "k_mem") (by k_extra "k_mem") (by k_extra "k_mem") (.inl rfl)⟩ .nil)
  (case yG => exact v8.mono (by k_extra "kqd_sub"))
  (case yn => omega)
  (case yz => exact (by decide : 1 ≤ 1000))
  (case yd => k_extra "ktr_room")
  (case yu => k_extra "ktr_units")
  intro D12 v12 i12 c12 f12 h12 tk12 F12 N12 l12 hI12 hp12 hs12 hn12 hfl12 hr12
  have e12 : Told [((5 : Nat) : Int) + 1, ((6 : Nat) : Int) + 1, ((7 : Nat) : Int) + 1] i12 := fun nd p q => told_top hp12 hs12 hn12 hr12 p q
  have hz12 : v12.length ≤ 8 := by have := hI12.length; have := hp12.length_eq; simp at this; omega
  (try simp only [List.cons_append, List.nil_append, AllLt, and_true] at l12)
  k_sweep
  (try dsimp only)
  k_extra "k_steps"
  rename_i v65_6 v65_7 v65_8 v65_9 v65_10 v65_11 v65_12 v65_13 v65_14 v65_15 v65_16 v65_17 v65_18 v65_21 v65_22 v65_24 v65_25 v65_26 v65_27 v65_28 v65_29 v65_30 v65_31 v65_32 v65_33 v65_34 v65_35 v65_36 v65_37 v65_38
  (try clear l1Z); (try clear lxZ); (try clear l2Z); (try clear v65_38); (try clear v65_37); (try clear tk); (try clear hsZ); (try clear hpZ); (try clear hIZ); (try clear v65_35); (try clear v65_34); (try clear nsZ); (try clear v65_33); (try clear v65_32); (try clear v65_30); (try clear v65_29); (try clear v65_27); (try clear v65_26); (try clear hz12); (try clear e12); (try clear hr12); (try clear hfl12); (try clear hn12); (try clear hs12); (try clear hp12); (try clear hI12); (try clear l12); (try clear tk12); (try clear h12); (try clear i12); (try clear v65_22); (try clear lzZ); (try clear lyZ); (try clear l4Z); (try clear l3Z); (try clear v64_36); (try clear v65_18); (try clear v64_35); (try clear v65_7); (try clear v64_34); (try clear vu5); (try clear vu4); (try clear vu3); (try clear vu2); (try clear vu1); (try clear vdC); (try clear vxC); (try clear v8); (try clear v7); (try clear v6); (try clear v5); (try clear base); (try clear dT8); (try clear sI3); (try clear oc3); (try clear oe3); (try clear tk10'); (try clear hh10); (try clear v64_33); (try clear v64_32); (try clear v64_31); (try clear v64_30); (try clear v64_29); (try clear v64_28); (try clear v64_27); (try clear v64_26); (try clear v64_25); (try clear v64_24); (try clear v64_23); (try clear v64_22); (try clear v64_21); (try clear v64_20); (try clear v64_19); (try clear v64_16); (try clear v63_20); (try clear sM2); (try clear ju5); (try clear ju4); (try clear ju3); (try clear ju2); (try clear ju1); (try clear jyC); (try clear jnC); (try clear jdB); (try clear jxB); (try clear jdC); (try clear jxC); (try clear gA7); (try clear dA7); (try clear hA7); (try clear dK6); (try clear dV6); (try clear mkt); (try clear mtt); (try clear sI2); (try clear ocD); (try clear oeD); (try clear immD); (try clear v63_19); (try clear l3'); (try clear l2'); (try clear l1'); (try clear hI9'); (try clear tk9'); (try clear hh9); (try clear us9); (try clear tz); (try clear v63_18); (try clear v63_17); (try clear v63_16); (try clear v63_15); (try clear v63_14); (try clear v63_13); (try clear v63_12); (try clear v63_11); (try clear v63_10); (try clear v63_9); (try clear v63_8); (try clear v63_7); (try clear v63_6); (try clear v64_15); (try clear v64_14); (try clear v62_40); (try clear v64_13); (try clear v64_12); (try clear v62_39); (try clear v62_38); (try clear v62_37); (try clear v62_36); (try clear v64_11); (try clear v64_10); (try clear v64_9); (try clear v64_8); (try clear v64_7); (try clear v64_6); (try clear v64_5); (try clear v64_4); (try clear v63_3); (try clear v62_35); (try clear v62_34); (try clear v62_33); (try clear v62_32); (try clear v62_31); (try clear v62_30); (try clear v62_29); (try clear v62_28); (try clear v63_2); (try clear v63_1); (try clear v62_25); (try clear v62_24); (try clear v62_23); (try clear v62_22); (try clear v62_21); (try clear v62_20); (try clear v62_19); (try clear iu5); (try clear iu4); (try clear iu3); (try clear iu2); (try clear iu1); (try clear mu5); (try clear mu4); (try clear mu3); (try clear mu2); (try clear mu1); (try clear mrC); (try clear gA6); (try clear dA6); (try clear hA6); (try clear icA); (try clear idA); (try clear ixA); (try clear mdB); (try clear mxB); (try clear myC); (try clear mnC); (try clear mdC); (try clear mxC); (try clear sG); (try clear sM); (try clear hne); (try clear oc); (try clear oe); (try clear immC); (try clear hdC); (try clear v61_3); (try clear hMC); (try clear e4C); (try clear e3C); (try clear e2C); (try clear e1C); (try clear tkC'); (try clear hhC); (try clear mkC); (try clear ttC); (try clear tkC); (try clear u4'); (try clear u3'); (try clear u2'); (try clear u1'); (try clear g4'); (try clear g3'); (try clear g2'); (try clear g1'); (try clear tlC); (try clear t4'); (try clear t3'); (try clear t2'); (try clear t1'); (try clear h4'); (try clear h3'); (try clear h2'); (try clear h1'); (try clear kC); (try clear mp5); (try clear mp4); (try clear mp3); (try clear mp2); (try clear mp1); (try clear mrB); (try clear aB); (try clear hgB); (try clear hdB); (try clear v61_2); (try clear hMB); (try clear loB); (try clear e2B); (try clear e1B); (try clear l1B); (try clear tkB); (try clear hhB); (try clear mkB); (try clear tlB); (try clear tnB); (try clear taB); (try clear r6); (try clear r5); (try clear r4); (try clear r3); (try clear r2); (try clear r1z61); (try clear i6); (try clear i5); (try clear i4); (try clear i3); (try clear i2); (try clear i1); (try clear mg5); (try clear mg4); (try clear mg3); (try clear mg2); (try clear mg1); (try clear mrA); (try clear gGA); (try clear dnA); (try clear kcA); (try clear kdA); (try clear kxA); (try clear lA); (try clear aA); (try clear grA); (try clear oz); (try clear oy); (try clear ox); (try clear oA); (try clear hgA); (try clear hdA); (try clear v61_1); (try clear hMA); (try clear e4A); (try clear e3A); (try clear e2A); (try clear e1A); (try clear l1A); (try clear l0A); (try clear tkA'); (try clear hhA); (try clear mkA); (try clear ttA); (try clear tkA); (try clear u4); (try clear u3); (try clear u2); (try clear u1); (try clear g4); (try clear g3); (try clear g2); (try clear g1); (try clear tlA); (try clear tnA); (try clear t4z61); (try clear t3z61); (try clear t2z61); (try clear t1z61); (try clear h4z61); (try clear h3z61); (try clear h2z61); (try clear h1z61); (try clear kA); (try clear g12); (try clear a12); (try clear v62_18); (try clear v62_17); (try clear v62_16); (try clear v62_15); (try clear hz11); (try clear e11); (try clear hr11); (try clear hfl11); (try clear hn11); (try clear hs11); (try clear hp11); (try clear hI11); (try clear l11); (try clear tk11); (try clear h11); (try clear c11); (try clear i11); (try clear v60_6); (try clear v60_5); (try clear v60_4); (try clear hz10); (try clear e10); (try clear hr10); (try clear hfl10); (try clear hn10); (try clear hs10); (try clear hp10); (try clear hI10); (try clear l10); (try clear tk10); (try clear h10); (try clear c10); (try clear i10); (try clear v60_2); (try clear v60_1); (try clear v59_4); (try clear hsd); (try clear hpd); (try clear hId); (try clear v59_3); (try clear v58_6); (try clear v59_2); (try clear mf5); (try clear mf4); (try clear mf3); (try clear mf2); (try clear mf1); (try clear mr); (try clear hY); (try clear o8); (try clear us); (try clear tk8); (try clear h8); (try clear hnl); (try clear hvl); (try clear hr9); (try clear hfb9); (try clear hfl9); (try clear hn9); (try clear hs9); (try clear hp9); (try clear hI9); (try clear l9); (try clear tk9); (try clear h9); (try clear cr); (try clear v58_5); (try clear v58_4); (try clear v58_3); (try clear v57_24); (try clear v62_13); (try clear v62_12); (try clear v57_22); (try clear v62_11); (try clear v62_10); (try clear v62_9); (try clear v62_8); (try clear v62_7); (try clear v62_6); (try clear v62_5); (try clear v62_4); (try clear v57_20); (try clear v57_19); (try clear v57_18); (try clear v57_17); (try clear v57_16); (try clear v57_15); (try clear v57_14); (try clear v57_13); (try clear v57_12); (try clear v57_11); (try clear v57_10); (try clear v57_9); (try clear v57_8); (try clear hbm); (try clear hZ7); (try clear mc8); (try clear mc7); (try clear mz7); (try clear my7); (try clear lits7); (try clear agn); (try clear o7); (try clear hzl); (try clear hg7); (try clear hl7); (try clear hnd7); (try clear hn7); (try clear hD7); (try clear dk7); (try clear nw); (try clear F7); (try clear tk7); (try clear h7); (try clear D7); (try clear hyl); (try clear hl5); (try clear oD); (try clear hjl); (try clear hP); (try clear hg4); (try clear hl4); (try clear hn4); (try clear hD4); (try clear dk4); (try clear tk4z55); (try clear h4z55); (try clear e1); (try clear hRz55); (try clear hr6z55); (try clear hr0z55); (try clear v62_1); (try clear u1Z); (try clear v57_5); (try clear rZ); (try clear v57_4); (try clear v56_1); (try clear ek); (try clear qk); (try clear hg6z55); (try clear hl6z55); (try clear hD6z55); (try clear v55_12); (try clear v55_11); (try clear dkZ); (try clear agm2); (try clear agd2); (try clear alg2); (try clear ald2); (try clear hn2); (try clear hD2); (try clear hG2); (try clear ladj2); (try clear hO2); (try clear cO2); (try clear imm2); (try clear gr2); (try clear dk2); (try clear tk2); (try clear h2); (try clear hR); (try clear hr6); (try clear hr0); (try clear v55_10); (try clear v55_9); (try clear v55_8); (try clear v55_7); (try clear v55_6); (try clear v55_5); (try clear v55_4); (try clear v55_3); (try clear hg6); (try clear hl6); (try clear hD6); (try clear v54_3); (try clear v54_2); (try clear v55_2); (try clear v55_1); (try clear hG); (try clear bts); (try clear agd); (try clear agm); (try clear alg); (try clear gr); (try clear imm1); (try clear alm); (try clear ald); (try clear v51b_1); (try clear ladj); (try clear adj); (try clear hO); (try clear cO); (try clear hA); (try clear cA); (try clear tA); (try clear kind); (try clear hM); (try clear hn); (try clear hD); (try clear kb); (try clear recs); (try clear imm); (try clear g); (try clear mk); (try clear dk); (try clear tk1); (try clear h1); (try clear dc1); (try clear dc2); (try clear mc1); (try clear mc2); (try clear lits); (try clear q1); (try clear q2); (try clear bl); (try clear oZ); (try clear v54_1); (try clear v50_29); (try clear v50_28); (try clear v50_27); (try clear v50_26); (try clear v57_3); (try clear v50_25); (try clear v50_24); (try clear tk5); (try clear h5); (try clear mk0); (try clear tk4); (try clear h4); (try clear t14); (try clear t13); (try clear t12); (try clear t11); (try clear t10); (try clear t9); (try clear t8); (try clear t7); (try clear t6); (try clear t5); (try clear t4); (try clear t3); (try clear t2); (try clear t1); (try clear ldx); (try clear lx); (try clear tk3); (try clear h3); (try clear dk0); (try clear d); (try clear hlen); (try clear X0); (try clear N0); (try clear v50_23); (try clear v50_22); (try clear oc1); (try clear oc2); (try clear F); (try clear tk₁); (try clear h₁); (try clear hDf); (try clear v50_21); (try clear v50_20); (try clear v50_19); (try clear hI); (try clear v50_18); (try clear v50_17); (try clear v50_16); (try clear hL); (try clear v50_15); (try clear v50_12); (try clear v50_11); (try clear v50_10); (try clear v50_9); (try clear v50_8); (try clear v50_7); (try clear v50_6); (try clear hcd); (try clear v50_4); (try clear M); (try clear v50_2); (try clear v50_1); (try clear TW); (try clear TE); (try clear B); (try clear V); (try clear X); (try clear ho); (try clear o); (try clear Y); (try clear G); revert w s₀ s₁ mg mb fa pm doc hg T v50_3 v50_5 v50_13 v50_14 K0 mm v57_1 v57_2 n p q bA rr adj2 n2 p2 r1 D ys n4 js zs n7 v57_6 v57_7 v62_2 v62_3 v57_21 v58_1 v64_1 v57_23 v58_2 v57_25 D9 vr nr fr D8 v59_1 D10 v10 f10 v60_3 D11 v11 f11 v62_14 xA dA cA' nA yA xB dB en xC dC cC nC yC tnC v65_6 v62_26 v62_27 v64_2 v64_3 v63_4 v63_5 kt tt k9 v64_17 v64_18 k10 imm3 gA8 v65_8 v65_9 yZ dyZ ttZ v65_10 v65_11 v65_12 v65_13 v65_14 v65_15 v65_16 v65_17 tk1Z i1Z i2Z i3Z v1Z v2Z v3Z tzZ tlZ v65_21 KX D12 v12 c12 f12 v65_24 v65_25 v65_28 tZ v65_31 DZ vsZ cZ v65_36 qkZ xZ dxZ h1Z h2Z h3Z h4Z t1Z t2Z t3Z t4Z tkZ lZ hZ FZ NZ
  exact hCut.down⟩

theorem q66 : q65.1 := by
  intro w s₀ s₁ mg mb fa pm doc hg T v50_3 v50_5 v50_13 v50_14 K0 mm v57_1 v57_2 n p q bA rr adj2 n2 p2 r1 D ys n4 js zs n7 v57_6 v57_7 v62_2 v62_3 v57_21 v58_1 v64_1 v57_23 v58_2 v57_25 D9 vr nr fr D8 v59_1 D10 v10 f10 v60_3 D11 v11 f11 v62_14 xA dA cA' nA yA xB dB en xC dC cC nC yC tnC v65_6 v62_26 v62_27 v64_2 v64_3 v63_4 v63_5 kt tt k9 v64_17 v64_18 k10 imm3 gA8 v65_8 v65_9 yZ dyZ ttZ v65_10 v65_11 v65_12 v65_13 v65_14 v65_15 v65_16 v65_17 tk1Z i1Z i2Z i3Z v1Z v2Z v3Z tzZ tlZ v65_21 KX D12 v12 c12 f12 v65_24 v65_25 v65_28 tZ v65_31 DZ vsZ cZ v65_36 qkZ xZ dxZ h1Z h2Z h3Z h4Z t1Z t2Z t3Z t4Z tkZ lZ hZ FZ NZ
  revert KX; k_fill; intro KX
  refine' collect (rvs := [_]) (rs := [none]) (bA := bA) (adj := adj2) (n := 5) ?yB ?yF ?yX ?yN ?yT ?yK ?yr ?yR ?yG ?yn ?yz ?yd ?yu ?_
  (case yB => k_asm)
  (case yF => k_asm)
  (case yX => k_asm)
  (case yN => k_asm)
  (case yT => k_asm)
  (case yK => first | exact rfl | assumption)
  (case yr => k_extra "k_mem")
  (case yR => exact .cons ⟨(fun _ h => nomatch h), .leaf (by k_extra "k_mem") (by k_extra "k_mem") (.inr (.inr rfl))⟩ .nil)
  (case yG => exact gA8.mono (by k_extra "kqd_sub"))
  (case yn => omega)
  (case yz => exact (by decide : 1 ≤ 1000))
  (case yd => k_extra "ktr_room")
  (case yu => k_extra "ktr_units")
  intro D13 v13 i13 c13 f13 h13 tk13 F13 N13 l13 hI13 hp13 hs13 hn13 hfl13 hr13
  have e13 : i13 = [] := told_none hp13 hr13
  have hz13 : v13.length ≤ 5 := by have := hI13.length; have := hp13.length_eq; simp at this; omega
  (try simp only [List.cons_append, List.nil_append, AllLt, and_true] at l13)
  k_sweep
  (try dsimp only)
  k_extra "k_steps"
  rename Fr T.heap _ _ _ => fZ
  refine ⟨.inl ⟨_, .bool true, [], rfl, fun _ => rfl, .bool true, ?gc, unshared_nil⟩, OldK.of_keep ?gk, rfl, .of_eq hg⟩
  (case gc => exact postW_of (by wrow_shape) (by wtm_val) (by str_meet; first | done | w_fin))
  (case gk => exact fun b o e => fZ.keep b o e)

theorem lawAll : PySem.Challenge.rw_nt0501_01.Holds := q50.2 ⟨q51.2.2 ⟨q52.2 ⟨q53⟩⟩ ⟨q54.2 ⟨q55.2 ⟨q56.2 ⟨q57.2 ⟨q58.2 ⟨q59.2 ⟨q60.2 ⟨q61.2 ⟨q62.2 ⟨q63.2 ⟨q64.2 ⟨q65.2 ⟨q66⟩⟩⟩⟩⟩⟩⟩⟩⟩⟩⟩⟩⟩⟩

end Mine
end

theorem PySem.Challenge.cw_nt0501_01_holds : PySem.Challenge.rw_nt0501_01.Holds := by
  exact Mine.lawAll
