import Derived.Test.YtfpimhkkknfmcaaEngU
namespace Go.Eng
open Go.RowKit

/-- As Nxt, with a renaming of its own. -/
def NxtE {α : Type} (f : α → List (Nat × AV)) (fh : α → Hp) (e0 : List (Nat × AV)) (h0 : Hp) (I : α → Prop) (μ : α → Nat) (m : Nat) (σ' : St) : Prop :=
  ∃ x' ρ, I x' ∧ μ x' < m ∧ Sub ρ σ' ⟨f x' ++ e0, fh x' ++ h0⟩
theorem NxtE.mk {α : Type} {f : α → List (Nat × AV)} {fh : α → Hp} {e0 : List (Nat × AV)} {h0 : Hp} {I : α → Prop} {μ : α → Nat} {m : Nat} {σ' : St} (ρ : List (Nat × Option Nat)) (x' : α) (h3 : Sub ρ σ' ⟨f x' ++ e0, fh x' ++ h0⟩) (h1 : I x') (h2 : μ x' < m) : NxtE f fh e0 h0 I μ m σ' := ⟨x', ρ, h1, h2, h3⟩

/-- A loop: the slots W and the names WH change; at a round's head they hold f x and fh x. -/
theorem WA_loopE {C : Ctx} {K R : St → Prop} {E : Nat → St → Prop} {σ : St} {c : Code} {α : Type} (W WH : List Nat) (f : α → List (Nat × AV)) (fh : α → Hp) (I : α → Prop) (μ : α → Nat) (x0 : α) (ρ0 : List (Nat × Option Nat))
    (h0 : I x0) (hs0 : Sub ρ0 σ ⟨f x0 ++ clr W σ.e, fh x0 ++ clrh WH σ.h⟩)
    (hr : ∀ x, I x → WA C c (NxtE f fh (clr W σ.e) (clrh WH σ.h) I μ (μ x)) R E ⟨f x ++ clr W σ.e, fh x ++ clrh WH σ.h⟩) : WA C (.loop c) K R E σ :=
  WA_loop (fun x => ⟨f x ++ clr W σ.e, fh x ++ clrh WH σ.h⟩) I μ ⟨x0, h0, hs0.sim⟩
    (fun x hx => (hr x hx).mono (fun _ ⟨x', ρ, h1, h2, h3⟩ => ⟨x', h1, h2, h3.sim⟩) (fun _ h => h) (fun _ _ h => h))
end Go.Eng

namespace Go.Eng
/-! ### The rules as the walks use them: what is to be evaluated stands in Ev -/
structure Ev (p : Prop) : Prop where
  out : p
structure Is (p X : Prop) : Prop where
  symm : X = p
theorem Is.rfl {p : Prop} : Is p p := ⟨Eq.refl p⟩
theorem Is.ev {p X : Prop} (h : Is p X) (x : X) : Ev p := ⟨h.symm ▸ x⟩
section
variable {C : Ctx} {K R : St → Prop} {E : Nat → St → Prop} {σ : St}
theorem V_region {id : Nat} {ops : Array Oper} (Γ : FuncId → List D → RV) (fz V : List Nat) (h : Ev (Hold (runOps C.P Γ C.n ops.toList fz ops.toList (some ⟨σ, []⟩)) (fun σ' => K (gather V σ')))) : WA C (.region id ops false) K R E σ := WA_region Γ fz V h.out
theorem V_draw {id : Nat} {ops : Array Oper} (Γ : FuncId → List D → RV) (fz V : List Nat) (hm : C.P.follows .mixedOrders = true) (hc : chkD C.n ops (mkM ops.toList []) = true)
    (h : Ev (Hold (runQ C.P Γ ops.toList fz ops.toList (some ⟨σ, []⟩)) (fun σ' => K (gather V σ')))) : WA C (.region id ops true) K R E σ := WA_draw Γ fz V hm hc h.out
theorem V_cond {c : Operand} {x y : Code} (h : Ev (Cnd (opnd σ.e c) (WA C x K R E σ) (WA C y K R E σ))) : WA C (.cond c x y) K R E σ := WA_cond h.out
theorem V_exit {i : Nat} (h : Ev (E i σ)) : WA C (.exit i) K R E σ := WA_exit h.out
theorem V_ret (h : Ev (R σ)) : WA C .ret K R E σ := WA_ret h.out
theorem V_end {p : Prop} (h : Ev p) : p := h.out
theorem V_next {α : Type} {f : α → List (Nat × AV)} {fh : α → Hp} {e0 : List (Nat × AV)} {h0 : Hp} {I : α → Prop} {μ : α → Nat} {m : Nat} (ρ : List (Nat × Option Nat)) (x' : α) (h3 : Ev (Sub ρ σ ⟨f x' ++ e0, fh x' ++ h0⟩)) (h1 : I x') (h2 : μ x' < m) : NxtE f fh e0 h0 I μ m σ := .mk ρ x' h3.out h1 h2
theorem V_loop {c : Code} {α : Type} (W WH : List Nat) (f : α → List (Nat × AV)) (fh : α → Hp) (I : α → Prop) (μ : α → Nat) (x0 : α) (ρ0 : List (Nat × Option Nat))
    (h0 : I x0) (hs0 : Ev (Sub ρ0 σ ⟨f x0 ++ clr W σ.e, fh x0 ++ clrh WH σ.h⟩))
    (hr : ∀ x, I x → WA C c (NxtE f fh (clr W σ.e) (clrh WH σ.h) I μ (μ x)) R E ⟨f x ++ clr W σ.e, fh x ++ clrh WH σ.h⟩) : WA C (.loop c) K R E σ := WA_loopE W WH f fh I μ x0 ρ0 h0 hs0.out hr
end
end Go.Eng
