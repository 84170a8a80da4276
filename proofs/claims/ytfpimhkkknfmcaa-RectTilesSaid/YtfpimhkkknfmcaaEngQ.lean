import Derived.Test.YtfpimhkkknfmcaaEngP
namespace Go.Eng
open Go.RowKit

/-! ### For the walks -/

/-- A piece of a function's code. -/
def cd : Code → List Nat → Code
  | c, [] => c
  | .seq a _, 0 :: p => cd a p
  | .seq _ b, 1 :: p => cd b p
  | .cond _ a _, 0 :: p => cd a p
  | .cond _ _ b, 1 :: p => cd b p
  | .block _ c, 0 :: p => cd c p
  | .loop c, 0 :: p => cd c p
  | c, _ => c
def fcd (f : Func) (p : List Nat) : Code := match f.body with
  | some c => cd c p
  | none => .skip

theorem Fn.by {P : Program} {f : FuncId} {fn : Func} {ds : List D} {r : RV} (n : Nat) (rv : List ResultVar) (hf : P.funcs[f]? = some fn) (hb : fn.body = some (fcd fn [])) (hn : fn.ntmps = n) (hrv : fn.results.toList = rv) (hl : ds.length ≤ n)
    (h : ∀ w0, WA ⟨P, w0, fun _ => False, n⟩ (fcd fn []) (Ret P rv r) (Ret P rv r) (fun _ _ => False) ⟨parA ds, []⟩) : Fn P f ds r := by
  subst hn hrv
  exact Fn.of hf hb hl h

theorem Hold_some (r : Rn) (K : St → Prop) : Hold (some r) K = fin r.its (K r.σ) := rfl
theorem Cnd_b (c : Bool) (A B : Prop) : Cnd (.dat (.b c)) A B = ((c = true → A) ∧ (c = false → B)) := rfl

end Go.Eng
