import Derived.Test.YtnbeigcjhpldmaaGreatMB
import Derived.Test.YtnbeigcjhpldmaaGreatMC
set_option linter.unusedSimpArgs false
set_option linter.unusedVariables false
set_option linter.unusedSimpArgs false
set_option linter.unusedVariables false
namespace Go.Rect
open Go.Eng
theorem grow_els {a : List Rc} {n : Int} (h0 : 0 ≤ n) (h1 : n ≤ 1048576) : els (growL n (els a)) = growL n (els a) := els_id (grow_wd (els_wd a) h0 h1) (by rw [growL_ln]; exact els_len a)
theorem bld_grow {a : List Rc} {n : Int} (h0 : 0 ≤ n) (h1 : n ≤ 1048576) : bldF 0 (growL n (els a)) [] = canoF orB (growL n (els a)) [] := by
  rw [← bld_of, grow_els h0 h1]
def trR (r : Rc) : Rc := ⟨tileI r.x, tileI r.y, tileI (r.x + r.w - 1) + 1 - tileI r.x, tileI (r.y + r.h - 1) + 1 - tileI r.y⟩
def trL (a : List Rc) : List Rc := (els a).map trR
theorem tr_ne {r : Rc} (h : emptyB r = false) : emptyB (trR r) = false := by
  have hr := empty_spec.1 h
  rw [empty_spec]
  simp only [trR]
  unfold tileI
  omega
theorem tr_in {r : Rc} (h : emptyB r = false) (x y : Int) : hasI (trR r) x y ↔ (tileI r.x ≤ x ∧ x ≤ tileI (r.x + r.w - 1)) ∧ (tileI r.y ≤ y ∧ y ≤ tileI (r.y + r.h - 1)) := by
  unfold hasI
  simp only [trR]
  omega
theorem trL_wd (a : List Rc) : Wd (trL a) := fun q hq => by
  obtain ⟨r, hr, rfl⟩ := List.mem_map.1 hq
  exact tr_ne (els_wd a r hr)
theorem trL_els (a : List Rc) : els (trL a) = trL a := els_id (trL_wd a) (by rw [trL, List.length_map]; exact els_len a)
def tlC (a : List Rc) : List Rc := canoF orB (trL a) []
theorem bld_tl (a : List Rc) : bldF 0 (trL a) [] = tlC a := by rw [tlC, ← bld_of, trL_els]
theorem tlC_in (a : List Rc) (x y : Int) : inLs (tlC a) x y ↔ ∃ r ∈ els a, hasI (trR r) x y := by
  rw [← inLb_in, tlC, of_in, trL_els, inLb_in]
  constructor
  · rintro ⟨q, hq, h⟩
    obtain ⟨r, hr, rfl⟩ := List.mem_map.1 hq
    exact ⟨r, hr, h⟩
  · rintro ⟨r, hr, h⟩
    exact ⟨_, List.mem_map.2 ⟨r, hr, rfl⟩, h⟩
end Go.Rect

