import Derived.Test.YtppghgoeibelkaaB22
set_option linter.unusedSimpArgs false
set_option linter.unusedVariables false
namespace Go.S23
open Go.RowKit Go.Proofs Go.Eng Go.Rect
/-- A mask of one row: its values are the argument itself. -/
theorem rowM (v : List Int) : FnM Try.prog 61 [.sl 1 (v.map iC)] [.dat (.i (v.length : Int)), .dat (.i 1), .agg [.dat (.i 0)]] := by
  intro w vs hv
  simp only [RepL, RepD] at hv
  obtain ⟨u, us, e, ⟨hl, hu⟩, e2⟩ := hv
  have hs : ∃ s n c, u = .slice s n c ∧ n = v.length := by
    rcases hu with ⟨h0, a, cap, rfl⟩ | ⟨b, o, cap, vs', rfl, _⟩
    · refine ⟨_, _, _, rfl, ?_⟩
      cases v with
      | nil => rfl
      | cons x l => simp at h0
    · exact ⟨_, _, _, rfl, by simp⟩
  obtain ⟨s, n, c, rfl, hn⟩ := hs
  subst hn
  have h := row_v s v.length c w vs (by simp only [RepL, RepD]; exact ⟨_, _, e, rfl, e2⟩)
  refine h.mono ?_
  rintro e' w' ⟨v', bs, rfl, hbl, _, _, hr⟩
  simp only [RepR, RepD, RepDs] at hr
  obtain ⟨_, us', rfl, a1, b1, rfl, rfl, o1, a2, b2, rfl, rfl, o2, a3, b3, rfl, rfl, o3, rfl⟩ := hr
  refine ⟨_, rfl, hbl, ?_⟩
  simp only [MixR, RepD]
  exact ⟨_, _, rfl, o1, rfl, _, _, rfl, o2, rfl, _, _, rfl, o3, by rw [e]; rfl, rfl⟩
end Go.S23

