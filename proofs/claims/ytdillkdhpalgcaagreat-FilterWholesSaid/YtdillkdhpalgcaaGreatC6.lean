import Derived.Test.YtdillkdhpalgcaaGreatB7
import Derived.Test.YtdillkdhpalgcaaGreatC5
import Derived.Test.YtdillkdhpalgcaaGreatB11
set_option linter.unusedSimpArgs false
set_option linter.unusedVariables false
namespace Go.S16
open Go.RowKit Go.Proofs Go.Eng Go.Rect
theorem apply_all (i : Im) (o : Pt) (bd : Rc) (k : Int) (ps : List Int) (out : Rc) : Eng.Fn Tryz.prog 5 [imD i, ptD o, rcD bd, .i k, .sl 1 (ps.map iC), rcD out]
    (.tup [.agg [.dat (.i (appR i o bd k ps out).w), .dat (.i (appR i o bd k ps out).h), .own 49 4 ((appR i o bd k ps out).p.map pxC)], .dat (.i (appE i o bd k ps out))]) := by
  by_cases h : k = 1 ∨ k = 2 ∨ k = 3
  · exact apply_fn i o bd k ps out h
  · by_cases h2 : k = 4 ∨ k = 7 ∨ k = 8
    · exact apply_rk i o bd k ps out h2
    · exact apply_n i o bd k ps out fun hf => by have := (fk_rg hf).1; omega
end Go.S16

