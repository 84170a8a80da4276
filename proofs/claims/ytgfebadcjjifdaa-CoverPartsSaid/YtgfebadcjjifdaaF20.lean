import Derived.Test.YtgfebadcjjifdaaED
import Derived.Test.YtgfebadcjjifdaaLC
import Derived.Test.YtgfebadcjjifdaaProg
import Derived.KernelRfl
namespace Go.S20
open Go.RowKit Go.Proofs Go.Eng Go.Rect
/-! ### The tables of the program, printed by a program (wip/gen) -/
theorem y3 : tyOf Try.prog 3 = some (1, false) := by kernel_rfl
theorem s3 : szOf Try.prog 3 = 1 := by kernel_rfl
theorem b3 : byOf Try.prog 3 = 8 := by kernel_rfl
theorem o3 : (Try.prog.info? 3).isSome = true := by kernel_rfl
theorem p3 : (Try.prog.underlying 3).isSome = true := by kernel_rfl
theorem z3 : zC Try.prog 3 = some [.i 0] := by kernel_rfl
theorem d3 : dfD Try.prog 9 3 = [.i 0] := by kernel_rfl
theorem k3 : ikOf Try.prog 3 = some .i64 := by kernel_rfl
theorem y4 : tyOf Try.prog 4 = some (1, false) := by kernel_rfl
theorem s4 : szOf Try.prog 4 = 1 := by kernel_rfl
theorem b4 : byOf Try.prog 4 = 1 := by kernel_rfl
theorem o4 : (Try.prog.info? 4).isSome = true := by kernel_rfl
theorem p4 : (Try.prog.underlying 4).isSome = true := by kernel_rfl
theorem z4 : zC Try.prog 4 = some [.b false] := by kernel_rfl
theorem d4 : dfD Try.prog 9 4 = [.b false] := by kernel_rfl
theorem q4 : isBo Try.prog 4 = true := by kernel_rfl
theorem y5 : tyOf Try.prog 5 = some (1, false) := by kernel_rfl
theorem s5 : szOf Try.prog 5 = 1 := by kernel_rfl
theorem b5 : byOf Try.prog 5 = 1 := by kernel_rfl
theorem o5 : (Try.prog.info? 5).isSome = true := by kernel_rfl
theorem p5 : (Try.prog.underlying 5).isSome = true := by kernel_rfl
theorem z5 : zC Try.prog 5 = some [.v (.int .u8 0)] := by kernel_rfl
theorem d5 : dfD Try.prog 9 5 = [.v (.int .u8 0)] := by kernel_rfl
theorem k5 : ikOf Try.prog 5 = some .u8 := by kernel_rfl
theorem y22 : tyOf Try.prog 22 = some (1, false) := by kernel_rfl
theorem s22 : szOf Try.prog 22 = 1 := by kernel_rfl
theorem b22 : byOf Try.prog 22 = 24 := by kernel_rfl
theorem o22 : (Try.prog.info? 22).isSome = true := by kernel_rfl
theorem p22 : (Try.prog.underlying 22).isSome = true := by kernel_rfl
theorem z22 : zC Try.prog 22 = some [.v (.slice none 0 0)] := by kernel_rfl
theorem d22 : dfD Try.prog 9 22 = [.sl 1 []] := by kernel_rfl
theorem e22 : elOf Try.prog 22 = some 29 := by kernel_rfl
theorem y24 : tyOf Try.prog 24 = some (1, false) := by kernel_rfl
theorem s24 : szOf Try.prog 24 = 1 := by kernel_rfl
theorem b24 : byOf Try.prog 24 = 8 := by kernel_rfl
theorem o24 : (Try.prog.info? 24).isSome = true := by kernel_rfl
theorem p24 : (Try.prog.underlying 24).isSome = true := by kernel_rfl
theorem z24 : zC Try.prog 24 = some [.i 0] := by kernel_rfl
theorem d24 : dfD Try.prog 9 24 = [.i 0] := by kernel_rfl
theorem k24 : ikOf Try.prog 24 = some .i64 := by kernel_rfl
theorem y27 : tyOf Try.prog 27 = some (4, true) := by kernel_rfl
theorem s27 : szOf Try.prog 27 = 4 := by kernel_rfl
theorem b27 : byOf Try.prog 27 = 32 := by kernel_rfl
theorem o27 : (Try.prog.info? 27).isSome = true := by kernel_rfl
theorem p27 : (Try.prog.underlying 27).isSome = true := by kernel_rfl
theorem z27 : zC Try.prog 27 = some [.i 0, .i 0, .i 0, .i 0] := by kernel_rfl
theorem d27 : dfD Try.prog 9 27 = [.i 0, .i 0, .i 0, .i 0] := by kernel_rfl
theorem f27_0 : fldOf Try.prog 27 0 = some (0, 3) := by kernel_rfl
theorem f27_1 : fldOf Try.prog 27 1 = some (1, 3) := by kernel_rfl
theorem f27_2 : fldOf Try.prog 27 2 = some (2, 3) := by kernel_rfl
theorem f27_3 : fldOf Try.prog 27 3 = some (3, 3) := by kernel_rfl
theorem l27 : plF Try.prog 27 = some fun i => ([(0, 1), (1, 1), (2, 1), (3, 1)] : List (Nat × Nat))[i]? := by kernel_rfl
theorem q27 : eqTy Try.prog 27 = some 4 := by kernel_rfl
theorem y29 : tyOf Try.prog 29 = some (1, false) := by kernel_rfl
theorem s29 : szOf Try.prog 29 = 1 := by kernel_rfl
theorem b29 : byOf Try.prog 29 = 24 := by kernel_rfl
theorem o29 : (Try.prog.info? 29).isSome = true := by kernel_rfl
theorem p29 : (Try.prog.underlying 29).isSome = true := by kernel_rfl
theorem z29 : zC Try.prog 29 = some [.v (.slice none 0 0)] := by kernel_rfl
theorem d29 : dfD Try.prog 9 29 = [.sl 2 []] := by kernel_rfl
theorem e29 : elOf Try.prog 29 = some 48 := by kernel_rfl
theorem y32 : tyOf Try.prog 32 = some (1, false) := by kernel_rfl
theorem s32 : szOf Try.prog 32 = 1 := by kernel_rfl
theorem b32 : byOf Try.prog 32 = 24 := by kernel_rfl
theorem o32 : (Try.prog.info? 32).isSome = true := by kernel_rfl
theorem p32 : (Try.prog.underlying 32).isSome = true := by kernel_rfl
theorem z32 : zC Try.prog 32 = some [.v (.slice none 0 0)] := by kernel_rfl
theorem d32 : dfD Try.prog 9 32 = [.sl 1 []] := by kernel_rfl
theorem e32 : elOf Try.prog 32 = some 3 := by kernel_rfl
theorem y34 : tyOf Try.prog 34 = some (3, true) := by kernel_rfl
theorem s34 : szOf Try.prog 34 = 3 := by kernel_rfl
theorem b34 : byOf Try.prog 34 = 40 := by kernel_rfl
theorem o34 : (Try.prog.info? 34).isSome = true := by kernel_rfl
theorem p34 : (Try.prog.underlying 34).isSome = true := by kernel_rfl
theorem z34 : zC Try.prog 34 = some [.i 0, .i 0, .v (.slice none 0 0)] := by kernel_rfl
theorem d34 : dfD Try.prog 9 34 = [.i 0, .i 0, .sl 1 []] := by kernel_rfl
theorem f34_0 : fldOf Try.prog 34 0 = some (0, 3) := by kernel_rfl
theorem f34_1 : fldOf Try.prog 34 1 = some (1, 3) := by kernel_rfl
theorem f34_2 : fldOf Try.prog 34 2 = some (2, 32) := by kernel_rfl
theorem l34 : plF Try.prog 34 = some fun i => ([(0, 1), (1, 1), (2, 1)] : List (Nat × Nat))[i]? := by kernel_rfl
theorem y40 : tyOf Try.prog 40 = some (4, true) := by kernel_rfl
theorem s40 : szOf Try.prog 40 = 4 := by kernel_rfl
theorem b40 : byOf Try.prog 40 = 32 := by kernel_rfl
theorem o40 : (Try.prog.info? 40).isSome = true := by kernel_rfl
theorem p40 : (Try.prog.underlying 40).isSome = true := by kernel_rfl
theorem z40 : zC Try.prog 40 = some [.i 0, .i 0, .i 0, .i 0] := by kernel_rfl
theorem d40 : dfD Try.prog 9 40 = [.i 0, .i 0, .i 0, .i 0] := by kernel_rfl
theorem f40_0 : fldOf Try.prog 40 0 = some (0, 3) := by kernel_rfl
theorem f40_1 : fldOf Try.prog 40 1 = some (1, 3) := by kernel_rfl
theorem f40_2 : fldOf Try.prog 40 2 = some (2, 3) := by kernel_rfl
theorem f40_3 : fldOf Try.prog 40 3 = some (3, 3) := by kernel_rfl
theorem l40 : plF Try.prog 40 = some fun i => ([(0, 1), (1, 1), (2, 1), (3, 1)] : List (Nat × Nat))[i]? := by kernel_rfl
theorem q40 : eqTy Try.prog 40 = some 4 := by kernel_rfl
theorem y41 : tyOf Try.prog 41 = some (1, false) := by kernel_rfl
theorem s41 : szOf Try.prog 41 = 1 := by kernel_rfl
theorem b41 : byOf Try.prog 41 = 24 := by kernel_rfl
theorem o41 : (Try.prog.info? 41).isSome = true := by kernel_rfl
theorem p41 : (Try.prog.underlying 41).isSome = true := by kernel_rfl
theorem z41 : zC Try.prog 41 = some [.v (.slice none 0 0)] := by kernel_rfl
theorem d41 : dfD Try.prog 9 41 = [.sl 4 []] := by kernel_rfl
theorem e41 : elOf Try.prog 41 = some 40 := by kernel_rfl
theorem y43 : tyOf Try.prog 43 = some (3, true) := by kernel_rfl
theorem s43 : szOf Try.prog 43 = 3 := by kernel_rfl
theorem b43 : byOf Try.prog 43 = 40 := by kernel_rfl
theorem o43 : (Try.prog.info? 43).isSome = true := by kernel_rfl
theorem p43 : (Try.prog.underlying 43).isSome = true := by kernel_rfl
theorem z43 : zC Try.prog 43 = some [.i 0, .i 0, .v (.slice none 0 0)] := by kernel_rfl
theorem d43 : dfD Try.prog 9 43 = [.i 0, .i 0, .sl 4 []] := by kernel_rfl
theorem f43_0 : fldOf Try.prog 43 0 = some (0, 3) := by kernel_rfl
theorem f43_1 : fldOf Try.prog 43 1 = some (1, 3) := by kernel_rfl
theorem f43_2 : fldOf Try.prog 43 2 = some (2, 41) := by kernel_rfl
theorem l43 : plF Try.prog 43 = some fun i => ([(0, 1), (1, 1), (2, 1)] : List (Nat × Nat))[i]? := by kernel_rfl
theorem y48 : tyOf Try.prog 48 = some (2, true) := by kernel_rfl
theorem s48 : szOf Try.prog 48 = 2 := by kernel_rfl
theorem b48 : byOf Try.prog 48 = 16 := by kernel_rfl
theorem o48 : (Try.prog.info? 48).isSome = true := by kernel_rfl
theorem p48 : (Try.prog.underlying 48).isSome = true := by kernel_rfl
theorem z48 : zC Try.prog 48 = some [.i 0, .i 0] := by kernel_rfl
theorem d48 : dfD Try.prog 9 48 = [.i 0, .i 0] := by kernel_rfl
theorem f48_0 : fldOf Try.prog 48 0 = some (0, 3) := by kernel_rfl
theorem f48_1 : fldOf Try.prog 48 1 = some (1, 3) := by kernel_rfl
theorem l48 : plF Try.prog 48 = some fun i => ([(0, 1), (1, 1)] : List (Nat × Nat))[i]? := by kernel_rfl
theorem q48 : eqTy Try.prog 48 = some 2 := by kernel_rfl
theorem y49 : tyOf Try.prog 49 = some (1, false) := by kernel_rfl
theorem s49 : szOf Try.prog 49 = 1 := by kernel_rfl
theorem b49 : byOf Try.prog 49 = 2 := by kernel_rfl
theorem o49 : (Try.prog.info? 49).isSome = true := by kernel_rfl
theorem p49 : (Try.prog.underlying 49).isSome = true := by kernel_rfl
theorem z49 : zC Try.prog 49 = some [.v (.int .u16 0)] := by kernel_rfl
theorem d49 : dfD Try.prog 9 49 = [.v (.int .u16 0)] := by kernel_rfl
theorem k49 : ikOf Try.prog 49 = some .u16 := by kernel_rfl
theorem y56 : tyOf Try.prog 56 = some (1, false) := by kernel_rfl
theorem s56 : szOf Try.prog 56 = 1 := by kernel_rfl
theorem b56 : byOf Try.prog 56 = 1 := by kernel_rfl
theorem o56 : (Try.prog.info? 56).isSome = true := by kernel_rfl
theorem p56 : (Try.prog.underlying 56).isSome = true := by kernel_rfl
theorem z56 : zC Try.prog 56 = some [.v (.int .i8 0)] := by kernel_rfl
theorem d56 : dfD Try.prog 9 56 = [.v (.int .i8 0)] := by kernel_rfl
theorem k56 : ikOf Try.prog 56 = some .i8 := by kernel_rfl
theorem y65 : tyOf Try.prog 65 = some (1, false) := by kernel_rfl
theorem s65 : szOf Try.prog 65 = 1 := by kernel_rfl
theorem b65 : byOf Try.prog 65 = 24 := by kernel_rfl
theorem o65 : (Try.prog.info? 65).isSome = true := by kernel_rfl
theorem p65 : (Try.prog.underlying 65).isSome = true := by kernel_rfl
theorem z65 : zC Try.prog 65 = some [.v (.slice none 0 0)] := by kernel_rfl
theorem d65 : dfD Try.prog 9 65 = [.sl 4 []] := by kernel_rfl
theorem e65 : elOf Try.prog 65 = some 74 := by kernel_rfl
theorem y74 : tyOf Try.prog 74 = some (4, true) := by kernel_rfl
theorem s74 : szOf Try.prog 74 = 4 := by kernel_rfl
theorem b74 : byOf Try.prog 74 = 32 := by kernel_rfl
theorem o74 : (Try.prog.info? 74).isSome = true := by kernel_rfl
theorem p74 : (Try.prog.underlying 74).isSome = true := by kernel_rfl
theorem z74 : zC Try.prog 74 = some [.i 0, .i 0, .i 0, .i 0] := by kernel_rfl
theorem d74 : dfD Try.prog 9 74 = [.i 0, .i 0, .i 0, .i 0] := by kernel_rfl
theorem f74_0 : fldOf Try.prog 74 0 = some (0, 48) := by kernel_rfl
theorem f74_1 : fldOf Try.prog 74 1 = some (2, 48) := by kernel_rfl
theorem l74 : plF Try.prog 74 = some fun i => ([(0, 2), (2, 2)] : List (Nat × Nat))[i]? := by kernel_rfl
theorem y80 : tyOf Try.prog 80 = some (1, false) := by kernel_rfl
theorem s80 : szOf Try.prog 80 = 1 := by kernel_rfl
theorem b80 : byOf Try.prog 80 = 8 := by kernel_rfl
theorem o80 : (Try.prog.info? 80).isSome = true := by kernel_rfl
theorem p80 : (Try.prog.underlying 80).isSome = true := by kernel_rfl
theorem z80 : zC Try.prog 80 = some [.v (.int .u64 0)] := by kernel_rfl
theorem d80 : dfD Try.prog 9 80 = [.v (.int .u64 0)] := by kernel_rfl
theorem k80 : ikOf Try.prog 80 = some .u64 := by kernel_rfl
theorem n11 : isFn Try.prog 11 = true := by kernel_rfl
theorem n12 : isFn Try.prog 12 = true := by kernel_rfl
theorem n13 : isFn Try.prog 13 = true := by kernel_rfl
theorem n14 : isFn Try.prog 14 = true := by kernel_rfl
theorem n15 : isFn Try.prog 15 = true := by kernel_rfl
theorem n16 : isFn Try.prog 16 = true := by kernel_rfl
theorem n17 : isFn Try.prog 17 = true := by kernel_rfl
theorem n18 : isFn Try.prog 18 = true := by kernel_rfl
theorem n19 : isFn Try.prog 19 = true := by kernel_rfl
theorem n20 : isFn Try.prog 20 = true := by kernel_rfl
theorem n21 : isFn Try.prog 21 = true := by kernel_rfl
theorem n22 : isFn Try.prog 22 = true := by kernel_rfl
theorem n23 : isFn Try.prog 23 = true := by kernel_rfl
theorem n24 : isFn Try.prog 24 = true := by kernel_rfl
theorem n25 : isFn Try.prog 25 = true := by kernel_rfl
theorem n26 : isFn Try.prog 26 = true := by kernel_rfl
theorem n27 : isFn Try.prog 27 = true := by kernel_rfl
theorem n28 : isFn Try.prog 28 = true := by kernel_rfl
theorem n29 : isFn Try.prog 29 = true := by kernel_rfl
theorem n30 : isFn Try.prog 30 = true := by kernel_rfl
theorem n31 : isFn Try.prog 31 = true := by kernel_rfl
theorem n32 : isFn Try.prog 32 = true := by kernel_rfl
theorem n33 : isFn Try.prog 33 = true := by kernel_rfl
theorem n34 : isFn Try.prog 34 = true := by kernel_rfl
theorem n35 : isFn Try.prog 35 = true := by kernel_rfl
theorem n36 : isFn Try.prog 36 = true := by kernel_rfl
theorem n37 : isFn Try.prog 37 = true := by kernel_rfl
theorem n38 : isFn Try.prog 38 = true := by kernel_rfl
theorem n39 : isFn Try.prog 39 = true := by kernel_rfl
theorem n40 : isFn Try.prog 40 = true := by kernel_rfl
theorem n41 : isFn Try.prog 41 = true := by kernel_rfl
theorem n42 : isFn Try.prog 42 = true := by kernel_rfl
theorem n43 : isFn Try.prog 43 = true := by kernel_rfl
theorem n44 : isFn Try.prog 44 = true := by kernel_rfl
theorem n45 : isFn Try.prog 45 = true := by kernel_rfl
theorem n46 : isFn Try.prog 46 = true := by kernel_rfl
theorem n47 : isFn Try.prog 47 = true := by kernel_rfl
theorem n48 : isFn Try.prog 48 = true := by kernel_rfl
theorem n49 : isFn Try.prog 49 = true := by kernel_rfl
theorem n50 : isFn Try.prog 50 = true := by kernel_rfl
theorem n51 : isFn Try.prog 51 = true := by kernel_rfl
theorem n52 : isFn Try.prog 52 = true := by kernel_rfl
theorem n53 : isFn Try.prog 53 = true := by kernel_rfl
theorem n54 : isFn Try.prog 54 = true := by kernel_rfl
theorem n55 : isFn Try.prog 55 = true := by kernel_rfl
theorem n56 : isFn Try.prog 56 = true := by kernel_rfl
theorem n57 : isFn Try.prog 57 = true := by kernel_rfl
theorem n58 : isFn Try.prog 58 = true := by kernel_rfl
theorem n59 : isFn Try.prog 59 = true := by kernel_rfl
theorem n60 : isFn Try.prog 60 = true := by kernel_rfl
theorem mixed : Try.prog.follows .mixedOrders = true := by kernel_rfl
def Γ : FuncId → List D → RV
  | 11, [] => .dat (.b true)
  | 12, [.sl _ a, .i r] => .dat (.i (checkE (a.map unPly) r))
  | 12, [.v a, .i r] => .dat (.i (checkE [] r))
  | 13, [.sl _ a, .i r] => .dat (.i (checkE (a.map unPly) r))
  | 14, [.sl _ a] => .dat (rcD (boxR (a.map unPly)))
  | 15, [.sl _ a] => .dat (rcD (boxR (a.map unPly)))
  | 16, [.sl _ a] => .dat (.i (twiceI (a.map unPt)))
  | 17, [.sl _ a] => .dat (.i (twiceI (a.map unPt)))
  | 18, [.sl _ a, .i r, .agg o] => .tup [.agg [.dat (.i (maskR (a.map unPly) r (unRc o)).w), .dat (.i (maskR (a.map unPly) r (unRc o)).h), .own 3 1 ((maskR (a.map unPly) r (unRc o)).v.map iC)], .dat (.i (maskE (a.map unPly) r (unRc o)))]
  | 19, [.sl _ a, .i r, .agg o] => .tup [.agg [.dat (.i (maskR (a.map unPly) r (unRc o)).w), .dat (.i (maskR (a.map unPly) r (unRc o)).h), .own 3 1 ((maskR (a.map unPly) r (unRc o)).v.map iC)], .dat (.i (maskE (a.map unPly) r (unRc o)))]
  | 20, [.agg a, .agg b] => .dat (.b (sameM (unMk a) (unMk b)))
  | 21, [.sl _ a, .i r, .agg c, .agg o] => .tup [.agg [.dat (.i (paintR (a.map unPly) r (unPx c) (unRc o)).w), .dat (.i (paintR (a.map unPly) r (unPx c) (unRc o)).h), .own 40 4 ((paintR (a.map unPly) r (unPx c) (unRc o)).p.map pxC)], .dat (.i (paintE (a.map unPly) r (unPx c) (unRc o)))]
  | 22, [.sl _ a, .i r, .agg c, .agg o] => .tup [.agg [.dat (.i (paintR (a.map unPly) r (unPx c) (unRc o)).w), .dat (.i (paintR (a.map unPly) r (unPx c) (unRc o)).h), .own 40 4 ((paintR (a.map unPly) r (unPx c) (unRc o)).p.map pxC)], .dat (.i (paintE (a.map unPly) r (unPx c) (unRc o)))]
  | 23, [.i a, .i b, .i c, .i d] => .own 48 2 ((squareL a b c d).map ptC)
  | 24, [.agg r] => .dat (.b (emptyB (unRc r)))
  | 25, [.i a, .i b] => .dat (.i (divI a b))
  | 26, [.agg r, .agg p] => .dat (.b (hasB (unRc r) (unPt p)))
  | 27, [.agg a, .agg b] => .dat (rcD (moveR (unRc a) (unPt b)))
  | 28, [.agg r] => .dat (.i (areaI (unRc r)))
  | 29, [.agg a, .agg b] => .dat (rcD (meetR (unRc a) (unRc b)))
  | 30, [.agg a, .agg b] => .dat (.b (withinB (unRc a) (unRc b)))
  | 31, [.sl _ a, .i r, .sl _ w] => .dat (.b (coversB (a.map unPly) r (w.map unI)))
  | 32, [.i a, .i b] => .dat (.i (floorI a b))
  | 33, [.i a, .i b] => .dat (.i (floorI a b))
  | 34, [.agg r] => .dat (.i (areaE (unRc r)))
  | 35, [.sl _ a, .i y0, .i y1] => .own 74 4 ((edgesL (a.map unPly) y0 y1).map edC)
  | 38, [.agg r] => .dat (.b (validB (unRc r)))
  | 39, [.agg r] => .dat (.b (emptyB (unRc r)))
  | 40, [.sl _ a, .i r, .i x, .i y] => .dat (.i (valI (a.map unPly) r x y))
  | 41, [.agg p] => .dat (.b (validP (unPx p)))
  | 42, [.agg p, .i a] => .dat (pxD (fadeP (unPx p) a))
  | 43, [.agg p] => .dat (.b (validP (unPx p)))
  | 44, [.agg p, .i a] => .dat (pxD (fadeP (unPx p) a))
  | 45, [.agg r] => .dat (.b (validB (unRc r)))
  | 46, [.i a, .i b, .i c, .i d] => .dat (rcD (betweenR a b c d))
  | 47, [.agg s, .i y] => .dat (.i (befI (unEd s) y))
  | 48, [.sl _ a, .i r, .i x, .i y] => .dat (.b (insB r (insN (a.map unPly) x y)))
  | 49, [.i a, .i b] => .dat (.i (divI a b))
  | 50, [.agg p] => .dat (pxD (limP (unPx p)))
  | 51, [.i a, .i b] => .dat (.i (mulI a b))
  | 52, [.agg p] => .dat (pxD (limP (unPx p)))
  | 53, [.i a] => .dat (.i (unitI a))
  | 54, [.i x, .i w] => .dat (.b (spanB x w))
  | 55, [.agg a, .agg b, .i x, .i y] => .dat (.i (crossI ⟨unPt a, unPt b⟩ x y))
  | 56, [.i a] => .dat (.v (.int .u64 (absU a)))
  | 57, [.i a] => .dat (.i (unitI a))
  | 58, [.i a] => .dat (.i (unitI a))
  | 59, [.i a, .i b, .i c] => .dat (.i (clampI a b c))
  | 60, [.i a, .i b, .i c] => .dat (.i (clampI a b c))
  | _, _ => .dat (.b false)
theorem g11  : Γ 11 [] = .dat (.b true) := rfl
theorem g12 (r : Int) (n_1 : Nat) (a : List (List D)) : Γ 12 [.sl n_1 a, .i r] = .dat (.i (checkE (a.map unPly) r)) := rfl
theorem g12_2 (a : Value) (r : Int) : Γ 12 [.v a, .i r] = .dat (.i (checkE [] r)) := rfl
theorem g13 (r : Int) (n_2 : Nat) (a : List (List D)) : Γ 13 [.sl n_2 a, .i r] = .dat (.i (checkE (a.map unPly) r)) := rfl
theorem g14 (n_3 : Nat) (a : List (List D)) : Γ 14 [.sl n_3 a] = .dat (rcD (boxR (a.map unPly))) := rfl
theorem g15 (n_4 : Nat) (a : List (List D)) : Γ 15 [.sl n_4 a] = .dat (rcD (boxR (a.map unPly))) := rfl
theorem g16 (n_5 : Nat) (a : List (List D)) : Γ 16 [.sl n_5 a] = .dat (.i (twiceI (a.map unPt))) := rfl
theorem g17 (n_6 : Nat) (a : List (List D)) : Γ 17 [.sl n_6 a] = .dat (.i (twiceI (a.map unPt))) := rfl
theorem g18 (r : Int) (o : List D) (n_7 : Nat) (a : List (List D)) : Γ 18 [.sl n_7 a, .i r, .agg o] = .tup [.agg [.dat (.i (maskR (a.map unPly) r (unRc o)).w), .dat (.i (maskR (a.map unPly) r (unRc o)).h), .own 3 1 ((maskR (a.map unPly) r (unRc o)).v.map iC)], .dat (.i (maskE (a.map unPly) r (unRc o)))] := rfl
theorem g19 (r : Int) (o : List D) (n_8 : Nat) (a : List (List D)) : Γ 19 [.sl n_8 a, .i r, .agg o] = .tup [.agg [.dat (.i (maskR (a.map unPly) r (unRc o)).w), .dat (.i (maskR (a.map unPly) r (unRc o)).h), .own 3 1 ((maskR (a.map unPly) r (unRc o)).v.map iC)], .dat (.i (maskE (a.map unPly) r (unRc o)))] := rfl
theorem g20 (a : List D) (b : List D) : Γ 20 [.agg a, .agg b] = .dat (.b (sameM (unMk a) (unMk b))) := rfl
theorem g21 (r : Int) (c : List D) (o : List D) (n_9 : Nat) (a : List (List D)) : Γ 21 [.sl n_9 a, .i r, .agg c, .agg o] = .tup [.agg [.dat (.i (paintR (a.map unPly) r (unPx c) (unRc o)).w), .dat (.i (paintR (a.map unPly) r (unPx c) (unRc o)).h), .own 40 4 ((paintR (a.map unPly) r (unPx c) (unRc o)).p.map pxC)], .dat (.i (paintE (a.map unPly) r (unPx c) (unRc o)))] := rfl
theorem g22 (r : Int) (c : List D) (o : List D) (n_10 : Nat) (a : List (List D)) : Γ 22 [.sl n_10 a, .i r, .agg c, .agg o] = .tup [.agg [.dat (.i (paintR (a.map unPly) r (unPx c) (unRc o)).w), .dat (.i (paintR (a.map unPly) r (unPx c) (unRc o)).h), .own 40 4 ((paintR (a.map unPly) r (unPx c) (unRc o)).p.map pxC)], .dat (.i (paintE (a.map unPly) r (unPx c) (unRc o)))] := rfl
theorem g23 (a : Int) (b : Int) (c : Int) (d : Int) : Γ 23 [.i a, .i b, .i c, .i d] = .own 48 2 ((squareL a b c d).map ptC) := rfl
theorem g24 (r : List D) : Γ 24 [.agg r] = .dat (.b (emptyB (unRc r))) := rfl
theorem g25 (a : Int) (b : Int) : Γ 25 [.i a, .i b] = .dat (.i (divI a b)) := rfl
theorem g26 (r : List D) (p : List D) : Γ 26 [.agg r, .agg p] = .dat (.b (hasB (unRc r) (unPt p))) := rfl
theorem g27 (a : List D) (b : List D) : Γ 27 [.agg a, .agg b] = .dat (rcD (moveR (unRc a) (unPt b))) := rfl
theorem g28 (r : List D) : Γ 28 [.agg r] = .dat (.i (areaI (unRc r))) := rfl
theorem g29 (a : List D) (b : List D) : Γ 29 [.agg a, .agg b] = .dat (rcD (meetR (unRc a) (unRc b))) := rfl
theorem g30 (a : List D) (b : List D) : Γ 30 [.agg a, .agg b] = .dat (.b (withinB (unRc a) (unRc b))) := rfl
theorem g31 (r : Int) (n_11 : Nat) (a : List (List D)) (n_12 : Nat) (w : List (List D)) : Γ 31 [.sl n_11 a, .i r, .sl n_12 w] = .dat (.b (coversB (a.map unPly) r (w.map unI))) := rfl
theorem g32 (a : Int) (b : Int) : Γ 32 [.i a, .i b] = .dat (.i (floorI a b)) := rfl
theorem g33 (a : Int) (b : Int) : Γ 33 [.i a, .i b] = .dat (.i (floorI a b)) := rfl
theorem g34 (r : List D) : Γ 34 [.agg r] = .dat (.i (areaE (unRc r))) := rfl
theorem g35 (y0 : Int) (y1 : Int) (n_13 : Nat) (a : List (List D)) : Γ 35 [.sl n_13 a, .i y0, .i y1] = .own 74 4 ((edgesL (a.map unPly) y0 y1).map edC) := rfl
theorem g38 (r : List D) : Γ 38 [.agg r] = .dat (.b (validB (unRc r))) := rfl
theorem g39 (r : List D) : Γ 39 [.agg r] = .dat (.b (emptyB (unRc r))) := rfl
theorem g40 (r : Int) (x : Int) (y : Int) (n_14 : Nat) (a : List (List D)) : Γ 40 [.sl n_14 a, .i r, .i x, .i y] = .dat (.i (valI (a.map unPly) r x y)) := rfl
theorem g41 (p : List D) : Γ 41 [.agg p] = .dat (.b (validP (unPx p))) := rfl
theorem g42 (p : List D) (a : Int) : Γ 42 [.agg p, .i a] = .dat (pxD (fadeP (unPx p) a)) := rfl
theorem g43 (p : List D) : Γ 43 [.agg p] = .dat (.b (validP (unPx p))) := rfl
theorem g44 (p : List D) (a : Int) : Γ 44 [.agg p, .i a] = .dat (pxD (fadeP (unPx p) a)) := rfl
theorem g45 (r : List D) : Γ 45 [.agg r] = .dat (.b (validB (unRc r))) := rfl
theorem g46 (a : Int) (b : Int) (c : Int) (d : Int) : Γ 46 [.i a, .i b, .i c, .i d] = .dat (rcD (betweenR a b c d)) := rfl
theorem g47 (s : List D) (y : Int) : Γ 47 [.agg s, .i y] = .dat (.i (befI (unEd s) y)) := rfl
theorem g48 (r : Int) (x : Int) (y : Int) (n_15 : Nat) (a : List (List D)) : Γ 48 [.sl n_15 a, .i r, .i x, .i y] = .dat (.b (insB r (insN (a.map unPly) x y))) := rfl
theorem g49 (a : Int) (b : Int) : Γ 49 [.i a, .i b] = .dat (.i (divI a b)) := rfl
theorem g50 (p : List D) : Γ 50 [.agg p] = .dat (pxD (limP (unPx p))) := rfl
theorem g51 (a : Int) (b : Int) : Γ 51 [.i a, .i b] = .dat (.i (mulI a b)) := rfl
theorem g52 (p : List D) : Γ 52 [.agg p] = .dat (pxD (limP (unPx p))) := rfl
theorem g53 (a : Int) : Γ 53 [.i a] = .dat (.i (unitI a)) := rfl
theorem g54 (x : Int) (w : Int) : Γ 54 [.i x, .i w] = .dat (.b (spanB x w)) := rfl
theorem g55 (a : List D) (b : List D) (x : Int) (y : Int) : Γ 55 [.agg a, .agg b, .i x, .i y] = .dat (.i (crossI ⟨unPt a, unPt b⟩ x y)) := rfl
theorem g56 (a : Int) : Γ 56 [.i a] = .dat (.v (.int .u64 (absU a))) := rfl
theorem g57 (a : Int) : Γ 57 [.i a] = .dat (.i (unitI a)) := rfl
theorem g58 (a : Int) : Γ 58 [.i a] = .dat (.i (unitI a)) := rfl
theorem g59 (a : Int) (b : Int) (c : Int) : Γ 59 [.i a, .i b, .i c] = .dat (.i (clampI a b c)) := rfl
theorem g60 (a : Int) (b : Int) (c : Int) : Γ 60 [.i a, .i b, .i c] = .dat (.i (clampI a b c)) := rfl
def Δ : FuncId → List AV → Hp → Option (List PX × RV)
  | 36, [a, b, c, t], h => match toD h a, toD h b, toD h c, t with | some (.sl _ l, _), some (.i y, _), some (.i x0, _), .vw nm o m n => (match geth h nm with | some (_, .arr T n2 L) => some ([.ro (.dat (.sl 4 l)), .ro (.dat (.i y)), .ro (.dat (.i x0)), .mu (.arr T n2 L) (.arr T n2 ((windL (l.map unEd) y x0 m).map iC)) o m n], .dat (.b (windB (l.map unEd) y))) | _ => none) | _, _, _, _ => none
  | 37, [a, b, t], h => match toD h a, toD h b, t with | some (.sl _ l, _), some (.i r, _), .vw nm o m n => (match geth h nm with | some (_, .arr T n2 L) => some ([.ro (.dat (.sl 1 l)), .ro (.dat (.i r)), .mu (.arr T n2 L) (.arr T n2 ((cntL (l.map unI) r (L.map unI) o m).map iC)) o m n], .tup []) | _ => none) | _, _, _ => none
  | _, _, _ => none
theorem dl36 (a b c t : AV) (h : Hp) : Δ 36 [a, b, c, t] h = (match toD h a, toD h b, toD h c, t with | some (.sl _ l, _), some (.i y, _), some (.i x0, _), .vw nm o m n => (match geth h nm with | some (_, .arr T n2 L) => some ([.ro (.dat (.sl 4 l)), .ro (.dat (.i y)), .ro (.dat (.i x0)), .mu (.arr T n2 L) (.arr T n2 ((windL (l.map unEd) y x0 m).map iC)) o m n], .dat (.b (windB (l.map unEd) y))) | _ => none) | _, _, _, _ => none) := rfl
theorem dl37 (a b t : AV) (h : Hp) : Δ 37 [a, b, t] h = (match toD h a, toD h b, t with | some (.sl _ l, _), some (.i r, _), .vw nm o m n => (match geth h nm with | some (_, .arr T n2 L) => some ([.ro (.dat (.sl 1 l)), .ro (.dat (.i r)), .mu (.arr T n2 L) (.arr T n2 ((cntL (l.map unI) r (L.map unI) o m).map iC)) o m n], .tup []) | _ => none) | _, _, _ => none) := rfl
theorem dn11 (l : List AV) (h : Hp) : Δ 11 l h = none := rfl
theorem dn12 (l : List AV) (h : Hp) : Δ 12 l h = none := rfl
theorem dn13 (l : List AV) (h : Hp) : Δ 13 l h = none := rfl
theorem dn14 (l : List AV) (h : Hp) : Δ 14 l h = none := rfl
theorem dn15 (l : List AV) (h : Hp) : Δ 15 l h = none := rfl
theorem dn16 (l : List AV) (h : Hp) : Δ 16 l h = none := rfl
theorem dn17 (l : List AV) (h : Hp) : Δ 17 l h = none := rfl
theorem dn18 (l : List AV) (h : Hp) : Δ 18 l h = none := rfl
theorem dn19 (l : List AV) (h : Hp) : Δ 19 l h = none := rfl
theorem dn20 (l : List AV) (h : Hp) : Δ 20 l h = none := rfl
theorem dn21 (l : List AV) (h : Hp) : Δ 21 l h = none := rfl
theorem dn22 (l : List AV) (h : Hp) : Δ 22 l h = none := rfl
theorem dn23 (l : List AV) (h : Hp) : Δ 23 l h = none := rfl
theorem dn24 (l : List AV) (h : Hp) : Δ 24 l h = none := rfl
theorem dn25 (l : List AV) (h : Hp) : Δ 25 l h = none := rfl
theorem dn26 (l : List AV) (h : Hp) : Δ 26 l h = none := rfl
theorem dn27 (l : List AV) (h : Hp) : Δ 27 l h = none := rfl
theorem dn28 (l : List AV) (h : Hp) : Δ 28 l h = none := rfl
theorem dn29 (l : List AV) (h : Hp) : Δ 29 l h = none := rfl
theorem dn30 (l : List AV) (h : Hp) : Δ 30 l h = none := rfl
theorem dn31 (l : List AV) (h : Hp) : Δ 31 l h = none := rfl
theorem dn32 (l : List AV) (h : Hp) : Δ 32 l h = none := rfl
theorem dn33 (l : List AV) (h : Hp) : Δ 33 l h = none := rfl
theorem dn34 (l : List AV) (h : Hp) : Δ 34 l h = none := rfl
theorem dn35 (l : List AV) (h : Hp) : Δ 35 l h = none := rfl
theorem dn38 (l : List AV) (h : Hp) : Δ 38 l h = none := rfl
theorem dn39 (l : List AV) (h : Hp) : Δ 39 l h = none := rfl
theorem dn40 (l : List AV) (h : Hp) : Δ 40 l h = none := rfl
theorem dn41 (l : List AV) (h : Hp) : Δ 41 l h = none := rfl
theorem dn42 (l : List AV) (h : Hp) : Δ 42 l h = none := rfl
theorem dn43 (l : List AV) (h : Hp) : Δ 43 l h = none := rfl
theorem dn44 (l : List AV) (h : Hp) : Δ 44 l h = none := rfl
theorem dn45 (l : List AV) (h : Hp) : Δ 45 l h = none := rfl
theorem dn46 (l : List AV) (h : Hp) : Δ 46 l h = none := rfl
theorem dn47 (l : List AV) (h : Hp) : Δ 47 l h = none := rfl
theorem dn48 (l : List AV) (h : Hp) : Δ 48 l h = none := rfl
theorem dn49 (l : List AV) (h : Hp) : Δ 49 l h = none := rfl
theorem dn50 (l : List AV) (h : Hp) : Δ 50 l h = none := rfl
theorem dn51 (l : List AV) (h : Hp) : Δ 51 l h = none := rfl
theorem dn52 (l : List AV) (h : Hp) : Δ 52 l h = none := rfl
theorem dn53 (l : List AV) (h : Hp) : Δ 53 l h = none := rfl
theorem dn54 (l : List AV) (h : Hp) : Δ 54 l h = none := rfl
theorem dn55 (l : List AV) (h : Hp) : Δ 55 l h = none := rfl
theorem dn56 (l : List AV) (h : Hp) : Δ 56 l h = none := rfl
theorem dn57 (l : List AV) (h : Hp) : Δ 57 l h = none := rfl
theorem dn58 (l : List AV) (h : Hp) : Δ 58 l h = none := rfl
theorem dn59 (l : List AV) (h : Hp) : Δ 59 l h = none := rfl
theorem dn60 (l : List AV) (h : Hp) : Δ 60 l h = none := rfl

set_option linter.unusedSimpArgs false
set_option maxRecDepth 100000 in
theorem evs {p X : Prop} (hx : X) (h : Is p X := by simp only [runOps, stepS, inB, outOf, callOf, opV, putA, opnd, dOf, parA, Eng.get, geth, gather, nrm, del, Hold_some, Cnd_b, fin, vBin, isI, sp, shI, binI, pk, eqL, notIf, vUn, vPick, vConv, vExtr, rdA, rdD, elt, vLoad, vFld, vIdx, vAlloc, vBox, partsA, pks, vBuild, bld, bldS, vBuildS, vMake, hiOf, opk, vSlice, vStore, minL, maxL, pkl, vLen, vMin, vMax, srcOf, dstOf, vApp, cellsOf, allDat, mkAgg, spl, fresh, AV.refs, AV.refsL, Ent.refs, inst, insts, still, stills, toD, toDs, freshR, argsD, vCallR, vCall, gb, gval, hg, Ret, resA, retA, retAs, retDs, D.plain, D.plainL, D.plainLL, RV.plain, RV.plainL, lk, leA, leAs, leE, leEnv, imgs, leHp, noDup, Eng.Sub, clr, clrh, runX, stepX, outZ, outY, vCallX, argX, argsX, roX, nmsX, hpX, PX.av, hpI, hpO, pinned, outX, isPin, isEnt, PX.plains, PX.plain, Ent.isArr, Ent.plain, AV.dats, AV.datP, AV.datPs, unp, vClear, vCopy, RV.flat, RV.flats, List.zipIdx_cons, List.zipIdx_nil, List.map_cons, List.map_nil, List.map_append, List.all_cons, List.all_nil, List.contains_nil, List.contains_cons, List.getElem?_cons_zero, List.getElem?_cons_succ, List.getElem?_nil, List.length_cons, List.length_nil, List.length_map, List.length_replicate, List.nil_append, List.cons_append, List.append_nil, List.take_succ_cons, List.take_zero, List.take_nil, List.drop_succ_cons, List.drop_zero, List.drop_nil, List.set_cons_zero, List.set_cons_succ, List.replicate_succ, List.replicate_zero, List.nodup_nil, List.nodup_cons, List.not_mem_nil, List.mem_cons, decide_true, decide_false, cond_true, cond_false, Nat.reduceLT, Nat.reduceLeDiff, Nat.reduceAdd, Nat.reduceSub, Nat.reduceMul, Nat.reduceBEq, Nat.reduceEqDiff, Nat.zero_add, Nat.add_zero, Nat.sub_self, Nat.sub_zero, Nat.zero_mul, true_and, and_true, forall_const, implies_true, imp_self, and_self, not_false_eq_true, not_true_eq_false, Bool.and_true, Bool.true_and, Bool.and_false, Bool.false_and, Bool.or_true, Bool.true_or, Bool.or_false, Bool.false_or, Bool.not_true, Bool.not_false, Bool.and_self, Bool.not_not, beq_self_eq_true, beq_true, beq_false, bne_self_eq_false, Bool.cond_false_right, Bool.cond_true_left, Option.map_some, Option.map_none, Option.getD_some, Option.getD_none, Option.isSome_some, Option.isSome_none, Option.bind_some, reduceCtorEq, Bool.false_eq_true, Bool.true_eq_false, D.i.injEq, D.b.injEq, D.v.injEq, D.agg.injEq, D.sl.injEq, AV.dat.injEq, AV.vw.injEq, AV.pt.injEq, AV.ep.injEq, AV.rp.injEq, List.cons.injEq, Int.toNat_natCast, true_implies, decide_eq_true_eq, decide_eq_false_iff_not, Bool.and_eq_true, Bool.or_eq_true, Bool.or_eq_false_iff, Bool.not_eq_true', Bool.not_eq_false', Bool.not_eq_true, Bool.not_eq_false, bne_iff_ne, beq_iff_eq, bne_eq_false_iff_eq, beq_eq_false_iff_ne, Int.not_lt, Int.not_le, ne_eq, Bool.false_and, Value.oneCell', ↓reduceIte, eqI, eqN, eqB, eqD, eqL1, eqL2, runQ, stepQ, vIndex, cut, List.append_eq, List.toList_toArray, y3, s3, b3, o3, p3, z3, d3, k3, y4, s4, b4, o4, p4, z4, d4, q4, y5, s5, b5, o5, p5, z5, d5, k5, y22, s22, b22, o22, p22, z22, d22, e22, y24, s24, b24, o24, p24, z24, d24, k24, y27, s27, b27, o27, p27, z27, d27, f27_0, f27_1, f27_2, f27_3, l27, q27, y29, s29, b29, o29, p29, z29, d29, e29, y32, s32, b32, o32, p32, z32, d32, e32, y34, s34, b34, o34, p34, z34, d34, f34_0, f34_1, f34_2, l34, y40, s40, b40, o40, p40, z40, d40, f40_0, f40_1, f40_2, f40_3, l40, q40, y41, s41, b41, o41, p41, z41, d41, e41, y43, s43, b43, o43, p43, z43, d43, f43_0, f43_1, f43_2, l43, y48, s48, b48, o48, p48, z48, d48, f48_0, f48_1, l48, q48, y49, s49, b49, o49, p49, z49, d49, k49, y56, s56, b56, o56, p56, z56, d56, k56, y65, s65, b65, o65, p65, z65, d65, e65, y74, s74, b74, o74, p74, z74, d74, f74_0, f74_1, l74, y80, s80, b80, o80, p80, z80, d80, k80, n11, n12, n13, n14, n15, n16, n17, n18, n19, n20, n21, n22, n23, n24, n25, n26, n27, n28, n29, n30, n31, n32, n33, n34, n35, n36, n37, n38, n39, n40, n41, n42, n43, n44, n45, n46, n47, n48, n49, n50, n51, n52, n53, n54, n55, n56, n57, n58, n59, n60, g11, g12, g12_2, g13, g14, g15, g16, g17, g18, g19, g20, g21, g22, g23, g24, g25, g26, g27, g28, g29, g30, g31, g32, g33, g34, g35, g38, g39, g40, g41, g42, g43, g44, g45, g46, g47, g48, g49, g50, g51, g52, g53, g54, g55, g56, g57, g58, g59, g60, dl36, dl37, dn11, dn12, dn13, dn14, dn15, dn16, dn17, dn18, dn19, dn20, dn21, dn22, dn23, dn24, dn25, dn26, dn27, dn28, dn29, dn30, dn31, dn32, dn33, dn34, dn35, dn38, dn39, dn40, dn41, dn42, dn43, dn44, dn45, dn46, dn47, dn48, dn49, dn50, dn51, dn52, dn53, dn54, dn55, dn56, dn57, dn58, dn59, dn60, unRcE, unPtE, mapRc, mapPt, getDRc, getDPt, tkR, tkP, plRc, plPt, rcD, ptD, rcC, ptC, unPxE, mapPx, getDPx, mapI, getDI, setI, plI, plPx, repI, setPx, repPx, tkI, tkPx, pxD, pxC, mapPly, getDPly, unPlyE, plyD, unEdE, mapEd, getDEd, plEd, tkEd, edD, edC, unMkE, unMk0, VL_len, windK_len, cntK_len, windL_len, tkWL, SF_len, SG_len, toN0, List.length_set, List.length_range, mkD, mkC, unImE, imD, imC, unMkN, tkPly]; exact Is.rfl) : Ev p := h.ev hx
end Go.S20

