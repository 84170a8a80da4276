import Derived.Test.YtfpimhkkknfmcaaEE
import Derived.Test.YtfpimhkkknfmcaaLA
import Derived.Test.YtfpimhkkknfmcaaProg
import Derived.KernelRfl
set_option linter.unusedSimpArgs false
set_option linter.unusedVariables false
namespace Go.Rect
open Go.RowKit Go.Proofs Go.Eng
/-! ### The tables of the program, printed by a program (wip/gen) -/
theorem y3 : tyOf Try.prog 3 = some (1, false) := by kernel_rfl
theorem s3 : szOf Try.prog 3 = 1 := by kernel_rfl
theorem b3 : byOf Try.prog 3 = 8 := by kernel_rfl
theorem o3 : (Try.prog.info? 3).isSome = true := by kernel_rfl
theorem p3 : (Try.prog.underlying 3).isSome = true := by kernel_rfl
theorem z3 : zC Try.prog 3 = some [.i 0] := by kernel_rfl
theorem d3 : dfD Try.prog 9 3 = [.i 0] := by kernel_rfl
theorem k3 : ikOf Try.prog 3 = some .i64 := by kernel_rfl
theorem y4 : tyOf Try.prog 4 = some (1, false) := by kernel_rfl
theorem s4 : szOf Try.prog 4 = 1 := by kernel_rfl
theorem b4 : byOf Try.prog 4 = 1 := by kernel_rfl
theorem o4 : (Try.prog.info? 4).isSome = true := by kernel_rfl
theorem p4 : (Try.prog.underlying 4).isSome = true := by kernel_rfl
theorem z4 : zC Try.prog 4 = some [.b false] := by kernel_rfl
theorem d4 : dfD Try.prog 9 4 = [.b false] := by kernel_rfl
theorem q4 : isBo Try.prog 4 = true := by kernel_rfl
theorem y5 : tyOf Try.prog 5 = some (1, false) := by kernel_rfl
theorem s5 : szOf Try.prog 5 = 1 := by kernel_rfl
theorem b5 : byOf Try.prog 5 = 1 := by kernel_rfl
theorem o5 : (Try.prog.info? 5).isSome = true := by kernel_rfl
theorem p5 : (Try.prog.underlying 5).isSome = true := by kernel_rfl
theorem z5 : zC Try.prog 5 = some [.v (.int .u8 0)] := by kernel_rfl
theorem d5 : dfD Try.prog 9 5 = [.v (.int .u8 0)] := by kernel_rfl
theorem k5 : ikOf Try.prog 5 = some .u8 := by kernel_rfl
theorem y23 : tyOf Try.prog 23 = some (4, true) := by kernel_rfl
theorem s23 : szOf Try.prog 23 = 4 := by kernel_rfl
theorem b23 : byOf Try.prog 23 = 32 := by kernel_rfl
theorem o23 : (Try.prog.info? 23).isSome = true := by kernel_rfl
theorem p23 : (Try.prog.underlying 23).isSome = true := by kernel_rfl
theorem z23 : zC Try.prog 23 = some [.i 0, .i 0, .i 0, .i 0] := by kernel_rfl
theorem d23 : dfD Try.prog 9 23 = [.i 0, .i 0, .i 0, .i 0] := by kernel_rfl
theorem f23_0 : fldOf Try.prog 23 0 = some (0, 3) := by kernel_rfl
theorem f23_1 : fldOf Try.prog 23 1 = some (1, 3) := by kernel_rfl
theorem f23_2 : fldOf Try.prog 23 2 = some (2, 3) := by kernel_rfl
theorem f23_3 : fldOf Try.prog 23 3 = some (3, 3) := by kernel_rfl
theorem l23 : plF Try.prog 23 = some fun i => ([(0, 1), (1, 1), (2, 1), (3, 1)] : List (Nat × Nat))[i]? := by kernel_rfl
theorem q23 : eqTy Try.prog 23 = some 4 := by kernel_rfl
theorem y25 : tyOf Try.prog 25 = some (2, true) := by kernel_rfl
theorem s25 : szOf Try.prog 25 = 2 := by kernel_rfl
theorem b25 : byOf Try.prog 25 = 16 := by kernel_rfl
theorem o25 : (Try.prog.info? 25).isSome = true := by kernel_rfl
theorem p25 : (Try.prog.underlying 25).isSome = true := by kernel_rfl
theorem z25 : zC Try.prog 25 = some [.i 0, .i 0] := by kernel_rfl
theorem d25 : dfD Try.prog 9 25 = [.i 0, .i 0] := by kernel_rfl
theorem f25_0 : fldOf Try.prog 25 0 = some (0, 3) := by kernel_rfl
theorem f25_1 : fldOf Try.prog 25 1 = some (1, 3) := by kernel_rfl
theorem l25 : plF Try.prog 25 = some fun i => ([(0, 1), (1, 1)] : List (Nat × Nat))[i]? := by kernel_rfl
theorem q25 : eqTy Try.prog 25 = some 2 := by kernel_rfl
theorem y36 : tyOf Try.prog 36 = some (1, false) := by kernel_rfl
theorem s36 : szOf Try.prog 36 = 1 := by kernel_rfl
theorem b36 : byOf Try.prog 36 = 24 := by kernel_rfl
theorem o36 : (Try.prog.info? 36).isSome = true := by kernel_rfl
theorem p36 : (Try.prog.underlying 36).isSome = true := by kernel_rfl
theorem z36 : zC Try.prog 36 = some [.v (.slice none 0 0)] := by kernel_rfl
theorem d36 : dfD Try.prog 9 36 = [.sl 4 []] := by kernel_rfl
theorem e36 : elOf Try.prog 36 = some 23 := by kernel_rfl
theorem y40 : tyOf Try.prog 40 = some (1, false) := by kernel_rfl
theorem s40 : szOf Try.prog 40 = 1 := by kernel_rfl
theorem b40 : byOf Try.prog 40 = 24 := by kernel_rfl
theorem o40 : (Try.prog.info? 40).isSome = true := by kernel_rfl
theorem p40 : (Try.prog.underlying 40).isSome = true := by kernel_rfl
theorem z40 : zC Try.prog 40 = some [.v (.slice none 0 0)] := by kernel_rfl
theorem d40 : dfD Try.prog 9 40 = [.sl 2 []] := by kernel_rfl
theorem e40 : elOf Try.prog 40 = some 25 := by kernel_rfl
theorem y49 : tyOf Try.prog 49 = some (16, true) := by kernel_rfl
theorem s49 : szOf Try.prog 49 = 16 := by kernel_rfl
theorem b49 : byOf Try.prog 49 = 128 := by kernel_rfl
theorem o49 : (Try.prog.info? 49).isSome = true := by kernel_rfl
theorem p49 : (Try.prog.underlying 49).isSome = true := by kernel_rfl
theorem z49 : zC Try.prog 49 = some [.i 0, .i 0, .i 0, .i 0, .i 0, .i 0, .i 0, .i 0, .i 0, .i 0, .i 0, .i 0, .i 0, .i 0, .i 0, .i 0] := by kernel_rfl
theorem d49 : dfD Try.prog 9 49 = [.i 0, .i 0, .i 0, .i 0, .i 0, .i 0, .i 0, .i 0, .i 0, .i 0, .i 0, .i 0, .i 0, .i 0, .i 0, .i 0] := by kernel_rfl
theorem a49 : arOf Try.prog 49 = some (4, 23) := by kernel_rfl
theorem l49 : plF Try.prog 49 = some fun i => some (i * 4, 4) := by kernel_rfl
theorem n12 : isFn Try.prog 12 = true := by kernel_rfl
theorem n13 : isFn Try.prog 13 = true := by kernel_rfl
theorem n14 : isFn Try.prog 14 = true := by kernel_rfl
theorem n15 : isFn Try.prog 15 = true := by kernel_rfl
theorem n16 : isFn Try.prog 16 = true := by kernel_rfl
theorem n17 : isFn Try.prog 17 = true := by kernel_rfl
theorem n18 : isFn Try.prog 18 = true := by kernel_rfl
theorem n19 : isFn Try.prog 19 = true := by kernel_rfl
theorem n20 : isFn Try.prog 20 = true := by kernel_rfl
theorem n21 : isFn Try.prog 21 = true := by kernel_rfl
theorem n22 : isFn Try.prog 22 = true := by kernel_rfl
theorem n23 : isFn Try.prog 23 = true := by kernel_rfl
theorem n24 : isFn Try.prog 24 = true := by kernel_rfl
theorem n25 : isFn Try.prog 25 = true := by kernel_rfl
theorem n26 : isFn Try.prog 26 = true := by kernel_rfl
theorem n27 : isFn Try.prog 27 = true := by kernel_rfl
theorem n28 : isFn Try.prog 28 = true := by kernel_rfl
theorem n29 : isFn Try.prog 29 = true := by kernel_rfl
theorem n30 : isFn Try.prog 30 = true := by kernel_rfl
theorem n31 : isFn Try.prog 31 = true := by kernel_rfl
theorem n32 : isFn Try.prog 32 = true := by kernel_rfl
theorem n33 : isFn Try.prog 33 = true := by kernel_rfl
theorem n34 : isFn Try.prog 34 = true := by kernel_rfl
theorem n35 : isFn Try.prog 35 = true := by kernel_rfl
theorem n36 : isFn Try.prog 36 = true := by kernel_rfl
theorem n37 : isFn Try.prog 37 = true := by kernel_rfl
theorem n38 : isFn Try.prog 38 = true := by kernel_rfl
theorem n39 : isFn Try.prog 39 = true := by kernel_rfl
theorem n40 : isFn Try.prog 40 = true := by kernel_rfl
theorem n41 : isFn Try.prog 41 = true := by kernel_rfl
theorem n42 : isFn Try.prog 42 = true := by kernel_rfl
theorem n43 : isFn Try.prog 43 = true := by kernel_rfl
theorem n44 : isFn Try.prog 44 = true := by kernel_rfl
theorem n45 : isFn Try.prog 45 = true := by kernel_rfl
theorem n46 : isFn Try.prog 46 = true := by kernel_rfl
theorem mixed : Try.prog.follows .mixedOrders = true := by kernel_rfl
def Γ : FuncId → List D → RV
  | 12, [] => .dat (.b true)
  | 13, [.agg r] => .dat (.b (validB (unRc r)))
  | 14, [.agg r] => .dat (.b (validB (unRc r)))
  | 15, [.agg r] => .dat (.b (emptyB (unRc r)))
  | 16, [.agg r] => .dat (.b (emptyB (unRc r)))
  | 17, [.agg r, .agg p] => .dat (.b (hasB (unRc r) (unPt p)))
  | 18, [.agg r, .agg p] => .dat (.b (hasB (unRc r) (unPt p)))
  | 19, [.agg r] => .dat (.i (areaI (unRc r)))
  | 20, [.agg r] => .dat (.i (areaI (unRc r)))
  | 21, [.agg a, .agg b] => .dat (.b (withinB (unRc a) (unRc b)))
  | 22, [.agg a, .agg b] => .dat (.b (withinB (unRc a) (unRc b)))
  | 23, [.agg a, .agg b] => .dat (rcD (meetR (unRc a) (unRc b)))
  | 24, [.agg a, .agg b] => .dat (rcD (meetR (unRc a) (unRc b)))
  | 25, [.agg a, .agg b] => .dat (rcD (joinR (unRc a) (unRc b)))
  | 26, [.agg a, .agg b] => .dat (rcD (joinR (unRc a) (unRc b)))
  | 27, [.agg a, .agg b] => .dat (rcD (moveR (unRc a) (unPt b)))
  | 28, [.agg a, .agg b] => .dat (rcD (moveR (unRc a) (unPt b)))
  | 29, [.agg a, .i n] => .dat (rcD (growR (unRc a) n))
  | 30, [.agg a, .i n] => .dat (rcD (growR (unRc a) n))
  | 31, [.sl _ a, .sl _ b] => .dat (.b (sameL (a.map unRc) (b.map unRc)))
  | 32, [.agg a, .agg b] => .own 23 4 ((minusL (unRc a) (unRc b)).map rcC)
  | 33, [.agg a, .agg b] => .own 23 4 ((minusL (unRc a) (unRc b)).map rcC)
  | 34, [.agg p] => .dat (rcD (ofTileR (unPt p)))
  | 35, [.agg p] => .dat (rcD (ofTileR (unPt p)))
  | 36, [.sl _ a, .sl _ b] => .dat (.b (sameL (a.map unPt) (b.map unPt)))
  | 37, [.agg a] => .own 25 2 ((tilesL (unRc a)).map ptC)
  | 38, [.agg a] => .own 25 2 ((tilesL (unRc a)).map ptC)
  | 39, [.i x, .i w] => .dat (.b (spanB x w))
  | 40, [.agg a, .i n] => .tup [.dat (.i (spanS (unRc a) n)), .dat (.i (spanE (unRc a) n))]
  | 41, [.i a, .i b, .i c, .i d] => .dat (rcD (betweenR a b c d))
  | 42, [.i a, .i b, .i c, .i d] => .dat (rcD (ofR a b c d))
  | 43, [.i a, .i b, .i c, .i d] => .dat (rcD (worldR a b c d))
  | 44, [.i n] => .dat (.i (lim3 n))
  | 45, [.i n] => .dat (.i (tileI n))
  | 46, [.i n] => .dat (.i (tileI n))
  | _, _ => .dat (.b false)
theorem g12  : Γ 12 [] = .dat (.b true) := rfl
theorem g13 (r : List D) : Γ 13 [.agg r] = .dat (.b (validB (unRc r))) := rfl
theorem g14 (r : List D) : Γ 14 [.agg r] = .dat (.b (validB (unRc r))) := rfl
theorem g15 (r : List D) : Γ 15 [.agg r] = .dat (.b (emptyB (unRc r))) := rfl
theorem g16 (r : List D) : Γ 16 [.agg r] = .dat (.b (emptyB (unRc r))) := rfl
theorem g17 (r : List D) (p : List D) : Γ 17 [.agg r, .agg p] = .dat (.b (hasB (unRc r) (unPt p))) := rfl
theorem g18 (r : List D) (p : List D) : Γ 18 [.agg r, .agg p] = .dat (.b (hasB (unRc r) (unPt p))) := rfl
theorem g19 (r : List D) : Γ 19 [.agg r] = .dat (.i (areaI (unRc r))) := rfl
theorem g20 (r : List D) : Γ 20 [.agg r] = .dat (.i (areaI (unRc r))) := rfl
theorem g21 (a : List D) (b : List D) : Γ 21 [.agg a, .agg b] = .dat (.b (withinB (unRc a) (unRc b))) := rfl
theorem g22 (a : List D) (b : List D) : Γ 22 [.agg a, .agg b] = .dat (.b (withinB (unRc a) (unRc b))) := rfl
theorem g23 (a : List D) (b : List D) : Γ 23 [.agg a, .agg b] = .dat (rcD (meetR (unRc a) (unRc b))) := rfl
theorem g24 (a : List D) (b : List D) : Γ 24 [.agg a, .agg b] = .dat (rcD (meetR (unRc a) (unRc b))) := rfl
theorem g25 (a : List D) (b : List D) : Γ 25 [.agg a, .agg b] = .dat (rcD (joinR (unRc a) (unRc b))) := rfl
theorem g26 (a : List D) (b : List D) : Γ 26 [.agg a, .agg b] = .dat (rcD (joinR (unRc a) (unRc b))) := rfl
theorem g27 (a : List D) (b : List D) : Γ 27 [.agg a, .agg b] = .dat (rcD (moveR (unRc a) (unPt b))) := rfl
theorem g28 (a : List D) (b : List D) : Γ 28 [.agg a, .agg b] = .dat (rcD (moveR (unRc a) (unPt b))) := rfl
theorem g29 (a : List D) (n : Int) : Γ 29 [.agg a, .i n] = .dat (rcD (growR (unRc a) n)) := rfl
theorem g30 (a : List D) (n : Int) : Γ 30 [.agg a, .i n] = .dat (rcD (growR (unRc a) n)) := rfl
theorem g31 (n_a : Nat) (a : List (List D)) (n_b : Nat) (b : List (List D)) : Γ 31 [.sl n_a a, .sl n_b b] = .dat (.b (sameL (a.map unRc) (b.map unRc))) := rfl
theorem g32 (a : List D) (b : List D) : Γ 32 [.agg a, .agg b] = .own 23 4 ((minusL (unRc a) (unRc b)).map rcC) := rfl
theorem g33 (a : List D) (b : List D) : Γ 33 [.agg a, .agg b] = .own 23 4 ((minusL (unRc a) (unRc b)).map rcC) := rfl
theorem g34 (p : List D) : Γ 34 [.agg p] = .dat (rcD (ofTileR (unPt p))) := rfl
theorem g35 (p : List D) : Γ 35 [.agg p] = .dat (rcD (ofTileR (unPt p))) := rfl
theorem g36 (n_a : Nat) (a : List (List D)) (n_b : Nat) (b : List (List D)) : Γ 36 [.sl n_a a, .sl n_b b] = .dat (.b (sameL (a.map unPt) (b.map unPt))) := rfl
theorem g37 (a : List D) : Γ 37 [.agg a] = .own 25 2 ((tilesL (unRc a)).map ptC) := rfl
theorem g38 (a : List D) : Γ 38 [.agg a] = .own 25 2 ((tilesL (unRc a)).map ptC) := rfl
theorem g39 (x : Int) (w : Int) : Γ 39 [.i x, .i w] = .dat (.b (spanB x w)) := rfl
theorem g40 (a : List D) (n : Int) : Γ 40 [.agg a, .i n] = .tup [.dat (.i (spanS (unRc a) n)), .dat (.i (spanE (unRc a) n))] := rfl
theorem g41 (a : Int) (b : Int) (c : Int) (d : Int) : Γ 41 [.i a, .i b, .i c, .i d] = .dat (rcD (betweenR a b c d)) := rfl
theorem g42 (a : Int) (b : Int) (c : Int) (d : Int) : Γ 42 [.i a, .i b, .i c, .i d] = .dat (rcD (ofR a b c d)) := rfl
theorem g43 (a : Int) (b : Int) (c : Int) (d : Int) : Γ 43 [.i a, .i b, .i c, .i d] = .dat (rcD (worldR a b c d)) := rfl
theorem g44 (n : Int) : Γ 44 [.i n] = .dat (.i (lim3 n)) := rfl
theorem g45 (n : Int) : Γ 45 [.i n] = .dat (.i (tileI n)) := rfl
theorem g46 (n : Int) : Γ 46 [.i n] = .dat (.i (tileI n)) := rfl

def Δ : FuncId → List AV → Hp → Option (List PX × RV) := fun _ _ _ => none
theorem dn12 (l : List AV) (h : Hp) : Δ 12 l h = none := rfl
theorem dn13 (l : List AV) (h : Hp) : Δ 13 l h = none := rfl
theorem dn14 (l : List AV) (h : Hp) : Δ 14 l h = none := rfl
theorem dn15 (l : List AV) (h : Hp) : Δ 15 l h = none := rfl
theorem dn16 (l : List AV) (h : Hp) : Δ 16 l h = none := rfl
theorem dn17 (l : List AV) (h : Hp) : Δ 17 l h = none := rfl
theorem dn18 (l : List AV) (h : Hp) : Δ 18 l h = none := rfl
theorem dn19 (l : List AV) (h : Hp) : Δ 19 l h = none := rfl
theorem dn20 (l : List AV) (h : Hp) : Δ 20 l h = none := rfl
theorem dn21 (l : List AV) (h : Hp) : Δ 21 l h = none := rfl
theorem dn22 (l : List AV) (h : Hp) : Δ 22 l h = none := rfl
theorem dn23 (l : List AV) (h : Hp) : Δ 23 l h = none := rfl
theorem dn24 (l : List AV) (h : Hp) : Δ 24 l h = none := rfl
theorem dn25 (l : List AV) (h : Hp) : Δ 25 l h = none := rfl
theorem dn26 (l : List AV) (h : Hp) : Δ 26 l h = none := rfl
theorem dn27 (l : List AV) (h : Hp) : Δ 27 l h = none := rfl
theorem dn28 (l : List AV) (h : Hp) : Δ 28 l h = none := rfl
theorem dn29 (l : List AV) (h : Hp) : Δ 29 l h = none := rfl
theorem dn30 (l : List AV) (h : Hp) : Δ 30 l h = none := rfl
theorem dn31 (l : List AV) (h : Hp) : Δ 31 l h = none := rfl
theorem dn32 (l : List AV) (h : Hp) : Δ 32 l h = none := rfl
theorem dn33 (l : List AV) (h : Hp) : Δ 33 l h = none := rfl
theorem dn34 (l : List AV) (h : Hp) : Δ 34 l h = none := rfl
theorem dn35 (l : List AV) (h : Hp) : Δ 35 l h = none := rfl
theorem dn36 (l : List AV) (h : Hp) : Δ 36 l h = none := rfl
theorem dn37 (l : List AV) (h : Hp) : Δ 37 l h = none := rfl
theorem dn38 (l : List AV) (h : Hp) : Δ 38 l h = none := rfl
theorem dn39 (l : List AV) (h : Hp) : Δ 39 l h = none := rfl
theorem dn40 (l : List AV) (h : Hp) : Δ 40 l h = none := rfl
theorem dn41 (l : List AV) (h : Hp) : Δ 41 l h = none := rfl
theorem dn42 (l : List AV) (h : Hp) : Δ 42 l h = none := rfl
theorem dn43 (l : List AV) (h : Hp) : Δ 43 l h = none := rfl
theorem dn44 (l : List AV) (h : Hp) : Δ 44 l h = none := rfl
theorem dn45 (l : List AV) (h : Hp) : Δ 45 l h = none := rfl
theorem dn46 (l : List AV) (h : Hp) : Δ 46 l h = none := rfl

set_option linter.unusedSimpArgs false
set_option maxRecDepth 100000 in
theorem evs {p X : Prop} (hx : X) (h : Is p X := by simp only [runOps, stepS, inB, outOf, callOf, opV, putA, opnd, dOf, parA, Eng.get, geth, gather, nrm, del, Hold_some, Cnd_b, fin, vBin, isI, sp, shI, binI, pk, eqL, notIf, vUn, vPick, vConv, vExtr, rdA, rdD, elt, vLoad, vFld, vIdx, vAlloc, vBox, partsA, pks, vBuild, bld, bldS, vBuildS, vMake, hiOf, opk, vSlice, vStore, minL, maxL, pkl, vLen, vMin, vMax, srcOf, dstOf, vApp, cellsOf, allDat, mkAgg, spl, fresh, AV.refs, AV.refsL, Ent.refs, inst, insts, still, stills, toD, toDs, freshR, argsD, vCallR, vCall, mixOf, cellM, cellsM, vCallM, gb, gval, hg, Ret, resA, retA, retAs, retDs, D.plain, D.plainL, D.plainLL, RV.plain, RV.plainL, lk, leA, leAs, leE, leEnv, imgs, leHp, noDup, Eng.Sub, clr, clrh, runX, stepX, outZ, outY, vCallX, argX, argsX, roX, nmsX, hpX, PX.av, hpI, hpO, pinned, outX, isPin, isEnt, PX.plains, PX.plain, Ent.isArr, Ent.plain, AV.dats, AV.datP, AV.datPs, unp, vClear, vCopy, RV.flat, RV.flats, List.zipIdx_cons, List.zipIdx_nil, List.map_cons, List.map_nil, List.map_append, List.all_cons, List.all_nil, List.contains_nil, List.contains_cons, List.getElem?_cons_zero, List.getElem?_cons_succ, List.getElem?_nil, List.length_cons, List.length_nil, List.length_map, List.length_replicate, List.nil_append, List.cons_append, List.append_nil, List.take_succ_cons, List.take_zero, List.take_nil, List.drop_succ_cons, List.drop_zero, List.drop_nil, List.set_cons_zero, List.set_cons_succ, List.replicate_succ, List.replicate_zero, List.nodup_nil, List.nodup_cons, List.not_mem_nil, List.mem_cons, decide_true, decide_false, cond_true, cond_false, Nat.reduceLT, Nat.reduceLeDiff, Nat.reduceAdd, Nat.reduceSub, Nat.reduceMul, Nat.reduceBEq, Nat.reduceEqDiff, Nat.zero_add, Nat.add_zero, Nat.sub_self, Nat.sub_zero, Nat.zero_mul, true_and, and_true, forall_const, implies_true, imp_self, and_self, not_false_eq_true, not_true_eq_false, Bool.and_true, Bool.true_and, Bool.and_false, Bool.false_and, Bool.or_true, Bool.true_or, Bool.or_false, Bool.false_or, Bool.not_true, Bool.not_false, Bool.and_self, Bool.not_not, beq_self_eq_true, beq_true, beq_false, bne_self_eq_false, Bool.cond_false_right, Bool.cond_true_left, Option.map_some, Option.map_none, Option.getD_some, Option.getD_none, Option.isSome_some, Option.isSome_none, Option.bind_some, reduceCtorEq, Bool.false_eq_true, Bool.true_eq_false, D.i.injEq, D.b.injEq, D.v.injEq, D.agg.injEq, D.sl.injEq, AV.dat.injEq, AV.vw.injEq, AV.pt.injEq, AV.ep.injEq, AV.rp.injEq, List.cons.injEq, Int.toNat_natCast, true_implies, decide_eq_true_eq, decide_eq_false_iff_not, Bool.and_eq_true, Bool.or_eq_true, Bool.or_eq_false_iff, Bool.not_eq_true', Bool.not_eq_false', Bool.not_eq_true, Bool.not_eq_false, bne_iff_ne, beq_iff_eq, bne_eq_false_iff_eq, beq_eq_false_iff_ne, Int.not_lt, Int.not_le, ne_eq, Bool.false_and, Value.oneCell', ↓reduceIte, eqI, eqN, eqB, eqD, eqL1, eqL2, runQ, stepQ, runQA, stepQA, adOk, adOf, acc, vIndex, cut, List.append_eq, List.toList_toArray, y3, s3, b3, o3, p3, z3, d3, k3, y4, s4, b4, o4, p4, z4, d4, q4, y5, s5, b5, o5, p5, z5, d5, k5, y23, s23, b23, o23, p23, z23, d23, f23_0, f23_1, f23_2, f23_3, l23, q23, y25, s25, b25, o25, p25, z25, d25, f25_0, f25_1, l25, q25, y36, s36, b36, o36, p36, z36, d36, e36, y40, s40, b40, o40, p40, z40, d40, e40, y49, s49, b49, o49, p49, z49, d49, a49, l49, n12, n13, n14, n15, n16, n17, n18, n19, n20, n21, n22, n23, n24, n25, n26, n27, n28, n29, n30, n31, n32, n33, n34, n35, n36, n37, n38, n39, n40, n41, n42, n43, n44, n45, n46, g12, g13, g14, g15, g16, g17, g18, g19, g20, g21, g22, g23, g24, g25, g26, g27, g28, g29, g30, g31, g32, g33, g34, g35, g36, g37, g38, g39, g40, g41, g42, g43, g44, g45, g46, dn12, dn13, dn14, dn15, dn16, dn17, dn18, dn19, dn20, dn21, dn22, dn23, dn24, dn25, dn26, dn27, dn28, dn29, dn30, dn31, dn32, dn33, dn34, dn35, dn36, dn37, dn38, dn39, dn40, dn41, dn42, dn43, dn44, dn45, dn46, unRcE, unPtE, mapRc, mapPt, getDRc, getDPt, nthE, tkR, tkP, plRc, plPt, rcD, ptD, rcC, ptC]; exact Is.rfl) : Ev p := h.ev hx
end Go.Rect

