import Derived.Test.YtnbeigcjhpldmaaGreatEF
import Derived.Test.YtnbeigcjhpldmaaGreatMH
import Derived.Test.YtnbeigcjhpldmaaGreatProg
import Derived.KernelRfl
set_option linter.unusedSimpArgs false
set_option linter.unusedVariables false
namespace Go.S03
open Go.RowKit Go.Proofs Go.Eng Go.Rect
theorem y3 : tyOf Tryz.prog 3 = some (1, false) := by kernel_rfl
theorem s3 : szOf Tryz.prog 3 = 1 := by kernel_rfl
theorem b3 : byOf Tryz.prog 3 = 8 := by kernel_rfl
theorem o3 : (Tryz.prog.info? 3).isSome = true := by kernel_rfl
theorem p3 : (Tryz.prog.underlying 3).isSome = true := by kernel_rfl
theorem z3 : zC Tryz.prog 3 = some [.i 0] := by kernel_rfl
theorem d3 : dfD Tryz.prog 9 3 = [.i 0] := by kernel_rfl
theorem k3 : ikOf Tryz.prog 3 = some .i64 := by kernel_rfl
theorem y4 : tyOf Tryz.prog 4 = some (1, false) := by kernel_rfl
theorem s4 : szOf Tryz.prog 4 = 1 := by kernel_rfl
theorem b4 : byOf Tryz.prog 4 = 1 := by kernel_rfl
theorem o4 : (Tryz.prog.info? 4).isSome = true := by kernel_rfl
theorem p4 : (Tryz.prog.underlying 4).isSome = true := by kernel_rfl
theorem z4 : zC Tryz.prog 4 = some [.b false] := by kernel_rfl
theorem d4 : dfD Tryz.prog 9 4 = [.b false] := by kernel_rfl
theorem q4 : isBo Tryz.prog 4 = true := by kernel_rfl
theorem y5 : tyOf Tryz.prog 5 = some (1, false) := by kernel_rfl
theorem s5 : szOf Tryz.prog 5 = 1 := by kernel_rfl
theorem b5 : byOf Tryz.prog 5 = 1 := by kernel_rfl
theorem o5 : (Tryz.prog.info? 5).isSome = true := by kernel_rfl
theorem p5 : (Tryz.prog.underlying 5).isSome = true := by kernel_rfl
theorem z5 : zC Tryz.prog 5 = some [.v (.int .u8 0)] := by kernel_rfl
theorem d5 : dfD Tryz.prog 9 5 = [.v (.int .u8 0)] := by kernel_rfl
theorem k5 : ikOf Tryz.prog 5 = some .u8 := by kernel_rfl
theorem y9 : tyOf Tryz.prog 9 = some (1, false) := by kernel_rfl
theorem s9 : szOf Tryz.prog 9 = 1 := by kernel_rfl
theorem b9 : byOf Tryz.prog 9 = 16 := by kernel_rfl
theorem o9 : (Tryz.prog.info? 9).isSome = true := by kernel_rfl
theorem p9 : (Tryz.prog.underlying 9).isSome = true := by kernel_rfl
theorem z9 : zC Tryz.prog 9 = some [.v (.string ByteArray.empty)] := by kernel_rfl
theorem d9 : dfD Tryz.prog 9 9 = [.v (.string ByteArray.empty)] := by kernel_rfl
theorem y22 : tyOf Tryz.prog 22 = some (1, false) := by kernel_rfl
theorem s22 : szOf Tryz.prog 22 = 1 := by kernel_rfl
theorem b22 : byOf Tryz.prog 22 = 24 := by kernel_rfl
theorem o22 : (Tryz.prog.info? 22).isSome = true := by kernel_rfl
theorem p22 : (Tryz.prog.underlying 22).isSome = true := by kernel_rfl
theorem z22 : zC Tryz.prog 22 = some [.v (.slice none 0 0)] := by kernel_rfl
theorem d22 : dfD Tryz.prog 9 22 = [.sl 4 []] := by kernel_rfl
theorem e22 : elOf Tryz.prog 22 = some 34 := by kernel_rfl
theorem y23 : tyOf Tryz.prog 23 = some (1, false) := by kernel_rfl
theorem s23 : szOf Tryz.prog 23 = 1 := by kernel_rfl
theorem b23 : byOf Tryz.prog 23 = 24 := by kernel_rfl
theorem o23 : (Tryz.prog.info? 23).isSome = true := by kernel_rfl
theorem p23 : (Tryz.prog.underlying 23).isSome = true := by kernel_rfl
theorem z23 : zC Tryz.prog 23 = some [.v (.slice none 0 0)] := by kernel_rfl
theorem d23 : dfD Tryz.prog 9 23 = [.sl 2 []] := by kernel_rfl
theorem e23 : elOf Tryz.prog 23 = some 26 := by kernel_rfl
theorem y26 : tyOf Tryz.prog 26 = some (2, true) := by kernel_rfl
theorem s26 : szOf Tryz.prog 26 = 2 := by kernel_rfl
theorem b26 : byOf Tryz.prog 26 = 16 := by kernel_rfl
theorem o26 : (Tryz.prog.info? 26).isSome = true := by kernel_rfl
theorem p26 : (Tryz.prog.underlying 26).isSome = true := by kernel_rfl
theorem z26 : zC Tryz.prog 26 = some [.i 0, .i 0] := by kernel_rfl
theorem d26 : dfD Tryz.prog 9 26 = [.i 0, .i 0] := by kernel_rfl
theorem f26_0 : fldOf Tryz.prog 26 0 = some (0, 3) := by kernel_rfl
theorem f26_1 : fldOf Tryz.prog 26 1 = some (1, 3) := by kernel_rfl
theorem l26 : plF Tryz.prog 26 = some fun i => ([(0, 1), (1, 1)] : List (Nat × Nat))[i]? := by kernel_rfl
theorem q26 : eqTy Tryz.prog 26 = some 2 := by kernel_rfl
theorem y31 : tyOf Tryz.prog 31 = some (1, false) := by kernel_rfl
theorem mt31 : mapOf Tryz.prog 31 = some (2, 26, 4) := by kernel_rfl
theorem y34 : tyOf Tryz.prog 34 = some (4, true) := by kernel_rfl
theorem s34 : szOf Tryz.prog 34 = 4 := by kernel_rfl
theorem b34 : byOf Tryz.prog 34 = 32 := by kernel_rfl
theorem o34 : (Tryz.prog.info? 34).isSome = true := by kernel_rfl
theorem p34 : (Tryz.prog.underlying 34).isSome = true := by kernel_rfl
theorem z34 : zC Tryz.prog 34 = some [.i 0, .i 0, .i 0, .i 0] := by kernel_rfl
theorem d34 : dfD Tryz.prog 9 34 = [.i 0, .i 0, .i 0, .i 0] := by kernel_rfl
theorem f34_0 : fldOf Tryz.prog 34 0 = some (0, 3) := by kernel_rfl
theorem f34_1 : fldOf Tryz.prog 34 1 = some (1, 3) := by kernel_rfl
theorem f34_2 : fldOf Tryz.prog 34 2 = some (2, 3) := by kernel_rfl
theorem f34_3 : fldOf Tryz.prog 34 3 = some (3, 3) := by kernel_rfl
theorem l34 : plF Tryz.prog 34 = some fun i => ([(0, 1), (1, 1), (2, 1), (3, 1)] : List (Nat × Nat))[i]? := by kernel_rfl
theorem q34 : eqTy Tryz.prog 34 = some 4 := by kernel_rfl
theorem y39 : tyOf Tryz.prog 39 = some (1, false) := by kernel_rfl
theorem s39 : szOf Tryz.prog 39 = 1 := by kernel_rfl
theorem b39 : byOf Tryz.prog 39 = 8 := by kernel_rfl
theorem o39 : (Tryz.prog.info? 39).isSome = true := by kernel_rfl
theorem p39 : (Tryz.prog.underlying 39).isSome = true := by kernel_rfl
theorem z39 : zC Tryz.prog 39 = some [.v .nilFunc] := by kernel_rfl
theorem y53 : tyOf Tryz.prog 53 = some (1, false) := by kernel_rfl
theorem s53 : szOf Tryz.prog 53 = 1 := by kernel_rfl
theorem b53 : byOf Tryz.prog 53 = 8 := by kernel_rfl
theorem o53 : (Tryz.prog.info? 53).isSome = true := by kernel_rfl
theorem p53 : (Tryz.prog.underlying 53).isSome = true := by kernel_rfl
theorem z53 : zC Tryz.prog 53 = some [.v (.int .u64 0)] := by kernel_rfl
theorem d53 : dfD Tryz.prog 9 53 = [.v (.int .u64 0)] := by kernel_rfl
theorem k53 : ikOf Tryz.prog 53 = some .u64 := by kernel_rfl
theorem y54 : tyOf Tryz.prog 54 = some (1, false) := by kernel_rfl
theorem s54 : szOf Tryz.prog 54 = 1 := by kernel_rfl
theorem b54 : byOf Tryz.prog 54 = 24 := by kernel_rfl
theorem o54 : (Tryz.prog.info? 54).isSome = true := by kernel_rfl
theorem p54 : (Tryz.prog.underlying 54).isSome = true := by kernel_rfl
theorem z54 : zC Tryz.prog 54 = some [.v (.slice none 0 0)] := by kernel_rfl
theorem d54 : dfD Tryz.prog 9 54 = [.sl 1 []] := by kernel_rfl
theorem e54 : elOf Tryz.prog 54 = some 3 := by kernel_rfl
theorem y62 : tyOf Tryz.prog 62 = some (1, false) := by kernel_rfl
theorem s62 : szOf Tryz.prog 62 = 1 := by kernel_rfl
theorem b62 : byOf Tryz.prog 62 = 8 := by kernel_rfl
theorem o62 : (Tryz.prog.info? 62).isSome = true := by kernel_rfl
theorem p62 : (Tryz.prog.underlying 62).isSome = true := by kernel_rfl
theorem z62 : zC Tryz.prog 62 = some [.v .nilFunc] := by kernel_rfl
theorem y63 : tyOf Tryz.prog 63 = some (1, false) := by kernel_rfl
theorem s63 : szOf Tryz.prog 63 = 1 := by kernel_rfl
theorem b63 : byOf Tryz.prog 63 = 24 := by kernel_rfl
theorem o63 : (Tryz.prog.info? 63).isSome = true := by kernel_rfl
theorem p63 : (Tryz.prog.underlying 63).isSome = true := by kernel_rfl
theorem z63 : zC Tryz.prog 63 = some [.v (.slice none 0 0)] := by kernel_rfl
theorem d63 : dfD Tryz.prog 9 63 = [.sl 2 []] := by kernel_rfl
theorem e63 : elOf Tryz.prog 63 = some 65 := by kernel_rfl
theorem y65 : tyOf Tryz.prog 65 = some (2, true) := by kernel_rfl
theorem s65 : szOf Tryz.prog 65 = 2 := by kernel_rfl
theorem b65 : byOf Tryz.prog 65 = 16 := by kernel_rfl
theorem o65 : (Tryz.prog.info? 65).isSome = true := by kernel_rfl
theorem p65 : (Tryz.prog.underlying 65).isSome = true := by kernel_rfl
theorem z65 : zC Tryz.prog 65 = some [.i 0, .i 0] := by kernel_rfl
theorem d65 : dfD Tryz.prog 9 65 = [.i 0, .i 0] := by kernel_rfl
theorem f65_0 : fldOf Tryz.prog 65 0 = some (0, 3) := by kernel_rfl
theorem f65_1 : fldOf Tryz.prog 65 1 = some (1, 3) := by kernel_rfl
theorem l65 : plF Tryz.prog 65 = some fun i => ([(0, 1), (1, 1)] : List (Nat × Nat))[i]? := by kernel_rfl
theorem q65 : eqTy Tryz.prog 65 = some 2 := by kernel_rfl
theorem y71 : tyOf Tryz.prog 71 = some (1, false) := by kernel_rfl
theorem s71 : szOf Tryz.prog 71 = 1 := by kernel_rfl
theorem b71 : byOf Tryz.prog 71 = 8 := by kernel_rfl
theorem o71 : (Tryz.prog.info? 71).isSome = true := by kernel_rfl
theorem p71 : (Tryz.prog.underlying 71).isSome = true := by kernel_rfl
theorem z71 : zC Tryz.prog 71 = some [.i 0] := by kernel_rfl
theorem d71 : dfD Tryz.prog 9 71 = [.i 0] := by kernel_rfl
theorem k71 : ikOf Tryz.prog 71 = some .i64 := by kernel_rfl
theorem y79 : tyOf Tryz.prog 79 = some (1, false) := by kernel_rfl
theorem s79 : szOf Tryz.prog 79 = 1 := by kernel_rfl
theorem b79 : byOf Tryz.prog 79 = 4 := by kernel_rfl
theorem o79 : (Tryz.prog.info? 79).isSome = true := by kernel_rfl
theorem p79 : (Tryz.prog.underlying 79).isSome = true := by kernel_rfl
theorem z79 : zC Tryz.prog 79 = some [.v (.int .u32 0)] := by kernel_rfl
theorem d79 : dfD Tryz.prog 9 79 = [.v (.int .u32 0)] := by kernel_rfl
theorem k79 : ikOf Tryz.prog 79 = some .u32 := by kernel_rfl
theorem y81 : tyOf Tryz.prog 81 = some (1, false) := by kernel_rfl
theorem s81 : szOf Tryz.prog 81 = 1 := by kernel_rfl
theorem b81 : byOf Tryz.prog 81 = 8 := by kernel_rfl
theorem o81 : (Tryz.prog.info? 81).isSome = true := by kernel_rfl
theorem p81 : (Tryz.prog.underlying 81).isSome = true := by kernel_rfl
theorem z81 : zC Tryz.prog 81 = some [.v (.int .u64 0)] := by kernel_rfl
theorem d81 : dfD Tryz.prog 9 81 = [.v (.int .u64 0)] := by kernel_rfl
theorem k81 : ikOf Tryz.prog 81 = some .u64 := by kernel_rfl
theorem y88 : tyOf Tryz.prog 88 = some (1, false) := by kernel_rfl
theorem s88 : szOf Tryz.prog 88 = 1 := by kernel_rfl
theorem b88 : byOf Tryz.prog 88 = 8 := by kernel_rfl
theorem o88 : (Tryz.prog.info? 88).isSome = true := by kernel_rfl
theorem p88 : (Tryz.prog.underlying 88).isSome = true := by kernel_rfl
theorem z88 : zC Tryz.prog 88 = some [.v (.int .u64 0)] := by kernel_rfl
theorem d88 : dfD Tryz.prog 9 88 = [.v (.int .u64 0)] := by kernel_rfl
theorem k88 : ikOf Tryz.prog 88 = some .u64 := by kernel_rfl
theorem y92 : tyOf Tryz.prog 92 = some (1, false) := by kernel_rfl
theorem y96 : tyOf Tryz.prog 96 = some (1, false) := by kernel_rfl
theorem s96 : szOf Tryz.prog 96 = 1 := by kernel_rfl
theorem b96 : byOf Tryz.prog 96 = 8 := by kernel_rfl
theorem o96 : (Tryz.prog.info? 96).isSome = true := by kernel_rfl
theorem p96 : (Tryz.prog.underlying 96).isSome = true := by kernel_rfl
theorem z96 : zC Tryz.prog 96 = some [.v .nilFunc] := by kernel_rfl
theorem n4 : isFn Tryz.prog 4 = true := by kernel_rfl
theorem n5 : isFn Tryz.prog 5 = true := by kernel_rfl
theorem n6 : isFn Tryz.prog 6 = true := by kernel_rfl
theorem n7 : isFn Tryz.prog 7 = true := by kernel_rfl
theorem n8 : isFn Tryz.prog 8 = true := by kernel_rfl
theorem n9 : isFn Tryz.prog 9 = true := by kernel_rfl
theorem n10 : isFn Tryz.prog 10 = true := by kernel_rfl
theorem n11 : isFn Tryz.prog 11 = true := by kernel_rfl
theorem n12 : isFn Tryz.prog 12 = true := by kernel_rfl
theorem n13 : isFn Tryz.prog 13 = true := by kernel_rfl
theorem n14 : isFn Tryz.prog 14 = true := by kernel_rfl
theorem n15 : isFn Tryz.prog 15 = true := by kernel_rfl
theorem n16 : isFn Tryz.prog 16 = true := by kernel_rfl
theorem n17 : isFn Tryz.prog 17 = true := by kernel_rfl
theorem n18 : isFn Tryz.prog 18 = true := by kernel_rfl
theorem n19 : isFn Tryz.prog 19 = true := by kernel_rfl
theorem n20 : isFn Tryz.prog 20 = true := by kernel_rfl
theorem n21 : isFn Tryz.prog 21 = true := by kernel_rfl
theorem n22 : isFn Tryz.prog 22 = true := by kernel_rfl
theorem n23 : isFn Tryz.prog 23 = true := by kernel_rfl
theorem n24 : isFn Tryz.prog 24 = true := by kernel_rfl
theorem n25 : isFn Tryz.prog 25 = true := by kernel_rfl
theorem n26 : isFn Tryz.prog 26 = true := by kernel_rfl
theorem n27 : isFn Tryz.prog 27 = true := by kernel_rfl
theorem n28 : isFn Tryz.prog 28 = true := by kernel_rfl
theorem n29 : isFn Tryz.prog 29 = true := by kernel_rfl
theorem n30 : isFn Tryz.prog 30 = true := by kernel_rfl
theorem n31 : isFn Tryz.prog 31 = true := by kernel_rfl
theorem n32 : isFn Tryz.prog 32 = true := by kernel_rfl
theorem n33 : isFn Tryz.prog 33 = true := by kernel_rfl
theorem n34 : isFn Tryz.prog 34 = true := by kernel_rfl
theorem n35 : isFn Tryz.prog 35 = true := by kernel_rfl
theorem n36 : isFn Tryz.prog 36 = true := by kernel_rfl
theorem n37 : isFn Tryz.prog 37 = true := by kernel_rfl
theorem n38 : isFn Tryz.prog 38 = true := by kernel_rfl
theorem n39 : isFn Tryz.prog 39 = true := by kernel_rfl
theorem n40 : isFn Tryz.prog 40 = true := by kernel_rfl
theorem n41 : isFn Tryz.prog 41 = true := by kernel_rfl
theorem n42 : isFn Tryz.prog 42 = true := by kernel_rfl
theorem n43 : isFn Tryz.prog 43 = true := by kernel_rfl
theorem n44 : isFn Tryz.prog 44 = true := by kernel_rfl
theorem n45 : isFn Tryz.prog 45 = true := by kernel_rfl
theorem n46 : isFn Tryz.prog 46 = true := by kernel_rfl
theorem n47 : isFn Tryz.prog 47 = true := by kernel_rfl
theorem n48 : isFn Tryz.prog 48 = true := by kernel_rfl
theorem n49 : isFn Tryz.prog 49 = true := by kernel_rfl
theorem n50 : isFn Tryz.prog 50 = true := by kernel_rfl
theorem n51 : isFn Tryz.prog 51 = true := by kernel_rfl
theorem n52 : isFn Tryz.prog 52 = true := by kernel_rfl
theorem n53 : isFn Tryz.prog 53 = true := by kernel_rfl
theorem n54 : isFn Tryz.prog 54 = true := by kernel_rfl
theorem n55 : isFn Tryz.prog 55 = true := by kernel_rfl
theorem n56 : isFn Tryz.prog 56 = true := by kernel_rfl
theorem n57 : isFn Tryz.prog 57 = true := by kernel_rfl
theorem n58 : isFn Tryz.prog 58 = true := by kernel_rfl
theorem n59 : isFn Tryz.prog 59 = true := by kernel_rfl
theorem n60 : isFn Tryz.prog 60 = true := by kernel_rfl
theorem n61 : isFn Tryz.prog 61 = true := by kernel_rfl
theorem n62 : isFn Tryz.prog 62 = true := by kernel_rfl
theorem n63 : isFn Tryz.prog 63 = true := by kernel_rfl
theorem n64 : isFn Tryz.prog 64 = true := by kernel_rfl
theorem n65 : isFn Tryz.prog 65 = true := by kernel_rfl
theorem n66 : isFn Tryz.prog 66 = true := by kernel_rfl
theorem n67 : isFn Tryz.prog 67 = true := by kernel_rfl
theorem n68 : isFn Tryz.prog 68 = true := by kernel_rfl
theorem n69 : isFn Tryz.prog 69 = true := by kernel_rfl
theorem n70 : isFn Tryz.prog 70 = true := by kernel_rfl
theorem n71 : isFn Tryz.prog 71 = true := by kernel_rfl
theorem n72 : isFn Tryz.prog 72 = true := by kernel_rfl
theorem n73 : isFn Tryz.prog 73 = true := by kernel_rfl
theorem n74 : isFn Tryz.prog 74 = true := by kernel_rfl
theorem n75 : isFn Tryz.prog 75 = true := by kernel_rfl
theorem n76 : isFn Tryz.prog 76 = true := by kernel_rfl
theorem n77 : isFn Tryz.prog 77 = true := by kernel_rfl
theorem n78 : isFn Tryz.prog 78 = true := by kernel_rfl
theorem n79 : isFn Tryz.prog 79 = true := by kernel_rfl
theorem n80 : isFn Tryz.prog 80 = true := by kernel_rfl
theorem n81 : isFn Tryz.prog 81 = true := by kernel_rfl
theorem n82 : isFn Tryz.prog 82 = true := by kernel_rfl
theorem n83 : isFn Tryz.prog 83 = true := by kernel_rfl
theorem n84 : isFn Tryz.prog 84 = true := by kernel_rfl
theorem n85 : isFn Tryz.prog 85 = true := by kernel_rfl
theorem n86 : isFn Tryz.prog 86 = true := by kernel_rfl
theorem n87 : isFn Tryz.prog 87 = true := by kernel_rfl
theorem n88 : isFn Tryz.prog 88 = true := by kernel_rfl
theorem n89 : isFn Tryz.prog 89 = true := by kernel_rfl
theorem n90 : isFn Tryz.prog 90 = true := by kernel_rfl
theorem n91 : isFn Tryz.prog 91 = true := by kernel_rfl
theorem n92 : isFn Tryz.prog 92 = true := by kernel_rfl
theorem n93 : isFn Tryz.prog 93 = true := by kernel_rfl
theorem n94 : isFn Tryz.prog 94 = true := by kernel_rfl
theorem n95 : isFn Tryz.prog 95 = true := by kernel_rfl
theorem n96 : isFn Tryz.prog 96 = true := by kernel_rfl
theorem n97 : isFn Tryz.prog 97 = true := by kernel_rfl
theorem n98 : isFn Tryz.prog 98 = true := by kernel_rfl
theorem n99 : isFn Tryz.prog 99 = true := by kernel_rfl
theorem n100 : isFn Tryz.prog 100 = true := by kernel_rfl
theorem n101 : isFn Tryz.prog 101 = true := by kernel_rfl
theorem n102 : isFn Tryz.prog 102 = true := by kernel_rfl
theorem n103 : isFn Tryz.prog 103 = true := by kernel_rfl
theorem n104 : isFn Tryz.prog 104 = true := by kernel_rfl
theorem n105 : isFn Tryz.prog 105 = true := by kernel_rfl
theorem n106 : isFn Tryz.prog 106 = true := by kernel_rfl
theorem n107 : isFn Tryz.prog 107 = true := by kernel_rfl
theorem n108 : isFn Tryz.prog 108 = true := by kernel_rfl
theorem mixed : Tryz.prog.follows .mixedOrders = true := by kernel_rfl
def kpU : Value → Bool → Bool → Bool
  | .func (.func f) _ _ => if f = 48 then fun x y => (x || y) else if f = 49 then fun x y => (x && y) else fun x y => (x && !y)
  | _ => fun _ _ => false
theorem kpU0 : kpU (.func (.func 48) #[] #[]) = fun x y => (x || y) := rfl
theorem kpU1 : kpU (.func (.func 49) #[] #[]) = fun x y => (x && y) := rfl
theorem kpU2 : kpU (.func (.func 47) #[] #[]) = fun x y => (x && !y) := rfl
def Γ : FuncId → List D → RV
  | 4, [.sl _ a] => .own 26 2 ((tilesF (a.map unRc)).map ptC)
  | 5, [.sl _ a] => .own 26 2 ((tilesF (a.map unRc)).map ptC)
  | 6, [.sl _ a, .sl _ b] => .dat (.b (sameL (a.map unRc) (b.map unRc)))
  | 7, [.sl _ a, .i n] => .own 34 4 ((canoF orB (growL (clampI n 0 1048576) (els (a.map unRc))) []).map rcC)
  | 8, [.sl _ a, .i n] => .own 34 4 ((canoF orB (growL (clampI n 0 1048576) (els (a.map unRc))) []).map rcC)
  | 9, [] => .dat (.b true)
  | 10, [.sl _ a] => .own 34 4 ((els (a.map unRc)).map rcC)
  | 11, [.agg a] => .own 26 2 ((tilesL (unRc a)).map ptC)
  | 13, [.agg p, .agg q] => .dat (.i (cmpPt (unPt p) (unPt q)))
  | 14, [.sl _ a] => .dat (.i (orI (a.map unI)))
  | 15, [.i a, .i b] => .dat (.i (cmpI a b))
  | 16, [.sl _ a] => .own 34 4 ((els (a.map unRc)).map rcC)
  | 17, [.i a, .i b] => .dat (.i (floorI a b))
  | 18, [.sl _ a, .sl _ b, .i h] => .own 34 4 ((bldF h (a.map unRc) (b.map unRc)).map rcC)
  | 18, [.sl _ a, .v u, .i h] => .own 34 4 ((bldF h (a.map unRc) []).map rcC)
  | 19, [.i a, .i b, .i c] => .dat (.i (clampI a b c))
  | 20, [.agg a, .i n] => .dat (rcD (growR (unRc a) n))
  | 21, [.sl _ a] => .own 34 4 ((canoF orB (a.map unRc) []).map rcC)
  | 22, [.i a, .i b, .i c] => .dat (.i (clampI a b c))
  | 23, [.agg a, .i n] => .dat (rcD (growR (unRc a) n))
  | 24, [.i x, .i y, .i w, .i h] => .own 34 4 [[.i x, .i y, .i w, .i h]]
  | 25, [.sl _ a, .sl _ b] => .own 34 4 ((canoF notB (a.map unRc) (b.map unRc)).map rcC)
  | 26, [.sl _ a, .sl _ b] => .own 34 4 ((canoF orB (a.map unRc) (b.map unRc)).map rcC)
  | 26, [.sl _ a, .v u] => .own 34 4 ((canoF orB (a.map unRc) []).map rcC)
  | 27, [.sl _ a, .sl _ b] => .own 34 4 ((canoF andB (a.map unRc) (b.map unRc)).map rcC)
  | 28, [.sl _ a] => .dat (.b (rightB (a.map unRc)))
  | 29, [.sl _ a] => .dat (.i (areaL (canoF orB (a.map unRc) [])))
  | 30, [.sl _ a] => .dat (rcD (boxL (els (a.map unRc))))
  | 31, [.sl _ a, .agg p] => .dat (.b (hasR (a.map unRc) (unPt p)))
  | 32, [.agg r] => .dat (.b (emptyB (unRc r)))
  | 33, [.i n] => .dat (.i (tileI n))
  | 36, [.i a] => .dat (.b false)
  | 37, [.agg r] => .dat (.b (validB (unRc r)))
  | 38, [.agg r] => .dat (.b (emptyB (unRc r)))
  | 39, [.sl _ a] => .own 3 1 ((srtU [] (a.map unI)).map iC)
  | 40, [.sl _ a, .sl _ b, .i h, .i x, .i y] => .dat (.b (insH h (a.map unRc) (b.map unRc) x y))
  | 41, [.sl _ a, .sl _ b] => .dat (.b (akB (a.map unRc) (b.map unRc)))
  | 42, [.i a, .i b, .i c, .i d] => .dat (rcD (betweenR a b c d))
  | 43, [.agg a, .i n] => .tup [.dat (.i (spanS (unRc a) n)), .dat (.i (spanE (unRc a) n))]
  | 44, [.i n] => .dat (.i (lim3 n))
  | 45, [.i a, .i b, .i c, .i d] => .dat (rcD (worldR a b c d))
  | 46, [.sl _ a, .sl _ b, .v u] => .own 34 4 ((canoF (kpU u) (a.map unRc) (b.map unRc)).map rcC)
  | 47, [.b x, .b y] => .dat (.b (x && !y))
  | 48, [.b x, .b y] => .dat (.b (x || y))
  | 49, [.b x, .b y] => .dat (.b (x && y))
  | 50, [.sl _ a, .sl _ b] => .dat (.b (sameL (a.map unRn) (b.map unRn)))
  | 50, [.v u, .sl _ b] => .dat (.b (sameL [] (b.map unRn)))
  | 51, [.agg r] => .dat (.i (areaI (unRc r)))
  | 52, [.agg a, .agg b] => .dat (rcD (joinR (unRc a) (unRc b)))
  | 53, [.agg r, .agg p] => .dat (.b (hasB (unRc r) (unPt p)))
  | 54, [.agg r] => .dat (.b (validB (unRc r)))
  | 65, [.sl _ a, .i x, .i y] => .dat (.b (inLb (a.map unRc) x y))
  | 66, [.i a, .i b, .i c, .i d] => .dat (rcD (ofR a b c d))
  | 67, [.sl _ a, .sl _ b] => .own 3 1 ((hgtF (a.map unRc) (b.map unRc)).map iC)
  | 68, [.sl _ a, .sl _ b, .v u] => .own 65 2 ((combF (kpU u) (a.map unRn) (b.map unRn)).map rnC)
  | 69, [.sl _ a, .i y] => .own 65 2 ((rowF (a.map unRc) y).map rnC)
  | 70, [.sl _ a, .sl _ b, .i y] => .dat (.b (goB (a.map unRc) (b.map unRn) y))
  | 71, [.i x, .i w] => .dat (.b (spanB x w))
  | 80, [.agg p, .agg q] => .dat (.i (cmpRw (unRn p) (unRn q)))
  | _, _ => .dat (.b false)
theorem g4 (n_1 : Nat) (a : List (List D)) : Γ 4 [.sl n_1 a] = .own 26 2 ((tilesF (a.map unRc)).map ptC) := rfl
theorem g5 (n_2 : Nat) (a : List (List D)) : Γ 5 [.sl n_2 a] = .own 26 2 ((tilesF (a.map unRc)).map ptC) := rfl
theorem g6 (n_3 : Nat) (a : List (List D)) (n_4 : Nat) (b : List (List D)) : Γ 6 [.sl n_3 a, .sl n_4 b] = .dat (.b (sameL (a.map unRc) (b.map unRc))) := rfl
theorem g7 (n : Int) (n_5 : Nat) (a : List (List D)) : Γ 7 [.sl n_5 a, .i n] = .own 34 4 ((canoF orB (growL (clampI n 0 1048576) (els (a.map unRc))) []).map rcC) := rfl
theorem g8 (n : Int) (n_6 : Nat) (a : List (List D)) : Γ 8 [.sl n_6 a, .i n] = .own 34 4 ((canoF orB (growL (clampI n 0 1048576) (els (a.map unRc))) []).map rcC) := rfl
theorem g9  : Γ 9 [] = .dat (.b true) := rfl
theorem g10 (n_7 : Nat) (a : List (List D)) : Γ 10 [.sl n_7 a] = .own 34 4 ((els (a.map unRc)).map rcC) := rfl
theorem g11 (a : List D) : Γ 11 [.agg a] = .own 26 2 ((tilesL (unRc a)).map ptC) := rfl
theorem g13 (p : List D) (q : List D) : Γ 13 [.agg p, .agg q] = .dat (.i (cmpPt (unPt p) (unPt q))) := rfl
theorem g14 (n_8 : Nat) (a : List (List D)) : Γ 14 [.sl n_8 a] = .dat (.i (orI (a.map unI))) := rfl
theorem g15 (a : Int) (b : Int) : Γ 15 [.i a, .i b] = .dat (.i (cmpI a b)) := rfl
theorem g16 (n_9 : Nat) (a : List (List D)) : Γ 16 [.sl n_9 a] = .own 34 4 ((els (a.map unRc)).map rcC) := rfl
theorem g17 (a : Int) (b : Int) : Γ 17 [.i a, .i b] = .dat (.i (floorI a b)) := rfl
theorem g18 (h : Int) (n_10 : Nat) (a : List (List D)) (n_11 : Nat) (b : List (List D)) : Γ 18 [.sl n_10 a, .sl n_11 b, .i h] = .own 34 4 ((bldF h (a.map unRc) (b.map unRc)).map rcC) := rfl
theorem g18_14 (u : Value) (h : Int) (n_12 : Nat) (a : List (List D)) : Γ 18 [.sl n_12 a, .v u, .i h] = .own 34 4 ((bldF h (a.map unRc) []).map rcC) := rfl
theorem g19 (a : Int) (b : Int) (c : Int) : Γ 19 [.i a, .i b, .i c] = .dat (.i (clampI a b c)) := rfl
theorem g20 (a : List D) (n : Int) : Γ 20 [.agg a, .i n] = .dat (rcD (growR (unRc a) n)) := rfl
theorem g21 (n_13 : Nat) (a : List (List D)) : Γ 21 [.sl n_13 a] = .own 34 4 ((canoF orB (a.map unRc) []).map rcC) := rfl
theorem g22 (a : Int) (b : Int) (c : Int) : Γ 22 [.i a, .i b, .i c] = .dat (.i (clampI a b c)) := rfl
theorem g23 (a : List D) (n : Int) : Γ 23 [.agg a, .i n] = .dat (rcD (growR (unRc a) n)) := rfl
theorem g24 (x : Int) (y : Int) (w : Int) (h : Int) : Γ 24 [.i x, .i y, .i w, .i h] = .own 34 4 [[.i x, .i y, .i w, .i h]] := rfl
theorem g25 (n_14 : Nat) (a : List (List D)) (n_15 : Nat) (b : List (List D)) : Γ 25 [.sl n_14 a, .sl n_15 b] = .own 34 4 ((canoF notB (a.map unRc) (b.map unRc)).map rcC) := rfl
theorem g26 (n_16 : Nat) (a : List (List D)) (n_17 : Nat) (b : List (List D)) : Γ 26 [.sl n_16 a, .sl n_17 b] = .own 34 4 ((canoF orB (a.map unRc) (b.map unRc)).map rcC) := rfl
theorem g26_23 (u : Value) (n_18 : Nat) (a : List (List D)) : Γ 26 [.sl n_18 a, .v u] = .own 34 4 ((canoF orB (a.map unRc) []).map rcC) := rfl
theorem g27 (n_19 : Nat) (a : List (List D)) (n_20 : Nat) (b : List (List D)) : Γ 27 [.sl n_19 a, .sl n_20 b] = .own 34 4 ((canoF andB (a.map unRc) (b.map unRc)).map rcC) := rfl
theorem g28 (n_21 : Nat) (a : List (List D)) : Γ 28 [.sl n_21 a] = .dat (.b (rightB (a.map unRc))) := rfl
theorem g29 (n_22 : Nat) (a : List (List D)) : Γ 29 [.sl n_22 a] = .dat (.i (areaL (canoF orB (a.map unRc) []))) := rfl
theorem g30 (n_23 : Nat) (a : List (List D)) : Γ 30 [.sl n_23 a] = .dat (rcD (boxL (els (a.map unRc)))) := rfl
theorem g31 (p : List D) (n_24 : Nat) (a : List (List D)) : Γ 31 [.sl n_24 a, .agg p] = .dat (.b (hasR (a.map unRc) (unPt p))) := rfl
theorem g32 (r : List D) : Γ 32 [.agg r] = .dat (.b (emptyB (unRc r))) := rfl
theorem g33 (n : Int) : Γ 33 [.i n] = .dat (.i (tileI n)) := rfl
theorem g36 (a : Int) : Γ 36 [.i a] = .dat (.b false) := rfl
theorem g37 (r : List D) : Γ 37 [.agg r] = .dat (.b (validB (unRc r))) := rfl
theorem g38 (r : List D) : Γ 38 [.agg r] = .dat (.b (emptyB (unRc r))) := rfl
theorem g39 (n_25 : Nat) (a : List (List D)) : Γ 39 [.sl n_25 a] = .own 3 1 ((srtU [] (a.map unI)).map iC) := rfl
theorem g40 (h : Int) (x : Int) (y : Int) (n_26 : Nat) (a : List (List D)) (n_27 : Nat) (b : List (List D)) : Γ 40 [.sl n_26 a, .sl n_27 b, .i h, .i x, .i y] = .dat (.b (insH h (a.map unRc) (b.map unRc) x y)) := rfl
theorem g41 (n_28 : Nat) (a : List (List D)) (n_29 : Nat) (b : List (List D)) : Γ 41 [.sl n_28 a, .sl n_29 b] = .dat (.b (akB (a.map unRc) (b.map unRc))) := rfl
theorem g42 (a : Int) (b : Int) (c : Int) (d : Int) : Γ 42 [.i a, .i b, .i c, .i d] = .dat (rcD (betweenR a b c d)) := rfl
theorem g43 (a : List D) (n : Int) : Γ 43 [.agg a, .i n] = .tup [.dat (.i (spanS (unRc a) n)), .dat (.i (spanE (unRc a) n))] := rfl
theorem g44 (n : Int) : Γ 44 [.i n] = .dat (.i (lim3 n)) := rfl
theorem g45 (a : Int) (b : Int) (c : Int) (d : Int) : Γ 45 [.i a, .i b, .i c, .i d] = .dat (rcD (worldR a b c d)) := rfl
theorem g46 (u : Value) (n_30 : Nat) (a : List (List D)) (n_31 : Nat) (b : List (List D)) : Γ 46 [.sl n_30 a, .sl n_31 b, .v u] = .own 34 4 ((canoF (kpU u) (a.map unRc) (b.map unRc)).map rcC) := rfl
theorem g47 (x : Bool) (y : Bool) : Γ 47 [.b x, .b y] = .dat (.b (x && !y)) := rfl
theorem g48 (x : Bool) (y : Bool) : Γ 48 [.b x, .b y] = .dat (.b (x || y)) := rfl
theorem g49 (x : Bool) (y : Bool) : Γ 49 [.b x, .b y] = .dat (.b (x && y)) := rfl
theorem g50 (n_32 : Nat) (a : List (List D)) (n_33 : Nat) (b : List (List D)) : Γ 50 [.sl n_32 a, .sl n_33 b] = .dat (.b (sameL (a.map unRn) (b.map unRn))) := rfl
theorem g50_46 (u : Value) (n_34 : Nat) (b : List (List D)) : Γ 50 [.v u, .sl n_34 b] = .dat (.b (sameL [] (b.map unRn))) := rfl
theorem g51 (r : List D) : Γ 51 [.agg r] = .dat (.i (areaI (unRc r))) := rfl
theorem g52 (a : List D) (b : List D) : Γ 52 [.agg a, .agg b] = .dat (rcD (joinR (unRc a) (unRc b))) := rfl
theorem g53 (r : List D) (p : List D) : Γ 53 [.agg r, .agg p] = .dat (.b (hasB (unRc r) (unPt p))) := rfl
theorem g54 (r : List D) : Γ 54 [.agg r] = .dat (.b (validB (unRc r))) := rfl
theorem g65 (x : Int) (y : Int) (n_35 : Nat) (a : List (List D)) : Γ 65 [.sl n_35 a, .i x, .i y] = .dat (.b (inLb (a.map unRc) x y)) := rfl
theorem g66 (a : Int) (b : Int) (c : Int) (d : Int) : Γ 66 [.i a, .i b, .i c, .i d] = .dat (rcD (ofR a b c d)) := rfl
theorem g67 (n_36 : Nat) (a : List (List D)) (n_37 : Nat) (b : List (List D)) : Γ 67 [.sl n_36 a, .sl n_37 b] = .own 3 1 ((hgtF (a.map unRc) (b.map unRc)).map iC) := rfl
theorem g68 (u : Value) (n_38 : Nat) (a : List (List D)) (n_39 : Nat) (b : List (List D)) : Γ 68 [.sl n_38 a, .sl n_39 b, .v u] = .own 65 2 ((combF (kpU u) (a.map unRn) (b.map unRn)).map rnC) := rfl
theorem g69 (y : Int) (n_40 : Nat) (a : List (List D)) : Γ 69 [.sl n_40 a, .i y] = .own 65 2 ((rowF (a.map unRc) y).map rnC) := rfl
theorem g70 (y : Int) (n_41 : Nat) (a : List (List D)) (n_42 : Nat) (b : List (List D)) : Γ 70 [.sl n_41 a, .sl n_42 b, .i y] = .dat (.b (goB (a.map unRc) (b.map unRn) y)) := rfl
theorem g71 (x : Int) (w : Int) : Γ 71 [.i x, .i w] = .dat (.b (spanB x w)) := rfl
theorem g80 (p : List D) (q : List D) : Γ 80 [.agg p, .agg q] = .dat (.i (cmpRw (unRn p) (unRn q))) := rfl
def Δ : FuncId → List AV → Hp → Option (List PX × RV)
  | 12, [a, f], h => match a, toD h f with | .vw nm o m n, some (.v u, _) => (match geth h nm with | some (_, .arr T n2 L) => some ([.mu (.arr T n2 L) (.arr T n2 ((srtPt (L.map unPt)).map ptC)) o m n, .ro (.dat (.v u))], .tup []) | _ => none) | _, _ => none
  | 77, [a], h => match a with | .vw nm o m n => (match geth h nm with | some (_, .arr T n2 L) => some ([.mu (.arr T n2 L) (.arr T n2 ((sortL (L.map unI)).map iC)) o m n], .tup []) | _ => none) | _ => none
  | 79, [a, f], h => match a, toD h f with | .vw nm o m n, some (.v u, _) => (match geth h nm with | some (_, .arr T n2 L) => some ([.mu (.arr T n2 L) (.arr T n2 ((srtRw (L.map unRn)).map rnC)) o m n, .ro (.dat (.v u))], .tup []) | _ => none) | _, _ => none
  | _, _, _ => none
theorem dl12 (a f : AV) (h : Hp) : Δ 12 [a, f] h = (match a, toD h f with | .vw nm o m n, some (.v u, _) => (match geth h nm with | some (_, .arr T n2 L) => some ([.mu (.arr T n2 L) (.arr T n2 ((srtPt (L.map unPt)).map ptC)) o m n, .ro (.dat (.v u))], .tup []) | _ => none) | _, _ => none) := rfl
theorem dl77 (a : AV) (h : Hp) : Δ 77 [a] h = (match a with | .vw nm o m n => (match geth h nm with | some (_, .arr T n2 L) => some ([.mu (.arr T n2 L) (.arr T n2 ((sortL (L.map unI)).map iC)) o m n], .tup []) | _ => none) | _ => none) := rfl
theorem dl79 (a f : AV) (h : Hp) : Δ 79 [a, f] h = (match a, toD h f with | .vw nm o m n, some (.v u, _) => (match geth h nm with | some (_, .arr T n2 L) => some ([.mu (.arr T n2 L) (.arr T n2 ((srtRw (L.map unRn)).map rnC)) o m n, .ro (.dat (.v u))], .tup []) | _ => none) | _, _ => none) := rfl
theorem dn4 (l : List AV) (h : Hp) : Δ 4 l h = none := rfl
theorem dn5 (l : List AV) (h : Hp) : Δ 5 l h = none := rfl
theorem dn6 (l : List AV) (h : Hp) : Δ 6 l h = none := rfl
theorem dn7 (l : List AV) (h : Hp) : Δ 7 l h = none := rfl
theorem dn8 (l : List AV) (h : Hp) : Δ 8 l h = none := rfl
theorem dn9 (l : List AV) (h : Hp) : Δ 9 l h = none := rfl
theorem dn10 (l : List AV) (h : Hp) : Δ 10 l h = none := rfl
theorem dn11 (l : List AV) (h : Hp) : Δ 11 l h = none := rfl
theorem dn13 (l : List AV) (h : Hp) : Δ 13 l h = none := rfl
theorem dn14 (l : List AV) (h : Hp) : Δ 14 l h = none := rfl
theorem dn15 (l : List AV) (h : Hp) : Δ 15 l h = none := rfl
theorem dn16 (l : List AV) (h : Hp) : Δ 16 l h = none := rfl
theorem dn17 (l : List AV) (h : Hp) : Δ 17 l h = none := rfl
theorem dn18 (l : List AV) (h : Hp) : Δ 18 l h = none := rfl
theorem dn19 (l : List AV) (h : Hp) : Δ 19 l h = none := rfl
theorem dn20 (l : List AV) (h : Hp) : Δ 20 l h = none := rfl
theorem dn21 (l : List AV) (h : Hp) : Δ 21 l h = none := rfl
theorem dn22 (l : List AV) (h : Hp) : Δ 22 l h = none := rfl
theorem dn23 (l : List AV) (h : Hp) : Δ 23 l h = none := rfl
theorem dn24 (l : List AV) (h : Hp) : Δ 24 l h = none := rfl
theorem dn25 (l : List AV) (h : Hp) : Δ 25 l h = none := rfl
theorem dn26 (l : List AV) (h : Hp) : Δ 26 l h = none := rfl
theorem dn27 (l : List AV) (h : Hp) : Δ 27 l h = none := rfl
theorem dn28 (l : List AV) (h : Hp) : Δ 28 l h = none := rfl
theorem dn29 (l : List AV) (h : Hp) : Δ 29 l h = none := rfl
theorem dn30 (l : List AV) (h : Hp) : Δ 30 l h = none := rfl
theorem dn31 (l : List AV) (h : Hp) : Δ 31 l h = none := rfl
theorem dn32 (l : List AV) (h : Hp) : Δ 32 l h = none := rfl
theorem dn33 (l : List AV) (h : Hp) : Δ 33 l h = none := rfl
theorem dn34 (l : List AV) (h : Hp) : Δ 34 l h = none := rfl
theorem dn35 (l : List AV) (h : Hp) : Δ 35 l h = none := rfl
theorem dn36 (l : List AV) (h : Hp) : Δ 36 l h = none := rfl
theorem dn37 (l : List AV) (h : Hp) : Δ 37 l h = none := rfl
theorem dn38 (l : List AV) (h : Hp) : Δ 38 l h = none := rfl
theorem dn39 (l : List AV) (h : Hp) : Δ 39 l h = none := rfl
theorem dn40 (l : List AV) (h : Hp) : Δ 40 l h = none := rfl
theorem dn41 (l : List AV) (h : Hp) : Δ 41 l h = none := rfl
theorem dn42 (l : List AV) (h : Hp) : Δ 42 l h = none := rfl
theorem dn43 (l : List AV) (h : Hp) : Δ 43 l h = none := rfl
theorem dn44 (l : List AV) (h : Hp) : Δ 44 l h = none := rfl
theorem dn45 (l : List AV) (h : Hp) : Δ 45 l h = none := rfl
theorem dn46 (l : List AV) (h : Hp) : Δ 46 l h = none := rfl
theorem dn47 (l : List AV) (h : Hp) : Δ 47 l h = none := rfl
theorem dn48 (l : List AV) (h : Hp) : Δ 48 l h = none := rfl
theorem dn49 (l : List AV) (h : Hp) : Δ 49 l h = none := rfl
theorem dn50 (l : List AV) (h : Hp) : Δ 50 l h = none := rfl
theorem dn51 (l : List AV) (h : Hp) : Δ 51 l h = none := rfl
theorem dn52 (l : List AV) (h : Hp) : Δ 52 l h = none := rfl
theorem dn53 (l : List AV) (h : Hp) : Δ 53 l h = none := rfl
theorem dn54 (l : List AV) (h : Hp) : Δ 54 l h = none := rfl
theorem dn55 (l : List AV) (h : Hp) : Δ 55 l h = none := rfl
theorem dn56 (l : List AV) (h : Hp) : Δ 56 l h = none := rfl
theorem dn57 (l : List AV) (h : Hp) : Δ 57 l h = none := rfl
theorem dn58 (l : List AV) (h : Hp) : Δ 58 l h = none := rfl
theorem dn59 (l : List AV) (h : Hp) : Δ 59 l h = none := rfl
theorem dn60 (l : List AV) (h : Hp) : Δ 60 l h = none := rfl
theorem dn61 (l : List AV) (h : Hp) : Δ 61 l h = none := rfl
theorem dn62 (l : List AV) (h : Hp) : Δ 62 l h = none := rfl
theorem dn63 (l : List AV) (h : Hp) : Δ 63 l h = none := rfl
theorem dn64 (l : List AV) (h : Hp) : Δ 64 l h = none := rfl
theorem dn65 (l : List AV) (h : Hp) : Δ 65 l h = none := rfl
theorem dn66 (l : List AV) (h : Hp) : Δ 66 l h = none := rfl
theorem dn67 (l : List AV) (h : Hp) : Δ 67 l h = none := rfl
theorem dn68 (l : List AV) (h : Hp) : Δ 68 l h = none := rfl
theorem dn69 (l : List AV) (h : Hp) : Δ 69 l h = none := rfl
theorem dn70 (l : List AV) (h : Hp) : Δ 70 l h = none := rfl
theorem dn71 (l : List AV) (h : Hp) : Δ 71 l h = none := rfl
theorem dn72 (l : List AV) (h : Hp) : Δ 72 l h = none := rfl
theorem dn73 (l : List AV) (h : Hp) : Δ 73 l h = none := rfl
theorem dn74 (l : List AV) (h : Hp) : Δ 74 l h = none := rfl
theorem dn75 (l : List AV) (h : Hp) : Δ 75 l h = none := rfl
theorem dn76 (l : List AV) (h : Hp) : Δ 76 l h = none := rfl
theorem dn78 (l : List AV) (h : Hp) : Δ 78 l h = none := rfl
theorem dn80 (l : List AV) (h : Hp) : Δ 80 l h = none := rfl
theorem dn81 (l : List AV) (h : Hp) : Δ 81 l h = none := rfl
theorem dn82 (l : List AV) (h : Hp) : Δ 82 l h = none := rfl
theorem dn83 (l : List AV) (h : Hp) : Δ 83 l h = none := rfl
theorem dn84 (l : List AV) (h : Hp) : Δ 84 l h = none := rfl
theorem dn85 (l : List AV) (h : Hp) : Δ 85 l h = none := rfl
theorem dn86 (l : List AV) (h : Hp) : Δ 86 l h = none := rfl
theorem dn87 (l : List AV) (h : Hp) : Δ 87 l h = none := rfl
theorem dn88 (l : List AV) (h : Hp) : Δ 88 l h = none := rfl
theorem dn89 (l : List AV) (h : Hp) : Δ 89 l h = none := rfl
theorem dn90 (l : List AV) (h : Hp) : Δ 90 l h = none := rfl
theorem dn91 (l : List AV) (h : Hp) : Δ 91 l h = none := rfl
theorem dn92 (l : List AV) (h : Hp) : Δ 92 l h = none := rfl
theorem dn93 (l : List AV) (h : Hp) : Δ 93 l h = none := rfl
theorem dn94 (l : List AV) (h : Hp) : Δ 94 l h = none := rfl
theorem dn95 (l : List AV) (h : Hp) : Δ 95 l h = none := rfl
theorem dn96 (l : List AV) (h : Hp) : Δ 96 l h = none := rfl
theorem dn97 (l : List AV) (h : Hp) : Δ 97 l h = none := rfl
theorem dn98 (l : List AV) (h : Hp) : Δ 98 l h = none := rfl
theorem dn99 (l : List AV) (h : Hp) : Δ 99 l h = none := rfl
theorem dn100 (l : List AV) (h : Hp) : Δ 100 l h = none := rfl
theorem dn101 (l : List AV) (h : Hp) : Δ 101 l h = none := rfl
theorem dn102 (l : List AV) (h : Hp) : Δ 102 l h = none := rfl
theorem dn103 (l : List AV) (h : Hp) : Δ 103 l h = none := rfl
theorem dn104 (l : List AV) (h : Hp) : Δ 104 l h = none := rfl
theorem dn105 (l : List AV) (h : Hp) : Δ 105 l h = none := rfl
theorem dn106 (l : List AV) (h : Hp) : Δ 106 l h = none := rfl
theorem dn107 (l : List AV) (h : Hp) : Δ 107 l h = none := rfl
theorem dn108 (l : List AV) (h : Hp) : Δ 108 l h = none := rfl
def Θ : TH
  | 78, xs, h => match xs with | [.vw nm 0 m 1] => (match geth h nm with | some (_, .arr _ 1 L) => some ⟨zCmp 3 (L.map unI), [(30000, nm)]⟩ | _ => none) | _ => none
  | _, _, _ => none
theorem th78 (xs : List AV) (h : Hp) : Θ 78 xs h = (match xs with | [.vw nm 0 m 1] => (match geth h nm with | some (_, .arr _ 1 L) => some ⟨zCmp 3 (L.map unI), [(30000, nm)]⟩ | _ => none) | _ => none) := rfl
theorem tn4 (l : List AV) (h : Hp) : Θ 4 l h = none := rfl
theorem tn5 (l : List AV) (h : Hp) : Θ 5 l h = none := rfl
theorem tn6 (l : List AV) (h : Hp) : Θ 6 l h = none := rfl
theorem tn7 (l : List AV) (h : Hp) : Θ 7 l h = none := rfl
theorem tn8 (l : List AV) (h : Hp) : Θ 8 l h = none := rfl
theorem tn9 (l : List AV) (h : Hp) : Θ 9 l h = none := rfl
theorem tn10 (l : List AV) (h : Hp) : Θ 10 l h = none := rfl
theorem tn11 (l : List AV) (h : Hp) : Θ 11 l h = none := rfl
theorem tn12 (l : List AV) (h : Hp) : Θ 12 l h = none := rfl
theorem tn13 (l : List AV) (h : Hp) : Θ 13 l h = none := rfl
theorem tn14 (l : List AV) (h : Hp) : Θ 14 l h = none := rfl
theorem tn15 (l : List AV) (h : Hp) : Θ 15 l h = none := rfl
theorem tn16 (l : List AV) (h : Hp) : Θ 16 l h = none := rfl
theorem tn17 (l : List AV) (h : Hp) : Θ 17 l h = none := rfl
theorem tn18 (l : List AV) (h : Hp) : Θ 18 l h = none := rfl
theorem tn19 (l : List AV) (h : Hp) : Θ 19 l h = none := rfl
theorem tn20 (l : List AV) (h : Hp) : Θ 20 l h = none := rfl
theorem tn21 (l : List AV) (h : Hp) : Θ 21 l h = none := rfl
theorem tn22 (l : List AV) (h : Hp) : Θ 22 l h = none := rfl
theorem tn23 (l : List AV) (h : Hp) : Θ 23 l h = none := rfl
theorem tn24 (l : List AV) (h : Hp) : Θ 24 l h = none := rfl
theorem tn25 (l : List AV) (h : Hp) : Θ 25 l h = none := rfl
theorem tn26 (l : List AV) (h : Hp) : Θ 26 l h = none := rfl
theorem tn27 (l : List AV) (h : Hp) : Θ 27 l h = none := rfl
theorem tn28 (l : List AV) (h : Hp) : Θ 28 l h = none := rfl
theorem tn29 (l : List AV) (h : Hp) : Θ 29 l h = none := rfl
theorem tn30 (l : List AV) (h : Hp) : Θ 30 l h = none := rfl
theorem tn31 (l : List AV) (h : Hp) : Θ 31 l h = none := rfl
theorem tn32 (l : List AV) (h : Hp) : Θ 32 l h = none := rfl
theorem tn33 (l : List AV) (h : Hp) : Θ 33 l h = none := rfl
theorem tn34 (l : List AV) (h : Hp) : Θ 34 l h = none := rfl
theorem tn35 (l : List AV) (h : Hp) : Θ 35 l h = none := rfl
theorem tn36 (l : List AV) (h : Hp) : Θ 36 l h = none := rfl
theorem tn37 (l : List AV) (h : Hp) : Θ 37 l h = none := rfl
theorem tn38 (l : List AV) (h : Hp) : Θ 38 l h = none := rfl
theorem tn39 (l : List AV) (h : Hp) : Θ 39 l h = none := rfl
theorem tn40 (l : List AV) (h : Hp) : Θ 40 l h = none := rfl
theorem tn41 (l : List AV) (h : Hp) : Θ 41 l h = none := rfl
theorem tn42 (l : List AV) (h : Hp) : Θ 42 l h = none := rfl
theorem tn43 (l : List AV) (h : Hp) : Θ 43 l h = none := rfl
theorem tn44 (l : List AV) (h : Hp) : Θ 44 l h = none := rfl
theorem tn45 (l : List AV) (h : Hp) : Θ 45 l h = none := rfl
theorem tn46 (l : List AV) (h : Hp) : Θ 46 l h = none := rfl
theorem tn47 (l : List AV) (h : Hp) : Θ 47 l h = none := rfl
theorem tn48 (l : List AV) (h : Hp) : Θ 48 l h = none := rfl
theorem tn49 (l : List AV) (h : Hp) : Θ 49 l h = none := rfl
theorem tn50 (l : List AV) (h : Hp) : Θ 50 l h = none := rfl
theorem tn51 (l : List AV) (h : Hp) : Θ 51 l h = none := rfl
theorem tn52 (l : List AV) (h : Hp) : Θ 52 l h = none := rfl
theorem tn53 (l : List AV) (h : Hp) : Θ 53 l h = none := rfl
theorem tn54 (l : List AV) (h : Hp) : Θ 54 l h = none := rfl
theorem tn55 (l : List AV) (h : Hp) : Θ 55 l h = none := rfl
theorem tn56 (l : List AV) (h : Hp) : Θ 56 l h = none := rfl
theorem tn57 (l : List AV) (h : Hp) : Θ 57 l h = none := rfl
theorem tn58 (l : List AV) (h : Hp) : Θ 58 l h = none := rfl
theorem tn59 (l : List AV) (h : Hp) : Θ 59 l h = none := rfl
theorem tn60 (l : List AV) (h : Hp) : Θ 60 l h = none := rfl
theorem tn61 (l : List AV) (h : Hp) : Θ 61 l h = none := rfl
theorem tn62 (l : List AV) (h : Hp) : Θ 62 l h = none := rfl
theorem tn63 (l : List AV) (h : Hp) : Θ 63 l h = none := rfl
theorem tn64 (l : List AV) (h : Hp) : Θ 64 l h = none := rfl
theorem tn65 (l : List AV) (h : Hp) : Θ 65 l h = none := rfl
theorem tn66 (l : List AV) (h : Hp) : Θ 66 l h = none := rfl
theorem tn67 (l : List AV) (h : Hp) : Θ 67 l h = none := rfl
theorem tn68 (l : List AV) (h : Hp) : Θ 68 l h = none := rfl
theorem tn69 (l : List AV) (h : Hp) : Θ 69 l h = none := rfl
theorem tn70 (l : List AV) (h : Hp) : Θ 70 l h = none := rfl
theorem tn71 (l : List AV) (h : Hp) : Θ 71 l h = none := rfl
theorem tn72 (l : List AV) (h : Hp) : Θ 72 l h = none := rfl
theorem tn73 (l : List AV) (h : Hp) : Θ 73 l h = none := rfl
theorem tn74 (l : List AV) (h : Hp) : Θ 74 l h = none := rfl
theorem tn75 (l : List AV) (h : Hp) : Θ 75 l h = none := rfl
theorem tn76 (l : List AV) (h : Hp) : Θ 76 l h = none := rfl
theorem tn77 (l : List AV) (h : Hp) : Θ 77 l h = none := rfl
theorem tn79 (l : List AV) (h : Hp) : Θ 79 l h = none := rfl
theorem tn80 (l : List AV) (h : Hp) : Θ 80 l h = none := rfl
theorem tn81 (l : List AV) (h : Hp) : Θ 81 l h = none := rfl
theorem tn82 (l : List AV) (h : Hp) : Θ 82 l h = none := rfl
theorem tn83 (l : List AV) (h : Hp) : Θ 83 l h = none := rfl
theorem tn84 (l : List AV) (h : Hp) : Θ 84 l h = none := rfl
theorem tn85 (l : List AV) (h : Hp) : Θ 85 l h = none := rfl
theorem tn86 (l : List AV) (h : Hp) : Θ 86 l h = none := rfl
theorem tn87 (l : List AV) (h : Hp) : Θ 87 l h = none := rfl
theorem tn88 (l : List AV) (h : Hp) : Θ 88 l h = none := rfl
theorem tn89 (l : List AV) (h : Hp) : Θ 89 l h = none := rfl
theorem tn90 (l : List AV) (h : Hp) : Θ 90 l h = none := rfl
theorem tn91 (l : List AV) (h : Hp) : Θ 91 l h = none := rfl
theorem tn92 (l : List AV) (h : Hp) : Θ 92 l h = none := rfl
theorem tn93 (l : List AV) (h : Hp) : Θ 93 l h = none := rfl
theorem tn94 (l : List AV) (h : Hp) : Θ 94 l h = none := rfl
theorem tn95 (l : List AV) (h : Hp) : Θ 95 l h = none := rfl
theorem tn96 (l : List AV) (h : Hp) : Θ 96 l h = none := rfl
theorem tn97 (l : List AV) (h : Hp) : Θ 97 l h = none := rfl
theorem tn98 (l : List AV) (h : Hp) : Θ 98 l h = none := rfl
theorem tn99 (l : List AV) (h : Hp) : Θ 99 l h = none := rfl
theorem tn100 (l : List AV) (h : Hp) : Θ 100 l h = none := rfl
theorem tn101 (l : List AV) (h : Hp) : Θ 101 l h = none := rfl
theorem tn102 (l : List AV) (h : Hp) : Θ 102 l h = none := rfl
theorem tn103 (l : List AV) (h : Hp) : Θ 103 l h = none := rfl
theorem tn104 (l : List AV) (h : Hp) : Θ 104 l h = none := rfl
theorem tn105 (l : List AV) (h : Hp) : Θ 105 l h = none := rfl
theorem tn106 (l : List AV) (h : Hp) : Θ 106 l h = none := rfl
theorem tn107 (l : List AV) (h : Hp) : Θ 107 l h = none := rfl
theorem tn108 (l : List AV) (h : Hp) : Θ 108 l h = none := rfl

set_option linter.unusedSimpArgs false
set_option maxRecDepth 100000 in
theorem evs {p X : Prop} (hx : X) (h : Is p X := by simp only [cloOf, Eng.addS, vFunc, vExt, runOps, stepS, Eng.inB, outOf, callOf, opV, putA, opnd, dOf, parA, Eng.get, geth, gather, nrm, del, Hold_some, Cnd_b, fin, vBin, isI, sp, shI, binI, pk, eqL, notIf, vUn, vPick, vConv, vExtr, rdA, rdD, elt, vLoad, vFld, vIdx, vAlloc, vBox, partsA, pks, vBuild, bld, bldS, vBuildS, vMake, hiOf, opk, vSlice, vStore, minL, maxL, pkl, vLen, vMin, vMax, srcOf, dstOf, vApp, cellsOf, allDat, mkAgg, spl, fresh, AV.refs, AV.refsL, Ent.refs, inst, insts, still, stills, toD, toDs, freshR, argsD, vCallR, vCall, mixOf, cellM, cellsM, vCallM, gb, gval, hg, Ret, resA, retA, retAs, retDs, D.plain, D.plainL, D.plainLL, RV.plain, RV.plainL, lk, leA, leAs, leE, leEnv, imgs, leHp, noDup, Eng.Sub, clr, clrh, runX, stepX, outZ, outY, vCallX, argX, argsX, roX, nmsX, hpX, PX.av, hpI, hpO, pinned, outX, isPin, isEnt, PX.plains, PX.plain, Ent.isArr, Ent.plain, AV.dats, AV.datP, AV.datPs, unp, vClear, vCopy, RV.flat, RV.flats, allD, vNil, runL, adOk, acc, adOf, runQA, stepQA, isPt, runZ, zOf, ixOf, chkZ, sideZ, renA, renAs, renE, renH, lkr, newN, drops, Eng.inL, outL, freeL, snds, RRof, hpZ, matchH, clA, clAs, clE, clH, namesH, EndZ, oneA, pinOk, pinsOk, isBx, pinA, pinZ, trims, Trm, vMkM, vUpd, vLenM, vRng, vEnt, keyOfA, intsD, keyD, Eng.nxOf, Eng.runN, List.zipIdx_cons, List.zipIdx_nil, List.map_cons, List.map_nil, List.map_append, List.all_cons, List.all_nil, List.contains_nil, List.contains_cons, List.getElem?_cons_zero, List.getElem?_cons_succ, List.getD_cons_zero, List.getD_cons_succ, List.getElem?_nil, List.length_cons, List.length_nil, List.length_map, List.length_replicate, List.nil_append, List.cons_append, List.append_nil, List.take_succ_cons, List.take_zero, List.take_nil, List.drop_succ_cons, List.drop_zero, List.drop_nil, List.set_cons_zero, List.set_cons_succ, List.replicate_succ, List.replicate_zero, List.nodup_nil, List.nodup_cons, List.not_mem_nil, List.mem_cons, decide_true, decide_false, cond_true, cond_false, Nat.reduceLT, Nat.reduceLeDiff, Nat.reduceAdd, Nat.reduceSub, Nat.reduceMul, Nat.reduceBEq, Nat.reduceEqDiff, Nat.zero_add, Nat.add_zero, Nat.sub_self, Nat.sub_zero, Nat.zero_mul, true_and, and_true, forall_const, implies_true, imp_self, and_self, not_false_eq_true, not_true_eq_false, Bool.and_true, Bool.true_and, Bool.and_false, Bool.false_and, Bool.or_true, Bool.true_or, Bool.or_false, Bool.false_or, Bool.not_true, Bool.not_false, Bool.and_self, Bool.not_not, beq_self_eq_true, beq_true, beq_false, bne_self_eq_false, Bool.cond_false_right, Bool.cond_true_left, Option.map_some, Option.map_none, Option.getD_some, Option.getD_none, Option.isSome_some, Option.isSome_none, Option.isNone_none, Option.isNone_some, Option.bind_some, reduceCtorEq, Bool.false_eq_true, Bool.true_eq_false, D.i.injEq, D.b.injEq, D.v.injEq, D.agg.injEq, D.sl.injEq, AV.dat.injEq, AV.vw.injEq, AV.pt.injEq, AV.ep.injEq, AV.rp.injEq, Ent.box.injEq, Ent.arr.injEq, AV.agg.injEq, AV.tup.injEq, List.cons.injEq, Int.toNat_natCast, true_implies, decide_eq_true_eq, decide_eq_false_iff_not, Bool.and_eq_true, Bool.or_eq_true, Bool.or_eq_false_iff, Bool.not_eq_true', Bool.not_eq_false', Bool.not_eq_true, Bool.not_eq_false, bne_iff_ne, beq_iff_eq, bne_eq_false_iff_eq, beq_eq_false_iff_ne, Int.not_lt, Int.not_le, ne_eq, Bool.false_and, Value.oneCell', true_or, false_or, or_true, ↓reduceIte, eqI, eqN, eqB, eqD, eqL1, eqL2, runQ, stepQ, vIndex, cut, List.append_eq, List.toList_toArray, y3, s3, b3, o3, p3, z3, d3, k3, y4, s4, b4, o4, p4, z4, d4, q4, y5, s5, b5, o5, p5, z5, d5, k5, y9, s9, b9, o9, p9, z9, d9, y22, s22, b22, o22, p22, z22, d22, e22, y23, s23, b23, o23, p23, z23, d23, e23, y26, s26, b26, o26, p26, z26, d26, f26_0, f26_1, l26, q26, y31, mt31, y34, s34, b34, o34, p34, z34, d34, f34_0, f34_1, f34_2, f34_3, l34, q34, y39, s39, b39, o39, p39, z39, y53, s53, b53, o53, p53, z53, d53, k53, y54, s54, b54, o54, p54, z54, d54, e54, y62, s62, b62, o62, p62, z62, y63, s63, b63, o63, p63, z63, d63, e63, y65, s65, b65, o65, p65, z65, d65, f65_0, f65_1, l65, q65, y71, s71, b71, o71, p71, z71, d71, k71, y79, s79, b79, o79, p79, z79, d79, k79, y81, s81, b81, o81, p81, z81, d81, k81, y88, s88, b88, o88, p88, z88, d88, k88, y92, y96, s96, b96, o96, p96, z96, n4, n5, n6, n7, n8, n9, n10, n11, n12, n13, n14, n15, n16, n17, n18, n19, n20, n21, n22, n23, n24, n25, n26, n27, n28, n29, n30, n31, n32, n33, n34, n35, n36, n37, n38, n39, n40, n41, n42, n43, n44, n45, n46, n47, n48, n49, n50, n51, n52, n53, n54, n55, n56, n57, n58, n59, n60, n61, n62, n63, n64, n65, n66, n67, n68, n69, n70, n71, n72, n73, n74, n75, n76, n77, n78, n79, n80, n81, n82, n83, n84, n85, n86, n87, n88, n89, n90, n91, n92, n93, n94, n95, n96, n97, n98, n99, n100, n101, n102, n103, n104, n105, n106, n107, n108, g4, g5, g6, g7, g8, g9, g10, g11, g13, g14, g15, g16, g17, g18, g18_14, g19, g20, g21, g22, g23, g24, g25, g26, g26_23, g27, g28, g29, g30, g31, g32, g33, g36, g37, g38, g39, g40, g41, g42, g43, g44, g45, g46, g47, g48, g49, g50, g50_46, g51, g52, g53, g54, g65, g66, g67, g68, g69, g70, g71, g80, dl12, dl77, dl79, dn4, dn5, dn6, dn7, dn8, dn9, dn10, dn11, dn13, dn14, dn15, dn16, dn17, dn18, dn19, dn20, dn21, dn22, dn23, dn24, dn25, dn26, dn27, dn28, dn29, dn30, dn31, dn32, dn33, dn34, dn35, dn36, dn37, dn38, dn39, dn40, dn41, dn42, dn43, dn44, dn45, dn46, dn47, dn48, dn49, dn50, dn51, dn52, dn53, dn54, dn55, dn56, dn57, dn58, dn59, dn60, dn61, dn62, dn63, dn64, dn65, dn66, dn67, dn68, dn69, dn70, dn71, dn72, dn73, dn74, dn75, dn76, dn78, dn80, dn81, dn82, dn83, dn84, dn85, dn86, dn87, dn88, dn89, dn90, dn91, dn92, dn93, dn94, dn95, dn96, dn97, dn98, dn99, dn100, dn101, dn102, dn103, dn104, dn105, dn106, dn107, dn108, th78, tn4, tn5, tn6, tn7, tn8, tn9, tn10, tn11, tn12, tn13, tn14, tn15, tn16, tn17, tn18, tn19, tn20, tn21, tn22, tn23, tn24, tn25, tn26, tn27, tn28, tn29, tn30, tn31, tn32, tn33, tn34, tn35, tn36, tn37, tn38, tn39, tn40, tn41, tn42, tn43, tn44, tn45, tn46, tn47, tn48, tn49, tn50, tn51, tn52, tn53, tn54, tn55, tn56, tn57, tn58, tn59, tn60, tn61, tn62, tn63, tn64, tn65, tn66, tn67, tn68, tn69, tn70, tn71, tn72, tn73, tn74, tn75, tn76, tn77, tn79, tn80, tn81, tn82, tn83, tn84, tn85, tn86, tn87, tn88, tn89, tn90, tn91, tn92, tn93, tn94, tn95, tn96, tn97, tn98, tn99, tn100, tn101, tn102, tn103, tn104, tn105, tn106, tn107, tn108, unRcE, unRcV, rcEta, ptEta, mapRc, mapPt, getDRc, getDPt, tkR, tkP, plRc, plPt, rcD, ptD, rcC, ptC, mapI, getDI, setI, plI, repI, tkI, unPtE, toN0, unPtV, toN1i, List.length_set, List.length_range, iC, unIV, rnD, rnC, getDRn, mapRn, plRn, tkRn, unRnE, unRnV, rnEta, tkMin, toNs, zCmp, cmpP_take, toNp1, ptE1, ptE2, kpU0, kpU1, kpU2]; exact Is.rfl) : Ev p := h.ev hx
end Go.S03

