import Derived.Test.YtgkflbibpkkegaaGreatDoorEF
import Derived.Test.YtgkflbibpkkegaaGreatDoorMC
import Derived.Test.YtgkflbibpkkegaaGreatDoorProg
import Derived.KernelRfl
set_option linter.unusedSimpArgs false
set_option linter.unusedVariables false
namespace Go.S35
open Go.RowKit Go.Proofs Go.Eng Go.Rect
theorem y3 : tyOf Tryz.prog 3 = some (1, false) := by kernel_rfl
theorem s3 : szOf Tryz.prog 3 = 1 := by kernel_rfl
theorem b3 : byOf Tryz.prog 3 = 8 := by kernel_rfl
theorem o3 : (Tryz.prog.info? 3).isSome = true := by kernel_rfl
theorem p3 : (Tryz.prog.underlying 3).isSome = true := by kernel_rfl
theorem z3 : zC Tryz.prog 3 = some [.i 0] := by kernel_rfl
theorem d3 : dfD Tryz.prog 9 3 = [.i 0] := by kernel_rfl
theorem k3 : ikOf Tryz.prog 3 = some .i64 := by kernel_rfl
theorem y4 : tyOf Tryz.prog 4 = some (1, false) := by kernel_rfl
theorem s4 : szOf Tryz.prog 4 = 1 := by kernel_rfl
theorem b4 : byOf Tryz.prog 4 = 1 := by kernel_rfl
theorem o4 : (Tryz.prog.info? 4).isSome = true := by kernel_rfl
theorem p4 : (Tryz.prog.underlying 4).isSome = true := by kernel_rfl
theorem z4 : zC Tryz.prog 4 = some [.b false] := by kernel_rfl
theorem d4 : dfD Tryz.prog 9 4 = [.b false] := by kernel_rfl
theorem q4 : isBo Tryz.prog 4 = true := by kernel_rfl
theorem y9 : tyOf Tryz.prog 9 = some (1, false) := by kernel_rfl
theorem s9 : szOf Tryz.prog 9 = 1 := by kernel_rfl
theorem b9 : byOf Tryz.prog 9 = 16 := by kernel_rfl
theorem o9 : (Tryz.prog.info? 9).isSome = true := by kernel_rfl
theorem p9 : (Tryz.prog.underlying 9).isSome = true := by kernel_rfl
theorem z9 : zC Tryz.prog 9 = some [.v (.string ByteArray.empty)] := by kernel_rfl
theorem d9 : dfD Tryz.prog 9 9 = [.v (.string ByteArray.empty)] := by kernel_rfl
theorem y23 : tyOf Tryz.prog 23 = some (4, true) := by kernel_rfl
theorem s23 : szOf Tryz.prog 23 = 4 := by kernel_rfl
theorem b23 : byOf Tryz.prog 23 = 32 := by kernel_rfl
theorem o23 : (Tryz.prog.info? 23).isSome = true := by kernel_rfl
theorem p23 : (Tryz.prog.underlying 23).isSome = true := by kernel_rfl
theorem z23 : zC Tryz.prog 23 = some [.i 0, .i 0, .i 0, .i 0] := by kernel_rfl
theorem d23 : dfD Tryz.prog 9 23 = [.i 0, .i 0, .i 0, .i 0] := by kernel_rfl
theorem f23_0 : fldOf Tryz.prog 23 0 = some (0, 3) := by kernel_rfl
theorem f23_1 : fldOf Tryz.prog 23 1 = some (1, 3) := by kernel_rfl
theorem f23_2 : fldOf Tryz.prog 23 2 = some (2, 3) := by kernel_rfl
theorem f23_3 : fldOf Tryz.prog 23 3 = some (3, 3) := by kernel_rfl
theorem l23 : plF Tryz.prog 23 = some fun i => ([(0, 1), (1, 1), (2, 1), (3, 1)] : List (Nat × Nat))[i]? := by kernel_rfl
theorem q23 : eqTy Tryz.prog 23 = some 4 := by kernel_rfl
theorem y29 : tyOf Tryz.prog 29 = some (1, false) := by kernel_rfl
theorem s29 : szOf Tryz.prog 29 = 1 := by kernel_rfl
theorem b29 : byOf Tryz.prog 29 = 24 := by kernel_rfl
theorem o29 : (Tryz.prog.info? 29).isSome = true := by kernel_rfl
theorem p29 : (Tryz.prog.underlying 29).isSome = true := by kernel_rfl
theorem z29 : zC Tryz.prog 29 = some [.v (.slice none 0 0)] := by kernel_rfl
theorem d29 : dfD Tryz.prog 9 29 = [.sl 4 []] := by kernel_rfl
theorem e29 : elOf Tryz.prog 29 = some 44 := by kernel_rfl
theorem y31 : tyOf Tryz.prog 31 = some (3, true) := by kernel_rfl
theorem s31 : szOf Tryz.prog 31 = 3 := by kernel_rfl
theorem b31 : byOf Tryz.prog 31 = 40 := by kernel_rfl
theorem o31 : (Tryz.prog.info? 31).isSome = true := by kernel_rfl
theorem p31 : (Tryz.prog.underlying 31).isSome = true := by kernel_rfl
theorem z31 : zC Tryz.prog 31 = some [.i 0, .i 0, .v (.slice none 0 0)] := by kernel_rfl
theorem d31 : dfD Tryz.prog 9 31 = [.i 0, .i 0, .sl 4 []] := by kernel_rfl
theorem f31_0 : fldOf Tryz.prog 31 0 = some (0, 3) := by kernel_rfl
theorem f31_1 : fldOf Tryz.prog 31 1 = some (1, 3) := by kernel_rfl
theorem f31_2 : fldOf Tryz.prog 31 2 = some (2, 29) := by kernel_rfl
theorem l31 : plF Tryz.prog 31 = some fun i => ([(0, 1), (1, 1), (2, 1)] : List (Nat × Nat))[i]? := by kernel_rfl
theorem y32 : tyOf Tryz.prog 32 = some (1, false) := by kernel_rfl
theorem s32 : szOf Tryz.prog 32 = 1 := by kernel_rfl
theorem b32 : byOf Tryz.prog 32 = 8 := by kernel_rfl
theorem o32 : (Tryz.prog.info? 32).isSome = true := by kernel_rfl
theorem p32 : (Tryz.prog.underlying 32).isSome = true := by kernel_rfl
theorem z32 : zC Tryz.prog 32 = some [.i 0] := by kernel_rfl
theorem d32 : dfD Tryz.prog 9 32 = [.i 0] := by kernel_rfl
theorem k32 : ikOf Tryz.prog 32 = some .i64 := by kernel_rfl
theorem y44 : tyOf Tryz.prog 44 = some (4, true) := by kernel_rfl
theorem s44 : szOf Tryz.prog 44 = 4 := by kernel_rfl
theorem b44 : byOf Tryz.prog 44 = 32 := by kernel_rfl
theorem o44 : (Tryz.prog.info? 44).isSome = true := by kernel_rfl
theorem p44 : (Tryz.prog.underlying 44).isSome = true := by kernel_rfl
theorem z44 : zC Tryz.prog 44 = some [.i 0, .i 0, .i 0, .i 0] := by kernel_rfl
theorem d44 : dfD Tryz.prog 9 44 = [.i 0, .i 0, .i 0, .i 0] := by kernel_rfl
theorem f44_0 : fldOf Tryz.prog 44 0 = some (0, 3) := by kernel_rfl
theorem f44_1 : fldOf Tryz.prog 44 1 = some (1, 3) := by kernel_rfl
theorem f44_2 : fldOf Tryz.prog 44 2 = some (2, 3) := by kernel_rfl
theorem f44_3 : fldOf Tryz.prog 44 3 = some (3, 3) := by kernel_rfl
theorem l44 : plF Tryz.prog 44 = some fun i => ([(0, 1), (1, 1), (2, 1), (3, 1)] : List (Nat × Nat))[i]? := by kernel_rfl
theorem q44 : eqTy Tryz.prog 44 = some 4 := by kernel_rfl
theorem y52 : tyOf Tryz.prog 52 = some (1, false) := by kernel_rfl
theorem s52 : szOf Tryz.prog 52 = 1 := by kernel_rfl
theorem b52 : byOf Tryz.prog 52 = 24 := by kernel_rfl
theorem o52 : (Tryz.prog.info? 52).isSome = true := by kernel_rfl
theorem p52 : (Tryz.prog.underlying 52).isSome = true := by kernel_rfl
theorem z52 : zC Tryz.prog 52 = some [.v (.slice none 0 0)] := by kernel_rfl
theorem d52 : dfD Tryz.prog 9 52 = [.sl 43 []] := by kernel_rfl
theorem e52 : elOf Tryz.prog 52 = some 94 := by kernel_rfl
theorem y53 : tyOf Tryz.prog 53 = some (1, false) := by kernel_rfl
theorem s53 : szOf Tryz.prog 53 = 1 := by kernel_rfl
theorem b53 : byOf Tryz.prog 53 = 24 := by kernel_rfl
theorem o53 : (Tryz.prog.info? 53).isSome = true := by kernel_rfl
theorem p53 : (Tryz.prog.underlying 53).isSome = true := by kernel_rfl
theorem z53 : zC Tryz.prog 53 = some [.v (.slice none 0 0)] := by kernel_rfl
theorem d53 : dfD Tryz.prog 9 53 = [.sl 1 []] := by kernel_rfl
theorem e53 : elOf Tryz.prog 53 = some 3 := by kernel_rfl
theorem y55 : tyOf Tryz.prog 55 = some (3, true) := by kernel_rfl
theorem s55 : szOf Tryz.prog 55 = 3 := by kernel_rfl
theorem b55 : byOf Tryz.prog 55 = 40 := by kernel_rfl
theorem o55 : (Tryz.prog.info? 55).isSome = true := by kernel_rfl
theorem p55 : (Tryz.prog.underlying 55).isSome = true := by kernel_rfl
theorem z55 : zC Tryz.prog 55 = some [.i 0, .i 0, .v (.slice none 0 0)] := by kernel_rfl
theorem d55 : dfD Tryz.prog 9 55 = [.i 0, .i 0, .sl 1 []] := by kernel_rfl
theorem f55_0 : fldOf Tryz.prog 55 0 = some (0, 3) := by kernel_rfl
theorem f55_1 : fldOf Tryz.prog 55 1 = some (1, 3) := by kernel_rfl
theorem f55_2 : fldOf Tryz.prog 55 2 = some (2, 53) := by kernel_rfl
theorem l55 : plF Tryz.prog 55 = some fun i => ([(0, 1), (1, 1), (2, 1)] : List (Nat × Nat))[i]? := by kernel_rfl
theorem y56 : tyOf Tryz.prog 56 = some (1, false) := by kernel_rfl
theorem s56 : szOf Tryz.prog 56 = 1 := by kernel_rfl
theorem b56 : byOf Tryz.prog 56 = 24 := by kernel_rfl
theorem o56 : (Tryz.prog.info? 56).isSome = true := by kernel_rfl
theorem p56 : (Tryz.prog.underlying 56).isSome = true := by kernel_rfl
theorem z56 : zC Tryz.prog 56 = some [.v (.slice none 0 0)] := by kernel_rfl
theorem d56 : dfD Tryz.prog 9 56 = [.sl 2 []] := by kernel_rfl
theorem e56 : elOf Tryz.prog 56 = some 109 := by kernel_rfl
theorem y57 : tyOf Tryz.prog 57 = some (1, false) := by kernel_rfl
theorem s57 : szOf Tryz.prog 57 = 1 := by kernel_rfl
theorem b57 : byOf Tryz.prog 57 = 24 := by kernel_rfl
theorem o57 : (Tryz.prog.info? 57).isSome = true := by kernel_rfl
theorem p57 : (Tryz.prog.underlying 57).isSome = true := by kernel_rfl
theorem z57 : zC Tryz.prog 57 = some [.v (.slice none 0 0)] := by kernel_rfl
theorem d57 : dfD Tryz.prog 9 57 = [.sl 7 []] := by kernel_rfl
theorem e57 : elOf Tryz.prog 57 = some 100 := by kernel_rfl
theorem y59 : tyOf Tryz.prog 59 = some (10, true) := by kernel_rfl
theorem s59 : szOf Tryz.prog 59 = 10 := by kernel_rfl
theorem b59 : byOf Tryz.prog 59 = 144 := by kernel_rfl
theorem o59 : (Tryz.prog.info? 59).isSome = true := by kernel_rfl
theorem p59 : (Tryz.prog.underlying 59).isSome = true := by kernel_rfl
theorem z59 : zC Tryz.prog 59 = some [.i 0, .i 0, .i 0, .v (.slice none 0 0), .i 0, .i 0, .i 0, .v (.slice none 0 0), .v (.slice none 0 0), .v (.slice none 0 0)] := by kernel_rfl
theorem d59 : dfD Tryz.prog 9 59 = [.i 0, .i 0, .i 0, .sl 43 [], .i 0, .i 0, .i 0, .sl 1 [], .sl 2 [], .sl 7 []] := by kernel_rfl
theorem f59_0 : fldOf Tryz.prog 59 0 = some (0, 3) := by kernel_rfl
theorem f59_1 : fldOf Tryz.prog 59 1 = some (1, 3) := by kernel_rfl
theorem f59_2 : fldOf Tryz.prog 59 2 = some (2, 3) := by kernel_rfl
theorem f59_3 : fldOf Tryz.prog 59 3 = some (3, 52) := by kernel_rfl
theorem f59_4 : fldOf Tryz.prog 59 4 = some (4, 3) := by kernel_rfl
theorem f59_5 : fldOf Tryz.prog 59 5 = some (5, 55) := by kernel_rfl
theorem f59_6 : fldOf Tryz.prog 59 6 = some (8, 56) := by kernel_rfl
theorem f59_7 : fldOf Tryz.prog 59 7 = some (9, 57) := by kernel_rfl
theorem l59 : plF Tryz.prog 59 = some fun i => ([(0, 1), (1, 1), (2, 1), (3, 1), (4, 1), (5, 3), (8, 1), (9, 1)] : List (Nat × Nat))[i]? := by kernel_rfl
theorem y71 : tyOf Tryz.prog 71 = some (2, true) := by kernel_rfl
theorem s71 : szOf Tryz.prog 71 = 2 := by kernel_rfl
theorem b71 : byOf Tryz.prog 71 = 16 := by kernel_rfl
theorem o71 : (Tryz.prog.info? 71).isSome = true := by kernel_rfl
theorem p71 : (Tryz.prog.underlying 71).isSome = true := by kernel_rfl
theorem z71 : zC Tryz.prog 71 = some [.i 0, .i 0] := by kernel_rfl
theorem d71 : dfD Tryz.prog 9 71 = [.i 0, .i 0] := by kernel_rfl
theorem f71_0 : fldOf Tryz.prog 71 0 = some (0, 3) := by kernel_rfl
theorem f71_1 : fldOf Tryz.prog 71 1 = some (1, 3) := by kernel_rfl
theorem l71 : plF Tryz.prog 71 = some fun i => ([(0, 1), (1, 1)] : List (Nat × Nat))[i]? := by kernel_rfl
theorem q71 : eqTy Tryz.prog 71 = some 2 := by kernel_rfl
theorem y81 : tyOf Tryz.prog 81 = some (1, false) := by kernel_rfl
theorem s81 : szOf Tryz.prog 81 = 1 := by kernel_rfl
theorem b81 : byOf Tryz.prog 81 = 8 := by kernel_rfl
theorem o81 : (Tryz.prog.info? 81).isSome = true := by kernel_rfl
theorem p81 : (Tryz.prog.underlying 81).isSome = true := by kernel_rfl
theorem z81 : zC Tryz.prog 81 = some [.v (.int .u64 0)] := by kernel_rfl
theorem d81 : dfD Tryz.prog 9 81 = [.v (.int .u64 0)] := by kernel_rfl
theorem k81 : ikOf Tryz.prog 81 = some .u64 := by kernel_rfl
theorem y85 : tyOf Tryz.prog 85 = some (1, false) := by kernel_rfl
theorem mt85 : mapOf Tryz.prog 85 = some (0, 3, 3) := by kernel_rfl
theorem y87 : tyOf Tryz.prog 87 = some (6, true) := by kernel_rfl
theorem s87 : szOf Tryz.prog 87 = 6 := by kernel_rfl
theorem b87 : byOf Tryz.prog 87 = 48 := by kernel_rfl
theorem o87 : (Tryz.prog.info? 87).isSome = true := by kernel_rfl
theorem p87 : (Tryz.prog.underlying 87).isSome = true := by kernel_rfl
theorem z87 : zC Tryz.prog 87 = some [.i 0, .i 0, .i 0, .i 0, .i 0, .i 0] := by kernel_rfl
theorem d87 : dfD Tryz.prog 9 87 = [.i 0, .i 0, .i 0, .i 0, .i 0, .i 0] := by kernel_rfl
theorem f87_0 : fldOf Tryz.prog 87 0 = some (0, 3) := by kernel_rfl
theorem f87_1 : fldOf Tryz.prog 87 1 = some (1, 3) := by kernel_rfl
theorem f87_2 : fldOf Tryz.prog 87 2 = some (2, 3) := by kernel_rfl
theorem f87_3 : fldOf Tryz.prog 87 3 = some (3, 3) := by kernel_rfl
theorem f87_4 : fldOf Tryz.prog 87 4 = some (4, 3) := by kernel_rfl
theorem f87_5 : fldOf Tryz.prog 87 5 = some (5, 3) := by kernel_rfl
theorem l87 : plF Tryz.prog 87 = some fun i => ([(0, 1), (1, 1), (2, 1), (3, 1), (4, 1), (5, 1)] : List (Nat × Nat))[i]? := by kernel_rfl
theorem q87 : eqTy Tryz.prog 87 = some 6 := by kernel_rfl
theorem y88 : tyOf Tryz.prog 88 = some (1, false) := by kernel_rfl
theorem s88 : szOf Tryz.prog 88 = 1 := by kernel_rfl
theorem b88 : byOf Tryz.prog 88 = 24 := by kernel_rfl
theorem o88 : (Tryz.prog.info? 88).isSome = true := by kernel_rfl
theorem p88 : (Tryz.prog.underlying 88).isSome = true := by kernel_rfl
theorem z88 : zC Tryz.prog 88 = some [.v (.slice none 0 0)] := by kernel_rfl
theorem d88 : dfD Tryz.prog 9 88 = [.sl 5 []] := by kernel_rfl
theorem e88 : elOf Tryz.prog 88 = some 206 := by kernel_rfl
theorem y89 : tyOf Tryz.prog 89 = some (1, false) := by kernel_rfl
theorem s89 : szOf Tryz.prog 89 = 1 := by kernel_rfl
theorem b89 : byOf Tryz.prog 89 = 24 := by kernel_rfl
theorem o89 : (Tryz.prog.info? 89).isSome = true := by kernel_rfl
theorem p89 : (Tryz.prog.underlying 89).isSome = true := by kernel_rfl
theorem z89 : zC Tryz.prog 89 = some [.v (.slice none 0 0)] := by kernel_rfl
theorem d89 : dfD Tryz.prog 9 89 = [.sl 7 []] := by kernel_rfl
theorem e89 : elOf Tryz.prog 89 = some 210 := by kernel_rfl
theorem y90 : tyOf Tryz.prog 90 = some (1, false) := by kernel_rfl
theorem s90 : szOf Tryz.prog 90 = 1 := by kernel_rfl
theorem b90 : byOf Tryz.prog 90 = 24 := by kernel_rfl
theorem o90 : (Tryz.prog.info? 90).isSome = true := by kernel_rfl
theorem p90 : (Tryz.prog.underlying 90).isSome = true := by kernel_rfl
theorem z90 : zC Tryz.prog 90 = some [.v (.slice none 0 0)] := by kernel_rfl
theorem d90 : dfD Tryz.prog 9 90 = [.sl 2 []] := by kernel_rfl
theorem e90 : elOf Tryz.prog 90 = some 71 := by kernel_rfl
theorem y92 : tyOf Tryz.prog 92 = some (4, true) := by kernel_rfl
theorem s92 : szOf Tryz.prog 92 = 4 := by kernel_rfl
theorem b92 : byOf Tryz.prog 92 = 48 := by kernel_rfl
theorem o92 : (Tryz.prog.info? 92).isSome = true := by kernel_rfl
theorem p92 : (Tryz.prog.underlying 92).isSome = true := by kernel_rfl
theorem z92 : zC Tryz.prog 92 = some [.i 0, .i 0, .i 0, .v (.slice none 0 0)] := by kernel_rfl
theorem d92 : dfD Tryz.prog 9 92 = [.i 0, .i 0, .i 0, .sl 2 []] := by kernel_rfl
theorem f92_0 : fldOf Tryz.prog 92 0 = some (0, 3) := by kernel_rfl
theorem f92_1 : fldOf Tryz.prog 92 1 = some (1, 3) := by kernel_rfl
theorem f92_2 : fldOf Tryz.prog 92 2 = some (2, 3) := by kernel_rfl
theorem f92_3 : fldOf Tryz.prog 92 3 = some (3, 90) := by kernel_rfl
theorem l92 : plF Tryz.prog 92 = some fun i => ([(0, 1), (1, 1), (2, 1), (3, 1)] : List (Nat × Nat))[i]? := by kernel_rfl
theorem y94 : tyOf Tryz.prog 94 = some (43, true) := by kernel_rfl
theorem s94 : szOf Tryz.prog 94 = 43 := by kernel_rfl
theorem b94 : byOf Tryz.prog 94 = 440 := by kernel_rfl
theorem o94 : (Tryz.prog.info? 94).isSome = true := by kernel_rfl
theorem p94 : (Tryz.prog.underlying 94).isSome = true := by kernel_rfl
theorem z94 : zC Tryz.prog 94 = some [.i 0, .i 0, .i 0, .v (.string ByteArray.empty), .b false, .b false, .b false, .i 0, .i 0, .i 0, .i 0, .v (.slice none 0 0), .i 0, .i 0, .i 0, .i 0, .i 0, .i 0, .i 0, .i 0, .i 0, .v (.slice none 0 0), .i 0, .i 0, .i 0, .i 0, .i 0, .v (.slice none 0 0), .i 0, .v (.slice none 0 0), .v (.slice none 0 0), .i 0, .i 0, .i 0, .i 0, .v (.string ByteArray.empty), .i 0, .i 0, .i 0, .i 0, .i 0, .i 0, .v (.slice none 0 0)] := by kernel_rfl
theorem d94 : dfD Tryz.prog 9 94 = [.i 0, .i 0, .i 0, .v (.string ByteArray.empty), .b false, .b false, .b false, .i 0, .i 0, .i 0, .i 0, .sl 1 [], .i 0, .i 0, .i 0, .i 0, .i 0, .i 0, .i 0, .i 0, .i 0, .sl 4 [], .i 0, .i 0, .i 0, .i 0, .i 0, .sl 1 [], .i 0, .sl 5 [], .sl 7 [], .i 0, .i 0, .i 0, .i 0, .v (.string ByteArray.empty), .i 0, .i 0, .i 0, .i 0, .i 0, .i 0, .sl 2 []] := by kernel_rfl
theorem f94_0 : fldOf Tryz.prog 94 0 = some (0, 3) := by kernel_rfl
theorem f94_1 : fldOf Tryz.prog 94 1 = some (1, 3) := by kernel_rfl
theorem f94_2 : fldOf Tryz.prog 94 2 = some (2, 3) := by kernel_rfl
theorem f94_3 : fldOf Tryz.prog 94 3 = some (3, 9) := by kernel_rfl
theorem f94_4 : fldOf Tryz.prog 94 4 = some (4, 4) := by kernel_rfl
theorem f94_5 : fldOf Tryz.prog 94 5 = some (5, 4) := by kernel_rfl
theorem f94_6 : fldOf Tryz.prog 94 6 = some (6, 4) := by kernel_rfl
theorem f94_7 : fldOf Tryz.prog 94 7 = some (7, 3) := by kernel_rfl
theorem f94_8 : fldOf Tryz.prog 94 8 = some (8, 3) := by kernel_rfl
theorem f94_9 : fldOf Tryz.prog 94 9 = some (9, 55) := by kernel_rfl
theorem f94_10 : fldOf Tryz.prog 94 10 = some (12, 87) := by kernel_rfl
theorem f94_11 : fldOf Tryz.prog 94 11 = some (18, 3) := by kernel_rfl
theorem f94_12 : fldOf Tryz.prog 94 12 = some (19, 31) := by kernel_rfl
theorem f94_13 : fldOf Tryz.prog 94 13 = some (22, 44) := by kernel_rfl
theorem f94_14 : fldOf Tryz.prog 94 14 = some (26, 3) := by kernel_rfl
theorem f94_15 : fldOf Tryz.prog 94 15 = some (27, 53) := by kernel_rfl
theorem f94_16 : fldOf Tryz.prog 94 16 = some (28, 3) := by kernel_rfl
theorem f94_17 : fldOf Tryz.prog 94 17 = some (29, 88) := by kernel_rfl
theorem f94_18 : fldOf Tryz.prog 94 18 = some (30, 89) := by kernel_rfl
theorem f94_19 : fldOf Tryz.prog 94 19 = some (31, 3) := by kernel_rfl
theorem f94_20 : fldOf Tryz.prog 94 20 = some (32, 3) := by kernel_rfl
theorem f94_21 : fldOf Tryz.prog 94 21 = some (33, 3) := by kernel_rfl
theorem f94_22 : fldOf Tryz.prog 94 22 = some (34, 3) := by kernel_rfl
theorem f94_23 : fldOf Tryz.prog 94 23 = some (35, 9) := by kernel_rfl
theorem f94_24 : fldOf Tryz.prog 94 24 = some (36, 3) := by kernel_rfl
theorem f94_25 : fldOf Tryz.prog 94 25 = some (37, 3) := by kernel_rfl
theorem f94_26 : fldOf Tryz.prog 94 26 = some (38, 3) := by kernel_rfl
theorem f94_27 : fldOf Tryz.prog 94 27 = some (39, 92) := by kernel_rfl
theorem l94 : plF Tryz.prog 94 = some fun i => ([(0, 1), (1, 1), (2, 1), (3, 1), (4, 1), (5, 1), (6, 1), (7, 1), (8, 1), (9, 3), (12, 6), (18, 1), (19, 3), (22, 4), (26, 1), (27, 1), (28, 1), (29, 1), (30, 1), (31, 1), (32, 1), (33, 1), (34, 1), (35, 1), (36, 1), (37, 1), (38, 1), (39, 4)] : List (Nat × Nat))[i]? := by kernel_rfl
theorem y100 : tyOf Tryz.prog 100 = some (7, true) := by kernel_rfl
theorem s100 : szOf Tryz.prog 100 = 7 := by kernel_rfl
theorem b100 : byOf Tryz.prog 100 = 80 := by kernel_rfl
theorem o100 : (Tryz.prog.info? 100).isSome = true := by kernel_rfl
theorem p100 : (Tryz.prog.underlying 100).isSome = true := by kernel_rfl
theorem z100 : zC Tryz.prog 100 = some [.i 0, .v (.string ByteArray.empty), .i 0, .i 0, .i 0, .i 0, .v (.slice none 0 0)] := by kernel_rfl
theorem d100 : dfD Tryz.prog 9 100 = [.i 0, .v (.string ByteArray.empty), .i 0, .i 0, .i 0, .i 0, .sl 4 []] := by kernel_rfl
theorem f100_0 : fldOf Tryz.prog 100 0 = some (0, 3) := by kernel_rfl
theorem f100_1 : fldOf Tryz.prog 100 1 = some (1, 9) := by kernel_rfl
theorem f100_2 : fldOf Tryz.prog 100 2 = some (2, 3) := by kernel_rfl
theorem f100_3 : fldOf Tryz.prog 100 3 = some (3, 3) := by kernel_rfl
theorem f100_4 : fldOf Tryz.prog 100 4 = some (4, 31) := by kernel_rfl
theorem l100 : plF Tryz.prog 100 = some fun i => ([(0, 1), (1, 1), (2, 1), (3, 1), (4, 3)] : List (Nat × Nat))[i]? := by kernel_rfl
theorem y103 : tyOf Tryz.prog 103 = some (1, false) := by kernel_rfl
theorem s103 : szOf Tryz.prog 103 = 1 := by kernel_rfl
theorem b103 : byOf Tryz.prog 103 = 8 := by kernel_rfl
theorem o103 : (Tryz.prog.info? 103).isSome = true := by kernel_rfl
theorem p103 : (Tryz.prog.underlying 103).isSome = true := by kernel_rfl
theorem z103 : zC Tryz.prog 103 = some [.v .nilFunc] := by kernel_rfl
theorem y105 : tyOf Tryz.prog 105 = some (1, false) := by kernel_rfl
theorem s105 : szOf Tryz.prog 105 = 1 := by kernel_rfl
theorem b105 : byOf Tryz.prog 105 = 24 := by kernel_rfl
theorem o105 : (Tryz.prog.info? 105).isSome = true := by kernel_rfl
theorem p105 : (Tryz.prog.underlying 105).isSome = true := by kernel_rfl
theorem z105 : zC Tryz.prog 105 = some [.v (.slice none 0 0)] := by kernel_rfl
theorem d105 : dfD Tryz.prog 9 105 = [.sl 1 []] := by kernel_rfl
theorem e105 : elOf Tryz.prog 105 = some 4 := by kernel_rfl
theorem y106 : tyOf Tryz.prog 106 = some (1, false) := by kernel_rfl
theorem s106 : szOf Tryz.prog 106 = 1 := by kernel_rfl
theorem b106 : byOf Tryz.prog 106 = 8 := by kernel_rfl
theorem o106 : (Tryz.prog.info? 106).isSome = true := by kernel_rfl
theorem p106 : (Tryz.prog.underlying 106).isSome = true := by kernel_rfl
theorem z106 : zC Tryz.prog 106 = some [.v .nilFunc] := by kernel_rfl
theorem y109 : tyOf Tryz.prog 109 = some (2, true) := by kernel_rfl
theorem s109 : szOf Tryz.prog 109 = 2 := by kernel_rfl
theorem b109 : byOf Tryz.prog 109 = 32 := by kernel_rfl
theorem o109 : (Tryz.prog.info? 109).isSome = true := by kernel_rfl
theorem p109 : (Tryz.prog.underlying 109).isSome = true := by kernel_rfl
theorem z109 : zC Tryz.prog 109 = some [.v (.string ByteArray.empty), .v (.string ByteArray.empty)] := by kernel_rfl
theorem d109 : dfD Tryz.prog 9 109 = [.v (.string ByteArray.empty), .v (.string ByteArray.empty)] := by kernel_rfl
theorem f109_0 : fldOf Tryz.prog 109 0 = some (0, 9) := by kernel_rfl
theorem f109_1 : fldOf Tryz.prog 109 1 = some (1, 9) := by kernel_rfl
theorem l109 : plF Tryz.prog 109 = some fun i => ([(0, 1), (1, 1)] : List (Nat × Nat))[i]? := by kernel_rfl
theorem y112 : tyOf Tryz.prog 112 = some (1, false) := by kernel_rfl
theorem y124 : tyOf Tryz.prog 124 = some (1, false) := by kernel_rfl
theorem mt124 : mapOf Tryz.prog 124 = none := by kernel_rfl
theorem y126 : tyOf Tryz.prog 126 = some (11, true) := by kernel_rfl
theorem s126 : szOf Tryz.prog 126 = 11 := by kernel_rfl
theorem b126 : byOf Tryz.prog 126 = 152 := by kernel_rfl
theorem o126 : (Tryz.prog.info? 126).isSome = true := by kernel_rfl
theorem p126 : (Tryz.prog.underlying 126).isSome = true := by kernel_rfl
theorem z126 : zC Tryz.prog 126 = some [.i 0, .i 0, .i 0, .v (.slice none 0 0), .i 0, .i 0, .i 0, .v (.slice none 0 0), .v (.slice none 0 0), .v (.slice none 0 0), .v (.map none)] := by kernel_rfl
theorem d126 : dfD Tryz.prog 9 126 = [.i 0, .i 0, .i 0, .sl 43 [], .i 0, .i 0, .i 0, .sl 1 [], .sl 2 [], .sl 7 [], .v (.map none)] := by kernel_rfl
theorem f126_0 : fldOf Tryz.prog 126 0 = some (0, 59) := by kernel_rfl
theorem f126_1 : fldOf Tryz.prog 126 1 = some (10, 124) := by kernel_rfl
theorem l126 : plF Tryz.prog 126 = some fun i => ([(0, 10), (10, 1)] : List (Nat × Nat))[i]? := by kernel_rfl
theorem y206 : tyOf Tryz.prog 206 = some (5, true) := by kernel_rfl
theorem s206 : szOf Tryz.prog 206 = 5 := by kernel_rfl
theorem b206 : byOf Tryz.prog 206 = 40 := by kernel_rfl
theorem o206 : (Tryz.prog.info? 206).isSome = true := by kernel_rfl
theorem p206 : (Tryz.prog.underlying 206).isSome = true := by kernel_rfl
theorem z206 : zC Tryz.prog 206 = some [.i 0, .i 0, .i 0, .i 0, .i 0] := by kernel_rfl
theorem d206 : dfD Tryz.prog 9 206 = [.i 0, .i 0, .i 0, .i 0, .i 0] := by kernel_rfl
theorem f206_0 : fldOf Tryz.prog 206 0 = some (0, 3) := by kernel_rfl
theorem f206_1 : fldOf Tryz.prog 206 1 = some (1, 44) := by kernel_rfl
theorem l206 : plF Tryz.prog 206 = some fun i => ([(0, 1), (1, 4)] : List (Nat × Nat))[i]? := by kernel_rfl
theorem y208 : tyOf Tryz.prog 208 = some (6, true) := by kernel_rfl
theorem s208 : szOf Tryz.prog 208 = 6 := by kernel_rfl
theorem b208 : byOf Tryz.prog 208 = 48 := by kernel_rfl
theorem o208 : (Tryz.prog.info? 208).isSome = true := by kernel_rfl
theorem p208 : (Tryz.prog.underlying 208).isSome = true := by kernel_rfl
theorem z208 : zC Tryz.prog 208 = some [.i 0, .i 0, .i 0, .i 0, .i 0, .i 0] := by kernel_rfl
theorem d208 : dfD Tryz.prog 9 208 = [.i 0, .i 0, .i 0, .i 0, .i 0, .i 0] := by kernel_rfl
theorem a208 : arOf Tryz.prog 208 = some (3, 71) := by kernel_rfl
theorem l208 : plF Tryz.prog 208 = some fun i => some (i * 2, 2) := by kernel_rfl
theorem y210 : tyOf Tryz.prog 210 = some (7, true) := by kernel_rfl
theorem s210 : szOf Tryz.prog 210 = 7 := by kernel_rfl
theorem b210 : byOf Tryz.prog 210 = 56 := by kernel_rfl
theorem o210 : (Tryz.prog.info? 210).isSome = true := by kernel_rfl
theorem p210 : (Tryz.prog.underlying 210).isSome = true := by kernel_rfl
theorem z210 : zC Tryz.prog 210 = some [.i 0, .i 0, .i 0, .i 0, .i 0, .i 0, .i 0] := by kernel_rfl
theorem d210 : dfD Tryz.prog 9 210 = [.i 0, .i 0, .i 0, .i 0, .i 0, .i 0, .i 0] := by kernel_rfl
theorem f210_0 : fldOf Tryz.prog 210 0 = some (0, 3) := by kernel_rfl
theorem f210_1 : fldOf Tryz.prog 210 1 = some (1, 208) := by kernel_rfl
theorem l210 : plF Tryz.prog 210 = some fun i => ([(0, 1), (1, 6)] : List (Nat × Nat))[i]? := by kernel_rfl
theorem n8 : isFn Tryz.prog 8 = true := by kernel_rfl
theorem n9 : isFn Tryz.prog 9 = true := by kernel_rfl
theorem n10 : isFn Tryz.prog 10 = true := by kernel_rfl
theorem n11 : isFn Tryz.prog 11 = true := by kernel_rfl
theorem n12 : isFn Tryz.prog 12 = true := by kernel_rfl
theorem n13 : isFn Tryz.prog 13 = true := by kernel_rfl
theorem n14 : isFn Tryz.prog 14 = true := by kernel_rfl
theorem n15 : isFn Tryz.prog 15 = true := by kernel_rfl
theorem n16 : isFn Tryz.prog 16 = true := by kernel_rfl
theorem n17 : isFn Tryz.prog 17 = true := by kernel_rfl
theorem n18 : isFn Tryz.prog 18 = true := by kernel_rfl
theorem n19 : isFn Tryz.prog 19 = true := by kernel_rfl
theorem n20 : isFn Tryz.prog 20 = true := by kernel_rfl
theorem n21 : isFn Tryz.prog 21 = true := by kernel_rfl
theorem n22 : isFn Tryz.prog 22 = true := by kernel_rfl
theorem n23 : isFn Tryz.prog 23 = true := by kernel_rfl
theorem n24 : isFn Tryz.prog 24 = true := by kernel_rfl
theorem n25 : isFn Tryz.prog 25 = true := by kernel_rfl
theorem n26 : isFn Tryz.prog 26 = true := by kernel_rfl
theorem n27 : isFn Tryz.prog 27 = true := by kernel_rfl
theorem n28 : isFn Tryz.prog 28 = true := by kernel_rfl
theorem n29 : isFn Tryz.prog 29 = true := by kernel_rfl
theorem n30 : isFn Tryz.prog 30 = true := by kernel_rfl
theorem n31 : isFn Tryz.prog 31 = true := by kernel_rfl
theorem n32 : isFn Tryz.prog 32 = true := by kernel_rfl
theorem n33 : isFn Tryz.prog 33 = true := by kernel_rfl
theorem n34 : isFn Tryz.prog 34 = true := by kernel_rfl
theorem n35 : isFn Tryz.prog 35 = true := by kernel_rfl
theorem n36 : isFn Tryz.prog 36 = true := by kernel_rfl
theorem n37 : isFn Tryz.prog 37 = true := by kernel_rfl
theorem n38 : isFn Tryz.prog 38 = true := by kernel_rfl
theorem n39 : isFn Tryz.prog 39 = true := by kernel_rfl
theorem n40 : isFn Tryz.prog 40 = true := by kernel_rfl
theorem n41 : isFn Tryz.prog 41 = true := by kernel_rfl
theorem n42 : isFn Tryz.prog 42 = true := by kernel_rfl
theorem n43 : isFn Tryz.prog 43 = true := by kernel_rfl
theorem n44 : isFn Tryz.prog 44 = true := by kernel_rfl
theorem n45 : isFn Tryz.prog 45 = true := by kernel_rfl
theorem n46 : isFn Tryz.prog 46 = true := by kernel_rfl
theorem n47 : isFn Tryz.prog 47 = true := by kernel_rfl
theorem n48 : isFn Tryz.prog 48 = true := by kernel_rfl
theorem n49 : isFn Tryz.prog 49 = true := by kernel_rfl
theorem n50 : isFn Tryz.prog 50 = true := by kernel_rfl
theorem n51 : isFn Tryz.prog 51 = true := by kernel_rfl
theorem n52 : isFn Tryz.prog 52 = true := by kernel_rfl
theorem n53 : isFn Tryz.prog 53 = true := by kernel_rfl
theorem n54 : isFn Tryz.prog 54 = true := by kernel_rfl
theorem n55 : isFn Tryz.prog 55 = true := by kernel_rfl
theorem n56 : isFn Tryz.prog 56 = true := by kernel_rfl
theorem n57 : isFn Tryz.prog 57 = true := by kernel_rfl
theorem n58 : isFn Tryz.prog 58 = true := by kernel_rfl
theorem n59 : isFn Tryz.prog 59 = true := by kernel_rfl
theorem n60 : isFn Tryz.prog 60 = true := by kernel_rfl
theorem n61 : isFn Tryz.prog 61 = true := by kernel_rfl
theorem n62 : isFn Tryz.prog 62 = true := by kernel_rfl
theorem n63 : isFn Tryz.prog 63 = true := by kernel_rfl
theorem n64 : isFn Tryz.prog 64 = true := by kernel_rfl
theorem n65 : isFn Tryz.prog 65 = true := by kernel_rfl
theorem n66 : isFn Tryz.prog 66 = true := by kernel_rfl
theorem n67 : isFn Tryz.prog 67 = true := by kernel_rfl
theorem n68 : isFn Tryz.prog 68 = true := by kernel_rfl
theorem n69 : isFn Tryz.prog 69 = true := by kernel_rfl
theorem n70 : isFn Tryz.prog 70 = true := by kernel_rfl
theorem n71 : isFn Tryz.prog 71 = true := by kernel_rfl
theorem n83 : isFn Tryz.prog 83 = true := by kernel_rfl
theorem n84 : isFn Tryz.prog 84 = true := by kernel_rfl
theorem n85 : isFn Tryz.prog 85 = true := by kernel_rfl
theorem n86 : isFn Tryz.prog 86 = true := by kernel_rfl
theorem n87 : isFn Tryz.prog 87 = true := by kernel_rfl
theorem n88 : isFn Tryz.prog 88 = true := by kernel_rfl
theorem n103 : isFn Tryz.prog 103 = true := by kernel_rfl
theorem n104 : isFn Tryz.prog 104 = true := by kernel_rfl
theorem mixed : Tryz.prog.follows .mixedOrders = true := by kernel_rfl
def Γ : FuncId → List D → RV
  | 8, [.i w, .i h, .i l] => .tup [.dat (.i (szK w l)), .dat (.i (szK h l))]
  | 9, [.i w, .i h, .i l] => .tup [.dat (.i (szK w l)), .dat (.i (szK h l))]
  | 10, [.i w, .i h, .i l] => .tup [.dat (.i (tlN (szK w l))), .dat (.i (tlN (szK h l)))]
  | 11, [.i w, .i h, .i l] => .tup [.dat (.i (tlN (szK w l))), .dat (.i (tlN (szK h l)))]
  | 12, [.i w, .i h, .i l, .agg r] => .dat (rcD (ndsR w h l (unRc r)))
  | 13, [.i w, .i h, .i l, .agg r] => .dat (rcD (ndsR w h l (unRc r)))
  | 14, [] => .dat (.b true)
  | 15, [.agg m] => .tup [.agg [.dat (.i (hfI (unIm m)).w), .dat (.i (hfI (unIm m)).h), .own 44 4 ((hfI (unIm m)).p.map pxC)], .dat (.i (ichkE (unIm m)))]
  | 16, [.agg m] => .tup [.agg [.dat (.i (hfI (unIm m)).w), .dat (.i (hfI (unIm m)).h), .own 44 4 ((hfI (unIm m)).p.map pxC)], .dat (.i (ichkE (unIm m)))]
  | 17, [.agg m, .i l] => .tup [.agg [.dat (.i (redR (unIm m) l).w), .dat (.i (redR (unIm m) l).h), .dat (.sl 4 ((redR (unIm m) l).p.map pxC))], .dat (.i (redE (unIm m) l))]
  | 18, [.agg m, .i l] => .tup [.agg [.dat (.i (redR (unIm m) l).w), .dat (.i (redR (unIm m) l).h), .dat (.sl 4 ((redR (unIm m) l).p.map pxC))], .dat (.i (redE (unIm m) l))]
  | 19, [.agg a, .agg b] => .dat (.b (sameI (unIm a) (unIm b)))
  | 20, [.agg m] => .dat (.i (ichkE (unIm m)))
  | 21, [.agg r] => .dat (.b (emptyB (unRc r)))
  | 22, [.agg m, .agg r] => .tup [.agg [.dat (.i (crpR (unIm m) (unRc r)).w), .dat (.i (crpR (unIm m) (unRc r)).h), .own 44 4 ((crpR (unIm m) (unRc r)).p.map pxC)], .dat (.i (crpE (unIm m) (unRc r)))]
  | 23, [.i w, .i h, .agg p] => .tup [.agg [.dat (.i (nwpR w h (unPx p)).w), .dat (.i (nwpR w h (unPx p)).h), .own 44 4 ((nwpR w h (unPx p)).p.map pxC)], .dat (.i (nwpE w h (unPx p)))]
  | 24, [.i a, .i b, .i c] => .dat (.i (clampI a b c))
  | 25, [.i a, .i b, .i c] => .dat (.i (clampI a b c))
  | 26, [.agg r] => .dat (.b (validB (unRc r)))
  | 27, [.agg r] => .dat (.b (emptyB (unRc r)))
  | 28, [.agg a, .agg b] => .dat (.b (withinB (unRc a) (unRc b)))
  | 29, [.agg a, .agg b] => .dat (rcD (meetR (unRc a) (unRc b)))
  | 30, [.agg r] => .dat (.b (validB (unRc r)))
  | 31, [.agg a, .agg b] => .dat (.b (withinB (unRc a) (unRc b)))
  | 32, [.agg a, .agg b] => .dat (rcD (meetR (unRc a) (unRc b)))
  | 33, [.sl _ l] => .agg [.dat (.i (l.map unI).length), .dat (.i 1), .own 44 4 (((l.map unI).map rowP).map pxC)]
  | 34, [.agg d, .i l, .i x, .i y] => .tup [.agg [.dat (.i (tleI x).w), .dat (.i (tleI x).h), .dat (.sl 4 ((tleI x).p.map pxC))], .dat (.i (tleE x))]
  | 35, [.agg m] => .agg [.dat (.i (hfN (unIm m).w)), .dat (.i (hfN (unIm m).h)), .own 44 4 ((halfI (unIm m)).p.map pxC)]
  | 36, [.agg m] => .dat (.i (ichkE (unIm m)))
  | 37, [.agg m, .i x, .i y] => .dat (pxD (atP (unIm m) x y))
  | 38, [.sl _ l] => .dat (pxD (meanL (l.map unPx)))
  | 39, [.sl _ l] => .own 44 4 l
  | 40, [.i w, .i h] => .dat (.b (isz w h))
  | 41, [.agg p] => .dat (.b (validP (unPx p)))
  | 42, [.i w, .i h] => .agg [.dat (.i w), .dat (.i h), .own 44 4 ((bkI ⟨0, 0, w, h⟩).p.map pxC)]
  | 43, [.agg m, .i x, .i y] => .dat (pxD (pickP (unIm m) x y))
  | 44, [.i x, .i w] => .dat (.b (spanB x w))
  | 45, [.i a, .i b, .i c, .i d] => .dat (rcD (betweenR a b c d))
  | 46, [.agg a, .i n] => .tup [.dat (.i (spanS (unRc a) n)), .dat (.i (spanE (unRc a) n))]
  | 47, [.agg r, .agg p] => .dat (.b (hasB (unRc r) (unPt p)))
  | 48, [.i a, .i b, .i c, .i d] => .dat (rcD (ofR a b c d))
  | 49, [.agg d] => .dat (.i 0)
  | 50, [.agg p] => .dat (rcD (ofTileR (unPt p)))
  | 51, [.agg d, .agg r] => .tup [.agg [.dat (.i (unRc r).w), .dat (.i (unRc r).h), .own 44 4 ((bkI (unRc r)).p.map pxC)], .dat (.i 0)]
  | 52, [.sl _ l] => .dat (pxD (meanL (l.map unPx)))
  | 53, [.agg p] => .dat (.b (validP (unPx p)))
  | 54, [.agg m, .i x, .i y] => .dat (pxD (pickP (unIm m) x y))
  | 55, [.i a, .i b] => .dat (.i (divI a b))
  | 56, [.agg p] => .dat (pxD (limP (unPx p)))
  | 57, [.agg d] => .dat (.i 0)
  | 58, [.agg d] => .dat (.i 0)
  | 59, [.agg d] => .dat (.i 0)
  | 60, [.agg d] => .dat (.i 0)
  | 61, [.agg d] => .dat (.i 0)
  | 62, [.agg d] => .dat (.b false)
  | 63, [.agg d] => .dat (.i 0)
  | 64, [.v d] => .dat (.i 0)
  | 65, [.agg d, .i n, .agg r] => .tup [.agg [.dat (.i (unRc r).w), .dat (.i (unRc r).h), .own 44 4 ((bkI (unRc r)).p.map pxC)], .dat (.i 0)]
  | 66, [.i a, .i b] => .dat (.i (divI a b))
  | 67, [.agg p] => .dat (pxD (limP (unPx p)))
  | 68, [.i a, .i b] => .dat (.i (floorI a b))
  | 69, [.i a] => .dat (.v (.int .u64 (absU a)))
  | 70, [.i a] => .dat (.i (unitI a))
  | 71, [] => .dat (.i 4)
  | 83, [.agg d, .agg r] => .dat (.b true)
  | 84, [.agg d] => .dat .any
  | 85, [.any, .sl _ d, .agg r] => .agg [.dat (.i (unRc r).w), .dat (.i (unRc r).h), .own 44 4 ((bkI (unRc r)).p.map pxC)]
  | 86, [.v d, .i n] => .own 94 43 []
  | 87, [.i a, .i b] => .dat (.i (floorI a b))
  | 88, [.i a] => .dat (.i (unitI a))
  | 103, [.agg d] => .dat (rcD ⟨0, 0, 20, 20⟩)
  | 104, [.agg r] => .agg [.dat (.i (unRc r).w), .dat (.i (unRc r).h), .own 44 4 ((bkI (unRc r)).p.map pxC)]
  | 109, [.agg p, .i a] => .dat (pxD (fadeP (unPx p) a))
  | 126, [.i a, .i b] => .dat (.i (mulI a b))
  | 132, [.agg a, .agg b] => .dat (rcD (moveR (unRc a) (unPt b)))
  | 153, [.i a] => .dat (.i (unitI a))
  | 155, [.agg a, .i n] => .dat (rcD (growR (unRc a) n))
  | _, _ => .dat (.b false)
theorem g8 (w : Int) (h : Int) (l : Int) : Γ 8 [.i w, .i h, .i l] = .tup [.dat (.i (szK w l)), .dat (.i (szK h l))] := rfl
theorem g9 (w : Int) (h : Int) (l : Int) : Γ 9 [.i w, .i h, .i l] = .tup [.dat (.i (szK w l)), .dat (.i (szK h l))] := rfl
theorem g10 (w : Int) (h : Int) (l : Int) : Γ 10 [.i w, .i h, .i l] = .tup [.dat (.i (tlN (szK w l))), .dat (.i (tlN (szK h l)))] := rfl
theorem g11 (w : Int) (h : Int) (l : Int) : Γ 11 [.i w, .i h, .i l] = .tup [.dat (.i (tlN (szK w l))), .dat (.i (tlN (szK h l)))] := rfl
theorem g12 (w : Int) (h : Int) (l : Int) (r : List D) : Γ 12 [.i w, .i h, .i l, .agg r] = .dat (rcD (ndsR w h l (unRc r))) := rfl
theorem g13 (w : Int) (h : Int) (l : Int) (r : List D) : Γ 13 [.i w, .i h, .i l, .agg r] = .dat (rcD (ndsR w h l (unRc r))) := rfl
theorem g14  : Γ 14 [] = .dat (.b true) := rfl
theorem g15 (m : List D) : Γ 15 [.agg m] = .tup [.agg [.dat (.i (hfI (unIm m)).w), .dat (.i (hfI (unIm m)).h), .own 44 4 ((hfI (unIm m)).p.map pxC)], .dat (.i (ichkE (unIm m)))] := rfl
theorem g16 (m : List D) : Γ 16 [.agg m] = .tup [.agg [.dat (.i (hfI (unIm m)).w), .dat (.i (hfI (unIm m)).h), .own 44 4 ((hfI (unIm m)).p.map pxC)], .dat (.i (ichkE (unIm m)))] := rfl
theorem g17 (m : List D) (l : Int) : Γ 17 [.agg m, .i l] = .tup [.agg [.dat (.i (redR (unIm m) l).w), .dat (.i (redR (unIm m) l).h), .dat (.sl 4 ((redR (unIm m) l).p.map pxC))], .dat (.i (redE (unIm m) l))] := rfl
theorem g18 (m : List D) (l : Int) : Γ 18 [.agg m, .i l] = .tup [.agg [.dat (.i (redR (unIm m) l).w), .dat (.i (redR (unIm m) l).h), .dat (.sl 4 ((redR (unIm m) l).p.map pxC))], .dat (.i (redE (unIm m) l))] := rfl
theorem g19 (a : List D) (b : List D) : Γ 19 [.agg a, .agg b] = .dat (.b (sameI (unIm a) (unIm b))) := rfl
theorem g20 (m : List D) : Γ 20 [.agg m] = .dat (.i (ichkE (unIm m))) := rfl
theorem g21 (r : List D) : Γ 21 [.agg r] = .dat (.b (emptyB (unRc r))) := rfl
theorem g22 (m : List D) (r : List D) : Γ 22 [.agg m, .agg r] = .tup [.agg [.dat (.i (crpR (unIm m) (unRc r)).w), .dat (.i (crpR (unIm m) (unRc r)).h), .own 44 4 ((crpR (unIm m) (unRc r)).p.map pxC)], .dat (.i (crpE (unIm m) (unRc r)))] := rfl
theorem g23 (w : Int) (h : Int) (p : List D) : Γ 23 [.i w, .i h, .agg p] = .tup [.agg [.dat (.i (nwpR w h (unPx p)).w), .dat (.i (nwpR w h (unPx p)).h), .own 44 4 ((nwpR w h (unPx p)).p.map pxC)], .dat (.i (nwpE w h (unPx p)))] := rfl
theorem g24 (a : Int) (b : Int) (c : Int) : Γ 24 [.i a, .i b, .i c] = .dat (.i (clampI a b c)) := rfl
theorem g25 (a : Int) (b : Int) (c : Int) : Γ 25 [.i a, .i b, .i c] = .dat (.i (clampI a b c)) := rfl
theorem g26 (r : List D) : Γ 26 [.agg r] = .dat (.b (validB (unRc r))) := rfl
theorem g27 (r : List D) : Γ 27 [.agg r] = .dat (.b (emptyB (unRc r))) := rfl
theorem g28 (a : List D) (b : List D) : Γ 28 [.agg a, .agg b] = .dat (.b (withinB (unRc a) (unRc b))) := rfl
theorem g29 (a : List D) (b : List D) : Γ 29 [.agg a, .agg b] = .dat (rcD (meetR (unRc a) (unRc b))) := rfl
theorem g30 (r : List D) : Γ 30 [.agg r] = .dat (.b (validB (unRc r))) := rfl
theorem g31 (a : List D) (b : List D) : Γ 31 [.agg a, .agg b] = .dat (.b (withinB (unRc a) (unRc b))) := rfl
theorem g32 (a : List D) (b : List D) : Γ 32 [.agg a, .agg b] = .dat (rcD (meetR (unRc a) (unRc b))) := rfl
theorem g33 (n_1 : Nat) (l : List (List D)) : Γ 33 [.sl n_1 l] = .agg [.dat (.i (l.map unI).length), .dat (.i 1), .own 44 4 (((l.map unI).map rowP).map pxC)] := rfl
theorem g34 (d : List D) (l : Int) (x : Int) (y : Int) : Γ 34 [.agg d, .i l, .i x, .i y] = .tup [.agg [.dat (.i (tleI x).w), .dat (.i (tleI x).h), .dat (.sl 4 ((tleI x).p.map pxC))], .dat (.i (tleE x))] := rfl
theorem g35 (m : List D) : Γ 35 [.agg m] = .agg [.dat (.i (hfN (unIm m).w)), .dat (.i (hfN (unIm m).h)), .own 44 4 ((halfI (unIm m)).p.map pxC)] := rfl
theorem g36 (m : List D) : Γ 36 [.agg m] = .dat (.i (ichkE (unIm m))) := rfl
theorem g37 (m : List D) (x : Int) (y : Int) : Γ 37 [.agg m, .i x, .i y] = .dat (pxD (atP (unIm m) x y)) := rfl
theorem g38 (n_2 : Nat) (l : List (List D)) : Γ 38 [.sl n_2 l] = .dat (pxD (meanL (l.map unPx))) := rfl
theorem g39 (n_3 : Nat) (l : List (List D)) : Γ 39 [.sl n_3 l] = .own 44 4 l := rfl
theorem g40 (w : Int) (h : Int) : Γ 40 [.i w, .i h] = .dat (.b (isz w h)) := rfl
theorem g41 (p : List D) : Γ 41 [.agg p] = .dat (.b (validP (unPx p))) := rfl
theorem g42 (w : Int) (h : Int) : Γ 42 [.i w, .i h] = .agg [.dat (.i w), .dat (.i h), .own 44 4 ((bkI ⟨0, 0, w, h⟩).p.map pxC)] := rfl
theorem g43 (m : List D) (x : Int) (y : Int) : Γ 43 [.agg m, .i x, .i y] = .dat (pxD (pickP (unIm m) x y)) := rfl
theorem g44 (x : Int) (w : Int) : Γ 44 [.i x, .i w] = .dat (.b (spanB x w)) := rfl
theorem g45 (a : Int) (b : Int) (c : Int) (d : Int) : Γ 45 [.i a, .i b, .i c, .i d] = .dat (rcD (betweenR a b c d)) := rfl
theorem g46 (a : List D) (n : Int) : Γ 46 [.agg a, .i n] = .tup [.dat (.i (spanS (unRc a) n)), .dat (.i (spanE (unRc a) n))] := rfl
theorem g47 (r : List D) (p : List D) : Γ 47 [.agg r, .agg p] = .dat (.b (hasB (unRc r) (unPt p))) := rfl
theorem g48 (a : Int) (b : Int) (c : Int) (d : Int) : Γ 48 [.i a, .i b, .i c, .i d] = .dat (rcD (ofR a b c d)) := rfl
theorem g49 (d : List D) : Γ 49 [.agg d] = .dat (.i 0) := rfl
theorem g50 (p : List D) : Γ 50 [.agg p] = .dat (rcD (ofTileR (unPt p))) := rfl
theorem g51 (d : List D) (r : List D) : Γ 51 [.agg d, .agg r] = .tup [.agg [.dat (.i (unRc r).w), .dat (.i (unRc r).h), .own 44 4 ((bkI (unRc r)).p.map pxC)], .dat (.i 0)] := rfl
theorem g52 (n_4 : Nat) (l : List (List D)) : Γ 52 [.sl n_4 l] = .dat (pxD (meanL (l.map unPx))) := rfl
theorem g53 (p : List D) : Γ 53 [.agg p] = .dat (.b (validP (unPx p))) := rfl
theorem g54 (m : List D) (x : Int) (y : Int) : Γ 54 [.agg m, .i x, .i y] = .dat (pxD (pickP (unIm m) x y)) := rfl
theorem g55 (a : Int) (b : Int) : Γ 55 [.i a, .i b] = .dat (.i (divI a b)) := rfl
theorem g56 (p : List D) : Γ 56 [.agg p] = .dat (pxD (limP (unPx p))) := rfl
theorem g57 (d : List D) : Γ 57 [.agg d] = .dat (.i 0) := rfl
theorem g58 (d : List D) : Γ 58 [.agg d] = .dat (.i 0) := rfl
theorem g59 (d : List D) : Γ 59 [.agg d] = .dat (.i 0) := rfl
theorem g60 (d : List D) : Γ 60 [.agg d] = .dat (.i 0) := rfl
theorem g61 (d : List D) : Γ 61 [.agg d] = .dat (.i 0) := rfl
theorem g62 (d : List D) : Γ 62 [.agg d] = .dat (.b false) := rfl
theorem g63 (d : List D) : Γ 63 [.agg d] = .dat (.i 0) := rfl
theorem g64 (d : Value) : Γ 64 [.v d] = .dat (.i 0) := rfl
theorem g65 (d : List D) (n : Int) (r : List D) : Γ 65 [.agg d, .i n, .agg r] = .tup [.agg [.dat (.i (unRc r).w), .dat (.i (unRc r).h), .own 44 4 ((bkI (unRc r)).p.map pxC)], .dat (.i 0)] := rfl
theorem g66 (a : Int) (b : Int) : Γ 66 [.i a, .i b] = .dat (.i (divI a b)) := rfl
theorem g67 (p : List D) : Γ 67 [.agg p] = .dat (pxD (limP (unPx p))) := rfl
theorem g68 (a : Int) (b : Int) : Γ 68 [.i a, .i b] = .dat (.i (floorI a b)) := rfl
theorem g69 (a : Int) : Γ 69 [.i a] = .dat (.v (.int .u64 (absU a))) := rfl
theorem g70 (a : Int) : Γ 70 [.i a] = .dat (.i (unitI a)) := rfl
theorem g71  : Γ 71 [] = .dat (.i 4) := rfl
theorem g83 (d : List D) (r : List D) : Γ 83 [.agg d, .agg r] = .dat (.b true) := rfl
theorem g84 (d : List D) : Γ 84 [.agg d] = .dat .any := rfl
theorem g85 (r : List D) (n_5 : Nat) (d : List (List D)) : Γ 85 [.any, .sl n_5 d, .agg r] = .agg [.dat (.i (unRc r).w), .dat (.i (unRc r).h), .own 44 4 ((bkI (unRc r)).p.map pxC)] := rfl
theorem g86 (d : Value) (n : Int) : Γ 86 [.v d, .i n] = .own 94 43 [] := rfl
theorem g87 (a : Int) (b : Int) : Γ 87 [.i a, .i b] = .dat (.i (floorI a b)) := rfl
theorem g88 (a : Int) : Γ 88 [.i a] = .dat (.i (unitI a)) := rfl
theorem g103 (d : List D) : Γ 103 [.agg d] = .dat (rcD ⟨0, 0, 20, 20⟩) := rfl
theorem g104 (r : List D) : Γ 104 [.agg r] = .agg [.dat (.i (unRc r).w), .dat (.i (unRc r).h), .own 44 4 ((bkI (unRc r)).p.map pxC)] := rfl
theorem g109 (p : List D) (a : Int) : Γ 109 [.agg p, .i a] = .dat (pxD (fadeP (unPx p) a)) := rfl
theorem g126 (a : Int) (b : Int) : Γ 126 [.i a, .i b] = .dat (.i (mulI a b)) := rfl
theorem g132 (a : List D) (b : List D) : Γ 132 [.agg a, .agg b] = .dat (rcD (moveR (unRc a) (unPt b))) := rfl
theorem g153 (a : Int) : Γ 153 [.i a] = .dat (.i (unitI a)) := rfl
theorem g155 (a : List D) (n : Int) : Γ 155 [.agg a, .i n] = .dat (rcD (growR (unRc a) n)) := rfl
def Δ : FuncId → List AV → Hp → Option (List PX × RV)
  | _, _, _ => none
theorem dn8 (l : List AV) (h : Hp) : Δ 8 l h = none := rfl
theorem dn9 (l : List AV) (h : Hp) : Δ 9 l h = none := rfl
theorem dn10 (l : List AV) (h : Hp) : Δ 10 l h = none := rfl
theorem dn11 (l : List AV) (h : Hp) : Δ 11 l h = none := rfl
theorem dn12 (l : List AV) (h : Hp) : Δ 12 l h = none := rfl
theorem dn13 (l : List AV) (h : Hp) : Δ 13 l h = none := rfl
theorem dn14 (l : List AV) (h : Hp) : Δ 14 l h = none := rfl
theorem dn15 (l : List AV) (h : Hp) : Δ 15 l h = none := rfl
theorem dn16 (l : List AV) (h : Hp) : Δ 16 l h = none := rfl
theorem dn17 (l : List AV) (h : Hp) : Δ 17 l h = none := rfl
theorem dn18 (l : List AV) (h : Hp) : Δ 18 l h = none := rfl
theorem dn19 (l : List AV) (h : Hp) : Δ 19 l h = none := rfl
theorem dn20 (l : List AV) (h : Hp) : Δ 20 l h = none := rfl
theorem dn21 (l : List AV) (h : Hp) : Δ 21 l h = none := rfl
theorem dn22 (l : List AV) (h : Hp) : Δ 22 l h = none := rfl
theorem dn23 (l : List AV) (h : Hp) : Δ 23 l h = none := rfl
theorem dn24 (l : List AV) (h : Hp) : Δ 24 l h = none := rfl
theorem dn25 (l : List AV) (h : Hp) : Δ 25 l h = none := rfl
theorem dn26 (l : List AV) (h : Hp) : Δ 26 l h = none := rfl
theorem dn27 (l : List AV) (h : Hp) : Δ 27 l h = none := rfl
theorem dn28 (l : List AV) (h : Hp) : Δ 28 l h = none := rfl
theorem dn29 (l : List AV) (h : Hp) : Δ 29 l h = none := rfl
theorem dn30 (l : List AV) (h : Hp) : Δ 30 l h = none := rfl
theorem dn31 (l : List AV) (h : Hp) : Δ 31 l h = none := rfl
theorem dn32 (l : List AV) (h : Hp) : Δ 32 l h = none := rfl
theorem dn33 (l : List AV) (h : Hp) : Δ 33 l h = none := rfl
theorem dn34 (l : List AV) (h : Hp) : Δ 34 l h = none := rfl
theorem dn35 (l : List AV) (h : Hp) : Δ 35 l h = none := rfl
theorem dn36 (l : List AV) (h : Hp) : Δ 36 l h = none := rfl
theorem dn37 (l : List AV) (h : Hp) : Δ 37 l h = none := rfl
theorem dn38 (l : List AV) (h : Hp) : Δ 38 l h = none := rfl
theorem dn39 (l : List AV) (h : Hp) : Δ 39 l h = none := rfl
theorem dn40 (l : List AV) (h : Hp) : Δ 40 l h = none := rfl
theorem dn41 (l : List AV) (h : Hp) : Δ 41 l h = none := rfl
theorem dn42 (l : List AV) (h : Hp) : Δ 42 l h = none := rfl
theorem dn43 (l : List AV) (h : Hp) : Δ 43 l h = none := rfl
theorem dn44 (l : List AV) (h : Hp) : Δ 44 l h = none := rfl
theorem dn45 (l : List AV) (h : Hp) : Δ 45 l h = none := rfl
theorem dn46 (l : List AV) (h : Hp) : Δ 46 l h = none := rfl
theorem dn47 (l : List AV) (h : Hp) : Δ 47 l h = none := rfl
theorem dn48 (l : List AV) (h : Hp) : Δ 48 l h = none := rfl
theorem dn49 (l : List AV) (h : Hp) : Δ 49 l h = none := rfl
theorem dn50 (l : List AV) (h : Hp) : Δ 50 l h = none := rfl
theorem dn51 (l : List AV) (h : Hp) : Δ 51 l h = none := rfl
theorem dn52 (l : List AV) (h : Hp) : Δ 52 l h = none := rfl
theorem dn53 (l : List AV) (h : Hp) : Δ 53 l h = none := rfl
theorem dn54 (l : List AV) (h : Hp) : Δ 54 l h = none := rfl
theorem dn55 (l : List AV) (h : Hp) : Δ 55 l h = none := rfl
theorem dn56 (l : List AV) (h : Hp) : Δ 56 l h = none := rfl
theorem dn57 (l : List AV) (h : Hp) : Δ 57 l h = none := rfl
theorem dn58 (l : List AV) (h : Hp) : Δ 58 l h = none := rfl
theorem dn59 (l : List AV) (h : Hp) : Δ 59 l h = none := rfl
theorem dn60 (l : List AV) (h : Hp) : Δ 60 l h = none := rfl
theorem dn61 (l : List AV) (h : Hp) : Δ 61 l h = none := rfl
theorem dn62 (l : List AV) (h : Hp) : Δ 62 l h = none := rfl
theorem dn63 (l : List AV) (h : Hp) : Δ 63 l h = none := rfl
theorem dn64 (l : List AV) (h : Hp) : Δ 64 l h = none := rfl
theorem dn65 (l : List AV) (h : Hp) : Δ 65 l h = none := rfl
theorem dn66 (l : List AV) (h : Hp) : Δ 66 l h = none := rfl
theorem dn67 (l : List AV) (h : Hp) : Δ 67 l h = none := rfl
theorem dn68 (l : List AV) (h : Hp) : Δ 68 l h = none := rfl
theorem dn69 (l : List AV) (h : Hp) : Δ 69 l h = none := rfl
theorem dn70 (l : List AV) (h : Hp) : Δ 70 l h = none := rfl
theorem dn71 (l : List AV) (h : Hp) : Δ 71 l h = none := rfl
theorem dn72 (l : List AV) (h : Hp) : Δ 72 l h = none := rfl
theorem dn73 (l : List AV) (h : Hp) : Δ 73 l h = none := rfl
theorem dn74 (l : List AV) (h : Hp) : Δ 74 l h = none := rfl
theorem dn75 (l : List AV) (h : Hp) : Δ 75 l h = none := rfl
theorem dn76 (l : List AV) (h : Hp) : Δ 76 l h = none := rfl
theorem dn77 (l : List AV) (h : Hp) : Δ 77 l h = none := rfl
theorem dn78 (l : List AV) (h : Hp) : Δ 78 l h = none := rfl
theorem dn79 (l : List AV) (h : Hp) : Δ 79 l h = none := rfl
theorem dn81 (l : List AV) (h : Hp) : Δ 81 l h = none := rfl
theorem dn82 (l : List AV) (h : Hp) : Δ 82 l h = none := rfl
theorem dn83 (l : List AV) (h : Hp) : Δ 83 l h = none := rfl
theorem dn84 (l : List AV) (h : Hp) : Δ 84 l h = none := rfl
theorem dn85 (l : List AV) (h : Hp) : Δ 85 l h = none := rfl
theorem dn86 (l : List AV) (h : Hp) : Δ 86 l h = none := rfl
theorem dn87 (l : List AV) (h : Hp) : Δ 87 l h = none := rfl
theorem dn88 (l : List AV) (h : Hp) : Δ 88 l h = none := rfl
theorem dn103 (l : List AV) (h : Hp) : Δ 103 l h = none := rfl
theorem dn104 (l : List AV) (h : Hp) : Δ 104 l h = none := rfl
theorem dn105 (l : List AV) (h : Hp) : Δ 105 l h = none := rfl
theorem dn106 (l : List AV) (h : Hp) : Δ 106 l h = none := rfl
theorem dn107 (l : List AV) (h : Hp) : Δ 107 l h = none := rfl
theorem dn108 (l : List AV) (h : Hp) : Δ 108 l h = none := rfl
theorem dn109 (l : List AV) (h : Hp) : Δ 109 l h = none := rfl
def Θ : TH
  | _, _, _ => none
theorem tn8 (l : List AV) (h : Hp) : Θ 8 l h = none := rfl
theorem tn9 (l : List AV) (h : Hp) : Θ 9 l h = none := rfl
theorem tn10 (l : List AV) (h : Hp) : Θ 10 l h = none := rfl
theorem tn11 (l : List AV) (h : Hp) : Θ 11 l h = none := rfl
theorem tn12 (l : List AV) (h : Hp) : Θ 12 l h = none := rfl
theorem tn13 (l : List AV) (h : Hp) : Θ 13 l h = none := rfl
theorem tn14 (l : List AV) (h : Hp) : Θ 14 l h = none := rfl
theorem tn15 (l : List AV) (h : Hp) : Θ 15 l h = none := rfl
theorem tn16 (l : List AV) (h : Hp) : Θ 16 l h = none := rfl
theorem tn17 (l : List AV) (h : Hp) : Θ 17 l h = none := rfl
theorem tn18 (l : List AV) (h : Hp) : Θ 18 l h = none := rfl
theorem tn19 (l : List AV) (h : Hp) : Θ 19 l h = none := rfl
theorem tn20 (l : List AV) (h : Hp) : Θ 20 l h = none := rfl
theorem tn21 (l : List AV) (h : Hp) : Θ 21 l h = none := rfl
theorem tn22 (l : List AV) (h : Hp) : Θ 22 l h = none := rfl
theorem tn23 (l : List AV) (h : Hp) : Θ 23 l h = none := rfl
theorem tn24 (l : List AV) (h : Hp) : Θ 24 l h = none := rfl
theorem tn25 (l : List AV) (h : Hp) : Θ 25 l h = none := rfl
theorem tn26 (l : List AV) (h : Hp) : Θ 26 l h = none := rfl
theorem tn27 (l : List AV) (h : Hp) : Θ 27 l h = none := rfl
theorem tn28 (l : List AV) (h : Hp) : Θ 28 l h = none := rfl
theorem tn29 (l : List AV) (h : Hp) : Θ 29 l h = none := rfl
theorem tn30 (l : List AV) (h : Hp) : Θ 30 l h = none := rfl
theorem tn31 (l : List AV) (h : Hp) : Θ 31 l h = none := rfl
theorem tn32 (l : List AV) (h : Hp) : Θ 32 l h = none := rfl
theorem tn33 (l : List AV) (h : Hp) : Θ 33 l h = none := rfl
theorem tn34 (l : List AV) (h : Hp) : Θ 34 l h = none := rfl
theorem tn35 (l : List AV) (h : Hp) : Θ 35 l h = none := rfl
theorem tn36 (l : List AV) (h : Hp) : Θ 36 l h = none := rfl
theorem tn37 (l : List AV) (h : Hp) : Θ 37 l h = none := rfl
theorem tn38 (l : List AV) (h : Hp) : Θ 38 l h = none := rfl
theorem tn39 (l : List AV) (h : Hp) : Θ 39 l h = none := rfl
theorem tn40 (l : List AV) (h : Hp) : Θ 40 l h = none := rfl
theorem tn41 (l : List AV) (h : Hp) : Θ 41 l h = none := rfl
theorem tn42 (l : List AV) (h : Hp) : Θ 42 l h = none := rfl
theorem tn43 (l : List AV) (h : Hp) : Θ 43 l h = none := rfl
theorem tn44 (l : List AV) (h : Hp) : Θ 44 l h = none := rfl
theorem tn45 (l : List AV) (h : Hp) : Θ 45 l h = none := rfl
theorem tn46 (l : List AV) (h : Hp) : Θ 46 l h = none := rfl
theorem tn47 (l : List AV) (h : Hp) : Θ 47 l h = none := rfl
theorem tn48 (l : List AV) (h : Hp) : Θ 48 l h = none := rfl
theorem tn49 (l : List AV) (h : Hp) : Θ 49 l h = none := rfl
theorem tn50 (l : List AV) (h : Hp) : Θ 50 l h = none := rfl
theorem tn51 (l : List AV) (h : Hp) : Θ 51 l h = none := rfl
theorem tn52 (l : List AV) (h : Hp) : Θ 52 l h = none := rfl
theorem tn53 (l : List AV) (h : Hp) : Θ 53 l h = none := rfl
theorem tn54 (l : List AV) (h : Hp) : Θ 54 l h = none := rfl
theorem tn55 (l : List AV) (h : Hp) : Θ 55 l h = none := rfl
theorem tn56 (l : List AV) (h : Hp) : Θ 56 l h = none := rfl
theorem tn57 (l : List AV) (h : Hp) : Θ 57 l h = none := rfl
theorem tn58 (l : List AV) (h : Hp) : Θ 58 l h = none := rfl
theorem tn59 (l : List AV) (h : Hp) : Θ 59 l h = none := rfl
theorem tn60 (l : List AV) (h : Hp) : Θ 60 l h = none := rfl
theorem tn61 (l : List AV) (h : Hp) : Θ 61 l h = none := rfl
theorem tn62 (l : List AV) (h : Hp) : Θ 62 l h = none := rfl
theorem tn63 (l : List AV) (h : Hp) : Θ 63 l h = none := rfl
theorem tn64 (l : List AV) (h : Hp) : Θ 64 l h = none := rfl
theorem tn65 (l : List AV) (h : Hp) : Θ 65 l h = none := rfl
theorem tn66 (l : List AV) (h : Hp) : Θ 66 l h = none := rfl
theorem tn67 (l : List AV) (h : Hp) : Θ 67 l h = none := rfl
theorem tn68 (l : List AV) (h : Hp) : Θ 68 l h = none := rfl
theorem tn69 (l : List AV) (h : Hp) : Θ 69 l h = none := rfl
theorem tn70 (l : List AV) (h : Hp) : Θ 70 l h = none := rfl
theorem tn71 (l : List AV) (h : Hp) : Θ 71 l h = none := rfl
theorem tn72 (l : List AV) (h : Hp) : Θ 72 l h = none := rfl
theorem tn73 (l : List AV) (h : Hp) : Θ 73 l h = none := rfl
theorem tn74 (l : List AV) (h : Hp) : Θ 74 l h = none := rfl
theorem tn75 (l : List AV) (h : Hp) : Θ 75 l h = none := rfl
theorem tn76 (l : List AV) (h : Hp) : Θ 76 l h = none := rfl
theorem tn77 (l : List AV) (h : Hp) : Θ 77 l h = none := rfl
theorem tn78 (l : List AV) (h : Hp) : Θ 78 l h = none := rfl
theorem tn79 (l : List AV) (h : Hp) : Θ 79 l h = none := rfl
theorem tn81 (l : List AV) (h : Hp) : Θ 81 l h = none := rfl
theorem tn82 (l : List AV) (h : Hp) : Θ 82 l h = none := rfl
theorem tn83 (l : List AV) (h : Hp) : Θ 83 l h = none := rfl
theorem tn84 (l : List AV) (h : Hp) : Θ 84 l h = none := rfl
theorem tn85 (l : List AV) (h : Hp) : Θ 85 l h = none := rfl
theorem tn86 (l : List AV) (h : Hp) : Θ 86 l h = none := rfl
theorem tn87 (l : List AV) (h : Hp) : Θ 87 l h = none := rfl
theorem tn88 (l : List AV) (h : Hp) : Θ 88 l h = none := rfl
theorem tn103 (l : List AV) (h : Hp) : Θ 103 l h = none := rfl
theorem tn104 (l : List AV) (h : Hp) : Θ 104 l h = none := rfl
theorem tn105 (l : List AV) (h : Hp) : Θ 105 l h = none := rfl
theorem tn106 (l : List AV) (h : Hp) : Θ 106 l h = none := rfl
theorem tn107 (l : List AV) (h : Hp) : Θ 107 l h = none := rfl
theorem tn108 (l : List AV) (h : Hp) : Θ 108 l h = none := rfl
theorem tn109 (l : List AV) (h : Hp) : Θ 109 l h = none := rfl

set_option linter.unusedSimpArgs false
set_option maxRecDepth 100000 in
theorem evs {p X : Prop} (hx : X) (h : Is p X := by simp only [cloOf, Eng.addS, vFunc, vExt, runOps, stepS, Eng.inB, outOf, callOf, opV, putA, opnd, dOf, parA, Eng.get, geth, gather, nrm, del, Hold_some, Cnd_b, fin, vBin, isI, sp, shI, binI, pk, eqL, notIf, vUn, vPick, vConv, vExtr, rdA, rdD, elt, vLoad, vFld, vIdx, vAlloc, vBox, partsA, pks, vBuild, bld, bldS, vBuildS, vMake, hiOf, opk, vSlice, vStore, minL, maxL, pkl, vLen, vMin, vMax, srcOf, dstOf, vApp, cellsOf, allDat, mkAgg, spl, fresh, AV.refs, AV.refsL, Ent.refs, inst, insts, still, stills, toD, toDs, freshR, argsD, vCallR, vCall, mixOf, cellM, cellsM, vCallM, gb, gval, hg, Ret, resA, retA, retAs, retDs, D.plain, D.plainL, D.plainLL, RV.plain, RV.plainL, lk, leA, leAs, leE, leEnv, imgs, leHp, noDup, Eng.Sub, clr, clrh, runX, stepX, outZ, outY, vCallX, argX, argsX, roX, nmsX, hpX, PX.av, hpI, hpO, pinned, outX, isPin, isEnt, PX.plains, PX.plain, Ent.isArr, Ent.plain, AV.dats, AV.datP, AV.datPs, unp, vClear, vCopy, RV.flat, RV.flats, allD, vNil, runL, adOk, acc, adOf, runQA, stepQA, isPt, runZ, zOf, ixOf, chkZ, sideZ, renA, renAs, renE, renH, lkr, newN, drops, Eng.inL, outL, freeL, snds, RRof, hpZ, matchH, clA, clAs, clE, clH, namesH, EndZ, oneA, pinOk, pinsOk, isBx, pinA, pinZ, trims, Trm, vMkM, vUpd, vLenM, vRng, vEnt, keyOfA, intsD, keyD, Eng.nxOf, Eng.runN, List.zipIdx_cons, List.zipIdx_nil, List.map_cons, List.map_nil, List.map_append, List.all_cons, List.all_nil, List.contains_nil, List.contains_cons, List.getElem?_cons_zero, List.getElem?_cons_succ, List.getD_cons_zero, List.getD_cons_succ, List.getElem?_nil, List.length_cons, List.length_nil, List.length_map, List.length_replicate, List.nil_append, List.cons_append, List.append_nil, List.take_succ_cons, List.take_zero, List.take_nil, List.drop_succ_cons, List.drop_zero, List.drop_nil, List.set_cons_zero, List.set_cons_succ, List.replicate_succ, List.replicate_zero, List.nodup_nil, List.nodup_cons, List.not_mem_nil, List.mem_cons, decide_true, decide_false, cond_true, cond_false, Nat.reduceLT, Nat.reduceLeDiff, Nat.reduceAdd, Nat.reduceSub, Nat.reduceMul, Nat.reduceBEq, Nat.reduceEqDiff, Nat.zero_add, Nat.add_zero, Nat.sub_self, Nat.sub_zero, Nat.zero_mul, true_and, and_true, forall_const, implies_true, imp_self, and_self, not_false_eq_true, not_true_eq_false, Bool.and_true, Bool.true_and, Bool.and_false, Bool.false_and, Bool.or_true, Bool.true_or, Bool.or_false, Bool.false_or, Bool.not_true, Bool.not_false, Bool.and_self, Bool.not_not, beq_self_eq_true, beq_true, beq_false, bne_self_eq_false, Bool.cond_false_right, Bool.cond_true_left, Option.map_some, Option.map_none, Option.getD_some, Option.getD_none, Option.isSome_some, Option.isSome_none, Option.isNone_none, Option.isNone_some, Option.bind_some, reduceCtorEq, Bool.false_eq_true, Bool.true_eq_false, D.i.injEq, D.b.injEq, D.v.injEq, D.agg.injEq, D.sl.injEq, AV.dat.injEq, AV.vw.injEq, AV.pt.injEq, AV.ep.injEq, AV.rp.injEq, Ent.box.injEq, Ent.arr.injEq, AV.agg.injEq, AV.tup.injEq, List.cons.injEq, Int.toNat_natCast, true_implies, decide_eq_true_eq, decide_eq_false_iff_not, Bool.and_eq_true, Bool.or_eq_true, Bool.or_eq_false_iff, Bool.not_eq_true', Bool.not_eq_false', Bool.not_eq_true, Bool.not_eq_false, bne_iff_ne, beq_iff_eq, bne_eq_false_iff_eq, beq_eq_false_iff_ne, Int.not_lt, Int.not_le, ne_eq, Bool.false_and, Value.oneCell', true_or, false_or, or_true, ↓reduceIte, eqI, eqN, eqB, eqD, eqL1, eqL2, runQ, stepQ, vIndex, cut, List.append_eq, List.toList_toArray, y3, s3, b3, o3, p3, z3, d3, k3, y4, s4, b4, o4, p4, z4, d4, q4, y9, s9, b9, o9, p9, z9, d9, y23, s23, b23, o23, p23, z23, d23, f23_0, f23_1, f23_2, f23_3, l23, q23, y29, s29, b29, o29, p29, z29, d29, e29, y31, s31, b31, o31, p31, z31, d31, f31_0, f31_1, f31_2, l31, y32, s32, b32, o32, p32, z32, d32, k32, y44, s44, b44, o44, p44, z44, d44, f44_0, f44_1, f44_2, f44_3, l44, q44, y52, s52, b52, o52, p52, z52, d52, e52, y53, s53, b53, o53, p53, z53, d53, e53, y55, s55, b55, o55, p55, z55, d55, f55_0, f55_1, f55_2, l55, y56, s56, b56, o56, p56, z56, d56, e56, y57, s57, b57, o57, p57, z57, d57, e57, y59, s59, b59, o59, p59, z59, d59, f59_0, f59_1, f59_2, f59_3, f59_4, f59_5, f59_6, f59_7, l59, y71, s71, b71, o71, p71, z71, d71, f71_0, f71_1, l71, q71, y81, s81, b81, o81, p81, z81, d81, k81, y85, mt85, y87, s87, b87, o87, p87, z87, d87, f87_0, f87_1, f87_2, f87_3, f87_4, f87_5, l87, q87, y88, s88, b88, o88, p88, z88, d88, e88, y89, s89, b89, o89, p89, z89, d89, e89, y90, s90, b90, o90, p90, z90, d90, e90, y92, s92, b92, o92, p92, z92, d92, f92_0, f92_1, f92_2, f92_3, l92, y94, s94, b94, o94, p94, z94, d94, f94_0, f94_1, f94_2, f94_3, f94_4, f94_5, f94_6, f94_7, f94_8, f94_9, f94_10, f94_11, f94_12, f94_13, f94_14, f94_15, f94_16, f94_17, f94_18, f94_19, f94_20, f94_21, f94_22, f94_23, f94_24, f94_25, f94_26, f94_27, l94, y100, s100, b100, o100, p100, z100, d100, f100_0, f100_1, f100_2, f100_3, f100_4, l100, y103, s103, b103, o103, p103, z103, y105, s105, b105, o105, p105, z105, d105, e105, y106, s106, b106, o106, p106, z106, y109, s109, b109, o109, p109, z109, d109, f109_0, f109_1, l109, y112, y124, mt124, y126, s126, b126, o126, p126, z126, d126, f126_0, f126_1, l126, y206, s206, b206, o206, p206, z206, d206, f206_0, f206_1, l206, y208, s208, b208, o208, p208, z208, d208, a208, l208, y210, s210, b210, o210, p210, z210, d210, f210_0, f210_1, l210, n8, n9, n10, n11, n12, n13, n14, n15, n16, n17, n18, n19, n20, n21, n22, n23, n24, n25, n26, n27, n28, n29, n30, n31, n32, n33, n34, n35, n36, n37, n38, n39, n40, n41, n42, n43, n44, n45, n46, n47, n48, n49, n50, n51, n52, n53, n54, n55, n56, n57, n58, n59, n60, n61, n62, n63, n64, n65, n66, n67, n68, n69, n70, n71, n83, n84, n85, n86, n87, n88, n103, n104, g8, g9, g10, g11, g12, g13, g14, g15, g16, g17, g18, g19, g20, g21, g22, g23, g24, g25, g26, g27, g28, g29, g30, g31, g32, g33, g34, g35, g36, g37, g38, g39, g40, g41, g42, g43, g44, g45, g46, g47, g48, g49, g50, g51, g52, g53, g54, g55, g56, g57, g58, g59, g60, g61, g62, g63, g64, g65, g66, g67, g68, g69, g70, g71, g83, g84, g85, g86, g87, g88, g103, g104, g109, g126, g132, g153, g155, dn8, dn9, dn10, dn11, dn12, dn13, dn14, dn15, dn16, dn17, dn18, dn19, dn20, dn21, dn22, dn23, dn24, dn25, dn26, dn27, dn28, dn29, dn30, dn31, dn32, dn33, dn34, dn35, dn36, dn37, dn38, dn39, dn40, dn41, dn42, dn43, dn44, dn45, dn46, dn47, dn48, dn49, dn50, dn51, dn52, dn53, dn54, dn55, dn56, dn57, dn58, dn59, dn60, dn61, dn62, dn63, dn64, dn65, dn66, dn67, dn68, dn69, dn70, dn71, dn72, dn73, dn74, dn75, dn76, dn77, dn78, dn79, dn81, dn82, dn83, dn84, dn85, dn86, dn87, dn88, dn103, dn104, dn105, dn106, dn107, dn108, dn109, tn8, tn9, tn10, tn11, tn12, tn13, tn14, tn15, tn16, tn17, tn18, tn19, tn20, tn21, tn22, tn23, tn24, tn25, tn26, tn27, tn28, tn29, tn30, tn31, tn32, tn33, tn34, tn35, tn36, tn37, tn38, tn39, tn40, tn41, tn42, tn43, tn44, tn45, tn46, tn47, tn48, tn49, tn50, tn51, tn52, tn53, tn54, tn55, tn56, tn57, tn58, tn59, tn60, tn61, tn62, tn63, tn64, tn65, tn66, tn67, tn68, tn69, tn70, tn71, tn72, tn73, tn74, tn75, tn76, tn77, tn78, tn79, tn81, tn82, tn83, tn84, tn85, tn86, tn87, tn88, tn103, tn104, tn105, tn106, tn107, tn108, tn109, unRcE, unRcV, rcEta, ptEta, mapRc, mapPt, getDRc, getDPt, tkR, tkP, plRc, plPt, rcD, ptD, rcC, ptC, unPxE, mapPx, getDPx, mapI, getDI, setI, plI, plPx, repI, setPx, repPx, tkI, tkPx, pxD, pxC, toN0, toN1i, List.length_set, List.length_range, unImE, imD, imC, unImN, unIm0, unPtV, tabP_len, filP_len, imEta, unPxV, pxEta, unIV, iC, bk_len, hf_len, unPtE, icZ, dlt0, List.getD_nil]; exact Is.rfl) : Ev p := h.ev hx
end Go.S35

