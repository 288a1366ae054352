/-
  Closed facts of the program's types, by the kernel. No condition.
-/
import Derived.Test.YtimlobidpkglkaaDoorQDocStepsD
import Derived.Test.YtimlobidpkglkaaDoorProg
set_option linter.unusedVariables false
set_option linter.unusedSimpArgs false
set_option linter.unusedSectionVars false
set_option linter.unnecessarySimpa false
namespace Go.PM
open Go.RowKit Go.Proofs.Tryd
set_option linter.unusedSimpArgs false
set_option linter.unusedVariables false
set_option maxRecDepth 4000
theorem mo : prog.follows .mixedOrders = true := by kernel_rfl
theorem ag21 : isAggT prog 21 = false := by kernel_rfl
theorem ag22 : isAggT prog 22 = false := by kernel_rfl
theorem ag29 : isAggT prog 29 = true := by kernel_rfl
theorem ag3 : isAggT prog 3 = false := by kernel_rfl
theorem ag41 : isAggT prog 41 = true := by kernel_rfl
theorem ag42 : isAggT prog 42 = false := by kernel_rfl
theorem ag43 : isAggT prog 43 = false := by kernel_rfl
theorem ag45 : isAggT prog 45 = true := by kernel_rfl
theorem ag62 : isAggT prog 62 = false := by kernel_rfl
theorem ag89 : isAggT prog 89 = false := by kernel_rfl
theorem ag9 : isAggT prog 9 = false := by kernel_rfl
theorem ar76 : arrT prog 76 = some (2, 3) := by kernel_rfl
theorem el22 : elemT prog 22 = some 45 := by kernel_rfl
theorem el42 : elemT prog 42 = some 41 := by kernel_rfl
theorem el43 : elemT prog 43 = some 3 := by kernel_rfl
theorem el65 : elemT prog 65 = some 42 := by kernel_rfl
theorem en10 : EntersF prog 10 := Go.Proofs.enters_of func10 (by kernel_rfl) rfl
theorem en11 : EntersF prog 11 := Go.Proofs.enters_of func11 (by kernel_rfl) rfl
theorem en12 : EntersF prog 12 := Go.Proofs.enters_of func12 (by kernel_rfl) rfl
theorem en13 : EntersF prog 13 := Go.Proofs.enters_of func13 (by kernel_rfl) rfl
theorem en14 : EntersF prog 14 := Go.Proofs.enters_of func14 (by kernel_rfl) rfl
theorem en15 : EntersF prog 15 := Go.Proofs.enters_of func15 (by kernel_rfl) rfl
theorem en16 : EntersF prog 16 := Go.Proofs.enters_of func16 (by kernel_rfl) rfl
theorem en17 : EntersF prog 17 := Go.Proofs.enters_of func17 (by kernel_rfl) rfl
theorem en18 : EntersF prog 18 := Go.Proofs.enters_of func18 (by kernel_rfl) rfl
theorem en19 : EntersF prog 19 := Go.Proofs.enters_of func19 (by kernel_rfl) rfl
theorem en20 : EntersF prog 20 := Go.Proofs.enters_of func20 (by kernel_rfl) rfl
theorem en21 : EntersF prog 21 := Go.Proofs.enters_of func21 (by kernel_rfl) rfl
theorem en22 : EntersF prog 22 := Go.Proofs.enters_of func22 (by kernel_rfl) rfl
theorem en23 : EntersF prog 23 := Go.Proofs.enters_of func23 (by kernel_rfl) rfl
theorem en24 : EntersF prog 24 := Go.Proofs.enters_of func24 (by kernel_rfl) rfl
theorem en25 : EntersF prog 25 := Go.Proofs.enters_of func25 (by kernel_rfl) rfl
theorem en26 : EntersF prog 26 := Go.Proofs.enters_of func26 (by kernel_rfl) rfl
theorem en27 : EntersF prog 27 := Go.Proofs.enters_of func27 (by kernel_rfl) rfl
theorem en28 : EntersF prog 28 := Go.Proofs.enters_of func28 (by kernel_rfl) rfl
theorem en29 : EntersF prog 29 := Go.Proofs.enters_of func29 (by kernel_rfl) rfl
theorem en30 : EntersF prog 30 := Go.Proofs.enters_of func30 (by kernel_rfl) rfl
theorem en31 : EntersF prog 31 := Go.Proofs.enters_of func31 (by kernel_rfl) rfl
theorem en36 : EntersF prog 36 := Go.Proofs.enters_of func36 (by kernel_rfl) rfl
theorem en37 : EntersF prog 37 := Go.Proofs.enters_of func37 (by kernel_rfl) rfl
theorem en38 : EntersF prog 38 := Go.Proofs.enters_of func38 (by kernel_rfl) rfl
theorem en39 : EntersF prog 39 := Go.Proofs.enters_of func39 (by kernel_rfl) rfl
theorem en4 : EntersF prog 4 := Go.Proofs.enters_of func4 (by kernel_rfl) rfl
theorem en40 : EntersF prog 40 := Go.Proofs.enters_of func40 (by kernel_rfl) rfl
theorem en41 : EntersF prog 41 := Go.Proofs.enters_of func41 (by kernel_rfl) rfl
theorem en42 : EntersF prog 42 := Go.Proofs.enters_of func42 (by kernel_rfl) rfl
theorem en43 : EntersF prog 43 := Go.Proofs.enters_of func43 (by kernel_rfl) rfl
theorem en44 : EntersF prog 44 := Go.Proofs.enters_of func44 (by kernel_rfl) rfl
theorem en45 : EntersF prog 45 := Go.Proofs.enters_of func45 (by kernel_rfl) rfl
theorem en46 : EntersF prog 46 := Go.Proofs.enters_of func46 (by kernel_rfl) rfl
theorem en48 : EntersF prog 48 := Go.Proofs.enters_of func48 (by kernel_rfl) rfl
theorem en49 : EntersF prog 49 := Go.Proofs.enters_of func49 (by kernel_rfl) rfl
theorem en5 : EntersF prog 5 := Go.Proofs.enters_of func5 (by kernel_rfl) rfl
theorem en50 : EntersF prog 50 := Go.Proofs.enters_of func50 (by kernel_rfl) rfl
theorem en51 : EntersF prog 51 := Go.Proofs.enters_of func51 (by kernel_rfl) rfl
theorem en52 : EntersF prog 52 := Go.Proofs.enters_of func52 (by kernel_rfl) rfl
theorem en53 : EntersF prog 53 := Go.Proofs.enters_of func53 (by kernel_rfl) rfl
theorem en54 : EntersF prog 54 := Go.Proofs.enters_of func54 (by kernel_rfl) rfl
theorem en55 : EntersF prog 55 := Go.Proofs.enters_of func55 (by kernel_rfl) rfl
theorem en57 : EntersF prog 57 := Go.Proofs.enters_of func57 (by kernel_rfl) rfl
theorem en58 : EntersF prog 58 := Go.Proofs.enters_of func58 (by kernel_rfl) rfl
theorem en59 : EntersF prog 59 := Go.Proofs.enters_of func59 (by kernel_rfl) rfl
theorem en6 : EntersF prog 6 := Go.Proofs.enters_of func6 (by kernel_rfl) rfl
theorem en60 : EntersF prog 60 := Go.Proofs.enters_of func60 (by kernel_rfl) rfl
theorem en61 : EntersF prog 61 := Go.Proofs.enters_of func61 (by kernel_rfl) rfl
theorem en62 : EntersF prog 62 := Go.Proofs.enters_of func62 (by kernel_rfl) rfl
theorem en63 : EntersF prog 63 := Go.Proofs.enters_of func63 (by kernel_rfl) rfl
theorem en64 : EntersF prog 64 := Go.Proofs.enters_of func64 (by kernel_rfl) rfl
theorem en65 : EntersF prog 65 := Go.Proofs.enters_of func65 (by kernel_rfl) rfl
theorem en7 : EntersF prog 7 := Go.Proofs.enters_of func7 (by kernel_rfl) rfl
theorem en8 : EntersF prog 8 := Go.Proofs.enters_of func8 (by kernel_rfl) rfl
theorem en9 : EntersF prog 9 := Go.Proofs.enters_of func9 (by kernel_rfl) rfl
theorem eq29 : eqT prog 29 = some [(0, 0), (1, 0)] := by kernel_rfl
theorem fl29u_0 : fieldT prog 29 0 = some (0, 1, false) := by kernel_rfl
theorem fl29u_1 : fieldT prog 29 1 = some (1, 1, false) := by kernel_rfl
theorem fl41u_0 : fieldT prog 41 0 = some (0, 1, false) := by kernel_rfl
theorem fl41u_1 : fieldT prog 41 1 = some (1, 1, false) := by kernel_rfl
theorem fl41u_2 : fieldT prog 41 2 = some (2, 1, false) := by kernel_rfl
theorem fl45u_0 : fieldT prog 45 0 = some (0, 1, false) := by kernel_rfl
theorem fl45u_1 : fieldT prog 45 1 = some (1, 1, false) := by kernel_rfl
theorem fl45u_2 : fieldT prog 45 2 = some (2, 1, false) := by kernel_rfl
theorem fl45u_3 : fieldT prog 45 3 = some (3, 1, false) := by kernel_rfl
theorem pl29 : placesT prog 29 = some [(0, 1), (1, 1)] := by kernel_rfl
theorem pl41 : placesT prog 41 = some [(0, 1), (1, 1), (2, 1)] := by kernel_rfl
theorem pl45 : placesT prog 45 = some [(0, 1), (1, 1), (2, 1), (3, 1)] := by kernel_rfl
theorem rw3 : rowT prog 3 = some (1, 8) := by kernel_rfl
theorem rw41 : rowT prog 41 = some (3, 32) := by kernel_rfl
theorem rw42 : rowT prog 42 = some (1, 24) := by kernel_rfl
theorem rw45 : rowT prog 45 = some (4, 64) := by kernel_rfl
theorem sz21 : szT prog 21 = some 1 := by kernel_rfl
theorem sz22 : szT prog 22 = some 1 := by kernel_rfl
theorem sz29 : szT prog 29 = some 2 := by kernel_rfl
theorem sz3 : szT prog 3 = some 1 := by kernel_rfl
theorem sz41 : szT prog 41 = some 3 := by kernel_rfl
theorem sz42 : szT prog 42 = some 1 := by kernel_rfl
theorem sz43 : szT prog 43 = some 1 := by kernel_rfl
theorem sz45 : szT prog 45 = some 4 := by kernel_rfl
theorem sz62 : szT prog 62 = some 1 := by kernel_rfl
theorem sz76 : szT prog 76 = some 2 := by kernel_rfl
theorem sz89 : szT prog 89 = some 1 := by kernel_rfl
theorem sz9 : szT prog 9 = some 1 := by kernel_rfl
theorem ui3 : prog.underlying 3 = some (.int .i64) := by kernel_rfl
theorem un21 : (prog.underlying 21).isSome = true := by kernel_rfl
theorem un22 : (prog.underlying 22).isSome = true := by kernel_rfl
theorem un29 : (prog.underlying 29).isSome = true := by kernel_rfl
theorem un3 : (prog.underlying 3).isSome = true := by kernel_rfl
theorem un41 : (prog.underlying 41).isSome = true := by kernel_rfl
theorem un42 : (prog.underlying 42).isSome = true := by kernel_rfl
theorem un43 : (prog.underlying 43).isSome = true := by kernel_rfl
theorem un45 : (prog.underlying 45).isSome = true := by kernel_rfl
theorem un62 : (prog.underlying 62).isSome = true := by kernel_rfl
theorem un89 : (prog.underlying 89).isSome = true := by kernel_rfl
theorem un9 : (prog.underlying 9).isSome = true := by kernel_rfl
theorem us9 : prog.underlying 9 = some .string := by kernel_rfl
theorem ze29 : zeroT prog 29 = some [.int .i64 0, .int .i64 0] := by kernel_rfl
theorem ze3 : zeroT prog 3 = some [.int .i64 0] := by kernel_rfl
theorem ze41 : zeroT prog 41 = some [.int .i32 0, .int .i64 0, .str ⟨#[]⟩] := by kernel_rfl
theorem ze45 : zeroT prog 45 = some [.int .i64 0, .sl false [], .int .i64 0, .sl false []] := by kernel_rfl
theorem ze76 : zeroT prog 76 = some [.int .i64 0, .int .i64 0] := by kernel_rfl
theorem zn22 : ((prog.info? 22).bind (·.zero)) = some (.slice none 0 0) := by kernel_rfl
theorem zs3 : (zeroT prog 3).isSome = true := by kernel_rfl
theorem zs41 : (zeroT prog 41).isSome = true := by kernel_rfl
theorem zs42 : (zeroT prog 42).isSome = true := by kernel_rfl
theorem zs45 : (zeroT prog 45).isSome = true := by kernel_rfl
end Go.PM
