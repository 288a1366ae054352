/-
  Closed facts of the program's types, by the kernel. No condition.
-/
import Derived.Test.YtimlobidpkglkaaGreatDoorQDocPartsD
import Derived.Test.YtimlobidpkglkaaGreatDoorProg
set_option linter.unusedVariables false
set_option linter.unusedSimpArgs false
set_option linter.unusedSectionVars false
set_option linter.unnecessarySimpa false
namespace Go.PM
open Go.RowKit Go.Proofs.Tryz
set_option linter.unusedSimpArgs false
set_option linter.unusedVariables false
set_option maxRecDepth 4000
theorem mo : prog.follows .mixedOrders = true := by kernel_rfl
theorem ag21 : isAggT prog 21 = false := by kernel_rfl
theorem ag22 : isAggT prog 22 = false := by kernel_rfl
theorem ag24 : isAggT prog 24 = true := by kernel_rfl
theorem ag3 : isAggT prog 3 = false := by kernel_rfl
theorem ag46 : isAggT prog 46 = false := by kernel_rfl
theorem ag53 : isAggT prog 53 = false := by kernel_rfl
theorem ag55 : isAggT prog 55 = true := by kernel_rfl
theorem ag58 : isAggT prog 58 = true := by kernel_rfl
theorem ag79 : isAggT prog 79 = false := by kernel_rfl
theorem ag86 : isAggT prog 86 = false := by kernel_rfl
theorem ag9 : isAggT prog 9 = false := by kernel_rfl
theorem ar96 : arrT prog 96 = some (2, 3) := by kernel_rfl
theorem el115 : elemT prog 115 = some 46 := by kernel_rfl
theorem el149 : elemT prog 149 = some 21 := by kernel_rfl
theorem el22 : elemT prog 22 = some 55 := by kernel_rfl
theorem el46 : elemT prog 46 = some 58 := by kernel_rfl
theorem el53 : elemT prog 53 = some 3 := by kernel_rfl
theorem en10 : EntersF prog 10 := Go.Proofs.enters_of func10 (by kernel_rfl) rfl
theorem en101 : EntersF prog 101 := Go.Proofs.enters_of func101 (by kernel_rfl) rfl
theorem en102 : EntersF prog 102 := Go.Proofs.enters_of func102 (by kernel_rfl) rfl
theorem en103 : EntersF prog 103 := Go.Proofs.enters_of func103 (by kernel_rfl) rfl
theorem en104 : EntersF prog 104 := Go.Proofs.enters_of func104 (by kernel_rfl) rfl
theorem en105 : EntersF prog 105 := Go.Proofs.enters_of func105 (by kernel_rfl) rfl
theorem en106 : EntersF prog 106 := Go.Proofs.enters_of func106 (by kernel_rfl) rfl
theorem en107 : EntersF prog 107 := Go.Proofs.enters_of func107 (by kernel_rfl) rfl
theorem en108 : EntersF prog 108 := Go.Proofs.enters_of func108 (by kernel_rfl) rfl
theorem en109 : EntersF prog 109 := Go.Proofs.enters_of func109 (by kernel_rfl) rfl
theorem en11 : EntersF prog 11 := Go.Proofs.enters_of func11 (by kernel_rfl) rfl
theorem en110 : EntersF prog 110 := Go.Proofs.enters_of func110 (by kernel_rfl) rfl
theorem en111 : EntersF prog 111 := Go.Proofs.enters_of func111 (by kernel_rfl) rfl
theorem en112 : EntersF prog 112 := Go.Proofs.enters_of func112 (by kernel_rfl) rfl
theorem en113 : EntersF prog 113 := Go.Proofs.enters_of func113 (by kernel_rfl) rfl
theorem en114 : EntersF prog 114 := Go.Proofs.enters_of func114 (by kernel_rfl) rfl
theorem en116 : EntersF prog 116 := Go.Proofs.enters_of func116 (by kernel_rfl) rfl
theorem en117 : EntersF prog 117 := Go.Proofs.enters_of func117 (by kernel_rfl) rfl
theorem en118 : EntersF prog 118 := Go.Proofs.enters_of func118 (by kernel_rfl) rfl
theorem en119 : EntersF prog 119 := Go.Proofs.enters_of func119 (by kernel_rfl) rfl
theorem en120 : EntersF prog 120 := Go.Proofs.enters_of func120 (by kernel_rfl) rfl
theorem en125 : EntersF prog 125 := Go.Proofs.enters_of func125 (by kernel_rfl) rfl
theorem en126 : EntersF prog 126 := Go.Proofs.enters_of func126 (by kernel_rfl) rfl
theorem en127 : EntersF prog 127 := Go.Proofs.enters_of func127 (by kernel_rfl) rfl
theorem en128 : EntersF prog 128 := Go.Proofs.enters_of func128 (by kernel_rfl) rfl
theorem en129 : EntersF prog 129 := Go.Proofs.enters_of func129 (by kernel_rfl) rfl
theorem en13 : EntersF prog 13 := Go.Proofs.enters_of func13 (by kernel_rfl) rfl
theorem en130 : EntersF prog 130 := Go.Proofs.enters_of func130 (by kernel_rfl) rfl
theorem en14 : EntersF prog 14 := Go.Proofs.enters_of func14 (by kernel_rfl) rfl
theorem en140 : EntersF prog 140 := Go.Proofs.enters_of func140 (by kernel_rfl) rfl
theorem en141 : EntersF prog 141 := Go.Proofs.enters_of func141 (by kernel_rfl) rfl
theorem en142 : EntersF prog 142 := Go.Proofs.enters_of func142 (by kernel_rfl) rfl
theorem en144 : EntersF prog 144 := Go.Proofs.enters_of func144 (by kernel_rfl) rfl
theorem en145 : EntersF prog 145 := Go.Proofs.enters_of func145 (by kernel_rfl) rfl
theorem en15 : EntersF prog 15 := Go.Proofs.enters_of func15 (by kernel_rfl) rfl
theorem en152 : EntersF prog 152 := Go.Proofs.enters_of func152 (by kernel_rfl) rfl
theorem en154 : EntersF prog 154 := Go.Proofs.enters_of func154 (by kernel_rfl) rfl
theorem en16 : EntersF prog 16 := Go.Proofs.enters_of func16 (by kernel_rfl) rfl
theorem en17 : EntersF prog 17 := Go.Proofs.enters_of func17 (by kernel_rfl) rfl
theorem en19 : EntersF prog 19 := Go.Proofs.enters_of func19 (by kernel_rfl) rfl
theorem en20 : EntersF prog 20 := Go.Proofs.enters_of func20 (by kernel_rfl) rfl
theorem en21 : EntersF prog 21 := Go.Proofs.enters_of func21 (by kernel_rfl) rfl
theorem en23 : EntersF prog 23 := Go.Proofs.enters_of func23 (by kernel_rfl) rfl
theorem en24 : EntersF prog 24 := Go.Proofs.enters_of func24 (by kernel_rfl) rfl
theorem en25 : EntersF prog 25 := Go.Proofs.enters_of func25 (by kernel_rfl) rfl
theorem en27 : EntersF prog 27 := Go.Proofs.enters_of func27 (by kernel_rfl) rfl
theorem en29 : EntersF prog 29 := Go.Proofs.enters_of func29 (by kernel_rfl) rfl
theorem en32 : EntersF prog 32 := Go.Proofs.enters_of func32 (by kernel_rfl) rfl
theorem en34 : EntersF prog 34 := Go.Proofs.enters_of func34 (by kernel_rfl) rfl
theorem en38 : EntersF prog 38 := Go.Proofs.enters_of func38 (by kernel_rfl) rfl
theorem en43 : EntersF prog 43 := Go.Proofs.enters_of func43 (by kernel_rfl) rfl
theorem en45 : EntersF prog 45 := Go.Proofs.enters_of func45 (by kernel_rfl) rfl
theorem en46 : EntersF prog 46 := Go.Proofs.enters_of func46 (by kernel_rfl) rfl
theorem en47 : EntersF prog 47 := Go.Proofs.enters_of func47 (by kernel_rfl) rfl
theorem en48 : EntersF prog 48 := Go.Proofs.enters_of func48 (by kernel_rfl) rfl
theorem en49 : EntersF prog 49 := Go.Proofs.enters_of func49 (by kernel_rfl) rfl
theorem en50 : EntersF prog 50 := Go.Proofs.enters_of func50 (by kernel_rfl) rfl
theorem en52 : EntersF prog 52 := Go.Proofs.enters_of func52 (by kernel_rfl) rfl
theorem en56 : EntersF prog 56 := Go.Proofs.enters_of func56 (by kernel_rfl) rfl
theorem en59 : EntersF prog 59 := Go.Proofs.enters_of func59 (by kernel_rfl) rfl
theorem en60 : EntersF prog 60 := Go.Proofs.enters_of func60 (by kernel_rfl) rfl
theorem en61 : EntersF prog 61 := Go.Proofs.enters_of func61 (by kernel_rfl) rfl
theorem en62 : EntersF prog 62 := Go.Proofs.enters_of func62 (by kernel_rfl) rfl
theorem en63 : EntersF prog 63 := Go.Proofs.enters_of func63 (by kernel_rfl) rfl
theorem en64 : EntersF prog 64 := Go.Proofs.enters_of func64 (by kernel_rfl) rfl
theorem en65 : EntersF prog 65 := Go.Proofs.enters_of func65 (by kernel_rfl) rfl
theorem en68 : EntersF prog 68 := Go.Proofs.enters_of func68 (by kernel_rfl) rfl
theorem en69 : EntersF prog 69 := Go.Proofs.enters_of func69 (by kernel_rfl) rfl
theorem en70 : EntersF prog 70 := Go.Proofs.enters_of func70 (by kernel_rfl) rfl
theorem en71 : EntersF prog 71 := Go.Proofs.enters_of func71 (by kernel_rfl) rfl
theorem en72 : EntersF prog 72 := Go.Proofs.enters_of func72 (by kernel_rfl) rfl
theorem en74 : EntersF prog 74 := Go.Proofs.enters_of func74 (by kernel_rfl) rfl
theorem en76 : EntersF prog 76 := Go.Proofs.enters_of func76 (by kernel_rfl) rfl
theorem en79 : EntersF prog 79 := Go.Proofs.enters_of func79 (by kernel_rfl) rfl
theorem en81 : EntersF prog 81 := Go.Proofs.enters_of func81 (by kernel_rfl) rfl
theorem en85 : EntersF prog 85 := Go.Proofs.enters_of func85 (by kernel_rfl) rfl
theorem en87 : EntersF prog 87 := Go.Proofs.enters_of func87 (by kernel_rfl) rfl
theorem en88 : EntersF prog 88 := Go.Proofs.enters_of func88 (by kernel_rfl) rfl
theorem en89 : EntersF prog 89 := Go.Proofs.enters_of func89 (by kernel_rfl) rfl
theorem en90 : EntersF prog 90 := Go.Proofs.enters_of func90 (by kernel_rfl) rfl
theorem en91 : EntersF prog 91 := Go.Proofs.enters_of func91 (by kernel_rfl) rfl
theorem en92 : EntersF prog 92 := Go.Proofs.enters_of func92 (by kernel_rfl) rfl
theorem en93 : EntersF prog 93 := Go.Proofs.enters_of func93 (by kernel_rfl) rfl
theorem en94 : EntersF prog 94 := Go.Proofs.enters_of func94 (by kernel_rfl) rfl
theorem en96 : EntersF prog 96 := Go.Proofs.enters_of func96 (by kernel_rfl) rfl
theorem en99 : EntersF prog 99 := Go.Proofs.enters_of func99 (by kernel_rfl) rfl
theorem eq24 : eqT prog 24 = some [(0, 0), (1, 0)] := by kernel_rfl
theorem eq58 : eqT prog 58 = some [(0, 0), (1, 0), (2, 2)] := by kernel_rfl
theorem fl24u_0 : fieldT prog 24 0 = some (0, 1, false) := by kernel_rfl
theorem fl24u_1 : fieldT prog 24 1 = some (1, 1, false) := by kernel_rfl
theorem fl55u_0 : fieldT prog 55 0 = some (0, 1, false) := by kernel_rfl
theorem fl55u_1 : fieldT prog 55 1 = some (1, 1, false) := by kernel_rfl
theorem fl55u_2 : fieldT prog 55 2 = some (2, 1, false) := by kernel_rfl
theorem fl55u_3 : fieldT prog 55 3 = some (3, 1, false) := by kernel_rfl
theorem fl58u_0 : fieldT prog 58 0 = some (0, 1, false) := by kernel_rfl
theorem fl58u_1 : fieldT prog 58 1 = some (1, 1, false) := by kernel_rfl
theorem fl58u_2 : fieldT prog 58 2 = some (2, 1, false) := by kernel_rfl
theorem pl24 : placesT prog 24 = some [(0, 1), (1, 1)] := by kernel_rfl
theorem pl55 : placesT prog 55 = some [(0, 1), (1, 1), (2, 1), (3, 1)] := by kernel_rfl
theorem pl58 : placesT prog 58 = some [(0, 1), (1, 1), (2, 1)] := by kernel_rfl
theorem rw3 : rowT prog 3 = some (1, 8) := by kernel_rfl
theorem rw46 : rowT prog 46 = some (1, 24) := by kernel_rfl
theorem rw55 : rowT prog 55 = some (4, 64) := by kernel_rfl
theorem rw58 : rowT prog 58 = some (3, 32) := by kernel_rfl
theorem sz21 : szT prog 21 = some 1 := by kernel_rfl
theorem sz22 : szT prog 22 = some 1 := by kernel_rfl
theorem sz24 : szT prog 24 = some 2 := by kernel_rfl
theorem sz3 : szT prog 3 = some 1 := by kernel_rfl
theorem sz46 : szT prog 46 = some 1 := by kernel_rfl
theorem sz53 : szT prog 53 = some 1 := by kernel_rfl
theorem sz55 : szT prog 55 = some 4 := by kernel_rfl
theorem sz58 : szT prog 58 = some 3 := by kernel_rfl
theorem sz79 : szT prog 79 = some 1 := by kernel_rfl
theorem sz86 : szT prog 86 = some 1 := by kernel_rfl
theorem sz9 : szT prog 9 = some 1 := by kernel_rfl
theorem sz96 : szT prog 96 = some 2 := by kernel_rfl
theorem ui21 : prog.underlying 21 = some (.int .i32) := by kernel_rfl
theorem ui3 : prog.underlying 3 = some (.int .i64) := by kernel_rfl
theorem un21 : (prog.underlying 21).isSome = true := by kernel_rfl
theorem un22 : (prog.underlying 22).isSome = true := by kernel_rfl
theorem un24 : (prog.underlying 24).isSome = true := by kernel_rfl
theorem un3 : (prog.underlying 3).isSome = true := by kernel_rfl
theorem un46 : (prog.underlying 46).isSome = true := by kernel_rfl
theorem un53 : (prog.underlying 53).isSome = true := by kernel_rfl
theorem un55 : (prog.underlying 55).isSome = true := by kernel_rfl
theorem un58 : (prog.underlying 58).isSome = true := by kernel_rfl
theorem un79 : (prog.underlying 79).isSome = true := by kernel_rfl
theorem un86 : (prog.underlying 86).isSome = true := by kernel_rfl
theorem un9 : (prog.underlying 9).isSome = true := by kernel_rfl
theorem us9 : prog.underlying 9 = some .string := by kernel_rfl
theorem ze24 : zeroT prog 24 = some [.int .i64 0, .int .i64 0] := by kernel_rfl
theorem ze3 : zeroT prog 3 = some [.int .i64 0] := by kernel_rfl
theorem ze55 : zeroT prog 55 = some [.int .i64 0, .sl false [], .int .i64 0, .sl false []] := by kernel_rfl
theorem ze58 : zeroT prog 58 = some [.int .i32 0, .int .i64 0, .str ⟨#[]⟩] := by kernel_rfl
theorem ze96 : zeroT prog 96 = some [.int .i64 0, .int .i64 0] := by kernel_rfl
theorem zn22 : ((prog.info? 22).bind (·.zero)) = some (.slice none 0 0) := by kernel_rfl
theorem zs3 : (zeroT prog 3).isSome = true := by kernel_rfl
theorem zs46 : (zeroT prog 46).isSome = true := by kernel_rfl
theorem zs55 : (zeroT prog 55).isSome = true := by kernel_rfl
theorem zs58 : (zeroT prog 58).isSome = true := by kernel_rfl
end Go.PM
