/-
  The walks: each Go function answers what its plain Lean function answers. Printed. Part 3 of 3. No condition but that the plain function answers.
-/
import Derived.Test.YtimlobidpkglkaaDoorQDocStepsW2
set_option linter.unusedVariables false
set_option linter.unusedSimpArgs false
set_option linter.unusedSectionVars false
set_option linter.unnecessarySimpa false
namespace Go.PM
open Go.RowKit Go.Proofs.Tryd
set_option linter.unusedSimpArgs false
set_option linter.unusedVariables false
set_option maxRecDepth 4000
set_option maxHeartbeats 8000000 in
theorem ok_quillworklaw07u_awake {r : Bool}  (h : quillworklaw07u_awake = some r) : OkB prog 5 [] [] [] (.bool r) [] [] := by
  unfold quillworklaw07u_awake at h
  refine okB_of_exG func5 rfl rfl (s0 := [.top, .top, .top, .top, .top, .top, .top, .top, .top, .top, .top, .top, .top, .top, .top, .top, .top, .top, .top, .top, .top, .top, .top, .top, .top, .top, .top, .top, .top, .top, .top, .top, .top, .top, .top, .top, .top, .top, .top, .top, .top, .top, .top, .top, .top, .top, .top, .top, .top, .top, .top, .top, .top, .top, .top, .top, .top, .top, .top, .top, .top, .top, .top, .top, .top, .top, .top, .top, .top, .top, .top, .top, .top, .top, .top, .top, .top, .top, .top, .top, .top, .top, .top, .top, .top, .top, .top, .top, .top, .top, .top, .top, .top, .top, .top, .top, .top, .top, .top, .top, .top, .top, .top, .top, .top, .top, .top, .top, .top, .top, .top, .top, .top, .top, .top, .top, .top, .top, .top, .top, .top, .top, .top, .top, .top, .top, .top]) (b0 := []) (r0 := []) rfl rfl rfl ?_
  show Ex _ _ _ ⟨[.top, .top, .top, .top, .top, .top, .top, .top, .top, .top, .top, .top, .top, .top, .top, .top, .top, .top, .top, .top, .top, .top, .top, .top, .top, .top, .top, .top, .top, .top, .top, .top, .top, .top, .top, .top, .top, .top, .top, .top, .top, .top, .top, .top, .top, .top, .top, .top, .top, .top, .top, .top, .top, .top, .top, .top, .top, .top, .top, .top, .top, .top, .top, .top, .top, .top, .top, .top, .top, .top, .top, .top, .top, .top, .top, .top, .top, .top, .top, .top, .top, .top, .top, .top, .top, .top, .top, .top, .top, .top, .top, .top, .top, .top, .top, .top, .top, .top, .top, .top, .top, .top, .top, .top, .top, .top, .top, .top, .top, .top, .top, .top, .top, .top, .top, .top, .top, .top, .top, .top, .top, .top, .top, .top, .top, .top, .top], [], [], 0⟩ _
  refine ex_seq ?_
  refine ex_ord [] (l := [0]) rfl ?_
  refine p_ 0 rfl rfl rfl rfl (.assign rfl rfl) ?_
  refine we_nil ?_
  refine ex_seq ?_
  refine ex_ord [2, 5, 7] (l := [0, 1, 2, 3, 4, 5, 6, 7, 8]) rfl ?_
  refine p_ 15 rfl rfl rfl rfl (x_build rfl pl41 ze41 rfl rfl rfl rfl) ?_
  refine p_ 16 rfl rfl rfl rfl (x_build rfl pl41 ze41 rfl rfl rfl rfl) ?_
  refine e_ (d := .sl false (List.map c_api_Cell ([(T_api_Cell.mk (97) (0) ([]) : T_api_Cell), (T_api_Cell.mk (98) (0) ([]) : T_api_Cell)]))) 17 rfl rfl rfl rfl rfl (b' := []) (r' := [none]) (x_litF (f := c_api_Cell) (l := ([(T_api_Cell.mk (97) (0) ([]) : T_api_Cell), (T_api_Cell.mk (98) (0) ([]) : T_api_Cell)])) rfl el42 rw41 zs41 rfl rfl rfl (by decide) (by decide) fl_api_Cell rfl) rfl ?_
  refine p_ 18 rfl rfl rfl rfl (x_build rfl pl45 ze45 rfl rfl rfl rfl) ?_
  refine p_ 19 rfl rfl rfl rfl (x_build rfl pl41 ze41 rfl rfl rfl rfl) ?_
  refine e_ (d := .sl false (List.map c_api_Cell ([(T_api_Cell.mk (99) (0) ([]) : T_api_Cell)]))) 20 rfl rfl rfl rfl rfl (b' := []) (r' := [none, none]) (x_litF (f := c_api_Cell) (l := ([(T_api_Cell.mk (99) (0) ([]) : T_api_Cell)])) rfl el42 rw41 zs41 rfl rfl rfl (by decide) (by decide) fl_api_Cell rfl) rfl ?_
  refine p_ 21 rfl rfl rfl rfl (x_build rfl pl45 ze45 rfl rfl rfl rfl) ?_
  refine e_ (d := .own 2) 22 rfl rfl rfl rfl rfl (b' := []) (r' := [none, none, some ⟨45, 4, List.map c_api_Line ([(T_api_Line.mk (0) ([]) (0) ([(T_api_Cell.mk (97) (0) ([]) : T_api_Cell), (T_api_Cell.mk (98) (0) ([]) : T_api_Cell)]) : T_api_Line), (T_api_Line.mk (0) ([]) (1) ([(T_api_Cell.mk (99) (0) ([]) : T_api_Cell)]) : T_api_Line)])⟩]) (x_lit (f := c_api_Line) (l := ([(T_api_Line.mk (0) ([]) (0) ([(T_api_Cell.mk (97) (0) ([]) : T_api_Cell), (T_api_Cell.mk (98) (0) ([]) : T_api_Cell)]) : T_api_Line), (T_api_Line.mk (0) ([]) (1) ([(T_api_Cell.mk (99) (0) ([]) : T_api_Cell)]) : T_api_Line)])) rfl el22 rw45 zs45 rfl rfl rfl (by decide) (by decide) fl_api_Line rfl) rfl ?_
  refine p_ 1 rfl rfl rfl rfl (.assign rfl rfl) ?_
  refine we_nil ?_
  refine ex_seq ?_
  refine ex_gst ⟨[.bool false, .sl false (List.map c_api_Line ([(T_api_Line.mk (0) ([]) (0) ([(T_api_Cell.mk (97) (0) ([]) : T_api_Cell), (T_api_Cell.mk (98) (0) ([]) : T_api_Cell)]) : T_api_Line), (T_api_Line.mk (0) ([]) (1) ([(T_api_Cell.mk (99) (0) ([]) : T_api_Cell)]) : T_api_Line)])), .top, .top, .top, .top, .top, .top, .top, .top, .top, .top, .top, .top, .top, .agg [.int .i32 97, .int .i64 0, .str (bs [])], .agg [.int .i32 98, .int .i64 0, .str (bs [])], .sl false (List.map c_api_Cell ([(T_api_Cell.mk (97) (0) ([]) : T_api_Cell), (T_api_Cell.mk (98) (0) ([]) : T_api_Cell)])), .agg [.int .i64 0, .sl false [], .int .i64 0, .sl false (List.map c_api_Cell ([(T_api_Cell.mk (97) (0) ([]) : T_api_Cell), (T_api_Cell.mk (98) (0) ([]) : T_api_Cell)]))], .agg [.int .i32 99, .int .i64 0, .str (bs [])], .sl false (List.map c_api_Cell ([(T_api_Cell.mk (99) (0) ([]) : T_api_Cell)])), .agg [.int .i64 0, .sl false [], .int .i64 1, .sl false (List.map c_api_Cell ([(T_api_Cell.mk (99) (0) ([]) : T_api_Cell)]))], .sl false (List.map c_api_Line ([(T_api_Line.mk (0) ([]) (0) ([(T_api_Cell.mk (97) (0) ([]) : T_api_Cell), (T_api_Cell.mk (98) (0) ([]) : T_api_Cell)]) : T_api_Line), (T_api_Line.mk (0) ([]) (1) ([(T_api_Cell.mk (99) (0) ([]) : T_api_Cell)]) : T_api_Line)])), .top, .top, .top, .top, .top, .top, .top, .top, .top, .top, .top, .top, .top, .top, .top, .top, .top, .top, .top, .top, .top, .top, .top, .top, .top, .top, .top, .top, .top, .top, .top, .top, .top, .top, .top, .top, .top, .top, .top, .top, .top, .top, .top, .top, .top, .top, .top, .top, .top, .top, .top, .top, .top, .top, .top, .top, .top, .top, .top, .top, .top, .top, .top, .top, .top, .top, .top, .top, .top, .top, .top, .top, .top, .top, .top, .top, .top, .top, .top, .top, .top, .top, .top, .top, .top, .top, .top, .top, .top, .top, .top, .top, .top, .top, .top, .top, .top, .top, .top, .top, .top, .top, .top, .top], [], [none, none, none], 0⟩ (.shutR false (t := 2) rfl (.refl _)) rfl ?_
  refine ex_ord [] (l := [0, 1, 2, 3, 4, 5, 6, 7]) rfl ?_
  refine p_ 24 rfl rfl rfl rfl (.move rfl rfl) ?_
  refine p_ 25 rfl rfl rfl rfl (x_build rfl pl29 ze29 rfl rfl rfl rfl) ?_
  obtain ⟨v1, hv1, h⟩ := bindS h
  refine p_ 26 rfl rfl rfl rfl (x_callP rfl rfl en6 (ok_doc_Offset hv1) rfl rfl rfl rfl rfl) ?_
  refine p_ 23 rfl rfl rfl rfl (.move rfl rfl) ?_
  refine p_ 27 rfl rfl rfl rfl (.extract rfl rfl rfl rfl) ?_
  refine p_ 28 rfl rfl rfl rfl (.extract rfl rfl rfl rfl) ?_
  refine p_ 2 rfl rfl rfl rfl (.assign rfl rfl) ?_
  refine p_ 3 rfl rfl rfl rfl (.assign rfl rfl) ?_
  refine we_nil ?_
  refine ex_seq ?_
  refine ex_ord [5, 6] (l := [0, 1, 2, 3, 4, 5, 6, 7]) rfl ?_
  refine p_ 30 rfl rfl rfl rfl (.move rfl rfl) ?_
  obtain ⟨v2, hv2, h⟩ := bindS h
  refine p_ 31 rfl rfl rfl rfl (x_callP rfl rfl en9 (ok_doc_At hv2) rfl rfl rfl rfl rfl) ?_
  refine p_ 29 rfl rfl rfl rfl (.move rfl rfl) ?_
  refine p_ 32 rfl rfl rfl rfl (.extract rfl rfl rfl rfl) ?_
  refine p_ 33 rfl rfl rfl rfl (.extract rfl rfl rfl rfl) ?_
  refine e_ (d := .bx 0 0) 4 rfl rfl rfl rfl rfl (b' := [some [.int .i64 0, .int .i64 0]]) (r' := [none, none, none]) (.alloc rfl ze29) rfl ?_
  refine e0 rfl rfl rfl rfl rfl (b' := [some [.int .i64 v2.1.f_Line, .int .i64 v2.1.f_At]]) (r' := [none, none, none]) (.store rfl rfl rfl sz29 rfl rfl rfl) rfl ?_
  refine p_ 5 rfl rfl rfl rfl (.assign rfl rfl) ?_
  refine we_nil ?_
  refine ex_seq ?_
  refine ex_gst ⟨[.bool false, .sl false (List.map c_api_Line ([(T_api_Line.mk (0) ([]) (0) ([(T_api_Cell.mk (97) (0) ([]) : T_api_Cell), (T_api_Cell.mk (98) (0) ([]) : T_api_Cell)]) : T_api_Line), (T_api_Line.mk (0) ([]) (1) ([(T_api_Cell.mk (99) (0) ([]) : T_api_Cell)]) : T_api_Line)])), .int .i64 v1.1, .int .i64 v1.2, .cp [.int .i64 v2.1.f_Line, .int .i64 v2.1.f_At], .int .i64 v2.2, .top, .top, .top, .top, .top, .top, .top, .top, .top, .agg [.int .i32 97, .int .i64 0, .str (bs [])], .agg [.int .i32 98, .int .i64 0, .str (bs [])], .sl false (List.map c_api_Cell ([(T_api_Cell.mk (97) (0) ([]) : T_api_Cell), (T_api_Cell.mk (98) (0) ([]) : T_api_Cell)])), .agg [.int .i64 0, .sl false [], .int .i64 0, .sl false (List.map c_api_Cell ([(T_api_Cell.mk (97) (0) ([]) : T_api_Cell), (T_api_Cell.mk (98) (0) ([]) : T_api_Cell)]))], .agg [.int .i32 99, .int .i64 0, .str (bs [])], .sl false (List.map c_api_Cell ([(T_api_Cell.mk (99) (0) ([]) : T_api_Cell)])), .agg [.int .i64 0, .sl false [], .int .i64 1, .sl false (List.map c_api_Cell ([(T_api_Cell.mk (99) (0) ([]) : T_api_Cell)]))], .sl false (List.map c_api_Line ([(T_api_Line.mk (0) ([]) (0) ([(T_api_Cell.mk (97) (0) ([]) : T_api_Cell), (T_api_Cell.mk (98) (0) ([]) : T_api_Cell)]) : T_api_Line), (T_api_Line.mk (0) ([]) (1) ([(T_api_Cell.mk (99) (0) ([]) : T_api_Cell)]) : T_api_Line)])), .tup [.int .i64 v1.1, .int .i64 v1.2], .sl false (List.map c_api_Line ([(T_api_Line.mk (0) ([]) (0) ([(T_api_Cell.mk (97) (0) ([]) : T_api_Cell), (T_api_Cell.mk (98) (0) ([]) : T_api_Cell)]) : T_api_Line), (T_api_Line.mk (0) ([]) (1) ([(T_api_Cell.mk (99) (0) ([]) : T_api_Cell)]) : T_api_Line)])), .agg [.int .i64 1, .int .i64 0], .tup [.int .i64 v1.1, .int .i64 v1.2], .int .i64 v1.1, .int .i64 v1.2, .tup [.agg [.int .i64 v2.1.f_Line, .int .i64 v2.1.f_At], .int .i64 v2.2], .sl false (List.map c_api_Line ([(T_api_Line.mk (0) ([]) (0) ([(T_api_Cell.mk (97) (0) ([]) : T_api_Cell), (T_api_Cell.mk (98) (0) ([]) : T_api_Cell)]) : T_api_Line), (T_api_Line.mk (0) ([]) (1) ([(T_api_Cell.mk (99) (0) ([]) : T_api_Cell)]) : T_api_Line)])), .tup [.agg [.int .i64 v2.1.f_Line, .int .i64 v2.1.f_At], .int .i64 v2.2], .agg [.int .i64 v2.1.f_Line, .int .i64 v2.1.f_At], .int .i64 v2.2, .top, .top, .top, .top, .top, .top, .top, .top, .top, .top, .top, .top, .top, .top, .top, .top, .top, .top, .top, .top, .top, .top, .top, .top, .top, .top, .top, .top, .top, .top, .top, .top, .top, .top, .top, .top, .top, .top, .top, .top, .top, .top, .top, .top, .top, .top, .top, .top, .top, .top, .top, .top, .top, .top, .top, .top, .top, .top, .top, .top, .top, .top, .top, .top, .top, .top, .top, .top, .top, .top, .top, .top, .top, .top, .top, .top, .top, .top, .top, .top, .top, .top, .top, .top, .top, .top, .top, .top, .top, .top, .top, .top, .top], [none], [none, none, none], 0⟩ (.shutB (b := 0) rfl (fun d h => by simpa using List.all_eq_true.1 (rfl : List.all [.int .i64 v2.1.f_Line, .int .i64 v2.1.f_At] (fun d => !d.tok) = true) d h) (.refl _)) rfl ?_
  refine ex_ord [6, 7] (l := [0, 1, 2, 3, 4, 5, 6, 7, 8]) rfl ?_
  refine p_ 35 rfl rfl rfl rfl (.move rfl rfl) ?_
  refine p_ 36 rfl rfl rfl rfl (x_build rfl pl29 ze29 rfl rfl rfl rfl) ?_
  obtain ⟨v3, hv3, h⟩ := bindS h
  refine p_ 37 rfl rfl rfl rfl (x_callP rfl rfl en13 (ok_doc_Step hv3) rfl rfl rfl rfl rfl) ?_
  refine p_ 34 rfl rfl rfl rfl (.move rfl rfl) ?_
  refine p_ 38 rfl rfl rfl rfl (.extract rfl rfl rfl rfl) ?_
  refine p_ 39 rfl rfl rfl rfl (.extract rfl rfl rfl rfl) ?_
  refine e_ (d := .bx 1 0) 6 rfl rfl rfl rfl rfl (b' := [none, some [.int .i64 0, .int .i64 0]]) (r' := [none, none, none]) (.alloc rfl ze29) rfl ?_
  refine e0 rfl rfl rfl rfl rfl (b' := [none, some [.int .i64 v3.1.f_Line, .int .i64 v3.1.f_At]]) (r' := [none, none, none]) (.store rfl rfl rfl sz29 rfl rfl rfl) rfl ?_
  refine p_ 7 rfl rfl rfl rfl (.assign rfl rfl) ?_
  refine we_nil ?_
  refine ex_seq ?_
  refine ex_gst ⟨[.bool false, .sl false (List.map c_api_Line ([(T_api_Line.mk (0) ([]) (0) ([(T_api_Cell.mk (97) (0) ([]) : T_api_Cell), (T_api_Cell.mk (98) (0) ([]) : T_api_Cell)]) : T_api_Line), (T_api_Line.mk (0) ([]) (1) ([(T_api_Cell.mk (99) (0) ([]) : T_api_Cell)]) : T_api_Line)])), .int .i64 v1.1, .int .i64 v1.2, .cp [.int .i64 v2.1.f_Line, .int .i64 v2.1.f_At], .int .i64 v2.2, .cp [.int .i64 v3.1.f_Line, .int .i64 v3.1.f_At], .bool v3.2, .top, .top, .top, .top, .top, .top, .top, .agg [.int .i32 97, .int .i64 0, .str (bs [])], .agg [.int .i32 98, .int .i64 0, .str (bs [])], .sl false (List.map c_api_Cell ([(T_api_Cell.mk (97) (0) ([]) : T_api_Cell), (T_api_Cell.mk (98) (0) ([]) : T_api_Cell)])), .agg [.int .i64 0, .sl false [], .int .i64 0, .sl false (List.map c_api_Cell ([(T_api_Cell.mk (97) (0) ([]) : T_api_Cell), (T_api_Cell.mk (98) (0) ([]) : T_api_Cell)]))], .agg [.int .i32 99, .int .i64 0, .str (bs [])], .sl false (List.map c_api_Cell ([(T_api_Cell.mk (99) (0) ([]) : T_api_Cell)])), .agg [.int .i64 0, .sl false [], .int .i64 1, .sl false (List.map c_api_Cell ([(T_api_Cell.mk (99) (0) ([]) : T_api_Cell)]))], .sl false (List.map c_api_Line ([(T_api_Line.mk (0) ([]) (0) ([(T_api_Cell.mk (97) (0) ([]) : T_api_Cell), (T_api_Cell.mk (98) (0) ([]) : T_api_Cell)]) : T_api_Line), (T_api_Line.mk (0) ([]) (1) ([(T_api_Cell.mk (99) (0) ([]) : T_api_Cell)]) : T_api_Line)])), .tup [.int .i64 v1.1, .int .i64 v1.2], .sl false (List.map c_api_Line ([(T_api_Line.mk (0) ([]) (0) ([(T_api_Cell.mk (97) (0) ([]) : T_api_Cell), (T_api_Cell.mk (98) (0) ([]) : T_api_Cell)]) : T_api_Line), (T_api_Line.mk (0) ([]) (1) ([(T_api_Cell.mk (99) (0) ([]) : T_api_Cell)]) : T_api_Line)])), .agg [.int .i64 1, .int .i64 0], .tup [.int .i64 v1.1, .int .i64 v1.2], .int .i64 v1.1, .int .i64 v1.2, .tup [.agg [.int .i64 v2.1.f_Line, .int .i64 v2.1.f_At], .int .i64 v2.2], .sl false (List.map c_api_Line ([(T_api_Line.mk (0) ([]) (0) ([(T_api_Cell.mk (97) (0) ([]) : T_api_Cell), (T_api_Cell.mk (98) (0) ([]) : T_api_Cell)]) : T_api_Line), (T_api_Line.mk (0) ([]) (1) ([(T_api_Cell.mk (99) (0) ([]) : T_api_Cell)]) : T_api_Line)])), .tup [.agg [.int .i64 v2.1.f_Line, .int .i64 v2.1.f_At], .int .i64 v2.2], .agg [.int .i64 v2.1.f_Line, .int .i64 v2.1.f_At], .int .i64 v2.2, .tup [.agg [.int .i64 v3.1.f_Line, .int .i64 v3.1.f_At], .bool v3.2], .sl false (List.map c_api_Line ([(T_api_Line.mk (0) ([]) (0) ([(T_api_Cell.mk (97) (0) ([]) : T_api_Cell), (T_api_Cell.mk (98) (0) ([]) : T_api_Cell)]) : T_api_Line), (T_api_Line.mk (0) ([]) (1) ([(T_api_Cell.mk (99) (0) ([]) : T_api_Cell)]) : T_api_Line)])), .agg [.int .i64 0, .int .i64 1], .tup [.agg [.int .i64 v3.1.f_Line, .int .i64 v3.1.f_At], .bool v3.2], .agg [.int .i64 v3.1.f_Line, .int .i64 v3.1.f_At], .bool v3.2, .top, .top, .top, .top, .top, .top, .top, .top, .top, .top, .top, .top, .top, .top, .top, .top, .top, .top, .top, .top, .top, .top, .top, .top, .top, .top, .top, .top, .top, .top, .top, .top, .top, .top, .top, .top, .top, .top, .top, .top, .top, .top, .top, .top, .top, .top, .top, .top, .top, .top, .top, .top, .top, .top, .top, .top, .top, .top, .top, .top, .top, .top, .top, .top, .top, .top, .top, .top, .top, .top, .top, .top, .top, .top, .top, .top, .top, .top, .top, .top, .top, .top, .top, .top, .top, .top, .top], [none, none], [none, none, none], 0⟩ (.shutB (b := 1) rfl (fun d h => by simpa using List.all_eq_true.1 (rfl : List.all [.int .i64 v3.1.f_Line, .int .i64 v3.1.f_At] (fun d => !d.tok) = true) d h) (.refl _)) rfl ?_
  refine ex_ord [3] (l := [0, 1, 2, 3, 4, 5, 6, 7, 8]) rfl ?_
  refine p_ 41 rfl rfl rfl rfl (.move rfl rfl) ?_
  refine p_ 42 rfl rfl rfl rfl (x_build rfl pl29 ze29 rfl rfl rfl rfl) ?_
  refine p_ 43 rfl rfl rfl rfl (x_build rfl pl29 ze29 rfl rfl rfl rfl) ?_
  obtain ⟨v4, hv4, h⟩ := bindS h
  refine e_ (d := .tup [.own 3, .int .i64 v4.2]) 44 rfl rfl rfl rfl rfl (b' := [none, none]) (r' := [none, none, none, some ⟨45, 4, List.map c_api_Line v4.1⟩]) (x_call [] [] rfl rfl en15 (ok_doc_Delete hv4) rfl rfl rfl rfl rfl rfl rfl rfl rfl rfl rfl rfl rfl rfl) rfl ?_
  refine p_ 40 rfl rfl rfl rfl (.move rfl rfl) ?_
  refine p_ 45 rfl rfl rfl rfl (.extract rfl rfl rfl rfl) ?_
  refine p_ 46 rfl rfl rfl rfl (.extract rfl rfl rfl rfl) ?_
  refine p_ 8 rfl rfl rfl rfl (.assign rfl rfl) ?_
  refine p_ 9 rfl rfl rfl rfl (.assign rfl rfl) ?_
  refine we_nil ?_
  refine ex_seq ?_
  refine ex_ord [2, 7, 9] (l := [0, 1, 2, 3, 4, 5, 6, 7, 8, 9, 10]) rfl ?_
  refine p_ 48 rfl rfl rfl rfl (.move rfl rfl) ?_
  refine p_ 49 rfl rfl rfl rfl (x_build rfl pl29 ze29 rfl rfl rfl rfl) ?_
  obtain ⟨v5, hv5, h⟩ := bindS h
  refine e_ (d := .tup [.own 4, .agg [.int .i64 v5.2.1.f_Line, .int .i64 v5.2.1.f_At], .int .i64 v5.2.2]) 50 rfl rfl rfl rfl rfl (b' := [none, none]) (r' := [none, none, none, some ⟨45, 4, List.map c_api_Line v4.1⟩, some ⟨45, 4, List.map c_api_Line v5.1⟩]) (x_call [] [] rfl rfl en16 (ok_doc_Split hv5) rfl rfl rfl rfl rfl rfl rfl rfl rfl rfl rfl rfl rfl rfl) rfl ?_
  refine p_ 47 rfl rfl rfl rfl (.move rfl rfl) ?_
  refine p_ 51 rfl rfl rfl rfl (.extract rfl rfl rfl rfl) ?_
  refine p_ 52 rfl rfl rfl rfl (.extract rfl rfl rfl rfl) ?_
  refine p_ 53 rfl rfl rfl rfl (.extract rfl rfl rfl rfl) ?_
  refine e_ (d := .bx 2 0) 11 rfl rfl rfl rfl rfl (b' := [none, none, some [.int .i64 0, .int .i64 0]]) (r' := [none, none, none, some ⟨45, 4, List.map c_api_Line v4.1⟩, some ⟨45, 4, List.map c_api_Line v5.1⟩]) (.alloc rfl ze29) rfl ?_
  refine p_ 10 rfl rfl rfl rfl (.assign rfl rfl) ?_
  refine e0 rfl rfl rfl rfl rfl (b' := [none, none, some [.int .i64 v5.2.1.f_Line, .int .i64 v5.2.1.f_At]]) (r' := [none, none, none, some ⟨45, 4, List.map c_api_Line v4.1⟩, some ⟨45, 4, List.map c_api_Line v5.1⟩]) (.store rfl rfl rfl sz29 rfl rfl rfl) rfl ?_
  refine p_ 12 rfl rfl rfl rfl (.assign rfl rfl) ?_
  refine we_nil ?_
  refine ex_seq ?_
  refine ex_gst ⟨[.bool false, .sl false (List.map c_api_Line ([(T_api_Line.mk (0) ([]) (0) ([(T_api_Cell.mk (97) (0) ([]) : T_api_Cell), (T_api_Cell.mk (98) (0) ([]) : T_api_Cell)]) : T_api_Line), (T_api_Line.mk (0) ([]) (1) ([(T_api_Cell.mk (99) (0) ([]) : T_api_Cell)]) : T_api_Line)])), .int .i64 v1.1, .int .i64 v1.2, .cp [.int .i64 v2.1.f_Line, .int .i64 v2.1.f_At], .int .i64 v2.2, .cp [.int .i64 v3.1.f_Line, .int .i64 v3.1.f_At], .bool v3.2, .own 3, .int .i64 v4.2, .own 4, .cp [.int .i64 v5.2.1.f_Line, .int .i64 v5.2.1.f_At], .int .i64 v5.2.2, .top, .top, .agg [.int .i32 97, .int .i64 0, .str (bs [])], .agg [.int .i32 98, .int .i64 0, .str (bs [])], .sl false (List.map c_api_Cell ([(T_api_Cell.mk (97) (0) ([]) : T_api_Cell), (T_api_Cell.mk (98) (0) ([]) : T_api_Cell)])), .agg [.int .i64 0, .sl false [], .int .i64 0, .sl false (List.map c_api_Cell ([(T_api_Cell.mk (97) (0) ([]) : T_api_Cell), (T_api_Cell.mk (98) (0) ([]) : T_api_Cell)]))], .agg [.int .i32 99, .int .i64 0, .str (bs [])], .sl false (List.map c_api_Cell ([(T_api_Cell.mk (99) (0) ([]) : T_api_Cell)])), .agg [.int .i64 0, .sl false [], .int .i64 1, .sl false (List.map c_api_Cell ([(T_api_Cell.mk (99) (0) ([]) : T_api_Cell)]))], .sl false (List.map c_api_Line ([(T_api_Line.mk (0) ([]) (0) ([(T_api_Cell.mk (97) (0) ([]) : T_api_Cell), (T_api_Cell.mk (98) (0) ([]) : T_api_Cell)]) : T_api_Line), (T_api_Line.mk (0) ([]) (1) ([(T_api_Cell.mk (99) (0) ([]) : T_api_Cell)]) : T_api_Line)])), .tup [.int .i64 v1.1, .int .i64 v1.2], .sl false (List.map c_api_Line ([(T_api_Line.mk (0) ([]) (0) ([(T_api_Cell.mk (97) (0) ([]) : T_api_Cell), (T_api_Cell.mk (98) (0) ([]) : T_api_Cell)]) : T_api_Line), (T_api_Line.mk (0) ([]) (1) ([(T_api_Cell.mk (99) (0) ([]) : T_api_Cell)]) : T_api_Line)])), .agg [.int .i64 1, .int .i64 0], .tup [.int .i64 v1.1, .int .i64 v1.2], .int .i64 v1.1, .int .i64 v1.2, .tup [.agg [.int .i64 v2.1.f_Line, .int .i64 v2.1.f_At], .int .i64 v2.2], .sl false (List.map c_api_Line ([(T_api_Line.mk (0) ([]) (0) ([(T_api_Cell.mk (97) (0) ([]) : T_api_Cell), (T_api_Cell.mk (98) (0) ([]) : T_api_Cell)]) : T_api_Line), (T_api_Line.mk (0) ([]) (1) ([(T_api_Cell.mk (99) (0) ([]) : T_api_Cell)]) : T_api_Line)])), .tup [.agg [.int .i64 v2.1.f_Line, .int .i64 v2.1.f_At], .int .i64 v2.2], .agg [.int .i64 v2.1.f_Line, .int .i64 v2.1.f_At], .int .i64 v2.2, .tup [.agg [.int .i64 v3.1.f_Line, .int .i64 v3.1.f_At], .bool v3.2], .sl false (List.map c_api_Line ([(T_api_Line.mk (0) ([]) (0) ([(T_api_Cell.mk (97) (0) ([]) : T_api_Cell), (T_api_Cell.mk (98) (0) ([]) : T_api_Cell)]) : T_api_Line), (T_api_Line.mk (0) ([]) (1) ([(T_api_Cell.mk (99) (0) ([]) : T_api_Cell)]) : T_api_Line)])), .agg [.int .i64 0, .int .i64 1], .tup [.agg [.int .i64 v3.1.f_Line, .int .i64 v3.1.f_At], .bool v3.2], .agg [.int .i64 v3.1.f_Line, .int .i64 v3.1.f_At], .bool v3.2, .tup [.own 3, .int .i64 v4.2], .sl false (List.map c_api_Line ([(T_api_Line.mk (0) ([]) (0) ([(T_api_Cell.mk (97) (0) ([]) : T_api_Cell), (T_api_Cell.mk (98) (0) ([]) : T_api_Cell)]) : T_api_Line), (T_api_Line.mk (0) ([]) (1) ([(T_api_Cell.mk (99) (0) ([]) : T_api_Cell)]) : T_api_Line)])), .agg [.int .i64 0, .int .i64 1], .agg [.int .i64 1, .int .i64 0], .tup [.own 3, .int .i64 v4.2], .own 3, .int .i64 v4.2, .tup [.own 4, .agg [.int .i64 v5.2.1.f_Line, .int .i64 v5.2.1.f_At], .int .i64 v5.2.2], .sl false (List.map c_api_Line ([(T_api_Line.mk (0) ([]) (0) ([(T_api_Cell.mk (97) (0) ([]) : T_api_Cell), (T_api_Cell.mk (98) (0) ([]) : T_api_Cell)]) : T_api_Line), (T_api_Line.mk (0) ([]) (1) ([(T_api_Cell.mk (99) (0) ([]) : T_api_Cell)]) : T_api_Line)])), .agg [.int .i64 1, .int .i64 1], .tup [.own 4, .agg [.int .i64 v5.2.1.f_Line, .int .i64 v5.2.1.f_At], .int .i64 v5.2.2], .own 4, .agg [.int .i64 v5.2.1.f_Line, .int .i64 v5.2.1.f_At], .int .i64 v5.2.2, .top, .top, .top, .top, .top, .top, .top, .top, .top, .top, .top, .top, .top, .top, .top, .top, .top, .top, .top, .top, .top, .top, .top, .top, .top, .top, .top, .top, .top, .top, .top, .top, .top, .top, .top, .top, .top, .top, .top, .top, .top, .top, .top, .top, .top, .top, .top, .top, .top, .top, .top, .top, .top, .top, .top, .top, .top, .top, .top, .top, .top, .top, .top, .top, .top, .top, .top, .top, .top, .top, .top, .top, .top], [none, none, none], [none, none, none, some ⟨45, 4, List.map c_api_Line v4.1⟩, some ⟨45, 4, List.map c_api_Line v5.1⟩], 0⟩ (.shutB (b := 2) rfl (fun d h => by simpa using List.all_eq_true.1 (rfl : List.all [.int .i64 v5.2.1.f_Line, .int .i64 v5.2.1.f_At] (fun d => !d.tok) = true) d h) (.refl _)) rfl ?_
  refine ex_ord [3] (l := [0, 1, 2, 3, 4, 5, 6, 7, 8]) rfl ?_
  refine p_ 55 rfl rfl rfl rfl (.move rfl rfl) ?_
  refine p_ 56 rfl rfl rfl rfl (x_build rfl pl29 ze29 rfl rfl rfl rfl) ?_
  refine p_ 57 rfl rfl rfl rfl (x_build rfl pl29 ze29 rfl rfl rfl rfl) ?_
  obtain ⟨v6, hv6, h⟩ := bindS h
  refine e_ (d := .tup [.own 5, .int .i64 v6.2]) 58 rfl rfl rfl rfl rfl (b' := [none, none, none]) (r' := [none, none, none, some ⟨45, 4, List.map c_api_Line v4.1⟩, some ⟨45, 4, List.map c_api_Line v5.1⟩, some ⟨45, 4, List.map c_api_Line v6.1⟩]) (x_call [] [] rfl rfl en17 (ok_doc_Set hv6) rfl rfl rfl rfl rfl rfl rfl rfl rfl rfl rfl rfl rfl rfl) rfl ?_
  refine p_ 54 rfl rfl rfl rfl (.move rfl rfl) ?_
  refine p_ 59 rfl rfl rfl rfl (.extract rfl rfl rfl rfl) ?_
  refine p_ 60 rfl rfl rfl rfl (.extract rfl rfl rfl rfl) ?_
  refine p_ 13 rfl rfl rfl rfl (.assign rfl rfl) ?_
  refine p_ 14 rfl rfl rfl rfl (.assign rfl rfl) ?_
  refine we_nil ?_
  refine ex_seq ?_
  obtain ⟨q7, hq, h⟩ := bindS h
  refine ex_cut ⟨[.bool q7, .top, .top, .top, .top, .top, .top, .top, .top, .top, .top, .top, .top, .top, .top, .top, .top, .top, .top, .top, .top, .top, .top, .top, .top, .top, .top, .top, .top, .top, .top, .top, .top, .top, .top, .top, .top, .top, .top, .top, .top, .top, .top, .top, .top, .top, .top, .top, .top, .top, .top, .top, .top, .top, .top, .top, .top, .top, .top, .top, .top, .top, .top, .top, .top, .top, .top, .top, .top, .top, .top, .top, .top, .top, .top, .top, .top, .top, .top, .top, .top, .top, .top, .top, .top, .top, .top, .top, .top, .top, .top, .top, .top, .top, .top, .top, .top, .top, .top, .top, .top, .top, .top, .top, .top, .top, .top, .top, .top, .top, .top, .top, .top, .top, .top, .top, .top, .top, .top, .top, .top, .top, .top, .top, .top, .top, .top], [], [], 0⟩ ?_ ?_
  · clear h
    have h := hq
    clear hq
    refine ex_ord [] (l := [0, 1, 2, 3, 4, 5, 6, 7, 8, 9, 10, 11, 12, 13, 14, 15, 16, 17, 18, 19, 20, 21, 22, 23, 24, 25, 26, 27, 28, 29, 30, 31, 32, 33, 34, 35, 36, 37, 38, 39, 40, 41, 42, 43, 44, 45, 46, 47, 48, 49, 50, 51, 52, 53, 54, 55, 56, 57, 58, 59, 60, 61, 62, 63, 64, 65, 66]) rfl ?_
    refine p_ 61 rfl rfl rfl rfl (.move rfl rfl) ?_
    refine pif 62 rfl rfl rfl rfl (.bin rfl rfl rfl rfl) ?_ ?_
    · intro hc
      replace h := iteT h hc
      refine p_ 63 rfl rfl rfl rfl (.move rfl rfl) ?_
      refine p_ 64 rfl rfl rfl rfl (.move rfl rfl) ?_
      refine pif 65 rfl rfl rfl rfl (.bin rfl rfl rfl rfl) ?_ ?_
      · intro hc
        replace h := iteT h hc
        refine p_ 66 rfl rfl rfl rfl (x_pickT rfl rfl rfl rfl) ?_
        refine p_ 67 rfl rfl rfl rfl (.move rfl rfl) ?_
        refine p_ 68 rfl rfl rfl rfl (x_loadA rfl rfl rfl sz29 un29 ag29 rfl) ?_
        refine p_ 69 rfl rfl rfl rfl (x_build rfl pl29 ze29 rfl rfl rfl rfl) ?_
        refine pif 70 rfl rfl rfl rfl (x_eqG (b := ((v2.1.f_Line : Int) == 0) && (((v2.1.f_At : Int) == 2) && true)) rfl rfl rfl eq29 rfl (by simp only [List.all_cons, List.all_nil, bs_beq, id_eq])) ?_ ?_
        · intro hc
          replace h := iteT h hc
          refine p_ 71 rfl rfl rfl rfl (x_pickT rfl rfl rfl rfl) ?_
          refine p_ 72 rfl rfl rfl rfl (.move rfl rfl) ?_
          refine p_ 73 rfl rfl rfl rfl (.move rfl rfl) ?_
          refine pif 74 rfl rfl rfl rfl (.bin rfl rfl rfl rfl) ?_ ?_
          · intro hc
            replace h := iteT h hc
            refine p_ 75 rfl rfl rfl rfl (x_pickT rfl rfl rfl rfl) ?_
            refine p_ 76 rfl rfl rfl rfl (.move rfl rfl) ?_
            refine p_ 77 rfl rfl rfl rfl (x_loadA rfl rfl rfl sz29 un29 ag29 rfl) ?_
            refine p_ 78 rfl rfl rfl rfl (x_build rfl pl29 ze29 rfl rfl rfl rfl) ?_
            refine pif 79 rfl rfl rfl rfl (x_eqG (b := ((v3.1.f_Line : Int) == 0) && (((v3.1.f_At : Int) == 0) && true)) rfl rfl rfl eq29 rfl (by simp only [List.all_cons, List.all_nil, bs_beq, id_eq])) ?_ ?_
            · intro hc
              replace h := iteT h hc
              refine p_ 80 rfl rfl rfl rfl (x_pickT rfl rfl rfl rfl) ?_
              refine p_ 81 rfl rfl rfl rfl (.move rfl rfl) ?_
              refine pif 82 rfl rfl rfl rfl (.move rfl rfl) ?_ ?_
              · intro hc
                replace h := iteT h hc
                refine p_ 83 rfl rfl rfl rfl (.un rfl rfl rfl) ?_
                refine p_ 84 rfl rfl rfl rfl (x_pickT rfl rfl rfl rfl) ?_
                refine p_ 85 rfl rfl rfl rfl (.move rfl rfl) ?_
                refine k_ 86 rfl rfl rfl ?_
                refine k_ 87 rfl rfl rfl ?_
                refine p_ 88 rfl rfl rfl rfl (x_pickF rfl rfl rfl rfl) ?_
                refine p_ 89 rfl rfl rfl rfl (.move rfl rfl) ?_
                refine k_ 90 rfl rfl rfl ?_
                refine k_ 91 rfl rfl rfl ?_
                refine k_ 92 rfl rfl rfl ?_
                refine p_ 93 rfl rfl rfl rfl (x_pickF rfl rfl rfl rfl) ?_
                refine p_ 94 rfl rfl rfl rfl (.move rfl rfl) ?_
                refine k_ 95 rfl rfl rfl ?_
                refine k_ 96 rfl rfl rfl ?_
                refine k_ 97 rfl rfl rfl ?_
                refine k_ 98 rfl rfl rfl ?_
                refine k_ 99 rfl rfl rfl ?_
                refine k_ 100 rfl rfl rfl ?_
                refine p_ 101 rfl rfl rfl rfl (x_pickF rfl rfl rfl rfl) ?_
                refine p_ 102 rfl rfl rfl rfl (.move rfl rfl) ?_
                refine k_ 103 rfl rfl rfl ?_
                refine k_ 104 rfl rfl rfl ?_
                refine p_ 105 rfl rfl rfl rfl (x_pickF rfl rfl rfl rfl) ?_
                refine p_ 106 rfl rfl rfl rfl (.move rfl rfl) ?_
                refine k_ 107 rfl rfl rfl ?_
                refine k_ 108 rfl rfl rfl ?_
                refine k_ 109 rfl rfl rfl ?_
                refine p_ 110 rfl rfl rfl rfl (x_pickF rfl rfl rfl rfl) ?_
                refine p_ 111 rfl rfl rfl rfl (.move rfl rfl) ?_
                refine k_ 112 rfl rfl rfl ?_
                refine k_ 113 rfl rfl rfl ?_
                refine k_ 114 rfl rfl rfl ?_
                refine k_ 115 rfl rfl rfl ?_
                refine k_ 116 rfl rfl rfl ?_
                refine p_ 117 rfl rfl rfl rfl (x_pickF rfl rfl rfl rfl) ?_
                refine p_ 118 rfl rfl rfl rfl (.move rfl rfl) ?_
                refine k_ 119 rfl rfl rfl ?_
                refine k_ 120 rfl rfl rfl ?_
                refine k_ 121 rfl rfl rfl ?_
                refine p_ 122 rfl rfl rfl rfl (x_pickF rfl rfl rfl rfl) ?_
                refine p_ 123 rfl rfl rfl rfl (.move rfl rfl) ?_
                refine k_ 124 rfl rfl rfl ?_
                refine k_ 125 rfl rfl rfl ?_
                refine p_ 126 rfl rfl rfl rfl (x_pickF rfl rfl rfl rfl) ?_
                refine p_ 0 rfl rfl rfl rfl (.assign rfl rfl) ?_
                refine we_nil ?_
                cases h
                exact ⟨rfl, _, .re [true, false, false, false, false, false, false, false, false, false, false, false, false, false, false, false, false, false, false, false, false, false, false, false, false, false, false, false, false, false, false, false, false, false, false, false, false, false, false, false, false, false, false, false, false, false, false, false, false, false, false, false, false, false, false, false, false, false, false, false, false, false, false, false, false, false, false, false, false, false, false, false, false, false, false, false, false, false, false, false, false, false, false, false, false, false, false, false, false, false, false, false, false, false, false, false, false, false, false, false, false, false, false, false, false, false, false, false, false, false, false, false, false, false, false, false, false, false, false, false, false, false, false, false, false, false, false] [] [] rfl (.refl _), rfl⟩
              · intro hc
                replace h := iteF h hc
                refine p_ 83 rfl rfl rfl rfl (.un rfl rfl rfl) ?_
                refine p_ 84 rfl rfl rfl rfl (x_pickT rfl rfl rfl rfl) ?_
                refine p_ 85 rfl rfl rfl rfl (.move rfl rfl) ?_
                refine p_ 86 rfl rfl rfl rfl (.move rfl rfl) ?_
                refine pif 87 rfl rfl rfl rfl (.bin rfl rfl rfl rfl) ?_ ?_
                · intro hc
                  replace h := iteT h hc
                  refine p_ 88 rfl rfl rfl rfl (x_pickT rfl rfl rfl rfl) ?_
                  refine p_ 89 rfl rfl rfl rfl (.move rfl rfl) ?_
                  refine p_ 90 rfl rfl rfl rfl (.move rfl rfl) ?_
                  refine p_ 91 rfl rfl rfl rfl (x_len (f := c_api_Line) (l := v4.1) rfl rfl rfl el22) ?_
                  refine pif 92 rfl rfl rfl rfl (.bin rfl rfl rfl rfl) ?_ ?_
                  · intro hc
                    replace h := iteT h hc
                    refine p_ 93 rfl rfl rfl rfl (x_pickT rfl rfl rfl rfl) ?_
                    refine p_ 94 rfl rfl rfl rfl (.move rfl rfl) ?_
                    refine p_ 95 rfl rfl rfl rfl (.move rfl rfl) ?_
                    obtain ⟨v8, hv8, h⟩ := bindS h
                    refine p_ 96 rfl rfl rfl rfl (x_idxO (f := c_api_Line) (l := v4.1) rfl rfl rfl rfl rfl el22 sz45 hv8 rfl) ?_
                    refine p_ 97 rfl rfl rfl rfl (.fieldAddr rfl rfl rfl fl45u_3 rfl) ?_
                    obtain ⟨v9, hv9, h⟩ := bindS h
                    refine p_ 98 rfl rfl rfl rfl (x_load rfl rfl (at_ex (f := c_api_Line) (xs := v4.1) (c := [.int .i64 v9.f_Quote, .sl false (List.map c_i64 v9.f_Lists), .int .i64 v9.f_Kind, .sl false (List.map c_api_Cell v9.f_Cells)]) rfl rfl (getI_some hv9).2 rfl (Nat.le_of_ble_eq_true rfl)) sz42 un42 ag42 rfl) ?_
                    refine p_ 99 rfl rfl rfl rfl (x_len (f := c_api_Cell) (l := v9.f_Cells) rfl rfl rfl el42) ?_
                    refine pif 100 rfl rfl rfl rfl (.bin rfl rfl rfl rfl) ?_ ?_
                    · intro hc
                      replace h := iteT h hc
                      refine p_ 101 rfl rfl rfl rfl (x_pickT rfl rfl rfl rfl) ?_
                      refine p_ 102 rfl rfl rfl rfl (.move rfl rfl) ?_
                      refine p_ 103 rfl rfl rfl rfl (.move rfl rfl) ?_
                      refine pif 104 rfl rfl rfl rfl (.bin rfl rfl rfl rfl) ?_ ?_
                      · intro hc
                        replace h := iteT h hc
                        refine p_ 105 rfl rfl rfl rfl (x_pickT rfl rfl rfl rfl) ?_
                        refine p_ 106 rfl rfl rfl rfl (.move rfl rfl) ?_
                        refine p_ 107 rfl rfl rfl rfl (.move rfl rfl) ?_
                        refine p_ 108 rfl rfl rfl rfl (x_len (f := c_api_Line) (l := v5.1) rfl rfl rfl el22) ?_
                        refine pif 109 rfl rfl rfl rfl (.bin rfl rfl rfl rfl) ?_ ?_
                        · intro hc
                          replace h := iteT h hc
                          refine p_ 110 rfl rfl rfl rfl (x_pickT rfl rfl rfl rfl) ?_
                          refine p_ 111 rfl rfl rfl rfl (.move rfl rfl) ?_
                          refine p_ 112 rfl rfl rfl rfl (.move rfl rfl) ?_
                          obtain ⟨v10, hv10, h⟩ := bindS h
                          refine p_ 113 rfl rfl rfl rfl (x_idxO (f := c_api_Line) (l := v5.1) rfl rfl rfl rfl rfl el22 sz45 hv10 rfl) ?_
                          refine p_ 114 rfl rfl rfl rfl (.fieldAddr rfl rfl rfl fl45u_2 rfl) ?_
                          obtain ⟨v11, hv11, h⟩ := bindS h
                          refine p_ 115 rfl rfl rfl rfl (x_load rfl rfl (at_ex (f := c_api_Line) (xs := v5.1) (c := [.int .i64 v11.f_Quote, .sl false (List.map c_i64 v11.f_Lists), .int .i64 v11.f_Kind, .sl false (List.map c_api_Cell v11.f_Cells)]) rfl rfl (getI_some hv11).2 rfl (Nat.le_of_ble_eq_true rfl)) sz3 un3 ag3 rfl) ?_
                          refine pif 116 rfl rfl rfl rfl (.bin rfl rfl rfl rfl) ?_ ?_
                          · intro hc
                            replace h := iteT h hc
                            refine p_ 117 rfl rfl rfl rfl (x_pickT rfl rfl rfl rfl) ?_
                            refine p_ 118 rfl rfl rfl rfl (.move rfl rfl) ?_
                            refine p_ 119 rfl rfl rfl rfl (x_loadA rfl rfl rfl sz29 un29 ag29 rfl) ?_
                            refine p_ 120 rfl rfl rfl rfl (x_build rfl pl29 ze29 rfl rfl rfl rfl) ?_
                            refine pif 121 rfl rfl rfl rfl (x_eqG (b := ((v5.2.1.f_Line : Int) == 2) && (((v5.2.1.f_At : Int) == 0) && true)) rfl rfl rfl eq29 rfl (by simp only [List.all_cons, List.all_nil, bs_beq, id_eq])) ?_ ?_
                            · intro hc
                              replace h := iteT h hc
                              refine p_ 122 rfl rfl rfl rfl (x_pickT rfl rfl rfl rfl) ?_
                              refine p_ 123 rfl rfl rfl rfl (.move rfl rfl) ?_
                              refine p_ 124 rfl rfl rfl rfl (.move rfl rfl) ?_
                              refine p_ 125 rfl rfl rfl rfl (.bin rfl rfl rfl rfl) ?_
                              refine p_ 126 rfl rfl rfl rfl (x_pickT rfl rfl rfl rfl) ?_
                              refine p_ 0 rfl rfl rfl rfl (.assign rfl rfl) ?_
                              refine we_nil ?_
                              cases h
                              exact ⟨rfl, _, .re [true, false, false, false, false, false, false, false, false, false, false, false, false, false, false, false, false, false, false, false, false, false, false, false, false, false, false, false, false, false, false, false, false, false, false, false, false, false, false, false, false, false, false, false, false, false, false, false, false, false, false, false, false, false, false, false, false, false, false, false, false, false, false, false, false, false, false, false, false, false, false, false, false, false, false, false, false, false, false, false, false, false, false, false, false, false, false, false, false, false, false, false, false, false, false, false, false, false, false, false, false, false, false, false, false, false, false, false, false, false, false, false, false, false, false, false, false, false, false, false, false, false, false, false, false, false, false] [] [] rfl (.refl _), rfl⟩
                            · intro hc
                              replace h := iteF h hc
                              refine p_ 122 rfl rfl rfl rfl (x_pickT rfl rfl rfl rfl) ?_
                              refine p_ 123 rfl rfl rfl rfl (.move rfl rfl) ?_
                              refine k_ 124 rfl rfl rfl ?_
                              refine k_ 125 rfl rfl rfl ?_
                              refine p_ 126 rfl rfl rfl rfl (x_pickF rfl rfl rfl rfl) ?_
                              refine p_ 0 rfl rfl rfl rfl (.assign rfl rfl) ?_
                              refine we_nil ?_
                              cases h
                              exact ⟨rfl, _, .re [true, false, false, false, false, false, false, false, false, false, false, false, false, false, false, false, false, false, false, false, false, false, false, false, false, false, false, false, false, false, false, false, false, false, false, false, false, false, false, false, false, false, false, false, false, false, false, false, false, false, false, false, false, false, false, false, false, false, false, false, false, false, false, false, false, false, false, false, false, false, false, false, false, false, false, false, false, false, false, false, false, false, false, false, false, false, false, false, false, false, false, false, false, false, false, false, false, false, false, false, false, false, false, false, false, false, false, false, false, false, false, false, false, false, false, false, false, false, false, false, false, false, false, false, false, false, false] [] [] rfl (.refl _), rfl⟩
                          · intro hc
                            replace h := iteF h hc
                            refine p_ 117 rfl rfl rfl rfl (x_pickT rfl rfl rfl rfl) ?_
                            refine p_ 118 rfl rfl rfl rfl (.move rfl rfl) ?_
                            refine k_ 119 rfl rfl rfl ?_
                            refine k_ 120 rfl rfl rfl ?_
                            refine k_ 121 rfl rfl rfl ?_
                            refine p_ 122 rfl rfl rfl rfl (x_pickF rfl rfl rfl rfl) ?_
                            refine p_ 123 rfl rfl rfl rfl (.move rfl rfl) ?_
                            refine k_ 124 rfl rfl rfl ?_
                            refine k_ 125 rfl rfl rfl ?_
                            refine p_ 126 rfl rfl rfl rfl (x_pickF rfl rfl rfl rfl) ?_
                            refine p_ 0 rfl rfl rfl rfl (.assign rfl rfl) ?_
                            refine we_nil ?_
                            cases h
                            exact ⟨rfl, _, .re [true, false, false, false, false, false, false, false, false, false, false, false, false, false, false, false, false, false, false, false, false, false, false, false, false, false, false, false, false, false, false, false, false, false, false, false, false, false, false, false, false, false, false, false, false, false, false, false, false, false, false, false, false, false, false, false, false, false, false, false, false, false, false, false, false, false, false, false, false, false, false, false, false, false, false, false, false, false, false, false, false, false, false, false, false, false, false, false, false, false, false, false, false, false, false, false, false, false, false, false, false, false, false, false, false, false, false, false, false, false, false, false, false, false, false, false, false, false, false, false, false, false, false, false, false, false, false] [] [] rfl (.refl _), rfl⟩
                        · intro hc
                          replace h := iteF h hc
                          refine p_ 110 rfl rfl rfl rfl (x_pickT rfl rfl rfl rfl) ?_
                          refine p_ 111 rfl rfl rfl rfl (.move rfl rfl) ?_
                          refine k_ 112 rfl rfl rfl ?_
                          refine k_ 113 rfl rfl rfl ?_
                          refine k_ 114 rfl rfl rfl ?_
                          refine k_ 115 rfl rfl rfl ?_
                          refine k_ 116 rfl rfl rfl ?_
                          refine p_ 117 rfl rfl rfl rfl (x_pickF rfl rfl rfl rfl) ?_
                          refine p_ 118 rfl rfl rfl rfl (.move rfl rfl) ?_
                          refine k_ 119 rfl rfl rfl ?_
                          refine k_ 120 rfl rfl rfl ?_
                          refine k_ 121 rfl rfl rfl ?_
                          refine p_ 122 rfl rfl rfl rfl (x_pickF rfl rfl rfl rfl) ?_
                          refine p_ 123 rfl rfl rfl rfl (.move rfl rfl) ?_
                          refine k_ 124 rfl rfl rfl ?_
                          refine k_ 125 rfl rfl rfl ?_
                          refine p_ 126 rfl rfl rfl rfl (x_pickF rfl rfl rfl rfl) ?_
                          refine p_ 0 rfl rfl rfl rfl (.assign rfl rfl) ?_
                          refine we_nil ?_
                          cases h
                          exact ⟨rfl, _, .re [true, false, false, false, false, false, false, false, false, false, false, false, false, false, false, false, false, false, false, false, false, false, false, false, false, false, false, false, false, false, false, false, false, false, false, false, false, false, false, false, false, false, false, false, false, false, false, false, false, false, false, false, false, false, false, false, false, false, false, false, false, false, false, false, false, false, false, false, false, false, false, false, false, false, false, false, false, false, false, false, false, false, false, false, false, false, false, false, false, false, false, false, false, false, false, false, false, false, false, false, false, false, false, false, false, false, false, false, false, false, false, false, false, false, false, false, false, false, false, false, false, false, false, false, false, false, false] [] [] rfl (.refl _), rfl⟩
                      · intro hc
                        replace h := iteF h hc
                        refine p_ 105 rfl rfl rfl rfl (x_pickT rfl rfl rfl rfl) ?_
                        refine p_ 106 rfl rfl rfl rfl (.move rfl rfl) ?_
                        refine k_ 107 rfl rfl rfl ?_
                        refine k_ 108 rfl rfl rfl ?_
                        refine k_ 109 rfl rfl rfl ?_
                        refine p_ 110 rfl rfl rfl rfl (x_pickF rfl rfl rfl rfl) ?_
                        refine p_ 111 rfl rfl rfl rfl (.move rfl rfl) ?_
                        refine k_ 112 rfl rfl rfl ?_
                        refine k_ 113 rfl rfl rfl ?_
                        refine k_ 114 rfl rfl rfl ?_
                        refine k_ 115 rfl rfl rfl ?_
                        refine k_ 116 rfl rfl rfl ?_
                        refine p_ 117 rfl rfl rfl rfl (x_pickF rfl rfl rfl rfl) ?_
                        refine p_ 118 rfl rfl rfl rfl (.move rfl rfl) ?_
                        refine k_ 119 rfl rfl rfl ?_
                        refine k_ 120 rfl rfl rfl ?_
                        refine k_ 121 rfl rfl rfl ?_
                        refine p_ 122 rfl rfl rfl rfl (x_pickF rfl rfl rfl rfl) ?_
                        refine p_ 123 rfl rfl rfl rfl (.move rfl rfl) ?_
                        refine k_ 124 rfl rfl rfl ?_
                        refine k_ 125 rfl rfl rfl ?_
                        refine p_ 126 rfl rfl rfl rfl (x_pickF rfl rfl rfl rfl) ?_
                        refine p_ 0 rfl rfl rfl rfl (.assign rfl rfl) ?_
                        refine we_nil ?_
                        cases h
                        exact ⟨rfl, _, .re [true, false, false, false, false, false, false, false, false, false, false, false, false, false, false, false, false, false, false, false, false, false, false, false, false, false, false, false, false, false, false, false, false, false, false, false, false, false, false, false, false, false, false, false, false, false, false, false, false, false, false, false, false, false, false, false, false, false, false, false, false, false, false, false, false, false, false, false, false, false, false, false, false, false, false, false, false, false, false, false, false, false, false, false, false, false, false, false, false, false, false, false, false, false, false, false, false, false, false, false, false, false, false, false, false, false, false, false, false, false, false, false, false, false, false, false, false, false, false, false, false, false, false, false, false, false, false] [] [] rfl (.refl _), rfl⟩
                    · intro hc
                      replace h := iteF h hc
                      refine p_ 101 rfl rfl rfl rfl (x_pickT rfl rfl rfl rfl) ?_
                      refine p_ 102 rfl rfl rfl rfl (.move rfl rfl) ?_
                      refine k_ 103 rfl rfl rfl ?_
                      refine k_ 104 rfl rfl rfl ?_
                      refine p_ 105 rfl rfl rfl rfl (x_pickF rfl rfl rfl rfl) ?_
                      refine p_ 106 rfl rfl rfl rfl (.move rfl rfl) ?_
                      refine k_ 107 rfl rfl rfl ?_
                      refine k_ 108 rfl rfl rfl ?_
                      refine k_ 109 rfl rfl rfl ?_
                      refine p_ 110 rfl rfl rfl rfl (x_pickF rfl rfl rfl rfl) ?_
                      refine p_ 111 rfl rfl rfl rfl (.move rfl rfl) ?_
                      refine k_ 112 rfl rfl rfl ?_
                      refine k_ 113 rfl rfl rfl ?_
                      refine k_ 114 rfl rfl rfl ?_
                      refine k_ 115 rfl rfl rfl ?_
                      refine k_ 116 rfl rfl rfl ?_
                      refine p_ 117 rfl rfl rfl rfl (x_pickF rfl rfl rfl rfl) ?_
                      refine p_ 118 rfl rfl rfl rfl (.move rfl rfl) ?_
                      refine k_ 119 rfl rfl rfl ?_
                      refine k_ 120 rfl rfl rfl ?_
                      refine k_ 121 rfl rfl rfl ?_
                      refine p_ 122 rfl rfl rfl rfl (x_pickF rfl rfl rfl rfl) ?_
                      refine p_ 123 rfl rfl rfl rfl (.move rfl rfl) ?_
                      refine k_ 124 rfl rfl rfl ?_
                      refine k_ 125 rfl rfl rfl ?_
                      refine p_ 126 rfl rfl rfl rfl (x_pickF rfl rfl rfl rfl) ?_
                      refine p_ 0 rfl rfl rfl rfl (.assign rfl rfl) ?_
                      refine we_nil ?_
                      cases h
                      exact ⟨rfl, _, .re [true, false, false, false, false, false, false, false, false, false, false, false, false, false, false, false, false, false, false, false, false, false, false, false, false, false, false, false, false, false, false, false, false, false, false, false, false, false, false, false, false, false, false, false, false, false, false, false, false, false, false, false, false, false, false, false, false, false, false, false, false, false, false, false, false, false, false, false, false, false, false, false, false, false, false, false, false, false, false, false, false, false, false, false, false, false, false, false, false, false, false, false, false, false, false, false, false, false, false, false, false, false, false, false, false, false, false, false, false, false, false, false, false, false, false, false, false, false, false, false, false, false, false, false, false, false, false] [] [] rfl (.refl _), rfl⟩
                  · intro hc
                    replace h := iteF h hc
                    refine p_ 93 rfl rfl rfl rfl (x_pickT rfl rfl rfl rfl) ?_
                    refine p_ 94 rfl rfl rfl rfl (.move rfl rfl) ?_
                    refine k_ 95 rfl rfl rfl ?_
                    refine k_ 96 rfl rfl rfl ?_
                    refine k_ 97 rfl rfl rfl ?_
                    refine k_ 98 rfl rfl rfl ?_
                    refine k_ 99 rfl rfl rfl ?_
                    refine k_ 100 rfl rfl rfl ?_
                    refine p_ 101 rfl rfl rfl rfl (x_pickF rfl rfl rfl rfl) ?_
                    refine p_ 102 rfl rfl rfl rfl (.move rfl rfl) ?_
                    refine k_ 103 rfl rfl rfl ?_
                    refine k_ 104 rfl rfl rfl ?_
                    refine p_ 105 rfl rfl rfl rfl (x_pickF rfl rfl rfl rfl) ?_
                    refine p_ 106 rfl rfl rfl rfl (.move rfl rfl) ?_
                    refine k_ 107 rfl rfl rfl ?_
                    refine k_ 108 rfl rfl rfl ?_
                    refine k_ 109 rfl rfl rfl ?_
                    refine p_ 110 rfl rfl rfl rfl (x_pickF rfl rfl rfl rfl) ?_
                    refine p_ 111 rfl rfl rfl rfl (.move rfl rfl) ?_
                    refine k_ 112 rfl rfl rfl ?_
                    refine k_ 113 rfl rfl rfl ?_
                    refine k_ 114 rfl rfl rfl ?_
                    refine k_ 115 rfl rfl rfl ?_
                    refine k_ 116 rfl rfl rfl ?_
                    refine p_ 117 rfl rfl rfl rfl (x_pickF rfl rfl rfl rfl) ?_
                    refine p_ 118 rfl rfl rfl rfl (.move rfl rfl) ?_
                    refine k_ 119 rfl rfl rfl ?_
                    refine k_ 120 rfl rfl rfl ?_
                    refine k_ 121 rfl rfl rfl ?_
                    refine p_ 122 rfl rfl rfl rfl (x_pickF rfl rfl rfl rfl) ?_
                    refine p_ 123 rfl rfl rfl rfl (.move rfl rfl) ?_
                    refine k_ 124 rfl rfl rfl ?_
                    refine k_ 125 rfl rfl rfl ?_
                    refine p_ 126 rfl rfl rfl rfl (x_pickF rfl rfl rfl rfl) ?_
                    refine p_ 0 rfl rfl rfl rfl (.assign rfl rfl) ?_
                    refine we_nil ?_
                    cases h
                    exact ⟨rfl, _, .re [true, false, false, false, false, false, false, false, false, false, false, false, false, false, false, false, false, false, false, false, false, false, false, false, false, false, false, false, false, false, false, false, false, false, false, false, false, false, false, false, false, false, false, false, false, false, false, false, false, false, false, false, false, false, false, false, false, false, false, false, false, false, false, false, false, false, false, false, false, false, false, false, false, false, false, false, false, false, false, false, false, false, false, false, false, false, false, false, false, false, false, false, false, false, false, false, false, false, false, false, false, false, false, false, false, false, false, false, false, false, false, false, false, false, false, false, false, false, false, false, false, false, false, false, false, false, false] [] [] rfl (.refl _), rfl⟩
                · intro hc
                  replace h := iteF h hc
                  refine p_ 88 rfl rfl rfl rfl (x_pickT rfl rfl rfl rfl) ?_
                  refine p_ 89 rfl rfl rfl rfl (.move rfl rfl) ?_
                  refine k_ 90 rfl rfl rfl ?_
                  refine k_ 91 rfl rfl rfl ?_
                  refine k_ 92 rfl rfl rfl ?_
                  refine p_ 93 rfl rfl rfl rfl (x_pickF rfl rfl rfl rfl) ?_
                  refine p_ 94 rfl rfl rfl rfl (.move rfl rfl) ?_
                  refine k_ 95 rfl rfl rfl ?_
                  refine k_ 96 rfl rfl rfl ?_
                  refine k_ 97 rfl rfl rfl ?_
                  refine k_ 98 rfl rfl rfl ?_
                  refine k_ 99 rfl rfl rfl ?_
                  refine k_ 100 rfl rfl rfl ?_
                  refine p_ 101 rfl rfl rfl rfl (x_pickF rfl rfl rfl rfl) ?_
                  refine p_ 102 rfl rfl rfl rfl (.move rfl rfl) ?_
                  refine k_ 103 rfl rfl rfl ?_
                  refine k_ 104 rfl rfl rfl ?_
                  refine p_ 105 rfl rfl rfl rfl (x_pickF rfl rfl rfl rfl) ?_
                  refine p_ 106 rfl rfl rfl rfl (.move rfl rfl) ?_
                  refine k_ 107 rfl rfl rfl ?_
                  refine k_ 108 rfl rfl rfl ?_
                  refine k_ 109 rfl rfl rfl ?_
                  refine p_ 110 rfl rfl rfl rfl (x_pickF rfl rfl rfl rfl) ?_
                  refine p_ 111 rfl rfl rfl rfl (.move rfl rfl) ?_
                  refine k_ 112 rfl rfl rfl ?_
                  refine k_ 113 rfl rfl rfl ?_
                  refine k_ 114 rfl rfl rfl ?_
                  refine k_ 115 rfl rfl rfl ?_
                  refine k_ 116 rfl rfl rfl ?_
                  refine p_ 117 rfl rfl rfl rfl (x_pickF rfl rfl rfl rfl) ?_
                  refine p_ 118 rfl rfl rfl rfl (.move rfl rfl) ?_
                  refine k_ 119 rfl rfl rfl ?_
                  refine k_ 120 rfl rfl rfl ?_
                  refine k_ 121 rfl rfl rfl ?_
                  refine p_ 122 rfl rfl rfl rfl (x_pickF rfl rfl rfl rfl) ?_
                  refine p_ 123 rfl rfl rfl rfl (.move rfl rfl) ?_
                  refine k_ 124 rfl rfl rfl ?_
                  refine k_ 125 rfl rfl rfl ?_
                  refine p_ 126 rfl rfl rfl rfl (x_pickF rfl rfl rfl rfl) ?_
                  refine p_ 0 rfl rfl rfl rfl (.assign rfl rfl) ?_
                  refine we_nil ?_
                  cases h
                  exact ⟨rfl, _, .re [true, false, false, false, false, false, false, false, false, false, false, false, false, false, false, false, false, false, false, false, false, false, false, false, false, false, false, false, false, false, false, false, false, false, false, false, false, false, false, false, false, false, false, false, false, false, false, false, false, false, false, false, false, false, false, false, false, false, false, false, false, false, false, false, false, false, false, false, false, false, false, false, false, false, false, false, false, false, false, false, false, false, false, false, false, false, false, false, false, false, false, false, false, false, false, false, false, false, false, false, false, false, false, false, false, false, false, false, false, false, false, false, false, false, false, false, false, false, false, false, false, false, false, false, false, false, false] [] [] rfl (.refl _), rfl⟩
            · intro hc
              replace h := iteF h hc
              refine p_ 80 rfl rfl rfl rfl (x_pickT rfl rfl rfl rfl) ?_
              refine p_ 81 rfl rfl rfl rfl (.move rfl rfl) ?_
              refine k_ 82 rfl rfl rfl ?_
              refine k_ 83 rfl rfl rfl ?_
              refine p_ 84 rfl rfl rfl rfl (x_pickF rfl rfl rfl rfl) ?_
              refine p_ 85 rfl rfl rfl rfl (.move rfl rfl) ?_
              refine k_ 86 rfl rfl rfl ?_
              refine k_ 87 rfl rfl rfl ?_
              refine p_ 88 rfl rfl rfl rfl (x_pickF rfl rfl rfl rfl) ?_
              refine p_ 89 rfl rfl rfl rfl (.move rfl rfl) ?_
              refine k_ 90 rfl rfl rfl ?_
              refine k_ 91 rfl rfl rfl ?_
              refine k_ 92 rfl rfl rfl ?_
              refine p_ 93 rfl rfl rfl rfl (x_pickF rfl rfl rfl rfl) ?_
              refine p_ 94 rfl rfl rfl rfl (.move rfl rfl) ?_
              refine k_ 95 rfl rfl rfl ?_
              refine k_ 96 rfl rfl rfl ?_
              refine k_ 97 rfl rfl rfl ?_
              refine k_ 98 rfl rfl rfl ?_
              refine k_ 99 rfl rfl rfl ?_
              refine k_ 100 rfl rfl rfl ?_
              refine p_ 101 rfl rfl rfl rfl (x_pickF rfl rfl rfl rfl) ?_
              refine p_ 102 rfl rfl rfl rfl (.move rfl rfl) ?_
              refine k_ 103 rfl rfl rfl ?_
              refine k_ 104 rfl rfl rfl ?_
              refine p_ 105 rfl rfl rfl rfl (x_pickF rfl rfl rfl rfl) ?_
              refine p_ 106 rfl rfl rfl rfl (.move rfl rfl) ?_
              refine k_ 107 rfl rfl rfl ?_
              refine k_ 108 rfl rfl rfl ?_
              refine k_ 109 rfl rfl rfl ?_
              refine p_ 110 rfl rfl rfl rfl (x_pickF rfl rfl rfl rfl) ?_
              refine p_ 111 rfl rfl rfl rfl (.move rfl rfl) ?_
              refine k_ 112 rfl rfl rfl ?_
              refine k_ 113 rfl rfl rfl ?_
              refine k_ 114 rfl rfl rfl ?_
              refine k_ 115 rfl rfl rfl ?_
              refine k_ 116 rfl rfl rfl ?_
              refine p_ 117 rfl rfl rfl rfl (x_pickF rfl rfl rfl rfl) ?_
              refine p_ 118 rfl rfl rfl rfl (.move rfl rfl) ?_
              refine k_ 119 rfl rfl rfl ?_
              refine k_ 120 rfl rfl rfl ?_
              refine k_ 121 rfl rfl rfl ?_
              refine p_ 122 rfl rfl rfl rfl (x_pickF rfl rfl rfl rfl) ?_
              refine p_ 123 rfl rfl rfl rfl (.move rfl rfl) ?_
              refine k_ 124 rfl rfl rfl ?_
              refine k_ 125 rfl rfl rfl ?_
              refine p_ 126 rfl rfl rfl rfl (x_pickF rfl rfl rfl rfl) ?_
              refine p_ 0 rfl rfl rfl rfl (.assign rfl rfl) ?_
              refine we_nil ?_
              cases h
              exact ⟨rfl, _, .re [true, false, false, false, false, false, false, false, false, false, false, false, false, false, false, false, false, false, false, false, false, false, false, false, false, false, false, false, false, false, false, false, false, false, false, false, false, false, false, false, false, false, false, false, false, false, false, false, false, false, false, false, false, false, false, false, false, false, false, false, false, false, false, false, false, false, false, false, false, false, false, false, false, false, false, false, false, false, false, false, false, false, false, false, false, false, false, false, false, false, false, false, false, false, false, false, false, false, false, false, false, false, false, false, false, false, false, false, false, false, false, false, false, false, false, false, false, false, false, false, false, false, false, false, false, false, false] [] [] rfl (.refl _), rfl⟩
          · intro hc
            replace h := iteF h hc
            refine p_ 75 rfl rfl rfl rfl (x_pickT rfl rfl rfl rfl) ?_
            refine p_ 76 rfl rfl rfl rfl (.move rfl rfl) ?_
            refine k_ 77 rfl rfl rfl ?_
            refine k_ 78 rfl rfl rfl ?_
            refine k_ 79 rfl rfl rfl ?_
            refine p_ 80 rfl rfl rfl rfl (x_pickF rfl rfl rfl rfl) ?_
            refine p_ 81 rfl rfl rfl rfl (.move rfl rfl) ?_
            refine k_ 82 rfl rfl rfl ?_
            refine k_ 83 rfl rfl rfl ?_
            refine p_ 84 rfl rfl rfl rfl (x_pickF rfl rfl rfl rfl) ?_
            refine p_ 85 rfl rfl rfl rfl (.move rfl rfl) ?_
            refine k_ 86 rfl rfl rfl ?_
            refine k_ 87 rfl rfl rfl ?_
            refine p_ 88 rfl rfl rfl rfl (x_pickF rfl rfl rfl rfl) ?_
            refine p_ 89 rfl rfl rfl rfl (.move rfl rfl) ?_
            refine k_ 90 rfl rfl rfl ?_
            refine k_ 91 rfl rfl rfl ?_
            refine k_ 92 rfl rfl rfl ?_
            refine p_ 93 rfl rfl rfl rfl (x_pickF rfl rfl rfl rfl) ?_
            refine p_ 94 rfl rfl rfl rfl (.move rfl rfl) ?_
            refine k_ 95 rfl rfl rfl ?_
            refine k_ 96 rfl rfl rfl ?_
            refine k_ 97 rfl rfl rfl ?_
            refine k_ 98 rfl rfl rfl ?_
            refine k_ 99 rfl rfl rfl ?_
            refine k_ 100 rfl rfl rfl ?_
            refine p_ 101 rfl rfl rfl rfl (x_pickF rfl rfl rfl rfl) ?_
            refine p_ 102 rfl rfl rfl rfl (.move rfl rfl) ?_
            refine k_ 103 rfl rfl rfl ?_
            refine k_ 104 rfl rfl rfl ?_
            refine p_ 105 rfl rfl rfl rfl (x_pickF rfl rfl rfl rfl) ?_
            refine p_ 106 rfl rfl rfl rfl (.move rfl rfl) ?_
            refine k_ 107 rfl rfl rfl ?_
            refine k_ 108 rfl rfl rfl ?_
            refine k_ 109 rfl rfl rfl ?_
            refine p_ 110 rfl rfl rfl rfl (x_pickF rfl rfl rfl rfl) ?_
            refine p_ 111 rfl rfl rfl rfl (.move rfl rfl) ?_
            refine k_ 112 rfl rfl rfl ?_
            refine k_ 113 rfl rfl rfl ?_
            refine k_ 114 rfl rfl rfl ?_
            refine k_ 115 rfl rfl rfl ?_
            refine k_ 116 rfl rfl rfl ?_
            refine p_ 117 rfl rfl rfl rfl (x_pickF rfl rfl rfl rfl) ?_
            refine p_ 118 rfl rfl rfl rfl (.move rfl rfl) ?_
            refine k_ 119 rfl rfl rfl ?_
            refine k_ 120 rfl rfl rfl ?_
            refine k_ 121 rfl rfl rfl ?_
            refine p_ 122 rfl rfl rfl rfl (x_pickF rfl rfl rfl rfl) ?_
            refine p_ 123 rfl rfl rfl rfl (.move rfl rfl) ?_
            refine k_ 124 rfl rfl rfl ?_
            refine k_ 125 rfl rfl rfl ?_
            refine p_ 126 rfl rfl rfl rfl (x_pickF rfl rfl rfl rfl) ?_
            refine p_ 0 rfl rfl rfl rfl (.assign rfl rfl) ?_
            refine we_nil ?_
            cases h
            exact ⟨rfl, _, .re [true, false, false, false, false, false, false, false, false, false, false, false, false, false, false, false, false, false, false, false, false, false, false, false, false, false, false, false, false, false, false, false, false, false, false, false, false, false, false, false, false, false, false, false, false, false, false, false, false, false, false, false, false, false, false, false, false, false, false, false, false, false, false, false, false, false, false, false, false, false, false, false, false, false, false, false, false, false, false, false, false, false, false, false, false, false, false, false, false, false, false, false, false, false, false, false, false, false, false, false, false, false, false, false, false, false, false, false, false, false, false, false, false, false, false, false, false, false, false, false, false, false, false, false, false, false, false] [] [] rfl (.refl _), rfl⟩
        · intro hc
          replace h := iteF h hc
          refine p_ 71 rfl rfl rfl rfl (x_pickT rfl rfl rfl rfl) ?_
          refine p_ 72 rfl rfl rfl rfl (.move rfl rfl) ?_
          refine k_ 73 rfl rfl rfl ?_
          refine k_ 74 rfl rfl rfl ?_
          refine p_ 75 rfl rfl rfl rfl (x_pickF rfl rfl rfl rfl) ?_
          refine p_ 76 rfl rfl rfl rfl (.move rfl rfl) ?_
          refine k_ 77 rfl rfl rfl ?_
          refine k_ 78 rfl rfl rfl ?_
          refine k_ 79 rfl rfl rfl ?_
          refine p_ 80 rfl rfl rfl rfl (x_pickF rfl rfl rfl rfl) ?_
          refine p_ 81 rfl rfl rfl rfl (.move rfl rfl) ?_
          refine k_ 82 rfl rfl rfl ?_
          refine k_ 83 rfl rfl rfl ?_
          refine p_ 84 rfl rfl rfl rfl (x_pickF rfl rfl rfl rfl) ?_
          refine p_ 85 rfl rfl rfl rfl (.move rfl rfl) ?_
          refine k_ 86 rfl rfl rfl ?_
          refine k_ 87 rfl rfl rfl ?_
          refine p_ 88 rfl rfl rfl rfl (x_pickF rfl rfl rfl rfl) ?_
          refine p_ 89 rfl rfl rfl rfl (.move rfl rfl) ?_
          refine k_ 90 rfl rfl rfl ?_
          refine k_ 91 rfl rfl rfl ?_
          refine k_ 92 rfl rfl rfl ?_
          refine p_ 93 rfl rfl rfl rfl (x_pickF rfl rfl rfl rfl) ?_
          refine p_ 94 rfl rfl rfl rfl (.move rfl rfl) ?_
          refine k_ 95 rfl rfl rfl ?_
          refine k_ 96 rfl rfl rfl ?_
          refine k_ 97 rfl rfl rfl ?_
          refine k_ 98 rfl rfl rfl ?_
          refine k_ 99 rfl rfl rfl ?_
          refine k_ 100 rfl rfl rfl ?_
          refine p_ 101 rfl rfl rfl rfl (x_pickF rfl rfl rfl rfl) ?_
          refine p_ 102 rfl rfl rfl rfl (.move rfl rfl) ?_
          refine k_ 103 rfl rfl rfl ?_
          refine k_ 104 rfl rfl rfl ?_
          refine p_ 105 rfl rfl rfl rfl (x_pickF rfl rfl rfl rfl) ?_
          refine p_ 106 rfl rfl rfl rfl (.move rfl rfl) ?_
          refine k_ 107 rfl rfl rfl ?_
          refine k_ 108 rfl rfl rfl ?_
          refine k_ 109 rfl rfl rfl ?_
          refine p_ 110 rfl rfl rfl rfl (x_pickF rfl rfl rfl rfl) ?_
          refine p_ 111 rfl rfl rfl rfl (.move rfl rfl) ?_
          refine k_ 112 rfl rfl rfl ?_
          refine k_ 113 rfl rfl rfl ?_
          refine k_ 114 rfl rfl rfl ?_
          refine k_ 115 rfl rfl rfl ?_
          refine k_ 116 rfl rfl rfl ?_
          refine p_ 117 rfl rfl rfl rfl (x_pickF rfl rfl rfl rfl) ?_
          refine p_ 118 rfl rfl rfl rfl (.move rfl rfl) ?_
          refine k_ 119 rfl rfl rfl ?_
          refine k_ 120 rfl rfl rfl ?_
          refine k_ 121 rfl rfl rfl ?_
          refine p_ 122 rfl rfl rfl rfl (x_pickF rfl rfl rfl rfl) ?_
          refine p_ 123 rfl rfl rfl rfl (.move rfl rfl) ?_
          refine k_ 124 rfl rfl rfl ?_
          refine k_ 125 rfl rfl rfl ?_
          refine p_ 126 rfl rfl rfl rfl (x_pickF rfl rfl rfl rfl) ?_
          refine p_ 0 rfl rfl rfl rfl (.assign rfl rfl) ?_
          refine we_nil ?_
          cases h
          exact ⟨rfl, _, .re [true, false, false, false, false, false, false, false, false, false, false, false, false, false, false, false, false, false, false, false, false, false, false, false, false, false, false, false, false, false, false, false, false, false, false, false, false, false, false, false, false, false, false, false, false, false, false, false, false, false, false, false, false, false, false, false, false, false, false, false, false, false, false, false, false, false, false, false, false, false, false, false, false, false, false, false, false, false, false, false, false, false, false, false, false, false, false, false, false, false, false, false, false, false, false, false, false, false, false, false, false, false, false, false, false, false, false, false, false, false, false, false, false, false, false, false, false, false, false, false, false, false, false, false, false, false, false] [] [] rfl (.refl _), rfl⟩
      · intro hc
        replace h := iteF h hc
        refine p_ 66 rfl rfl rfl rfl (x_pickT rfl rfl rfl rfl) ?_
        refine p_ 67 rfl rfl rfl rfl (.move rfl rfl) ?_
        refine k_ 68 rfl rfl rfl ?_
        refine k_ 69 rfl rfl rfl ?_
        refine k_ 70 rfl rfl rfl ?_
        refine p_ 71 rfl rfl rfl rfl (x_pickF rfl rfl rfl rfl) ?_
        refine p_ 72 rfl rfl rfl rfl (.move rfl rfl) ?_
        refine k_ 73 rfl rfl rfl ?_
        refine k_ 74 rfl rfl rfl ?_
        refine p_ 75 rfl rfl rfl rfl (x_pickF rfl rfl rfl rfl) ?_
        refine p_ 76 rfl rfl rfl rfl (.move rfl rfl) ?_
        refine k_ 77 rfl rfl rfl ?_
        refine k_ 78 rfl rfl rfl ?_
        refine k_ 79 rfl rfl rfl ?_
        refine p_ 80 rfl rfl rfl rfl (x_pickF rfl rfl rfl rfl) ?_
        refine p_ 81 rfl rfl rfl rfl (.move rfl rfl) ?_
        refine k_ 82 rfl rfl rfl ?_
        refine k_ 83 rfl rfl rfl ?_
        refine p_ 84 rfl rfl rfl rfl (x_pickF rfl rfl rfl rfl) ?_
        refine p_ 85 rfl rfl rfl rfl (.move rfl rfl) ?_
        refine k_ 86 rfl rfl rfl ?_
        refine k_ 87 rfl rfl rfl ?_
        refine p_ 88 rfl rfl rfl rfl (x_pickF rfl rfl rfl rfl) ?_
        refine p_ 89 rfl rfl rfl rfl (.move rfl rfl) ?_
        refine k_ 90 rfl rfl rfl ?_
        refine k_ 91 rfl rfl rfl ?_
        refine k_ 92 rfl rfl rfl ?_
        refine p_ 93 rfl rfl rfl rfl (x_pickF rfl rfl rfl rfl) ?_
        refine p_ 94 rfl rfl rfl rfl (.move rfl rfl) ?_
        refine k_ 95 rfl rfl rfl ?_
        refine k_ 96 rfl rfl rfl ?_
        refine k_ 97 rfl rfl rfl ?_
        refine k_ 98 rfl rfl rfl ?_
        refine k_ 99 rfl rfl rfl ?_
        refine k_ 100 rfl rfl rfl ?_
        refine p_ 101 rfl rfl rfl rfl (x_pickF rfl rfl rfl rfl) ?_
        refine p_ 102 rfl rfl rfl rfl (.move rfl rfl) ?_
        refine k_ 103 rfl rfl rfl ?_
        refine k_ 104 rfl rfl rfl ?_
        refine p_ 105 rfl rfl rfl rfl (x_pickF rfl rfl rfl rfl) ?_
        refine p_ 106 rfl rfl rfl rfl (.move rfl rfl) ?_
        refine k_ 107 rfl rfl rfl ?_
        refine k_ 108 rfl rfl rfl ?_
        refine k_ 109 rfl rfl rfl ?_
        refine p_ 110 rfl rfl rfl rfl (x_pickF rfl rfl rfl rfl) ?_
        refine p_ 111 rfl rfl rfl rfl (.move rfl rfl) ?_
        refine k_ 112 rfl rfl rfl ?_
        refine k_ 113 rfl rfl rfl ?_
        refine k_ 114 rfl rfl rfl ?_
        refine k_ 115 rfl rfl rfl ?_
        refine k_ 116 rfl rfl rfl ?_
        refine p_ 117 rfl rfl rfl rfl (x_pickF rfl rfl rfl rfl) ?_
        refine p_ 118 rfl rfl rfl rfl (.move rfl rfl) ?_
        refine k_ 119 rfl rfl rfl ?_
        refine k_ 120 rfl rfl rfl ?_
        refine k_ 121 rfl rfl rfl ?_
        refine p_ 122 rfl rfl rfl rfl (x_pickF rfl rfl rfl rfl) ?_
        refine p_ 123 rfl rfl rfl rfl (.move rfl rfl) ?_
        refine k_ 124 rfl rfl rfl ?_
        refine k_ 125 rfl rfl rfl ?_
        refine p_ 126 rfl rfl rfl rfl (x_pickF rfl rfl rfl rfl) ?_
        refine p_ 0 rfl rfl rfl rfl (.assign rfl rfl) ?_
        refine we_nil ?_
        cases h
        exact ⟨rfl, _, .re [true, false, false, false, false, false, false, false, false, false, false, false, false, false, false, false, false, false, false, false, false, false, false, false, false, false, false, false, false, false, false, false, false, false, false, false, false, false, false, false, false, false, false, false, false, false, false, false, false, false, false, false, false, false, false, false, false, false, false, false, false, false, false, false, false, false, false, false, false, false, false, false, false, false, false, false, false, false, false, false, false, false, false, false, false, false, false, false, false, false, false, false, false, false, false, false, false, false, false, false, false, false, false, false, false, false, false, false, false, false, false, false, false, false, false, false, false, false, false, false, false, false, false, false, false, false, false] [] [] rfl (.refl _), rfl⟩
    · intro hc
      replace h := iteF h hc
      refine p_ 63 rfl rfl rfl rfl (.move rfl rfl) ?_
      refine k_ 64 rfl rfl rfl ?_
      refine k_ 65 rfl rfl rfl ?_
      refine p_ 66 rfl rfl rfl rfl (x_pickF rfl rfl rfl rfl) ?_
      refine p_ 67 rfl rfl rfl rfl (.move rfl rfl) ?_
      refine k_ 68 rfl rfl rfl ?_
      refine k_ 69 rfl rfl rfl ?_
      refine k_ 70 rfl rfl rfl ?_
      refine p_ 71 rfl rfl rfl rfl (x_pickF rfl rfl rfl rfl) ?_
      refine p_ 72 rfl rfl rfl rfl (.move rfl rfl) ?_
      refine k_ 73 rfl rfl rfl ?_
      refine k_ 74 rfl rfl rfl ?_
      refine p_ 75 rfl rfl rfl rfl (x_pickF rfl rfl rfl rfl) ?_
      refine p_ 76 rfl rfl rfl rfl (.move rfl rfl) ?_
      refine k_ 77 rfl rfl rfl ?_
      refine k_ 78 rfl rfl rfl ?_
      refine k_ 79 rfl rfl rfl ?_
      refine p_ 80 rfl rfl rfl rfl (x_pickF rfl rfl rfl rfl) ?_
      refine p_ 81 rfl rfl rfl rfl (.move rfl rfl) ?_
      refine k_ 82 rfl rfl rfl ?_
      refine k_ 83 rfl rfl rfl ?_
      refine p_ 84 rfl rfl rfl rfl (x_pickF rfl rfl rfl rfl) ?_
      refine p_ 85 rfl rfl rfl rfl (.move rfl rfl) ?_
      refine k_ 86 rfl rfl rfl ?_
      refine k_ 87 rfl rfl rfl ?_
      refine p_ 88 rfl rfl rfl rfl (x_pickF rfl rfl rfl rfl) ?_
      refine p_ 89 rfl rfl rfl rfl (.move rfl rfl) ?_
      refine k_ 90 rfl rfl rfl ?_
      refine k_ 91 rfl rfl rfl ?_
      refine k_ 92 rfl rfl rfl ?_
      refine p_ 93 rfl rfl rfl rfl (x_pickF rfl rfl rfl rfl) ?_
      refine p_ 94 rfl rfl rfl rfl (.move rfl rfl) ?_
      refine k_ 95 rfl rfl rfl ?_
      refine k_ 96 rfl rfl rfl ?_
      refine k_ 97 rfl rfl rfl ?_
      refine k_ 98 rfl rfl rfl ?_
      refine k_ 99 rfl rfl rfl ?_
      refine k_ 100 rfl rfl rfl ?_
      refine p_ 101 rfl rfl rfl rfl (x_pickF rfl rfl rfl rfl) ?_
      refine p_ 102 rfl rfl rfl rfl (.move rfl rfl) ?_
      refine k_ 103 rfl rfl rfl ?_
      refine k_ 104 rfl rfl rfl ?_
      refine p_ 105 rfl rfl rfl rfl (x_pickF rfl rfl rfl rfl) ?_
      refine p_ 106 rfl rfl rfl rfl (.move rfl rfl) ?_
      refine k_ 107 rfl rfl rfl ?_
      refine k_ 108 rfl rfl rfl ?_
      refine k_ 109 rfl rfl rfl ?_
      refine p_ 110 rfl rfl rfl rfl (x_pickF rfl rfl rfl rfl) ?_
      refine p_ 111 rfl rfl rfl rfl (.move rfl rfl) ?_
      refine k_ 112 rfl rfl rfl ?_
      refine k_ 113 rfl rfl rfl ?_
      refine k_ 114 rfl rfl rfl ?_
      refine k_ 115 rfl rfl rfl ?_
      refine k_ 116 rfl rfl rfl ?_
      refine p_ 117 rfl rfl rfl rfl (x_pickF rfl rfl rfl rfl) ?_
      refine p_ 118 rfl rfl rfl rfl (.move rfl rfl) ?_
      refine k_ 119 rfl rfl rfl ?_
      refine k_ 120 rfl rfl rfl ?_
      refine k_ 121 rfl rfl rfl ?_
      refine p_ 122 rfl rfl rfl rfl (x_pickF rfl rfl rfl rfl) ?_
      refine p_ 123 rfl rfl rfl rfl (.move rfl rfl) ?_
      refine k_ 124 rfl rfl rfl ?_
      refine k_ 125 rfl rfl rfl ?_
      refine p_ 126 rfl rfl rfl rfl (x_pickF rfl rfl rfl rfl) ?_
      refine p_ 0 rfl rfl rfl rfl (.assign rfl rfl) ?_
      refine we_nil ?_
      cases h
      exact ⟨rfl, _, .re [true, false, false, false, false, false, false, false, false, false, false, false, false, false, false, false, false, false, false, false, false, false, false, false, false, false, false, false, false, false, false, false, false, false, false, false, false, false, false, false, false, false, false, false, false, false, false, false, false, false, false, false, false, false, false, false, false, false, false, false, false, false, false, false, false, false, false, false, false, false, false, false, false, false, false, false, false, false, false, false, false, false, false, false, false, false, false, false, false, false, false, false, false, false, false, false, false, false, false, false, false, false, false, false, false, false, false, false, false, false, false, false, false, false, false, false, false, false, false, false, false, false, false, false, false, false, false] [] [] rfl (.refl _), rfl⟩
  · clear hq
    refine ex_ret ?_
    obtain rfl := Option.some.inj h
    exact finB (by first | exact .inr rfl | exact .inl rfl) (.refl _) [.bool q7] [] [] (res_cons (res_tmp rfl) res_nil) rfl rfl rfl rfl rfl rfl rfl
set_option maxHeartbeats 8000000 in
theorem ok_quillworklaw07u_DocSteps {r : Bool} {p0 : List (T_api_Line)} {p1 : Int} {p2 : Int} {p3 : Int} (h : quillworklaw07u_DocSteps p0 p1 p2 p3 = some r) : OkB prog 3 [.sl false (List.map c_api_Line p0), .int .i64 p1, .int .i64 p2, .int .i64 p3] [] [] (.bool r) [] [] := by
  unfold quillworklaw07u_DocSteps at h
  refine okB_of_exG func3 rfl rfl (s0 := [.sl false (List.map c_api_Line p0), .int .i64 p1, .int .i64 p2, .int .i64 p3, .top, .top, .top, .top, .top, .top, .top, .top, .top, .top, .top, .top, .top, .top, .top, .top, .top, .top, .top, .top, .top, .top, .top, .top, .top, .top, .top, .top, .top, .top, .top, .top, .top, .top, .top, .top, .top, .top, .top, .top, .top, .top, .top, .top, .top, .top, .top, .top, .top, .top, .top, .top, .top, .top, .top, .top, .top, .top, .top, .top, .top, .top, .top, .top, .top, .top, .top, .top, .top, .top, .top, .top, .top, .top, .top, .top, .top, .top, .top, .top, .top, .top, .top, .top, .top, .top, .top, .top, .top, .top, .top, .top, .top, .top, .top, .top, .top, .top, .top, .top, .top, .top, .top, .top, .top, .top, .top, .top, .top, .top, .top, .top, .top, .top, .top, .top, .top, .top, .top, .top, .top, .top, .top, .top, .top, .top, .top, .top, .top, .top, .top, .top, .top, .top, .top, .top, .top, .top, .top, .top, .top, .top, .top, .top, .top, .top, .top, .top, .top, .top, .top, .top, .top, .top, .top, .top, .top, .top, .top, .top, .top, .top, .top, .top, .top, .top, .top, .top, .top, .top, .top, .top, .top, .top, .top, .top, .top, .top, .top, .top, .top, .top, .top, .top, .top, .top, .top, .top, .top, .top]) (b0 := []) (r0 := []) rfl rfl rfl ?_
  show Ex _ _ _ ⟨[.sl false (List.map c_api_Line p0), .int .i64 p1, .int .i64 p2, .int .i64 p3, .top, .top, .top, .top, .top, .top, .top, .top, .top, .top, .top, .top, .top, .top, .top, .top, .top, .top, .top, .top, .top, .top, .top, .top, .top, .top, .top, .top, .top, .top, .top, .top, .top, .top, .top, .top, .top, .top, .top, .top, .top, .top, .top, .top, .top, .top, .top, .top, .top, .top, .top, .top, .top, .top, .top, .top, .top, .top, .top, .top, .top, .top, .top, .top, .top, .top, .top, .top, .top, .top, .top, .top, .top, .top, .top, .top, .top, .top, .top, .top, .top, .top, .top, .top, .top, .top, .top, .top, .top, .top, .top, .top, .top, .top, .top, .top, .top, .top, .top, .top, .top, .top, .top, .top, .top, .top, .top, .top, .top, .top, .top, .top, .top, .top, .top, .top, .top, .top, .top, .top, .top, .top, .top, .top, .top, .top, .top, .top, .top, .top, .top, .top, .top, .top, .top, .top, .top, .top, .top, .top, .top, .top, .top, .top, .top, .top, .top, .top, .top, .top, .top, .top, .top, .top, .top, .top, .top, .top, .top, .top, .top, .top, .top, .top, .top, .top, .top, .top, .top, .top, .top, .top, .top, .top, .top, .top, .top, .top, .top, .top, .top, .top, .top, .top, .top, .top, .top, .top, .top, .top], [], [], 0⟩ _
  refine ex_seq ?_
  refine ex_ord [] (l := [0]) rfl ?_
  refine p_ 8 rfl rfl rfl rfl (.assign rfl rfl) ?_
  refine we_nil ?_
  refine ex_seq ?_
  refine ex_seq ?_
  obtain ⟨q1, hq, h⟩ := bindS h
  refine ex_cut ⟨[.sl false (List.map c_api_Line p0), .int .i64 p1, .int .i64 p2, .int .i64 p3, .top, .top, .top, .top, .top, .top, .top, .top, .top, .top, .top, .top, .top, .top, .top, .top, .top, .top, .top, .top, .top, .top, .top, .top, .bool q1, .top, .top, .top, .top, .top, .top, .top, .top, .top, .top, .top, .top, .top, .top, .top, .top, .top, .top, .top, .top, .top, .top, .top, .top, .top, .top, .top, .top, .top, .top, .top, .top, .top, .top, .top, .top, .top, .top, .top, .top, .top, .top, .top, .top, .top, .top, .top, .top, .top, .top, .top, .top, .top, .top, .top, .top, .top, .top, .top, .top, .top, .top, .top, .top, .top, .top, .top, .top, .top, .top, .top, .top, .top, .top, .top, .top, .top, .top, .top, .top, .top, .top, .top, .top, .top, .top, .top, .top, .top, .top, .top, .top, .top, .top, .top, .top, .top, .top, .top, .top, .top, .top, .top, .top, .top, .top, .top, .top, .top, .top, .top, .top, .top, .top, .top, .top, .top, .top, .top, .top, .top, .top, .top, .top, .top, .top, .top, .top, .top, .top, .top, .top, .top, .top, .top, .top, .top, .top, .top, .top, .top, .top, .top, .top, .top, .top, .top, .top, .top, .top, .top, .top, .top, .top, .top, .top, .top, .top, .top, .top, .top, .top, .top, .top, .top], [], [], 0⟩ ?_ ?_
  · clear h
    have h := hq
    clear hq
    refine ex_ord [] (l := [0, 1, 2, 3, 4, 5, 6]) rfl ?_
    refine p_ 22 rfl rfl rfl rfl (.move rfl rfl) ?_
    obtain ⟨v2, hv2, h⟩ := bindS h
    refine pif 23 rfl rfl rfl rfl (x_callP rfl rfl en4 (ok_quillworklaw07u_long hv2) rfl rfl rfl rfl rfl) ?_ ?_
    · intro hc
      replace h := iteT h hc
      refine p_ 24 rfl rfl rfl rfl (.move rfl rfl) ?_
      refine k_ 25 rfl rfl rfl ?_
      refine k_ 26 rfl rfl rfl ?_
      refine k_ 27 rfl rfl rfl ?_
      refine p_ 28 rfl rfl rfl rfl (x_pickT rfl rfl rfl rfl) ?_
      refine we_nil ?_
      cases h
      exact ⟨rfl, _, .re [true, true, true, true, false, false, false, false, false, false, false, false, false, false, false, false, false, false, false, false, false, false, false, false, false, false, false, false, true, false, false, false, false, false, false, false, false, false, false, false, false, false, false, false, false, false, false, false, false, false, false, false, false, false, false, false, false, false, false, false, false, false, false, false, false, false, false, false, false, false, false, false, false, false, false, false, false, false, false, false, false, false, false, false, false, false, false, false, false, false, false, false, false, false, false, false, false, false, false, false, false, false, false, false, false, false, false, false, false, false, false, false, false, false, false, false, false, false, false, false, false, false, false, false, false, false, false, false, false, false, false, false, false, false, false, false, false, false, false, false, false, false, false, false, false, false, false, false, false, false, false, false, false, false, false, false, false, false, false, false, false, false, false, false, false, false, false, false, false, false, false, false, false, false, false, false, false, false, false, false, false, false, false, false, false, false, false, false, false, false, false, false, false, false] [] [] rfl (.refl _), rfl⟩
    · intro hc
      replace h := iteF h hc
      refine p_ 24 rfl rfl rfl rfl (.move rfl rfl) ?_
      refine p_ 25 rfl rfl rfl rfl (.move rfl rfl) ?_
      refine p_ 26 rfl rfl rfl rfl (x_len (f := c_api_Line) (l := p0) rfl rfl rfl el22) ?_
      refine p_ 27 rfl rfl rfl rfl (.bin rfl rfl rfl rfl) ?_
      refine p_ 28 rfl rfl rfl rfl (x_pickF rfl rfl rfl rfl) ?_
      refine we_nil ?_
      cases h
      exact ⟨rfl, _, .re [true, true, true, true, false, false, false, false, false, false, false, false, false, false, false, false, false, false, false, false, false, false, false, false, false, false, false, false, true, false, false, false, false, false, false, false, false, false, false, false, false, false, false, false, false, false, false, false, false, false, false, false, false, false, false, false, false, false, false, false, false, false, false, false, false, false, false, false, false, false, false, false, false, false, false, false, false, false, false, false, false, false, false, false, false, false, false, false, false, false, false, false, false, false, false, false, false, false, false, false, false, false, false, false, false, false, false, false, false, false, false, false, false, false, false, false, false, false, false, false, false, false, false, false, false, false, false, false, false, false, false, false, false, false, false, false, false, false, false, false, false, false, false, false, false, false, false, false, false, false, false, false, false, false, false, false, false, false, false, false, false, false, false, false, false, false, false, false, false, false, false, false, false, false, false, false, false, false, false, false, false, false, false, false, false, false, false, false, false, false, false, false, false, false] [] [] rfl (.refl _), rfl⟩
  · clear hq
    refine ex_if rfl ?_ ?_
    · intro hc
      replace h := iteT h hc
      refine ex_seq ?_
      refine ex_ord [] (l := [0, 1]) rfl ?_
      obtain ⟨v3, hv3, h⟩ := bindS h
      refine p_ 29 rfl rfl rfl rfl (x_callP rfl rfl en5 (ok_quillworklaw07u_awake hv3) rfl rfl rfl rfl rfl) ?_
      refine p_ 8 rfl rfl rfl rfl (.assign rfl rfl) ?_
      refine we_nil ?_
      refine ex_ret ?_
      obtain rfl := Option.some.inj h
      exact finB (by first | exact .inr rfl | exact .inl rfl) (.refl _) [.bool v3] [] [] (res_cons (res_tmp rfl) res_nil) rfl rfl rfl rfl rfl rfl rfl
    · intro hc
      replace h := iteF h hc
      refine ex_skip ?_
      refine ex_seq ?_
      refine ex_ord [] (l := [0, 1, 2, 3, 4, 5, 6, 7, 8]) rfl ?_
      refine p_ 31 rfl rfl rfl rfl (.move rfl rfl) ?_
      refine p_ 32 rfl rfl rfl rfl (.move rfl rfl) ?_
      obtain ⟨v4, hv4, h⟩ := bindS h
      refine p_ 33 rfl rfl rfl rfl (x_callP rfl rfl en7 (ok_doc_End hv4) rfl rfl rfl rfl rfl) ?_
      obtain ⟨v5, hv5, h⟩ := bindS h
      refine p_ 34 rfl rfl rfl rfl (x_callP rfl rfl en6 (ok_doc_Offset hv5) rfl rfl rfl rfl rfl) ?_
      refine p_ 30 rfl rfl rfl rfl (.move rfl rfl) ?_
      refine p_ 35 rfl rfl rfl rfl (.extract rfl rfl rfl rfl) ?_
      refine p_ 36 rfl rfl rfl rfl (.extract rfl rfl rfl rfl) ?_
      refine p_ 9 rfl rfl rfl rfl (.assign rfl rfl) ?_
      refine p_ 10 rfl rfl rfl rfl (.assign rfl rfl) ?_
      refine we_nil ?_
      refine ex_seq ?_
      refine ex_seq ?_
      obtain ⟨q6, hq, h⟩ := bindS h
      refine ex_cut ⟨[.sl false (List.map c_api_Line p0), .int .i64 p1, .int .i64 p2, .int .i64 p3, .top, .top, .top, .top, .top, .int .i64 v5.1, .top, .top, .top, .top, .top, .top, .top, .top, .top, .top, .top, .top, .top, .top, .top, .top, .top, .top, .top, .top, .top, .top, .top, .top, .top, .top, .top, .top, .top, .top, .top, .top, .top, .top, .top, .top, .top, .top, .bool q6, .top, .top, .top, .top, .top, .top, .top, .top, .top, .top, .top, .top, .top, .top, .top, .top, .top, .top, .top, .top, .top, .top, .top, .top, .top, .top, .top, .top, .top, .top, .top, .top, .top, .top, .top, .top, .top, .top, .top, .top, .top, .top, .top, .top, .top, .top, .top, .top, .top, .top, .top, .top, .top, .top, .top, .top, .top, .top, .top, .top, .top, .top, .top, .top, .top, .top, .top, .top, .top, .top, .top, .top, .top, .top, .top, .top, .top, .top, .top, .top, .top, .top, .top, .top, .top, .top, .top, .top, .top, .top, .top, .top, .top, .top, .top, .top, .top, .top, .top, .top, .top, .top, .top, .top, .top, .top, .top, .top, .top, .top, .top, .top, .top, .top, .top, .top, .top, .top, .top, .top, .top, .top, .top, .top, .top, .top, .top, .top, .top, .top, .top, .top, .top, .top, .top, .top, .top, .top, .top, .top, .top, .top, .top, .top, .top], [], [], 0⟩ ?_ ?_
      · clear h
        have h := hq
        clear hq
        refine ex_ord [] (l := [0, 1, 2, 3, 4, 5, 6, 7, 8, 9, 10, 11]) rfl ?_
        refine p_ 37 rfl rfl rfl rfl (.move rfl rfl) ?_
        refine pif 38 rfl rfl rfl rfl (.bin rfl rfl rfl rfl) ?_ ?_
        · intro hc
          replace h := iteT h hc
          refine p_ 39 rfl rfl rfl rfl (.move rfl rfl) ?_
          refine k_ 40 rfl rfl rfl ?_
          refine k_ 41 rfl rfl rfl ?_
          refine k_ 42 rfl rfl rfl ?_
          refine k_ 43 rfl rfl rfl ?_
          refine k_ 44 rfl rfl rfl ?_
          refine k_ 45 rfl rfl rfl ?_
          refine k_ 46 rfl rfl rfl ?_
          refine k_ 47 rfl rfl rfl ?_
          refine p_ 48 rfl rfl rfl rfl (x_pickT rfl rfl rfl rfl) ?_
          refine we_nil ?_
          cases h
          exact ⟨rfl, _, .re [true, true, true, true, false, false, false, false, false, true, false, false, false, false, false, false, false, false, false, false, false, false, false, false, false, false, false, false, false, false, false, false, false, false, false, false, false, false, false, false, false, false, false, false, false, false, false, false, true, false, false, false, false, false, false, false, false, false, false, false, false, false, false, false, false, false, false, false, false, false, false, false, false, false, false, false, false, false, false, false, false, false, false, false, false, false, false, false, false, false, false, false, false, false, false, false, false, false, false, false, false, false, false, false, false, false, false, false, false, false, false, false, false, false, false, false, false, false, false, false, false, false, false, false, false, false, false, false, false, false, false, false, false, false, false, false, false, false, false, false, false, false, false, false, false, false, false, false, false, false, false, false, false, false, false, false, false, false, false, false, false, false, false, false, false, false, false, false, false, false, false, false, false, false, false, false, false, false, false, false, false, false, false, false, false, false, false, false, false, false, false, false, false, false] [] [] rfl (.refl _), rfl⟩
        · intro hc
          replace h := iteF h hc
          refine p_ 39 rfl rfl rfl rfl (.move rfl rfl) ?_
          refine p_ 40 rfl rfl rfl rfl (.move rfl rfl) ?_
          refine p_ 41 rfl rfl rfl rfl (.move rfl rfl) ?_
          obtain ⟨v7, hv7, h⟩ := bindS h
          refine p_ 42 rfl rfl rfl rfl (x_callP rfl rfl en8 (ok_doc_Size hv7) rfl rfl rfl rfl rfl) ?_
          refine p_ 43 rfl rfl rfl rfl (.move rfl rfl) ?_
          refine p_ 44 rfl rfl rfl rfl (x_len (f := c_api_Line) (l := p0) rfl rfl rfl el22) ?_
          refine p_ 45 rfl rfl rfl rfl (.bin rfl rfl rfl rfl) ?_
          refine p_ 46 rfl rfl rfl rfl (.bin rfl rfl rfl rfl) ?_
          refine p_ 47 rfl rfl rfl rfl (.bin rfl rfl rfl rfl) ?_
          refine p_ 48 rfl rfl rfl rfl (x_pickF rfl rfl rfl rfl) ?_
          refine we_nil ?_
          cases h
          exact ⟨rfl, _, .re [true, true, true, true, false, false, false, false, false, true, false, false, false, false, false, false, false, false, false, false, false, false, false, false, false, false, false, false, false, false, false, false, false, false, false, false, false, false, false, false, false, false, false, false, false, false, false, false, true, false, false, false, false, false, false, false, false, false, false, false, false, false, false, false, false, false, false, false, false, false, false, false, false, false, false, false, false, false, false, false, false, false, false, false, false, false, false, false, false, false, false, false, false, false, false, false, false, false, false, false, false, false, false, false, false, false, false, false, false, false, false, false, false, false, false, false, false, false, false, false, false, false, false, false, false, false, false, false, false, false, false, false, false, false, false, false, false, false, false, false, false, false, false, false, false, false, false, false, false, false, false, false, false, false, false, false, false, false, false, false, false, false, false, false, false, false, false, false, false, false, false, false, false, false, false, false, false, false, false, false, false, false, false, false, false, false, false, false, false, false, false, false, false, false] [] [] rfl (.refl _), rfl⟩
      · clear hq
        refine ex_if rfl ?_ ?_
        · intro hc
          replace h := iteT h hc
          refine ex_seq ?_
          refine ex_ord [] (l := [0]) rfl ?_
          refine p_ 8 rfl rfl rfl rfl (.assign rfl rfl) ?_
          refine we_nil ?_
          refine ex_ret ?_
          obtain rfl := Option.some.inj h
          exact finB (by first | exact .inr rfl | exact .inl rfl) (.refl _) [.bool false] [] [] (res_cons (res_tmp rfl) res_nil) rfl rfl rfl rfl rfl rfl rfl
        · intro hc
          replace h := iteF h hc
          refine ex_skip ?_
          refine ex_seq ?_
          refine ex_ord [] (l := [0, 1, 2, 3, 4, 5]) rfl ?_
          refine p_ 49 rfl rfl rfl rfl (.move rfl rfl) ?_
          refine p_ 50 rfl rfl rfl rfl (.bin rfl rfl rfl rfl) ?_
          refine p_ 51 rfl rfl rfl rfl (.move rfl rfl) ?_
          refine p_ 52 rfl rfl rfl rfl (.bin rfl rfl rfl rfl) ?_
          obtain ⟨v8, hv8, h⟩ := bindS h
          refine p_ 53 rfl rfl rfl rfl (x_rem rfl rfl rfl hv8) ?_
          refine p_ 1 rfl rfl rfl rfl (.assign rfl rfl) ?_
          refine we_nil ?_
          refine ex_seq ?_
          refine ex_ord [] (l := [0, 1, 2, 3, 4, 5]) rfl ?_
          refine p_ 54 rfl rfl rfl rfl (.move rfl rfl) ?_
          refine p_ 55 rfl rfl rfl rfl (.bin rfl rfl rfl rfl) ?_
          refine p_ 56 rfl rfl rfl rfl (.move rfl rfl) ?_
          refine p_ 57 rfl rfl rfl rfl (.bin rfl rfl rfl rfl) ?_
          obtain ⟨v9, hv9, h⟩ := bindS h
          refine p_ 58 rfl rfl rfl rfl (x_rem rfl rfl rfl hv9) ?_
          refine p_ 2 rfl rfl rfl rfl (.assign rfl rfl) ?_
          refine we_nil ?_
          refine ex_seq ?_
          refine ex_ord [6, 7] (l := [0, 1, 2, 3, 4, 5, 6, 7, 8]) rfl ?_
          refine p_ 60 rfl rfl rfl rfl (.move rfl rfl) ?_
          refine p_ 61 rfl rfl rfl rfl (.move rfl rfl) ?_
          obtain ⟨v10, hv10, h⟩ := bindS h
          refine p_ 62 rfl rfl rfl rfl (x_callP rfl rfl en9 (ok_doc_At hv10) rfl rfl rfl rfl rfl) ?_
          refine p_ 59 rfl rfl rfl rfl (.move rfl rfl) ?_
          refine p_ 63 rfl rfl rfl rfl (.extract rfl rfl rfl rfl) ?_
          refine p_ 64 rfl rfl rfl rfl (.extract rfl rfl rfl rfl) ?_
          refine e_ (d := .bx 0 0) 11 rfl rfl rfl rfl rfl (b' := [some [.int .i64 0, .int .i64 0]]) (r' := []) (.alloc rfl ze29) rfl ?_
          refine e0 rfl rfl rfl rfl rfl (b' := [some [.int .i64 v10.1.f_Line, .int .i64 v10.1.f_At]]) (r' := []) (.store rfl rfl rfl sz29 rfl rfl rfl) rfl ?_
          refine p_ 10 rfl rfl rfl rfl (.assign rfl rfl) ?_
          refine we_nil ?_
          refine ex_seq ?_
          refine ex_gst ⟨[.sl false (List.map c_api_Line p0), .int .i64 v8, .int .i64 v9, .int .i64 p3, .top, .top, .top, .top, .top, .int .i64 v5.1, .int .i64 v10.2, .cp [.int .i64 v10.1.f_Line, .int .i64 v10.1.f_At], .top, .top, .top, .top, .top, .top, .top, .top, .top, .top, .top, .top, .top, .top, .top, .top, .top, .top, .top, .top, .top, .top, .top, .top, .top, .top, .top, .top, .top, .top, .top, .top, .top, .top, .top, .top, .bool q6, .int .i64 p1, .int .i64 (bit_and .i64 p1 16777215), .int .i64 v5.1, .int .i64 (IntKind.wrap .i64 (v5.1 + 1)), .int .i64 v8, .int .i64 p2, .int .i64 (bit_and .i64 p2 16777215), .int .i64 v5.1, .int .i64 (IntKind.wrap .i64 (v5.1 + 1)), .int .i64 v9, .tup [.agg [.int .i64 v10.1.f_Line, .int .i64 v10.1.f_At], .int .i64 v10.2], .sl false (List.map c_api_Line p0), .int .i64 v8, .tup [.agg [.int .i64 v10.1.f_Line, .int .i64 v10.1.f_At], .int .i64 v10.2], .agg [.int .i64 v10.1.f_Line, .int .i64 v10.1.f_At], .int .i64 v10.2, .top, .top, .top, .top, .top, .top, .top, .top, .top, .top, .top, .top, .top, .top, .top, .top, .top, .top, .top, .top, .top, .top, .top, .top, .top, .top, .top, .top, .top, .top, .top, .top, .top, .top, .top, .top, .top, .top, .top, .top, .top, .top, .top, .top, .top, .top, .top, .top, .top, .top, .top, .top, .top, .top, .top, .top, .top, .top, .top, .top, .top, .top, .top, .top, .top, .top, .top, .top, .top, .top, .top, .top, .top, .top, .top, .top, .top, .top, .top, .top, .top, .top, .top, .top, .top, .top, .top, .top, .top, .top, .top, .top, .top, .top, .top, .top, .top, .top, .top, .top, .top, .top, .top, .top, .top, .top, .top, .top, .top, .top, .top, .top, .top, .top, .top, .top, .top, .top, .top, .top, .top, .top, .top, .top, .top, .top, .top, .top, .top], [none], [], 0⟩ (.shutB (b := 0) rfl (fun d h => by simpa using List.all_eq_true.1 (rfl : List.all [.int .i64 v10.1.f_Line, .int .i64 v10.1.f_At] (fun d => !d.tok) = true) d h) (.refl _)) rfl ?_
          refine ex_ord [6, 7] (l := [0, 1, 2, 3, 4, 5, 6, 7, 8]) rfl ?_
          refine p_ 66 rfl rfl rfl rfl (.move rfl rfl) ?_
          refine p_ 67 rfl rfl rfl rfl (.move rfl rfl) ?_
          obtain ⟨v11, hv11, h⟩ := bindS h
          refine p_ 68 rfl rfl rfl rfl (x_callP rfl rfl en9 (ok_doc_At hv11) rfl rfl rfl rfl rfl) ?_
          refine p_ 65 rfl rfl rfl rfl (.move rfl rfl) ?_
          refine p_ 69 rfl rfl rfl rfl (.extract rfl rfl rfl rfl) ?_
          refine p_ 70 rfl rfl rfl rfl (.extract rfl rfl rfl rfl) ?_
          refine e_ (d := .bx 1 0) 12 rfl rfl rfl rfl rfl (b' := [none, some [.int .i64 0, .int .i64 0]]) (r' := []) (.alloc rfl ze29) rfl ?_
          refine e0 rfl rfl rfl rfl rfl (b' := [none, some [.int .i64 v11.1.f_Line, .int .i64 v11.1.f_At]]) (r' := []) (.store rfl rfl rfl sz29 rfl rfl rfl) rfl ?_
          refine p_ 13 rfl rfl rfl rfl (.assign rfl rfl) ?_
          refine we_nil ?_
          refine ex_seq ?_
          refine ex_gst ⟨[.sl false (List.map c_api_Line p0), .int .i64 v8, .int .i64 v9, .int .i64 p3, .top, .top, .top, .top, .top, .int .i64 v5.1, .int .i64 v10.2, .cp [.int .i64 v10.1.f_Line, .int .i64 v10.1.f_At], .cp [.int .i64 v11.1.f_Line, .int .i64 v11.1.f_At], .int .i64 v11.2, .top, .top, .top, .top, .top, .top, .top, .top, .top, .top, .top, .top, .top, .top, .top, .top, .top, .top, .top, .top, .top, .top, .top, .top, .top, .top, .top, .top, .top, .top, .top, .top, .top, .top, .bool q6, .int .i64 p1, .int .i64 (bit_and .i64 p1 16777215), .int .i64 v5.1, .int .i64 (IntKind.wrap .i64 (v5.1 + 1)), .int .i64 v8, .int .i64 p2, .int .i64 (bit_and .i64 p2 16777215), .int .i64 v5.1, .int .i64 (IntKind.wrap .i64 (v5.1 + 1)), .int .i64 v9, .tup [.agg [.int .i64 v10.1.f_Line, .int .i64 v10.1.f_At], .int .i64 v10.2], .sl false (List.map c_api_Line p0), .int .i64 v8, .tup [.agg [.int .i64 v10.1.f_Line, .int .i64 v10.1.f_At], .int .i64 v10.2], .agg [.int .i64 v10.1.f_Line, .int .i64 v10.1.f_At], .int .i64 v10.2, .tup [.agg [.int .i64 v11.1.f_Line, .int .i64 v11.1.f_At], .int .i64 v11.2], .sl false (List.map c_api_Line p0), .int .i64 v9, .tup [.agg [.int .i64 v11.1.f_Line, .int .i64 v11.1.f_At], .int .i64 v11.2], .agg [.int .i64 v11.1.f_Line, .int .i64 v11.1.f_At], .int .i64 v11.2, .top, .top, .top, .top, .top, .top, .top, .top, .top, .top, .top, .top, .top, .top, .top, .top, .top, .top, .top, .top, .top, .top, .top, .top, .top, .top, .top, .top, .top, .top, .top, .top, .top, .top, .top, .top, .top, .top, .top, .top, .top, .top, .top, .top, .top, .top, .top, .top, .top, .top, .top, .top, .top, .top, .top, .top, .top, .top, .top, .top, .top, .top, .top, .top, .top, .top, .top, .top, .top, .top, .top, .top, .top, .top, .top, .top, .top, .top, .top, .top, .top, .top, .top, .top, .top, .top, .top, .top, .top, .top, .top, .top, .top, .top, .top, .top, .top, .top, .top, .top, .top, .top, .top, .top, .top, .top, .top, .top, .top, .top, .top, .top, .top, .top, .top, .top, .top, .top, .top, .top, .top, .top, .top], [none, none], [], 0⟩ (.shutB (b := 1) rfl (fun d h => by simpa using List.all_eq_true.1 (rfl : List.all [.int .i64 v11.1.f_Line, .int .i64 v11.1.f_At] (fun d => !d.tok) = true) d h) (.refl _)) rfl ?_
          refine ex_ord [] (l := [0, 1, 2, 3, 4, 5, 6, 7]) rfl ?_
          refine p_ 72 rfl rfl rfl rfl (.move rfl rfl) ?_
          refine p_ 73 rfl rfl rfl rfl (x_loadA rfl rfl rfl sz29 un29 ag29 rfl) ?_
          obtain ⟨v12, hv12, h⟩ := bindS h
          refine p_ 74 rfl rfl rfl rfl (x_callP rfl rfl en6 (ok_doc_Offset hv12) rfl rfl rfl rfl rfl) ?_
          refine p_ 71 rfl rfl rfl rfl (.move rfl rfl) ?_
          refine p_ 75 rfl rfl rfl rfl (.extract rfl rfl rfl rfl) ?_
          refine p_ 76 rfl rfl rfl rfl (.extract rfl rfl rfl rfl) ?_
          refine p_ 14 rfl rfl rfl rfl (.assign rfl rfl) ?_
          refine p_ 15 rfl rfl rfl rfl (.assign rfl rfl) ?_
          refine we_nil ?_
          refine ex_seq ?_
          refine ex_seq ?_
          obtain ⟨q13, hq, h⟩ := bindS h
          refine ex_cut ⟨[.sl false (List.map c_api_Line p0), .int .i64 v8, .int .i64 v9, .int .i64 p3, .top, .top, .top, .top, .top, .top, .top, .cp [.int .i64 v10.1.f_Line, .int .i64 v10.1.f_At], .cp [.int .i64 v11.1.f_Line, .int .i64 v11.1.f_At], .top, .top, .top, .top, .top, .top, .top, .top, .top, .top, .top, .top, .top, .top, .top, .top, .top, .top, .top, .top, .top, .top, .top, .top, .top, .top, .top, .top, .top, .top, .top, .top, .top, .top, .top, .top, .top, .top, .top, .top, .top, .top, .top, .top, .top, .top, .top, .top, .top, .top, .top, .top, .top, .top, .top, .top, .top, .top, .top, .top, .top, .top, .top, .top, .top, .top, .top, .top, .top, .top, .top, .top, .top, .top, .top, .top, .top, .top, .top, .top, .top, .top, .top, .top, .top, .top, .top, .top, .top, .top, .top, .bool q13, .top, .top, .top, .top, .top, .top, .top, .top, .top, .top, .top, .top, .top, .top, .top, .top, .top, .top, .top, .top, .top, .top, .top, .top, .top, .top, .top, .top, .top, .top, .top, .top, .top, .top, .top, .top, .top, .top, .top, .top, .top, .top, .top, .top, .top, .top, .top, .top, .top, .top, .top, .top, .top, .top, .top, .top, .top, .top, .top, .top, .top, .top, .top, .top, .top, .top, .top, .top, .top, .top, .top, .top, .top, .top, .top, .top, .top, .top, .top, .top, .top, .top, .top, .top, .top, .top, .top, .top, .top], [], [], 0⟩ ?_ ?_
          · clear h
            have h := hq
            clear hq
            refine ex_drw mo [1017, 1023, 1024, 1025] (by kernel_rfl) (l := [0, 1, 2, 3, 4, 5, 6, 7, 8, 9, 10, 11, 12, 13, 14, 15, 16, 17, 18, 19, 20, 21, 22, 23, 24, 25, 26, 27]) rfl ?_
            refine p_ 77 rfl rfl rfl rfl (.move rfl rfl) ?_
            refine pif 78 rfl rfl rfl rfl (.bin rfl rfl rfl rfl) ?_ ?_
            · intro hc
              replace h := iteT h hc
              refine p_ 79 rfl rfl rfl rfl (.move rfl rfl) ?_
              refine k_ 80 rfl rfl rfl ?_
              refine k_ 81 rfl rfl rfl ?_
              refine p_ 82 rfl rfl rfl rfl (x_pickT rfl rfl rfl rfl) ?_
              refine p_ 83 rfl rfl rfl rfl (.move rfl rfl) ?_
              refine k_ 84 rfl rfl rfl ?_
              refine k_ 85 rfl rfl rfl ?_
              refine p_ 86 rfl rfl rfl rfl (x_pickT rfl rfl rfl rfl) ?_
              refine p_ 87 rfl rfl rfl rfl (.move rfl rfl) ?_
              refine k_ 88 rfl rfl rfl ?_
              refine k_ 89 rfl rfl rfl ?_
              refine k_ 90 rfl rfl rfl ?_
              refine p_ 91 rfl rfl rfl rfl (x_pickT rfl rfl rfl rfl) ?_
              refine p_ 92 rfl rfl rfl rfl (.move rfl rfl) ?_
              refine k_ 93 rfl rfl rfl ?_
              refine k_ 94 rfl rfl rfl ?_
              refine k_ 95 rfl rfl rfl ?_
              refine k_ 96 rfl rfl rfl ?_
              refine p_ 97 rfl rfl rfl rfl (x_pickT rfl rfl rfl rfl) ?_
              refine p_ 98 rfl rfl rfl rfl (.move rfl rfl) ?_
              refine k_ 99 rfl rfl rfl ?_
              refine k_ 100 rfl rfl rfl ?_
              refine k_ 101 rfl rfl rfl ?_
              refine k_ 102 rfl rfl rfl ?_
              refine k_ 103 rfl rfl rfl ?_
              refine p_ 104 rfl rfl rfl rfl (x_pickT rfl rfl rfl rfl) ?_
              refine we_nil ?_
              cases h
              exact ⟨rfl, _, .re [true, true, true, true, false, false, false, false, false, false, false, true, true, false, false, false, false, false, false, false, false, false, false, false, false, false, false, false, false, false, false, false, false, false, false, false, false, false, false, false, false, false, false, false, false, false, false, false, false, false, false, false, false, false, false, false, false, false, false, false, false, false, false, false, false, false, false, false, false, false, false, false, false, false, false, false, false, false, false, false, false, false, false, false, false, false, false, false, false, false, false, false, false, false, false, false, false, false, false, false, false, false, false, false, true, false, false, false, false, false, false, false, false, false, false, false, false, false, false, false, false, false, false, false, false, false, false, false, false, false, false, false, false, false, false, false, false, false, false, false, false, false, false, false, false, false, false, false, false, false, false, false, false, false, false, false, false, false, false, false, false, false, false, false, false, false, false, false, false, false, false, false, false, false, false, false, false, false, false, false, false, false, false, false, false, false, false, false, false, false, false, false, false, false] [] [] rfl (.refl _), rfl⟩
            · intro hc
              replace h := iteF h hc
              refine p_ 79 rfl rfl rfl rfl (.move rfl rfl) ?_
              refine p_ 80 rfl rfl rfl rfl (.move rfl rfl) ?_
              refine pif 81 rfl rfl rfl rfl (.bin rfl rfl rfl rfl) ?_ ?_
              · intro hc
                replace h := iteT h hc
                refine p_ 82 rfl rfl rfl rfl (x_pickF rfl rfl rfl rfl) ?_
                refine p_ 83 rfl rfl rfl rfl (.move rfl rfl) ?_
                refine k_ 84 rfl rfl rfl ?_
                refine k_ 85 rfl rfl rfl ?_
                refine p_ 86 rfl rfl rfl rfl (x_pickT rfl rfl rfl rfl) ?_
                refine p_ 87 rfl rfl rfl rfl (.move rfl rfl) ?_
                refine k_ 88 rfl rfl rfl ?_
                refine k_ 89 rfl rfl rfl ?_
                refine k_ 90 rfl rfl rfl ?_
                refine p_ 91 rfl rfl rfl rfl (x_pickT rfl rfl rfl rfl) ?_
                refine p_ 92 rfl rfl rfl rfl (.move rfl rfl) ?_
                refine k_ 93 rfl rfl rfl ?_
                refine k_ 94 rfl rfl rfl ?_
                refine k_ 95 rfl rfl rfl ?_
                refine k_ 96 rfl rfl rfl ?_
                refine p_ 97 rfl rfl rfl rfl (x_pickT rfl rfl rfl rfl) ?_
                refine p_ 98 rfl rfl rfl rfl (.move rfl rfl) ?_
                refine k_ 99 rfl rfl rfl ?_
                refine k_ 100 rfl rfl rfl ?_
                refine k_ 101 rfl rfl rfl ?_
                refine k_ 102 rfl rfl rfl ?_
                refine k_ 103 rfl rfl rfl ?_
                refine p_ 104 rfl rfl rfl rfl (x_pickT rfl rfl rfl rfl) ?_
                refine we_nil ?_
                cases h
                exact ⟨rfl, _, .re [true, true, true, true, false, false, false, false, false, false, false, true, true, false, false, false, false, false, false, false, false, false, false, false, false, false, false, false, false, false, false, false, false, false, false, false, false, false, false, false, false, false, false, false, false, false, false, false, false, false, false, false, false, false, false, false, false, false, false, false, false, false, false, false, false, false, false, false, false, false, false, false, false, false, false, false, false, false, false, false, false, false, false, false, false, false, false, false, false, false, false, false, false, false, false, false, false, false, false, false, false, false, false, false, true, false, false, false, false, false, false, false, false, false, false, false, false, false, false, false, false, false, false, false, false, false, false, false, false, false, false, false, false, false, false, false, false, false, false, false, false, false, false, false, false, false, false, false, false, false, false, false, false, false, false, false, false, false, false, false, false, false, false, false, false, false, false, false, false, false, false, false, false, false, false, false, false, false, false, false, false, false, false, false, false, false, false, false, false, false, false, false, false, false] [] [] rfl (.refl _), rfl⟩
              · intro hc
                replace h := iteF h hc
                refine p_ 82 rfl rfl rfl rfl (x_pickF rfl rfl rfl rfl) ?_
                refine p_ 83 rfl rfl rfl rfl (.move rfl rfl) ?_
                refine p_ 84 rfl rfl rfl rfl (.move rfl rfl) ?_
                refine pif 85 rfl rfl rfl rfl (.bin rfl rfl rfl rfl) ?_ ?_
                · intro hc
                  replace h := iteT h hc
                  refine p_ 86 rfl rfl rfl rfl (x_pickF rfl rfl rfl rfl) ?_
                  refine p_ 87 rfl rfl rfl rfl (.move rfl rfl) ?_
                  refine k_ 88 rfl rfl rfl ?_
                  refine k_ 89 rfl rfl rfl ?_
                  refine k_ 90 rfl rfl rfl ?_
                  refine p_ 91 rfl rfl rfl rfl (x_pickT rfl rfl rfl rfl) ?_
                  refine p_ 92 rfl rfl rfl rfl (.move rfl rfl) ?_
                  refine k_ 93 rfl rfl rfl ?_
                  refine k_ 94 rfl rfl rfl ?_
                  refine k_ 95 rfl rfl rfl ?_
                  refine k_ 96 rfl rfl rfl ?_
                  refine p_ 97 rfl rfl rfl rfl (x_pickT rfl rfl rfl rfl) ?_
                  refine p_ 98 rfl rfl rfl rfl (.move rfl rfl) ?_
                  refine k_ 99 rfl rfl rfl ?_
                  refine k_ 100 rfl rfl rfl ?_
                  refine k_ 101 rfl rfl rfl ?_
                  refine k_ 102 rfl rfl rfl ?_
                  refine k_ 103 rfl rfl rfl ?_
                  refine p_ 104 rfl rfl rfl rfl (x_pickT rfl rfl rfl rfl) ?_
                  refine we_nil ?_
                  cases h
                  exact ⟨rfl, _, .re [true, true, true, true, false, false, false, false, false, false, false, true, true, false, false, false, false, false, false, false, false, false, false, false, false, false, false, false, false, false, false, false, false, false, false, false, false, false, false, false, false, false, false, false, false, false, false, false, false, false, false, false, false, false, false, false, false, false, false, false, false, false, false, false, false, false, false, false, false, false, false, false, false, false, false, false, false, false, false, false, false, false, false, false, false, false, false, false, false, false, false, false, false, false, false, false, false, false, false, false, false, false, false, false, true, false, false, false, false, false, false, false, false, false, false, false, false, false, false, false, false, false, false, false, false, false, false, false, false, false, false, false, false, false, false, false, false, false, false, false, false, false, false, false, false, false, false, false, false, false, false, false, false, false, false, false, false, false, false, false, false, false, false, false, false, false, false, false, false, false, false, false, false, false, false, false, false, false, false, false, false, false, false, false, false, false, false, false, false, false, false, false, false, false] [] [] rfl (.refl _), rfl⟩
                · intro hc
                  replace h := iteF h hc
                  refine p_ 86 rfl rfl rfl rfl (x_pickF rfl rfl rfl rfl) ?_
                  refine p_ 87 rfl rfl rfl rfl (.move rfl rfl) ?_
                  refine p_ 88 rfl rfl rfl rfl (.move rfl rfl) ?_
                  refine p_ 89 rfl rfl rfl rfl (.move rfl rfl) ?_
                  refine pif 90 rfl rfl rfl rfl (.bin rfl rfl rfl rfl) ?_ ?_
                  · intro hc
                    replace h := iteT h hc
                    refine p_ 91 rfl rfl rfl rfl (x_pickF rfl rfl rfl rfl) ?_
                    refine p_ 92 rfl rfl rfl rfl (.move rfl rfl) ?_
                    refine k_ 93 rfl rfl rfl ?_
                    refine k_ 94 rfl rfl rfl ?_
                    refine k_ 95 rfl rfl rfl ?_
                    refine k_ 96 rfl rfl rfl ?_
                    refine p_ 97 rfl rfl rfl rfl (x_pickT rfl rfl rfl rfl) ?_
                    refine p_ 98 rfl rfl rfl rfl (.move rfl rfl) ?_
                    refine k_ 99 rfl rfl rfl ?_
                    refine k_ 100 rfl rfl rfl ?_
                    refine k_ 101 rfl rfl rfl ?_
                    refine k_ 102 rfl rfl rfl ?_
                    refine k_ 103 rfl rfl rfl ?_
                    refine p_ 104 rfl rfl rfl rfl (x_pickT rfl rfl rfl rfl) ?_
                    refine we_nil ?_
                    cases h
                    exact ⟨rfl, _, .re [true, true, true, true, false, false, false, false, false, false, false, true, true, false, false, false, false, false, false, false, false, false, false, false, false, false, false, false, false, false, false, false, false, false, false, false, false, false, false, false, false, false, false, false, false, false, false, false, false, false, false, false, false, false, false, false, false, false, false, false, false, false, false, false, false, false, false, false, false, false, false, false, false, false, false, false, false, false, false, false, false, false, false, false, false, false, false, false, false, false, false, false, false, false, false, false, false, false, false, false, false, false, false, false, true, false, false, false, false, false, false, false, false, false, false, false, false, false, false, false, false, false, false, false, false, false, false, false, false, false, false, false, false, false, false, false, false, false, false, false, false, false, false, false, false, false, false, false, false, false, false, false, false, false, false, false, false, false, false, false, false, false, false, false, false, false, false, false, false, false, false, false, false, false, false, false, false, false, false, false, false, false, false, false, false, false, false, false, false, false, false, false, false, false] [] [] rfl (.refl _), rfl⟩
                  · intro hc
                    replace h := iteF h hc
                    refine p_ 91 rfl rfl rfl rfl (x_pickF rfl rfl rfl rfl) ?_
                    refine p_ 92 rfl rfl rfl rfl (.move rfl rfl) ?_
                    refine p_ 93 rfl rfl rfl rfl (.move rfl rfl) ?_
                    refine n_ 94 rfl rfl rfl (fun _ _ => x_loadA rfl rfl rfl sz29 un29 ag29 rfl) ?_
                    obtain ⟨v14, hv14, h⟩ := bindS h
                    refine pif 95 rfl rfl rfl rfl (x_callP rfl rfl en10 (ok_doc_Is hv14) rfl rfl rfl rfl rfl) ?_ ?_
                    · intro hc
                      replace h := iteT h hc
                      refine p_ 96 rfl rfl rfl rfl (.un rfl rfl rfl) ?_
                      refine p_ 97 rfl rfl rfl rfl (x_pickF rfl rfl rfl rfl) ?_
                      refine p_ 98 rfl rfl rfl rfl (.move rfl rfl) ?_
                      refine p_ 99 rfl rfl rfl rfl (.move rfl rfl) ?_
                      refine n_ 100 rfl rfl rfl (fun _ _ => x_loadA rfl rfl rfl sz29 un29 ag29 rfl) ?_
                      obtain ⟨v15, hv15, h⟩ := bindS h
                      refine n_ 101 rfl rfl rfl (fun _ _ => x_callP rfl rfl en11 (ok_doc_Clamp hv15) rfl rfl rfl rfl rfl) ?_
                      refine n_ 102 rfl rfl rfl (fun _ _ => x_loadA rfl rfl rfl sz29 un29 ag29 rfl) ?_
                      refine p_ 103 rfl rfl rfl rfl (x_neG (b := !(((v15.f_Line : Int) == v10.1.f_Line) && (((v15.f_At : Int) == v10.1.f_At) && true))) rfl rfl rfl eq29 rfl (by simp only [List.all_cons, List.all_nil, bs_beq, id_eq])) ?_
                      refine p_ 104 rfl rfl rfl rfl (x_pickF rfl rfl rfl rfl) ?_
                      refine we_nil ?_
                      cases h
                      exact ⟨rfl, _, .re [true, true, true, true, false, false, false, false, false, false, false, true, true, false, false, false, false, false, false, false, false, false, false, false, false, false, false, false, false, false, false, false, false, false, false, false, false, false, false, false, false, false, false, false, false, false, false, false, false, false, false, false, false, false, false, false, false, false, false, false, false, false, false, false, false, false, false, false, false, false, false, false, false, false, false, false, false, false, false, false, false, false, false, false, false, false, false, false, false, false, false, false, false, false, false, false, false, false, false, false, false, false, false, false, true, false, false, false, false, false, false, false, false, false, false, false, false, false, false, false, false, false, false, false, false, false, false, false, false, false, false, false, false, false, false, false, false, false, false, false, false, false, false, false, false, false, false, false, false, false, false, false, false, false, false, false, false, false, false, false, false, false, false, false, false, false, false, false, false, false, false, false, false, false, false, false, false, false, false, false, false, false, false, false, false, false, false, false, false, false, false, false, false, false] [] [] rfl (.refl _), rfl⟩
                    · intro hc
                      replace h := iteF h hc
                      refine p_ 96 rfl rfl rfl rfl (.un rfl rfl rfl) ?_
                      refine p_ 97 rfl rfl rfl rfl (x_pickF rfl rfl rfl rfl) ?_
                      refine p_ 98 rfl rfl rfl rfl (.move rfl rfl) ?_
                      refine k_ 99 rfl rfl rfl ?_
                      refine k_ 100 rfl rfl rfl ?_
                      refine k_ 101 rfl rfl rfl ?_
                      refine k_ 102 rfl rfl rfl ?_
                      refine k_ 103 rfl rfl rfl ?_
                      refine p_ 104 rfl rfl rfl rfl (x_pickT rfl rfl rfl rfl) ?_
                      refine we_nil ?_
                      cases h
                      exact ⟨rfl, _, .re [true, true, true, true, false, false, false, false, false, false, false, true, true, false, false, false, false, false, false, false, false, false, false, false, false, false, false, false, false, false, false, false, false, false, false, false, false, false, false, false, false, false, false, false, false, false, false, false, false, false, false, false, false, false, false, false, false, false, false, false, false, false, false, false, false, false, false, false, false, false, false, false, false, false, false, false, false, false, false, false, false, false, false, false, false, false, false, false, false, false, false, false, false, false, false, false, false, false, false, false, false, false, false, false, true, false, false, false, false, false, false, false, false, false, false, false, false, false, false, false, false, false, false, false, false, false, false, false, false, false, false, false, false, false, false, false, false, false, false, false, false, false, false, false, false, false, false, false, false, false, false, false, false, false, false, false, false, false, false, false, false, false, false, false, false, false, false, false, false, false, false, false, false, false, false, false, false, false, false, false, false, false, false, false, false, false, false, false, false, false, false, false, false, false] [] [] rfl (.refl _), rfl⟩
          · clear hq
            refine ex_if rfl ?_ ?_
            · intro hc
              replace h := iteT h hc
              refine ex_seq ?_
              refine ex_ord [] (l := [0]) rfl ?_
              refine p_ 8 rfl rfl rfl rfl (.assign rfl rfl) ?_
              refine we_nil ?_
              refine ex_ret ?_
              obtain rfl := Option.some.inj h
              exact finB (by first | exact .inr rfl | exact .inl rfl) (.refl _) [.bool false] [] [] (res_cons (res_tmp rfl) res_nil) rfl rfl rfl rfl rfl rfl rfl
            · intro hc
              replace h := iteF h hc
              refine ex_skip ?_
              refine ex_seq ?_
              refine ex_ord [] (l := [0, 1, 2, 3]) rfl ?_
              refine p_ 105 rfl rfl rfl rfl (x_loadA rfl rfl rfl sz29 un29 ag29 rfl) ?_
              refine p_ 106 rfl rfl rfl rfl (x_loadA rfl rfl rfl sz29 un29 ag29 rfl) ?_
              obtain ⟨v16, hv16, h⟩ := bindS h
              refine p_ 107 rfl rfl rfl rfl (x_callP rfl rfl en12 (ok_doc_Cmp hv16) rfl rfl rfl rfl rfl) ?_
              refine p_ 16 rfl rfl rfl rfl (.assign rfl rfl) ?_
              refine we_nil ?_
              refine ex_seq ?_
              refine ex_seq ?_
              obtain ⟨q17, hq, h⟩ := bindS h
              refine ex_cut ⟨[.sl false (List.map c_api_Line p0), .int .i64 v8, .int .i64 v9, .int .i64 p3, .top, .top, .top, .top, .top, .top, .top, .cp [.int .i64 v10.1.f_Line, .int .i64 v10.1.f_At], .cp [.int .i64 v11.1.f_Line, .int .i64 v11.1.f_At], .top, .top, .top, .top, .top, .top, .top, .top, .top, .top, .top, .top, .top, .top, .top, .top, .top, .top, .top, .top, .top, .top, .top, .top, .top, .top, .top, .top, .top, .top, .top, .top, .top, .top, .top, .top, .top, .top, .top, .top, .top, .top, .top, .top, .top, .top, .top, .top, .top, .top, .top, .top, .top, .top, .top, .top, .top, .top, .top, .top, .top, .top, .top, .top, .top, .top, .top, .top, .top, .top, .top, .top, .top, .top, .top, .top, .top, .top, .top, .top, .top, .top, .top, .top, .top, .top, .top, .top, .top, .top, .top, .top, .top, .top, .top, .top, .top, .top, .top, .top, .top, .top, .top, .top, .top, .top, .top, .top, .top, .top, .top, .top, .top, .top, .top, .top, .top, .top, .top, .bool q17, .top, .top, .top, .top, .top, .top, .top, .top, .top, .top, .top, .top, .top, .top, .top, .top, .top, .top, .top, .top, .top, .top, .top, .top, .top, .top, .top, .top, .top, .top, .top, .top, .top, .top, .top, .top, .top, .top, .top, .top, .top, .top, .top, .top, .top, .top, .top, .top, .top, .top, .top, .top, .top, .top, .top, .top, .top, .top, .top, .top, .top], [], [], 0⟩ ?_ ?_
              · clear h
                have h := hq
                clear hq
                refine ex_ord [] (l := [0, 1, 2, 3, 4, 5, 6, 7, 8, 9, 10, 11, 12, 13, 14, 15, 16, 17, 18, 19, 20, 21, 22, 23, 24]) rfl ?_
                refine p_ 108 rfl rfl rfl rfl (.move rfl rfl) ?_
                refine p_ 109 rfl rfl rfl rfl (.move rfl rfl) ?_
                refine pif 110 rfl rfl rfl rfl (.bin rfl rfl rfl rfl) ?_ ?_
                · intro hc
                  replace h := iteT h hc
                  refine p_ 111 rfl rfl rfl rfl (.move rfl rfl) ?_
                  refine p_ 112 rfl rfl rfl rfl (.move rfl rfl) ?_
                  refine pif 113 rfl rfl rfl rfl (.bin rfl rfl rfl rfl) ?_ ?_
                  · intro hc
                    replace h := iteT h hc
                    refine p_ 114 rfl rfl rfl rfl (x_pickT rfl rfl rfl rfl) ?_
                    refine p_ 115 rfl rfl rfl rfl (.move rfl rfl) ?_
                    refine k_ 116 rfl rfl rfl ?_
                    refine k_ 117 rfl rfl rfl ?_
                    refine k_ 118 rfl rfl rfl ?_
                    refine k_ 119 rfl rfl rfl ?_
                    refine k_ 120 rfl rfl rfl ?_
                    refine k_ 121 rfl rfl rfl ?_
                    refine k_ 122 rfl rfl rfl ?_
                    refine p_ 123 rfl rfl rfl rfl (x_pickT rfl rfl rfl rfl) ?_
                    refine p_ 124 rfl rfl rfl rfl (.move rfl rfl) ?_
                    refine k_ 125 rfl rfl rfl ?_
                    refine k_ 126 rfl rfl rfl ?_
                    refine k_ 127 rfl rfl rfl ?_
                    refine k_ 128 rfl rfl rfl ?_
                    refine k_ 129 rfl rfl rfl ?_
                    refine k_ 130 rfl rfl rfl ?_
                    refine k_ 131 rfl rfl rfl ?_
                    refine p_ 132 rfl rfl rfl rfl (x_pickT rfl rfl rfl rfl) ?_
                    refine we_nil ?_
                    cases h
                    exact ⟨rfl, _, .re [true, true, true, true, false, false, false, false, false, false, false, true, true, false, false, false, false, false, false, false, false, false, false, false, false, false, false, false, false, false, false, false, false, false, false, false, false, false, false, false, false, false, false, false, false, false, false, false, false, false, false, false, false, false, false, false, false, false, false, false, false, false, false, false, false, false, false, false, false, false, false, false, false, false, false, false, false, false, false, false, false, false, false, false, false, false, false, false, false, false, false, false, false, false, false, false, false, false, false, false, false, false, false, false, false, false, false, false, false, false, false, false, false, false, false, false, false, false, false, false, false, false, false, false, false, false, false, false, false, false, false, false, true, false, false, false, false, false, false, false, false, false, false, false, false, false, false, false, false, false, false, false, false, false, false, false, false, false, false, false, false, false, false, false, false, false, false, false, false, false, false, false, false, false, false, false, false, false, false, false, false, false, false, false, false, false, false, false, false, false, false, false, false, false] [] [] rfl (.refl _), rfl⟩
                  · intro hc
                    replace h := iteF h hc
                    refine p_ 114 rfl rfl rfl rfl (x_pickT rfl rfl rfl rfl) ?_
                    refine p_ 115 rfl rfl rfl rfl (.move rfl rfl) ?_
                    refine p_ 116 rfl rfl rfl rfl (.move rfl rfl) ?_
                    refine p_ 117 rfl rfl rfl rfl (.move rfl rfl) ?_
                    refine pif 118 rfl rfl rfl rfl (.bin rfl rfl rfl rfl) ?_ ?_
                    · intro hc
                      replace h := iteT h hc
                      refine p_ 119 rfl rfl rfl rfl (.move rfl rfl) ?_
                      refine p_ 120 rfl rfl rfl rfl (.move rfl rfl) ?_
                      refine pif 121 rfl rfl rfl rfl (.bin rfl rfl rfl rfl) ?_ ?_
                      · intro hc
                        replace h := iteT h hc
                        refine p_ 122 rfl rfl rfl rfl (x_pickT rfl rfl rfl rfl) ?_
                        refine p_ 123 rfl rfl rfl rfl (x_pickF rfl rfl rfl rfl) ?_
                        refine p_ 124 rfl rfl rfl rfl (.move rfl rfl) ?_
                        refine k_ 125 rfl rfl rfl ?_
                        refine k_ 126 rfl rfl rfl ?_
                        refine k_ 127 rfl rfl rfl ?_
                        refine k_ 128 rfl rfl rfl ?_
                        refine k_ 129 rfl rfl rfl ?_
                        refine k_ 130 rfl rfl rfl ?_
                        refine k_ 131 rfl rfl rfl ?_
                        refine p_ 132 rfl rfl rfl rfl (x_pickT rfl rfl rfl rfl) ?_
                        refine we_nil ?_
                        cases h
                        exact ⟨rfl, _, .re [true, true, true, true, false, false, false, false, false, false, false, true, true, false, false, false, false, false, false, false, false, false, false, false, false, false, false, false, false, false, false, false, false, false, false, false, false, false, false, false, false, false, false, false, false, false, false, false, false, false, false, false, false, false, false, false, false, false, false, false, false, false, false, false, false, false, false, false, false, false, false, false, false, false, false, false, false, false, false, false, false, false, false, false, false, false, false, false, false, false, false, false, false, false, false, false, false, false, false, false, false, false, false, false, false, false, false, false, false, false, false, false, false, false, false, false, false, false, false, false, false, false, false, false, false, false, false, false, false, false, false, false, true, false, false, false, false, false, false, false, false, false, false, false, false, false, false, false, false, false, false, false, false, false, false, false, false, false, false, false, false, false, false, false, false, false, false, false, false, false, false, false, false, false, false, false, false, false, false, false, false, false, false, false, false, false, false, false, false, false, false, false, false, false] [] [] rfl (.refl _), rfl⟩
                      · intro hc
                        replace h := iteF h hc
                        refine p_ 122 rfl rfl rfl rfl (x_pickT rfl rfl rfl rfl) ?_
                        refine p_ 123 rfl rfl rfl rfl (x_pickF rfl rfl rfl rfl) ?_
                        refine p_ 124 rfl rfl rfl rfl (.move rfl rfl) ?_
                        refine p_ 125 rfl rfl rfl rfl (.move rfl rfl) ?_
                        refine p_ 126 rfl rfl rfl rfl (.move rfl rfl) ?_
                        refine pif 127 rfl rfl rfl rfl (.bin rfl rfl rfl rfl) ?_ ?_
                        · intro hc
                          replace h := iteT h hc
                          refine p_ 128 rfl rfl rfl rfl (.move rfl rfl) ?_
                          refine p_ 129 rfl rfl rfl rfl (.move rfl rfl) ?_
                          refine p_ 130 rfl rfl rfl rfl (.bin rfl rfl rfl rfl) ?_
                          refine p_ 131 rfl rfl rfl rfl (x_pickT rfl rfl rfl rfl) ?_
                          refine p_ 132 rfl rfl rfl rfl (x_pickF rfl rfl rfl rfl) ?_
                          refine we_nil ?_
                          cases h
                          exact ⟨rfl, _, .re [true, true, true, true, false, false, false, false, false, false, false, true, true, false, false, false, false, false, false, false, false, false, false, false, false, false, false, false, false, false, false, false, false, false, false, false, false, false, false, false, false, false, false, false, false, false, false, false, false, false, false, false, false, false, false, false, false, false, false, false, false, false, false, false, false, false, false, false, false, false, false, false, false, false, false, false, false, false, false, false, false, false, false, false, false, false, false, false, false, false, false, false, false, false, false, false, false, false, false, false, false, false, false, false, false, false, false, false, false, false, false, false, false, false, false, false, false, false, false, false, false, false, false, false, false, false, false, false, false, false, false, false, true, false, false, false, false, false, false, false, false, false, false, false, false, false, false, false, false, false, false, false, false, false, false, false, false, false, false, false, false, false, false, false, false, false, false, false, false, false, false, false, false, false, false, false, false, false, false, false, false, false, false, false, false, false, false, false, false, false, false, false, false, false] [] [] rfl (.refl _), rfl⟩
                        · intro hc
                          replace h := iteF h hc
                          refine p_ 128 rfl rfl rfl rfl (.move rfl rfl) ?_
                          refine k_ 129 rfl rfl rfl ?_
                          refine k_ 130 rfl rfl rfl ?_
                          refine p_ 131 rfl rfl rfl rfl (x_pickF rfl rfl rfl rfl) ?_
                          refine p_ 132 rfl rfl rfl rfl (x_pickF rfl rfl rfl rfl) ?_
                          refine we_nil ?_
                          cases h
                          exact ⟨rfl, _, .re [true, true, true, true, false, false, false, false, false, false, false, true, true, false, false, false, false, false, false, false, false, false, false, false, false, false, false, false, false, false, false, false, false, false, false, false, false, false, false, false, false, false, false, false, false, false, false, false, false, false, false, false, false, false, false, false, false, false, false, false, false, false, false, false, false, false, false, false, false, false, false, false, false, false, false, false, false, false, false, false, false, false, false, false, false, false, false, false, false, false, false, false, false, false, false, false, false, false, false, false, false, false, false, false, false, false, false, false, false, false, false, false, false, false, false, false, false, false, false, false, false, false, false, false, false, false, false, false, false, false, false, false, true, false, false, false, false, false, false, false, false, false, false, false, false, false, false, false, false, false, false, false, false, false, false, false, false, false, false, false, false, false, false, false, false, false, false, false, false, false, false, false, false, false, false, false, false, false, false, false, false, false, false, false, false, false, false, false, false, false, false, false, false, false] [] [] rfl (.refl _), rfl⟩
                    · intro hc
                      replace h := iteF h hc
                      refine p_ 119 rfl rfl rfl rfl (.move rfl rfl) ?_
                      refine k_ 120 rfl rfl rfl ?_
                      refine k_ 121 rfl rfl rfl ?_
                      refine p_ 122 rfl rfl rfl rfl (x_pickF rfl rfl rfl rfl) ?_
                      refine p_ 123 rfl rfl rfl rfl (x_pickF rfl rfl rfl rfl) ?_
                      refine p_ 124 rfl rfl rfl rfl (.move rfl rfl) ?_
                      refine p_ 125 rfl rfl rfl rfl (.move rfl rfl) ?_
                      refine p_ 126 rfl rfl rfl rfl (.move rfl rfl) ?_
                      refine pif 127 rfl rfl rfl rfl (.bin rfl rfl rfl rfl) ?_ ?_
                      · intro hc
                        replace h := iteT h hc
                        refine p_ 128 rfl rfl rfl rfl (.move rfl rfl) ?_
                        refine p_ 129 rfl rfl rfl rfl (.move rfl rfl) ?_
                        refine p_ 130 rfl rfl rfl rfl (.bin rfl rfl rfl rfl) ?_
                        refine p_ 131 rfl rfl rfl rfl (x_pickT rfl rfl rfl rfl) ?_
                        refine p_ 132 rfl rfl rfl rfl (x_pickF rfl rfl rfl rfl) ?_
                        refine we_nil ?_
                        cases h
                        exact ⟨rfl, _, .re [true, true, true, true, false, false, false, false, false, false, false, true, true, false, false, false, false, false, false, false, false, false, false, false, false, false, false, false, false, false, false, false, false, false, false, false, false, false, false, false, false, false, false, false, false, false, false, false, false, false, false, false, false, false, false, false, false, false, false, false, false, false, false, false, false, false, false, false, false, false, false, false, false, false, false, false, false, false, false, false, false, false, false, false, false, false, false, false, false, false, false, false, false, false, false, false, false, false, false, false, false, false, false, false, false, false, false, false, false, false, false, false, false, false, false, false, false, false, false, false, false, false, false, false, false, false, false, false, false, false, false, false, true, false, false, false, false, false, false, false, false, false, false, false, false, false, false, false, false, false, false, false, false, false, false, false, false, false, false, false, false, false, false, false, false, false, false, false, false, false, false, false, false, false, false, false, false, false, false, false, false, false, false, false, false, false, false, false, false, false, false, false, false, false] [] [] rfl (.refl _), rfl⟩
                      · intro hc
                        replace h := iteF h hc
                        refine p_ 128 rfl rfl rfl rfl (.move rfl rfl) ?_
                        refine k_ 129 rfl rfl rfl ?_
                        refine k_ 130 rfl rfl rfl ?_
                        refine p_ 131 rfl rfl rfl rfl (x_pickF rfl rfl rfl rfl) ?_
                        refine p_ 132 rfl rfl rfl rfl (x_pickF rfl rfl rfl rfl) ?_
                        refine we_nil ?_
                        cases h
                        exact ⟨rfl, _, .re [true, true, true, true, false, false, false, false, false, false, false, true, true, false, false, false, false, false, false, false, false, false, false, false, false, false, false, false, false, false, false, false, false, false, false, false, false, false, false, false, false, false, false, false, false, false, false, false, false, false, false, false, false, false, false, false, false, false, false, false, false, false, false, false, false, false, false, false, false, false, false, false, false, false, false, false, false, false, false, false, false, false, false, false, false, false, false, false, false, false, false, false, false, false, false, false, false, false, false, false, false, false, false, false, false, false, false, false, false, false, false, false, false, false, false, false, false, false, false, false, false, false, false, false, false, false, false, false, false, false, false, false, true, false, false, false, false, false, false, false, false, false, false, false, false, false, false, false, false, false, false, false, false, false, false, false, false, false, false, false, false, false, false, false, false, false, false, false, false, false, false, false, false, false, false, false, false, false, false, false, false, false, false, false, false, false, false, false, false, false, false, false, false, false] [] [] rfl (.refl _), rfl⟩
                · intro hc
                  replace h := iteF h hc
                  refine p_ 111 rfl rfl rfl rfl (.move rfl rfl) ?_
                  refine k_ 112 rfl rfl rfl ?_
                  refine k_ 113 rfl rfl rfl ?_
                  refine p_ 114 rfl rfl rfl rfl (x_pickF rfl rfl rfl rfl) ?_
                  refine p_ 115 rfl rfl rfl rfl (.move rfl rfl) ?_
                  refine p_ 116 rfl rfl rfl rfl (.move rfl rfl) ?_
                  refine p_ 117 rfl rfl rfl rfl (.move rfl rfl) ?_
                  refine pif 118 rfl rfl rfl rfl (.bin rfl rfl rfl rfl) ?_ ?_
                  · intro hc
                    replace h := iteT h hc
                    refine p_ 119 rfl rfl rfl rfl (.move rfl rfl) ?_
                    refine p_ 120 rfl rfl rfl rfl (.move rfl rfl) ?_
                    refine pif 121 rfl rfl rfl rfl (.bin rfl rfl rfl rfl) ?_ ?_
                    · intro hc
                      replace h := iteT h hc
                      refine p_ 122 rfl rfl rfl rfl (x_pickT rfl rfl rfl rfl) ?_
                      refine p_ 123 rfl rfl rfl rfl (x_pickF rfl rfl rfl rfl) ?_
                      refine p_ 124 rfl rfl rfl rfl (.move rfl rfl) ?_
                      refine k_ 125 rfl rfl rfl ?_
                      refine k_ 126 rfl rfl rfl ?_
                      refine k_ 127 rfl rfl rfl ?_
                      refine k_ 128 rfl rfl rfl ?_
                      refine k_ 129 rfl rfl rfl ?_
                      refine k_ 130 rfl rfl rfl ?_
                      refine k_ 131 rfl rfl rfl ?_
                      refine p_ 132 rfl rfl rfl rfl (x_pickT rfl rfl rfl rfl) ?_
                      refine we_nil ?_
                      cases h
                      exact ⟨rfl, _, .re [true, true, true, true, false, false, false, false, false, false, false, true, true, false, false, false, false, false, false, false, false, false, false, false, false, false, false, false, false, false, false, false, false, false, false, false, false, false, false, false, false, false, false, false, false, false, false, false, false, false, false, false, false, false, false, false, false, false, false, false, false, false, false, false, false, false, false, false, false, false, false, false, false, false, false, false, false, false, false, false, false, false, false, false, false, false, false, false, false, false, false, false, false, false, false, false, false, false, false, false, false, false, false, false, false, false, false, false, false, false, false, false, false, false, false, false, false, false, false, false, false, false, false, false, false, false, false, false, false, false, false, false, true, false, false, false, false, false, false, false, false, false, false, false, false, false, false, false, false, false, false, false, false, false, false, false, false, false, false, false, false, false, false, false, false, false, false, false, false, false, false, false, false, false, false, false, false, false, false, false, false, false, false, false, false, false, false, false, false, false, false, false, false, false] [] [] rfl (.refl _), rfl⟩
                    · intro hc
                      replace h := iteF h hc
                      refine p_ 122 rfl rfl rfl rfl (x_pickT rfl rfl rfl rfl) ?_
                      refine p_ 123 rfl rfl rfl rfl (x_pickF rfl rfl rfl rfl) ?_
                      refine p_ 124 rfl rfl rfl rfl (.move rfl rfl) ?_
                      refine p_ 125 rfl rfl rfl rfl (.move rfl rfl) ?_
                      refine p_ 126 rfl rfl rfl rfl (.move rfl rfl) ?_
                      refine pif 127 rfl rfl rfl rfl (.bin rfl rfl rfl rfl) ?_ ?_
                      · intro hc
                        replace h := iteT h hc
                        refine p_ 128 rfl rfl rfl rfl (.move rfl rfl) ?_
                        refine p_ 129 rfl rfl rfl rfl (.move rfl rfl) ?_
                        refine p_ 130 rfl rfl rfl rfl (.bin rfl rfl rfl rfl) ?_
                        refine p_ 131 rfl rfl rfl rfl (x_pickT rfl rfl rfl rfl) ?_
                        refine p_ 132 rfl rfl rfl rfl (x_pickF rfl rfl rfl rfl) ?_
                        refine we_nil ?_
                        cases h
                        exact ⟨rfl, _, .re [true, true, true, true, false, false, false, false, false, false, false, true, true, false, false, false, false, false, false, false, false, false, false, false, false, false, false, false, false, false, false, false, false, false, false, false, false, false, false, false, false, false, false, false, false, false, false, false, false, false, false, false, false, false, false, false, false, false, false, false, false, false, false, false, false, false, false, false, false, false, false, false, false, false, false, false, false, false, false, false, false, false, false, false, false, false, false, false, false, false, false, false, false, false, false, false, false, false, false, false, false, false, false, false, false, false, false, false, false, false, false, false, false, false, false, false, false, false, false, false, false, false, false, false, false, false, false, false, false, false, false, false, true, false, false, false, false, false, false, false, false, false, false, false, false, false, false, false, false, false, false, false, false, false, false, false, false, false, false, false, false, false, false, false, false, false, false, false, false, false, false, false, false, false, false, false, false, false, false, false, false, false, false, false, false, false, false, false, false, false, false, false, false, false] [] [] rfl (.refl _), rfl⟩
                      · intro hc
                        replace h := iteF h hc
                        refine p_ 128 rfl rfl rfl rfl (.move rfl rfl) ?_
                        refine k_ 129 rfl rfl rfl ?_
                        refine k_ 130 rfl rfl rfl ?_
                        refine p_ 131 rfl rfl rfl rfl (x_pickF rfl rfl rfl rfl) ?_
                        refine p_ 132 rfl rfl rfl rfl (x_pickF rfl rfl rfl rfl) ?_
                        refine we_nil ?_
                        cases h
                        exact ⟨rfl, _, .re [true, true, true, true, false, false, false, false, false, false, false, true, true, false, false, false, false, false, false, false, false, false, false, false, false, false, false, false, false, false, false, false, false, false, false, false, false, false, false, false, false, false, false, false, false, false, false, false, false, false, false, false, false, false, false, false, false, false, false, false, false, false, false, false, false, false, false, false, false, false, false, false, false, false, false, false, false, false, false, false, false, false, false, false, false, false, false, false, false, false, false, false, false, false, false, false, false, false, false, false, false, false, false, false, false, false, false, false, false, false, false, false, false, false, false, false, false, false, false, false, false, false, false, false, false, false, false, false, false, false, false, false, true, false, false, false, false, false, false, false, false, false, false, false, false, false, false, false, false, false, false, false, false, false, false, false, false, false, false, false, false, false, false, false, false, false, false, false, false, false, false, false, false, false, false, false, false, false, false, false, false, false, false, false, false, false, false, false, false, false, false, false, false, false] [] [] rfl (.refl _), rfl⟩
                  · intro hc
                    replace h := iteF h hc
                    refine p_ 119 rfl rfl rfl rfl (.move rfl rfl) ?_
                    refine k_ 120 rfl rfl rfl ?_
                    refine k_ 121 rfl rfl rfl ?_
                    refine p_ 122 rfl rfl rfl rfl (x_pickF rfl rfl rfl rfl) ?_
                    refine p_ 123 rfl rfl rfl rfl (x_pickF rfl rfl rfl rfl) ?_
                    refine p_ 124 rfl rfl rfl rfl (.move rfl rfl) ?_
                    refine p_ 125 rfl rfl rfl rfl (.move rfl rfl) ?_
                    refine p_ 126 rfl rfl rfl rfl (.move rfl rfl) ?_
                    refine pif 127 rfl rfl rfl rfl (.bin rfl rfl rfl rfl) ?_ ?_
                    · intro hc
                      replace h := iteT h hc
                      refine p_ 128 rfl rfl rfl rfl (.move rfl rfl) ?_
                      refine p_ 129 rfl rfl rfl rfl (.move rfl rfl) ?_
                      refine p_ 130 rfl rfl rfl rfl (.bin rfl rfl rfl rfl) ?_
                      refine p_ 131 rfl rfl rfl rfl (x_pickT rfl rfl rfl rfl) ?_
                      refine p_ 132 rfl rfl rfl rfl (x_pickF rfl rfl rfl rfl) ?_
                      refine we_nil ?_
                      cases h
                      exact ⟨rfl, _, .re [true, true, true, true, false, false, false, false, false, false, false, true, true, false, false, false, false, false, false, false, false, false, false, false, false, false, false, false, false, false, false, false, false, false, false, false, false, false, false, false, false, false, false, false, false, false, false, false, false, false, false, false, false, false, false, false, false, false, false, false, false, false, false, false, false, false, false, false, false, false, false, false, false, false, false, false, false, false, false, false, false, false, false, false, false, false, false, false, false, false, false, false, false, false, false, false, false, false, false, false, false, false, false, false, false, false, false, false, false, false, false, false, false, false, false, false, false, false, false, false, false, false, false, false, false, false, false, false, false, false, false, false, true, false, false, false, false, false, false, false, false, false, false, false, false, false, false, false, false, false, false, false, false, false, false, false, false, false, false, false, false, false, false, false, false, false, false, false, false, false, false, false, false, false, false, false, false, false, false, false, false, false, false, false, false, false, false, false, false, false, false, false, false, false] [] [] rfl (.refl _), rfl⟩
                    · intro hc
                      replace h := iteF h hc
                      refine p_ 128 rfl rfl rfl rfl (.move rfl rfl) ?_
                      refine k_ 129 rfl rfl rfl ?_
                      refine k_ 130 rfl rfl rfl ?_
                      refine p_ 131 rfl rfl rfl rfl (x_pickF rfl rfl rfl rfl) ?_
                      refine p_ 132 rfl rfl rfl rfl (x_pickF rfl rfl rfl rfl) ?_
                      refine we_nil ?_
                      cases h
                      exact ⟨rfl, _, .re [true, true, true, true, false, false, false, false, false, false, false, true, true, false, false, false, false, false, false, false, false, false, false, false, false, false, false, false, false, false, false, false, false, false, false, false, false, false, false, false, false, false, false, false, false, false, false, false, false, false, false, false, false, false, false, false, false, false, false, false, false, false, false, false, false, false, false, false, false, false, false, false, false, false, false, false, false, false, false, false, false, false, false, false, false, false, false, false, false, false, false, false, false, false, false, false, false, false, false, false, false, false, false, false, false, false, false, false, false, false, false, false, false, false, false, false, false, false, false, false, false, false, false, false, false, false, false, false, false, false, false, false, true, false, false, false, false, false, false, false, false, false, false, false, false, false, false, false, false, false, false, false, false, false, false, false, false, false, false, false, false, false, false, false, false, false, false, false, false, false, false, false, false, false, false, false, false, false, false, false, false, false, false, false, false, false, false, false, false, false, false, false, false, false] [] [] rfl (.refl _), rfl⟩
              · clear hq
                refine ex_if rfl ?_ ?_
                · intro hc
                  replace h := iteT h hc
                  refine ex_seq ?_
                  refine ex_ord [] (l := [0]) rfl ?_
                  refine p_ 8 rfl rfl rfl rfl (.assign rfl rfl) ?_
                  refine we_nil ?_
                  refine ex_ret ?_
                  obtain rfl := Option.some.inj h
                  exact finB (by first | exact .inr rfl | exact .inl rfl) (.refl _) [.bool false] [] [] (res_cons (res_tmp rfl) res_nil) rfl rfl rfl rfl rfl rfl rfl
                · intro hc
                  replace h := iteF h hc
                  refine ex_skip ?_
                  refine ex_seq ?_
                  refine ex_ord [9, 10] (l := [0, 1, 2, 3, 4, 5, 6, 7, 8, 9, 10, 11]) rfl ?_
                  refine p_ 134 rfl rfl rfl rfl (.move rfl rfl) ?_
                  refine p_ 135 rfl rfl rfl rfl (x_loadA rfl rfl rfl sz29 un29 ag29 rfl) ?_
                  refine p_ 136 rfl rfl rfl rfl (.move rfl rfl) ?_
                  refine p_ 137 rfl rfl rfl rfl (.move rfl rfl) ?_
                  refine p_ 138 rfl rfl rfl rfl (.bin rfl rfl rfl rfl) ?_
                  obtain ⟨v18, hv18, h⟩ := bindS h
                  refine p_ 139 rfl rfl rfl rfl (x_callP rfl rfl en13 (ok_doc_Step hv18) rfl rfl rfl rfl rfl) ?_
                  refine p_ 133 rfl rfl rfl rfl (.move rfl rfl) ?_
                  refine p_ 140 rfl rfl rfl rfl (.extract rfl rfl rfl rfl) ?_
                  refine p_ 141 rfl rfl rfl rfl (.extract rfl rfl rfl rfl) ?_
                  refine e_ (d := .bx 0 0) 17 rfl rfl rfl rfl rfl (b' := [some [.int .i64 0, .int .i64 0]]) (r' := []) (.alloc rfl ze29) rfl ?_
                  refine e0 rfl rfl rfl rfl rfl (b' := [some [.int .i64 v18.1.f_Line, .int .i64 v18.1.f_At]]) (r' := []) (.store rfl rfl rfl sz29 rfl rfl rfl) rfl ?_
                  refine p_ 18 rfl rfl rfl rfl (.assign rfl rfl) ?_
                  refine we_nil ?_
                  refine ex_seq ?_
                  refine ex_seq ?_
                  refine ex_gst ⟨[.sl false (List.map c_api_Line p0), .int .i64 v8, .int .i64 v9, .int .i64 p3, .top, .top, .top, .top, .top, .top, .top, .cp [.int .i64 v10.1.f_Line, .int .i64 v10.1.f_At], .cp [.int .i64 v11.1.f_Line, .int .i64 v11.1.f_At], .top, .top, .top, .top, .cp [.int .i64 v18.1.f_Line, .int .i64 v18.1.f_At], .bool v18.2, .top, .top, .top, .top, .top, .top, .top, .top, .top, .top, .top, .top, .top, .top, .top, .top, .top, .top, .top, .top, .top, .top, .top, .top, .top, .top, .top, .top, .top, .top, .top, .top, .top, .top, .top, .top, .top, .top, .top, .top, .top, .top, .top, .top, .top, .top, .top, .top, .top, .top, .top, .top, .top, .top, .top, .top, .top, .top, .top, .top, .top, .top, .top, .top, .top, .top, .top, .top, .top, .top, .top, .top, .top, .top, .top, .top, .top, .top, .top, .top, .top, .top, .top, .top, .top, .top, .top, .top, .top, .top, .top, .top, .top, .top, .top, .top, .top, .top, .top, .top, .top, .top, .top, .top, .top, .top, .top, .top, .top, .top, .top, .top, .top, .bool q17, .tup [.agg [.int .i64 v18.1.f_Line, .int .i64 v18.1.f_At], .bool v18.2], .sl false (List.map c_api_Line p0), .agg [.int .i64 v10.1.f_Line, .int .i64 v10.1.f_At], .int .i64 v9, .int .i64 v8, .int .i64 (IntKind.wrap .i64 (v9 - v8)), .tup [.agg [.int .i64 v18.1.f_Line, .int .i64 v18.1.f_At], .bool v18.2], .agg [.int .i64 v18.1.f_Line, .int .i64 v18.1.f_At], .bool v18.2, .top, .top, .top, .top, .top, .top, .top, .top, .top, .top, .top, .top, .top, .top, .top, .top, .top, .top, .top, .top, .top, .top, .top, .top, .top, .top, .top, .top, .top, .top, .top, .top, .top, .top, .top, .top, .top, .top, .top, .top, .top, .top, .top, .top, .top, .top, .top, .top, .top, .top, .top, .top], [none], [], 0⟩ (.shutB (b := 0) rfl (fun d h => by simpa using List.all_eq_true.1 (rfl : List.all [.int .i64 v18.1.f_Line, .int .i64 v18.1.f_At] (fun d => !d.tok) = true) d h) (.refl _)) rfl ?_
                  obtain ⟨q19, hq, h⟩ := bindS h
                  refine ex_cut ⟨[.sl false (List.map c_api_Line p0), .top, .top, .int .i64 p3, .top, .top, .top, .top, .top, .top, .top, .cp [.int .i64 v10.1.f_Line, .int .i64 v10.1.f_At], .top, .top, .top, .top, .top, .top, .top, .top, .top, .top, .top, .top, .top, .top, .top, .top, .top, .top, .top, .top, .top, .top, .top, .top, .top, .top, .top, .top, .top, .top, .top, .top, .top, .top, .top, .top, .top, .top, .top, .top, .top, .top, .top, .top, .top, .top, .top, .top, .top, .top, .top, .top, .top, .top, .top, .top, .top, .top, .top, .top, .top, .top, .top, .top, .top, .top, .top, .top, .top, .top, .top, .top, .top, .top, .top, .top, .top, .top, .top, .top, .top, .top, .top, .top, .top, .top, .top, .top, .top, .top, .top, .top, .top, .top, .top, .top, .top, .top, .top, .top, .top, .top, .top, .top, .top, .top, .top, .top, .top, .top, .top, .top, .top, .top, .top, .top, .top, .top, .top, .top, .top, .top, .top, .top, .top, .top, .top, .top, .top, .top, .top, .top, .top, .top, .top, .top, .bool q19, .top, .top, .top, .top, .top, .top, .top, .top, .top, .top, .top, .top, .top, .top, .top, .top, .top, .top, .top, .top, .top, .top, .top, .top, .top, .top, .top, .top, .top, .top, .top, .top, .top, .top, .top, .top, .top, .top, .top, .top, .top, .top, .top, .top, .top], [], [], 0⟩ ?_ ?_
                  · clear h
                    have h := hq
                    clear hq
                    refine ex_ord [] (l := [0, 1, 2, 3, 4, 5, 6]) rfl ?_
                    refine pif 142 rfl rfl rfl rfl (.move rfl rfl) ?_ ?_
                    · intro hc
                      replace h := iteT h hc
                      refine p_ 143 rfl rfl rfl rfl (.un rfl rfl rfl) ?_
                      refine p_ 144 rfl rfl rfl rfl (.move rfl rfl) ?_
                      refine p_ 145 rfl rfl rfl rfl (x_loadA rfl rfl rfl sz29 un29 ag29 rfl) ?_
                      refine p_ 146 rfl rfl rfl rfl (x_loadA rfl rfl rfl sz29 un29 ag29 rfl) ?_
                      refine p_ 147 rfl rfl rfl rfl (x_neG (b := !(((v18.1.f_Line : Int) == v11.1.f_Line) && (((v18.1.f_At : Int) == v11.1.f_At) && true))) rfl rfl rfl eq29 rfl (by simp only [List.all_cons, List.all_nil, bs_beq, id_eq])) ?_
                      refine p_ 148 rfl rfl rfl rfl (x_pickF rfl rfl rfl rfl) ?_
                      refine we_nil ?_
                      cases h
                      exact ⟨rfl, _, .re [true, false, false, true, false, false, false, false, false, false, false, true, false, false, false, false, false, false, false, false, false, false, false, false, false, false, false, false, false, false, false, false, false, false, false, false, false, false, false, false, false, false, false, false, false, false, false, false, false, false, false, false, false, false, false, false, false, false, false, false, false, false, false, false, false, false, false, false, false, false, false, false, false, false, false, false, false, false, false, false, false, false, false, false, false, false, false, false, false, false, false, false, false, false, false, false, false, false, false, false, false, false, false, false, false, false, false, false, false, false, false, false, false, false, false, false, false, false, false, false, false, false, false, false, false, false, false, false, false, false, false, false, false, false, false, false, false, false, false, false, false, false, false, false, false, false, false, false, true, false, false, false, false, false, false, false, false, false, false, false, false, false, false, false, false, false, false, false, false, false, false, false, false, false, false, false, false, false, false, false, false, false, false, false, false, false, false, false, false, false, false, false, false, false] [] [] rfl (.refl _), rfl⟩
                    · intro hc
                      replace h := iteF h hc
                      refine p_ 143 rfl rfl rfl rfl (.un rfl rfl rfl) ?_
                      refine p_ 144 rfl rfl rfl rfl (.move rfl rfl) ?_
                      refine k_ 145 rfl rfl rfl ?_
                      refine k_ 146 rfl rfl rfl ?_
                      refine k_ 147 rfl rfl rfl ?_
                      refine p_ 148 rfl rfl rfl rfl (x_pickT rfl rfl rfl rfl) ?_
                      refine we_nil ?_
                      cases h
                      exact ⟨rfl, _, .re [true, false, false, true, false, false, false, false, false, false, false, true, false, false, false, false, false, false, false, false, false, false, false, false, false, false, false, false, false, false, false, false, false, false, false, false, false, false, false, false, false, false, false, false, false, false, false, false, false, false, false, false, false, false, false, false, false, false, false, false, false, false, false, false, false, false, false, false, false, false, false, false, false, false, false, false, false, false, false, false, false, false, false, false, false, false, false, false, false, false, false, false, false, false, false, false, false, false, false, false, false, false, false, false, false, false, false, false, false, false, false, false, false, false, false, false, false, false, false, false, false, false, false, false, false, false, false, false, false, false, false, false, false, false, false, false, false, false, false, false, false, false, false, false, false, false, false, false, true, false, false, false, false, false, false, false, false, false, false, false, false, false, false, false, false, false, false, false, false, false, false, false, false, false, false, false, false, false, false, false, false, false, false, false, false, false, false, false, false, false, false, false, false, false] [] [] rfl (.refl _), rfl⟩
                  · clear hq
                    refine ex_if rfl ?_ ?_
                    · intro hc
                      replace h := iteT h hc
                      refine ex_seq ?_
                      refine ex_ord [] (l := [0]) rfl ?_
                      refine p_ 8 rfl rfl rfl rfl (.assign rfl rfl) ?_
                      refine we_nil ?_
                      refine ex_ret ?_
                      obtain rfl := Option.some.inj h
                      exact finB (by first | exact .inr rfl | exact .inl rfl) (.refl _) [.bool false] [] [] (res_cons (res_tmp rfl) res_nil) rfl rfl rfl rfl rfl rfl rfl
                    · intro hc
                      replace h := iteF h hc
                      refine ex_skip ?_
                      refine ex_seq ?_
                      refine ex_ord [7, 8] (l := [0, 1, 2, 3, 4, 5, 6, 7, 8, 9]) rfl ?_
                      refine p_ 150 rfl rfl rfl rfl (.move rfl rfl) ?_
                      refine p_ 151 rfl rfl rfl rfl (x_loadA rfl rfl rfl sz29 un29 ag29 rfl) ?_
                      refine p_ 152 rfl rfl rfl rfl (.move rfl rfl) ?_
                      obtain ⟨v20, hv20, h⟩ := bindS h
                      refine p_ 153 rfl rfl rfl rfl (x_callP rfl rfl en13 (ok_doc_Step hv20) rfl rfl rfl rfl rfl) ?_
                      refine p_ 149 rfl rfl rfl rfl (.move rfl rfl) ?_
                      refine p_ 154 rfl rfl rfl rfl (.extract rfl rfl rfl rfl) ?_
                      refine p_ 155 rfl rfl rfl rfl (.extract rfl rfl rfl rfl) ?_
                      refine e_ (d := .bx 0 0) 19 rfl rfl rfl rfl rfl (b' := [some [.int .i64 0, .int .i64 0]]) (r' := []) (.alloc rfl ze29) rfl ?_
                      refine e0 rfl rfl rfl rfl rfl (b' := [some [.int .i64 v20.1.f_Line, .int .i64 v20.1.f_At]]) (r' := []) (.store rfl rfl rfl sz29 rfl rfl rfl) rfl ?_
                      refine p_ 18 rfl rfl rfl rfl (.assign rfl rfl) ?_
                      refine we_nil ?_
                      refine ex_seq ?_
                      refine ex_seq ?_
                      refine ex_gst ⟨[.sl false (List.map c_api_Line p0), .top, .top, .int .i64 p3, .top, .top, .top, .top, .top, .top, .top, .cp [.int .i64 v10.1.f_Line, .int .i64 v10.1.f_At], .top, .top, .top, .top, .top, .top, .bool v20.2, .cp [.int .i64 v20.1.f_Line, .int .i64 v20.1.f_At], .top, .top, .top, .top, .top, .top, .top, .top, .top, .top, .top, .top, .top, .top, .top, .top, .top, .top, .top, .top, .top, .top, .top, .top, .top, .top, .top, .top, .top, .top, .top, .top, .top, .top, .top, .top, .top, .top, .top, .top, .top, .top, .top, .top, .top, .top, .top, .top, .top, .top, .top, .top, .top, .top, .top, .top, .top, .top, .top, .top, .top, .top, .top, .top, .top, .top, .top, .top, .top, .top, .top, .top, .top, .top, .top, .top, .top, .top, .top, .top, .top, .top, .top, .top, .top, .top, .top, .top, .top, .top, .top, .top, .top, .top, .top, .top, .top, .top, .top, .top, .top, .top, .top, .top, .top, .top, .top, .top, .top, .top, .top, .top, .top, .top, .top, .top, .top, .top, .top, .top, .top, .top, .top, .top, .top, .top, .top, .top, .bool q19, .tup [.agg [.int .i64 v20.1.f_Line, .int .i64 v20.1.f_At], .bool v20.2], .sl false (List.map c_api_Line p0), .agg [.int .i64 v10.1.f_Line, .int .i64 v10.1.f_At], .int .i64 p3, .tup [.agg [.int .i64 v20.1.f_Line, .int .i64 v20.1.f_At], .bool v20.2], .agg [.int .i64 v20.1.f_Line, .int .i64 v20.1.f_At], .bool v20.2, .top, .top, .top, .top, .top, .top, .top, .top, .top, .top, .top, .top, .top, .top, .top, .top, .top, .top, .top, .top, .top, .top, .top, .top, .top, .top, .top, .top, .top, .top, .top, .top, .top, .top, .top, .top, .top, .top], [none], [], 0⟩ (.shutB (b := 0) rfl (fun d h => by simpa using List.all_eq_true.1 (rfl : List.all [.int .i64 v20.1.f_Line, .int .i64 v20.1.f_At] (fun d => !d.tok) = true) d h) (.refl _)) rfl ?_
                      refine ex_ord [] (l := [0]) rfl ?_
                      refine p_ 156 rfl rfl rfl rfl (.move rfl rfl) ?_
                      refine we_nil ?_
                      refine ex_if rfl ?_ ?_
                      · intro hc
                        replace h := iteT h hc
                        refine ex_seq ?_
                        refine ex_ord [8, 9] (l := [0, 1, 2, 3, 4, 5, 6, 7, 8, 9, 10]) rfl ?_
                        refine p_ 158 rfl rfl rfl rfl (.move rfl rfl) ?_
                        refine p_ 159 rfl rfl rfl rfl (x_loadA rfl rfl rfl sz29 un29 ag29 rfl) ?_
                        refine p_ 160 rfl rfl rfl rfl (.move rfl rfl) ?_
                        refine p_ 161 rfl rfl rfl rfl (.un rfl rfl rfl) ?_
                        obtain ⟨v21, hv21, h⟩ := bindS h
                        refine p_ 162 rfl rfl rfl rfl (x_callP rfl rfl en13 (ok_doc_Step hv21) rfl rfl rfl rfl rfl) ?_
                        refine p_ 157 rfl rfl rfl rfl (.move rfl rfl) ?_
                        refine p_ 163 rfl rfl rfl rfl (.extract rfl rfl rfl rfl) ?_
                        refine p_ 164 rfl rfl rfl rfl (.extract rfl rfl rfl rfl) ?_
                        refine e_ (d := .bx 1 0) 20 rfl rfl rfl rfl rfl (b' := [none, some [.int .i64 0, .int .i64 0]]) (r' := []) (.alloc rfl ze29) rfl ?_
                        refine e0 rfl rfl rfl rfl rfl (b' := [none, some [.int .i64 v21.1.f_Line, .int .i64 v21.1.f_At]]) (r' := []) (.store rfl rfl rfl sz29 rfl rfl rfl) rfl ?_
                        refine p_ 21 rfl rfl rfl rfl (.assign rfl rfl) ?_
                        refine we_nil ?_
                        refine ex_seq ?_
                        refine ex_gst ⟨[.sl false (List.map c_api_Line p0), .top, .top, .int .i64 p3, .top, .top, .top, .top, .top, .top, .top, .cp [.int .i64 v10.1.f_Line, .int .i64 v10.1.f_At], .top, .top, .top, .top, .top, .top, .bool v20.2, .cp [.int .i64 v20.1.f_Line, .int .i64 v20.1.f_At], .cp [.int .i64 v21.1.f_Line, .int .i64 v21.1.f_At], .bool v21.2, .top, .top, .top, .top, .top, .top, .top, .top, .top, .top, .top, .top, .top, .top, .top, .top, .top, .top, .top, .top, .top, .top, .top, .top, .top, .top, .top, .top, .top, .top, .top, .top, .top, .top, .top, .top, .top, .top, .top, .top, .top, .top, .top, .top, .top, .top, .top, .top, .top, .top, .top, .top, .top, .top, .top, .top, .top, .top, .top, .top, .top, .top, .top, .top, .top, .top, .top, .top, .top, .top, .top, .top, .top, .top, .top, .top, .top, .top, .top, .top, .top, .top, .top, .top, .top, .top, .top, .top, .top, .top, .top, .top, .top, .top, .top, .top, .top, .top, .top, .top, .top, .top, .top, .top, .top, .top, .top, .top, .top, .top, .top, .top, .top, .top, .top, .top, .top, .top, .top, .top, .top, .top, .top, .top, .top, .top, .bool q19, .tup [.agg [.int .i64 v20.1.f_Line, .int .i64 v20.1.f_At], .bool v20.2], .sl false (List.map c_api_Line p0), .agg [.int .i64 v10.1.f_Line, .int .i64 v10.1.f_At], .int .i64 p3, .tup [.agg [.int .i64 v20.1.f_Line, .int .i64 v20.1.f_At], .bool v20.2], .agg [.int .i64 v20.1.f_Line, .int .i64 v20.1.f_At], .bool v20.2, .bool v20.2, .tup [.agg [.int .i64 v21.1.f_Line, .int .i64 v21.1.f_At], .bool v21.2], .sl false (List.map c_api_Line p0), .agg [.int .i64 v20.1.f_Line, .int .i64 v20.1.f_At], .int .i64 p3, .int .i64 (IntKind.wrap .i64 (0 - p3)), .tup [.agg [.int .i64 v21.1.f_Line, .int .i64 v21.1.f_At], .bool v21.2], .agg [.int .i64 v21.1.f_Line, .int .i64 v21.1.f_At], .bool v21.2, .top, .top, .top, .top, .top, .top, .top, .top, .top, .top, .top, .top, .top, .top, .top, .top, .top, .top, .top, .top, .top, .top, .top, .top, .top, .top, .top, .top, .top], [none, none], [], 0⟩ (.shutB (b := 1) rfl (fun d h => by simpa using List.all_eq_true.1 (rfl : List.all [.int .i64 v21.1.f_Line, .int .i64 v21.1.f_At] (fun d => !d.tok) = true) d h) (.refl _)) rfl ?_
                        obtain ⟨q22, hq, h⟩ := bindS h
                        refine ex_cut ⟨[.top, .top, .top, .top, .top, .top, .top, .top, .bool q22, .top, .top, .top, .top, .top, .top, .top, .top, .top, .top, .top, .top, .top, .top, .top, .top, .top, .top, .top, .top, .top, .top, .top, .top, .top, .top, .top, .top, .top, .top, .top, .top, .top, .top, .top, .top, .top, .top, .top, .top, .top, .top, .top, .top, .top, .top, .top, .top, .top, .top, .top, .top, .top, .top, .top, .top, .top, .top, .top, .top, .top, .top, .top, .top, .top, .top, .top, .top, .top, .top, .top, .top, .top, .top, .top, .top, .top, .top, .top, .top, .top, .top, .top, .top, .top, .top, .top, .top, .top, .top, .top, .top, .top, .top, .top, .top, .top, .top, .top, .top, .top, .top, .top, .top, .top, .top, .top, .top, .top, .top, .top, .top, .top, .top, .top, .top, .top, .top, .top, .top, .top, .top, .top, .top, .top, .top, .top, .top, .top, .top, .top, .top, .top, .top, .top, .top, .top, .top, .top, .top, .top, .top, .top, .top, .top, .top, .top, .top, .top, .top, .top, .top, .top, .top, .top, .top, .top, .top, .top, .top, .top, .top, .top, .top, .top, .top, .top, .top, .top, .top, .top, .top, .top, .top, .top, .top, .top, .top, .top, .top, .top, .top, .top, .top, .top], [], [], 0⟩ ?_ ?_
                        · clear h
                          have h := hq
                          clear hq
                          refine ex_ord [] (l := [0, 1, 2, 3, 4, 5, 6, 7, 8, 9]) rfl ?_
                          refine pif 165 rfl rfl rfl rfl (.move rfl rfl) ?_ ?_
                          · intro hc
                            replace h := iteT h hc
                            refine p_ 166 rfl rfl rfl rfl (.move rfl rfl) ?_
                            refine p_ 167 rfl rfl rfl rfl (x_loadA rfl rfl rfl sz29 un29 ag29 rfl) ?_
                            refine p_ 168 rfl rfl rfl rfl (x_loadA rfl rfl rfl sz29 un29 ag29 rfl) ?_
                            refine pif 169 rfl rfl rfl rfl (x_eqG (b := ((v21.1.f_Line : Int) == v10.1.f_Line) && (((v21.1.f_At : Int) == v10.1.f_At) && true)) rfl rfl rfl eq29 rfl (by simp only [List.all_cons, List.all_nil, bs_beq, id_eq])) ?_ ?_
                            · intro hc
                              replace h := iteT h hc
                              refine p_ 170 rfl rfl rfl rfl (x_pickT rfl rfl rfl rfl) ?_
                              refine p_ 171 rfl rfl rfl rfl (.move rfl rfl) ?_
                              obtain ⟨v23, hv23, h⟩ := bindS h
                              refine p_ 172 rfl rfl rfl rfl (x_callP rfl rfl en5 (ok_quillworklaw07u_awake hv23) rfl rfl rfl rfl rfl) ?_
                              refine p_ 173 rfl rfl rfl rfl (x_pickT rfl rfl rfl rfl) ?_
                              refine p_ 8 rfl rfl rfl rfl (.assign rfl rfl) ?_
                              refine we_nil ?_
                              cases h
                              exact ⟨rfl, _, .re [false, false, false, false, false, false, false, false, true, false, false, false, false, false, false, false, false, false, false, false, false, false, false, false, false, false, false, false, false, false, false, false, false, false, false, false, false, false, false, false, false, false, false, false, false, false, false, false, false, false, false, false, false, false, false, false, false, false, false, false, false, false, false, false, false, false, false, false, false, false, false, false, false, false, false, false, false, false, false, false, false, false, false, false, false, false, false, false, false, false, false, false, false, false, false, false, false, false, false, false, false, false, false, false, false, false, false, false, false, false, false, false, false, false, false, false, false, false, false, false, false, false, false, false, false, false, false, false, false, false, false, false, false, false, false, false, false, false, false, false, false, false, false, false, false, false, false, false, false, false, false, false, false, false, false, false, false, false, false, false, false, false, false, false, false, false, false, false, false, false, false, false, false, false, false, false, false, false, false, false, false, false, false, false, false, false, false, false, false, false, false, false, false, false] [] [] rfl (.refl _), rfl⟩
                            · intro hc
                              replace h := iteF h hc
                              refine p_ 170 rfl rfl rfl rfl (x_pickT rfl rfl rfl rfl) ?_
                              refine p_ 171 rfl rfl rfl rfl (.move rfl rfl) ?_
                              refine k_ 172 rfl rfl rfl ?_
                              refine p_ 173 rfl rfl rfl rfl (x_pickF rfl rfl rfl rfl) ?_
                              refine p_ 8 rfl rfl rfl rfl (.assign rfl rfl) ?_
                              refine we_nil ?_
                              cases h
                              exact ⟨rfl, _, .re [false, false, false, false, false, false, false, false, true, false, false, false, false, false, false, false, false, false, false, false, false, false, false, false, false, false, false, false, false, false, false, false, false, false, false, false, false, false, false, false, false, false, false, false, false, false, false, false, false, false, false, false, false, false, false, false, false, false, false, false, false, false, false, false, false, false, false, false, false, false, false, false, false, false, false, false, false, false, false, false, false, false, false, false, false, false, false, false, false, false, false, false, false, false, false, false, false, false, false, false, false, false, false, false, false, false, false, false, false, false, false, false, false, false, false, false, false, false, false, false, false, false, false, false, false, false, false, false, false, false, false, false, false, false, false, false, false, false, false, false, false, false, false, false, false, false, false, false, false, false, false, false, false, false, false, false, false, false, false, false, false, false, false, false, false, false, false, false, false, false, false, false, false, false, false, false, false, false, false, false, false, false, false, false, false, false, false, false, false, false, false, false, false, false] [] [] rfl (.refl _), rfl⟩
                          · intro hc
                            replace h := iteF h hc
                            refine p_ 166 rfl rfl rfl rfl (.move rfl rfl) ?_
                            refine k_ 167 rfl rfl rfl ?_
                            refine k_ 168 rfl rfl rfl ?_
                            refine k_ 169 rfl rfl rfl ?_
                            refine p_ 170 rfl rfl rfl rfl (x_pickF rfl rfl rfl rfl) ?_
                            refine p_ 171 rfl rfl rfl rfl (.move rfl rfl) ?_
                            refine k_ 172 rfl rfl rfl ?_
                            refine p_ 173 rfl rfl rfl rfl (x_pickF rfl rfl rfl rfl) ?_
                            refine p_ 8 rfl rfl rfl rfl (.assign rfl rfl) ?_
                            refine we_nil ?_
                            cases h
                            exact ⟨rfl, _, .re [false, false, false, false, false, false, false, false, true, false, false, false, false, false, false, false, false, false, false, false, false, false, false, false, false, false, false, false, false, false, false, false, false, false, false, false, false, false, false, false, false, false, false, false, false, false, false, false, false, false, false, false, false, false, false, false, false, false, false, false, false, false, false, false, false, false, false, false, false, false, false, false, false, false, false, false, false, false, false, false, false, false, false, false, false, false, false, false, false, false, false, false, false, false, false, false, false, false, false, false, false, false, false, false, false, false, false, false, false, false, false, false, false, false, false, false, false, false, false, false, false, false, false, false, false, false, false, false, false, false, false, false, false, false, false, false, false, false, false, false, false, false, false, false, false, false, false, false, false, false, false, false, false, false, false, false, false, false, false, false, false, false, false, false, false, false, false, false, false, false, false, false, false, false, false, false, false, false, false, false, false, false, false, false, false, false, false, false, false, false, false, false, false, false] [] [] rfl (.refl _), rfl⟩
                        · clear hq
                          refine ex_ret ?_
                          obtain rfl := Option.some.inj h
                          exact finB (by first | exact .inr rfl | exact .inl rfl) (.refl _) [.bool q22] [] [] (res_cons (res_tmp rfl) res_nil) rfl rfl rfl rfl rfl rfl rfl
                      · intro hc
                        replace h := iteF h hc
                        refine ex_skip ?_
                        refine ex_seq ?_
                        obtain ⟨q24, hq, h⟩ := bindS h
                        refine ex_cut ⟨[.top, .top, .top, .top, .top, .top, .top, .top, .bool q24, .top, .top, .top, .top, .top, .top, .top, .top, .top, .top, .top, .top, .top, .top, .top, .top, .top, .top, .top, .top, .top, .top, .top, .top, .top, .top, .top, .top, .top, .top, .top, .top, .top, .top, .top, .top, .top, .top, .top, .top, .top, .top, .top, .top, .top, .top, .top, .top, .top, .top, .top, .top, .top, .top, .top, .top, .top, .top, .top, .top, .top, .top, .top, .top, .top, .top, .top, .top, .top, .top, .top, .top, .top, .top, .top, .top, .top, .top, .top, .top, .top, .top, .top, .top, .top, .top, .top, .top, .top, .top, .top, .top, .top, .top, .top, .top, .top, .top, .top, .top, .top, .top, .top, .top, .top, .top, .top, .top, .top, .top, .top, .top, .top, .top, .top, .top, .top, .top, .top, .top, .top, .top, .top, .top, .top, .top, .top, .top, .top, .top, .top, .top, .top, .top, .top, .top, .top, .top, .top, .top, .top, .top, .top, .top, .top, .top, .top, .top, .top, .top, .top, .top, .top, .top, .top, .top, .top, .top, .top, .top, .top, .top, .top, .top, .top, .top, .top, .top, .top, .top, .top, .top, .top, .top, .top, .top, .top, .top, .top, .top, .top, .top, .top, .top, .top], [], [], 0⟩ ?_ ?_
                        · clear h
                          have h := hq
                          clear hq
                          refine ex_drw mo [1003, 1004, 1011, 1013, 1018] (by kernel_rfl) (l := [0, 1, 2, 3, 4, 5, 6, 7, 8, 9, 10, 11, 12, 13, 14, 15, 16, 17, 18, 19, 20]) rfl ?_
                          refine p_ 174 rfl rfl rfl rfl (.move rfl rfl) ?_
                          refine pif 175 rfl rfl rfl rfl (.bin rfl rfl rfl rfl) ?_ ?_
                          · intro hc
                            replace h := iteT h hc
                            refine p_ 176 rfl rfl rfl rfl (.move rfl rfl) ?_
                            refine n_ 177 rfl rfl rfl (fun _ _ => x_loadA rfl rfl rfl sz29 un29 ag29 rfl) ?_
                            refine n_ 178 rfl rfl rfl (fun _ _ => x_build rfl pl29 ze29 rfl rfl rfl rfl) ?_
                            refine pif 179 rfl rfl rfl rfl (x_eqG (b := ((v20.1.f_Line : Int) == 0) && (((v20.1.f_At : Int) == 0) && true)) rfl rfl rfl eq29 rfl (by simp only [List.all_cons, List.all_nil, bs_beq, id_eq])) ?_ ?_
                            · intro hc
                              replace h := iteT h hc
                              refine p_ 180 rfl rfl rfl rfl (x_pickT rfl rfl rfl rfl) ?_
                              refine p_ 181 rfl rfl rfl rfl (.move rfl rfl) ?_
                              refine k_ 182 rfl rfl rfl ?_
                              refine k_ 183 rfl rfl rfl ?_
                              refine k_ 184 rfl rfl rfl ?_
                              refine k_ 185 rfl rfl rfl ?_
                              refine k_ 186 rfl rfl rfl ?_
                              refine k_ 187 rfl rfl rfl ?_
                              refine k_ 188 rfl rfl rfl ?_
                              refine k_ 189 rfl rfl rfl ?_
                              refine p_ 190 rfl rfl rfl rfl (x_pickT rfl rfl rfl rfl) ?_
                              refine p_ 191 rfl rfl rfl rfl (.move rfl rfl) ?_
                              obtain ⟨v25, hv25, h⟩ := bindS h
                              refine n_ 192 rfl rfl rfl (fun _ _ => x_callP rfl rfl en5 (ok_quillworklaw07u_awake hv25) rfl rfl rfl rfl rfl) ?_
                              refine p_ 193 rfl rfl rfl rfl (x_pickT rfl rfl rfl rfl) ?_
                              refine p_ 8 rfl rfl rfl rfl (.assign rfl rfl) ?_
                              refine we_nil ?_
                              cases h
                              exact ⟨rfl, _, .re [false, false, false, false, false, false, false, false, true, false, false, false, false, false, false, false, false, false, false, false, false, false, false, false, false, false, false, false, false, false, false, false, false, false, false, false, false, false, false, false, false, false, false, false, false, false, false, false, false, false, false, false, false, false, false, false, false, false, false, false, false, false, false, false, false, false, false, false, false, false, false, false, false, false, false, false, false, false, false, false, false, false, false, false, false, false, false, false, false, false, false, false, false, false, false, false, false, false, false, false, false, false, false, false, false, false, false, false, false, false, false, false, false, false, false, false, false, false, false, false, false, false, false, false, false, false, false, false, false, false, false, false, false, false, false, false, false, false, false, false, false, false, false, false, false, false, false, false, false, false, false, false, false, false, false, false, false, false, false, false, false, false, false, false, false, false, false, false, false, false, false, false, false, false, false, false, false, false, false, false, false, false, false, false, false, false, false, false, false, false, false, false, false, false] [] [] rfl (.refl _), rfl⟩
                            · intro hc
                              replace h := iteF h hc
                              refine p_ 180 rfl rfl rfl rfl (x_pickT rfl rfl rfl rfl) ?_
                              refine p_ 181 rfl rfl rfl rfl (.move rfl rfl) ?_
                              refine p_ 182 rfl rfl rfl rfl (.move rfl rfl) ?_
                              refine pif 183 rfl rfl rfl rfl (.bin rfl rfl rfl rfl) ?_ ?_
                              · intro hc
                                replace h := iteT h hc
                                refine p_ 184 rfl rfl rfl rfl (.move rfl rfl) ?_
                                refine n_ 185 rfl rfl rfl (fun _ _ => x_loadA rfl rfl rfl sz29 un29 ag29 rfl) ?_
                                refine p_ 186 rfl rfl rfl rfl (.move rfl rfl) ?_
                                obtain ⟨v26, hv26, h⟩ := bindS h
                                refine n_ 187 rfl rfl rfl (fun _ _ => x_callP rfl rfl en7 (ok_doc_End hv26) rfl rfl rfl rfl rfl) ?_
                                refine pif 188 rfl rfl rfl rfl (x_eqG (b := ((v20.1.f_Line : Int) == v26.f_Line) && (((v20.1.f_At : Int) == v26.f_At) && true)) rfl rfl rfl eq29 rfl (by simp only [List.all_cons, List.all_nil, bs_beq, id_eq])) ?_ ?_
                                · intro hc
                                  replace h := iteT h hc
                                  refine p_ 189 rfl rfl rfl rfl (x_pickT rfl rfl rfl rfl) ?_
                                  refine p_ 190 rfl rfl rfl rfl (x_pickF rfl rfl rfl rfl) ?_
                                  refine p_ 191 rfl rfl rfl rfl (.move rfl rfl) ?_
                                  obtain ⟨v27, hv27, h⟩ := bindS h
                                  refine n_ 192 rfl rfl rfl (fun _ _ => x_callP rfl rfl en5 (ok_quillworklaw07u_awake hv27) rfl rfl rfl rfl rfl) ?_
                                  refine p_ 193 rfl rfl rfl rfl (x_pickT rfl rfl rfl rfl) ?_
                                  refine p_ 8 rfl rfl rfl rfl (.assign rfl rfl) ?_
                                  refine we_nil ?_
                                  cases h
                                  exact ⟨rfl, _, .re [false, false, false, false, false, false, false, false, true, false, false, false, false, false, false, false, false, false, false, false, false, false, false, false, false, false, false, false, false, false, false, false, false, false, false, false, false, false, false, false, false, false, false, false, false, false, false, false, false, false, false, false, false, false, false, false, false, false, false, false, false, false, false, false, false, false, false, false, false, false, false, false, false, false, false, false, false, false, false, false, false, false, false, false, false, false, false, false, false, false, false, false, false, false, false, false, false, false, false, false, false, false, false, false, false, false, false, false, false, false, false, false, false, false, false, false, false, false, false, false, false, false, false, false, false, false, false, false, false, false, false, false, false, false, false, false, false, false, false, false, false, false, false, false, false, false, false, false, false, false, false, false, false, false, false, false, false, false, false, false, false, false, false, false, false, false, false, false, false, false, false, false, false, false, false, false, false, false, false, false, false, false, false, false, false, false, false, false, false, false, false, false, false, false] [] [] rfl (.refl _), rfl⟩
                                · intro hc
                                  replace h := iteF h hc
                                  refine p_ 189 rfl rfl rfl rfl (x_pickT rfl rfl rfl rfl) ?_
                                  refine p_ 190 rfl rfl rfl rfl (x_pickF rfl rfl rfl rfl) ?_
                                  refine p_ 191 rfl rfl rfl rfl (.move rfl rfl) ?_
                                  refine k_ 192 rfl rfl rfl ?_
                                  refine p_ 193 rfl rfl rfl rfl (x_pickF rfl rfl rfl rfl) ?_
                                  refine p_ 8 rfl rfl rfl rfl (.assign rfl rfl) ?_
                                  refine we_nil ?_
                                  cases h
                                  exact ⟨rfl, _, .re [false, false, false, false, false, false, false, false, true, false, false, false, false, false, false, false, false, false, false, false, false, false, false, false, false, false, false, false, false, false, false, false, false, false, false, false, false, false, false, false, false, false, false, false, false, false, false, false, false, false, false, false, false, false, false, false, false, false, false, false, false, false, false, false, false, false, false, false, false, false, false, false, false, false, false, false, false, false, false, false, false, false, false, false, false, false, false, false, false, false, false, false, false, false, false, false, false, false, false, false, false, false, false, false, false, false, false, false, false, false, false, false, false, false, false, false, false, false, false, false, false, false, false, false, false, false, false, false, false, false, false, false, false, false, false, false, false, false, false, false, false, false, false, false, false, false, false, false, false, false, false, false, false, false, false, false, false, false, false, false, false, false, false, false, false, false, false, false, false, false, false, false, false, false, false, false, false, false, false, false, false, false, false, false, false, false, false, false, false, false, false, false, false, false] [] [] rfl (.refl _), rfl⟩
                              · intro hc
                                replace h := iteF h hc
                                refine p_ 184 rfl rfl rfl rfl (.move rfl rfl) ?_
                                refine k_ 185 rfl rfl rfl ?_
                                refine k_ 186 rfl rfl rfl ?_
                                refine k_ 187 rfl rfl rfl ?_
                                refine k_ 188 rfl rfl rfl ?_
                                refine p_ 189 rfl rfl rfl rfl (x_pickF rfl rfl rfl rfl) ?_
                                refine p_ 190 rfl rfl rfl rfl (x_pickF rfl rfl rfl rfl) ?_
                                refine p_ 191 rfl rfl rfl rfl (.move rfl rfl) ?_
                                refine k_ 192 rfl rfl rfl ?_
                                refine p_ 193 rfl rfl rfl rfl (x_pickF rfl rfl rfl rfl) ?_
                                refine p_ 8 rfl rfl rfl rfl (.assign rfl rfl) ?_
                                refine we_nil ?_
                                cases h
                                exact ⟨rfl, _, .re [false, false, false, false, false, false, false, false, true, false, false, false, false, false, false, false, false, false, false, false, false, false, false, false, false, false, false, false, false, false, false, false, false, false, false, false, false, false, false, false, false, false, false, false, false, false, false, false, false, false, false, false, false, false, false, false, false, false, false, false, false, false, false, false, false, false, false, false, false, false, false, false, false, false, false, false, false, false, false, false, false, false, false, false, false, false, false, false, false, false, false, false, false, false, false, false, false, false, false, false, false, false, false, false, false, false, false, false, false, false, false, false, false, false, false, false, false, false, false, false, false, false, false, false, false, false, false, false, false, false, false, false, false, false, false, false, false, false, false, false, false, false, false, false, false, false, false, false, false, false, false, false, false, false, false, false, false, false, false, false, false, false, false, false, false, false, false, false, false, false, false, false, false, false, false, false, false, false, false, false, false, false, false, false, false, false, false, false, false, false, false, false, false, false] [] [] rfl (.refl _), rfl⟩
                          · intro hc
                            replace h := iteF h hc
                            refine p_ 176 rfl rfl rfl rfl (.move rfl rfl) ?_
                            refine k_ 177 rfl rfl rfl ?_
                            refine k_ 178 rfl rfl rfl ?_
                            refine k_ 179 rfl rfl rfl ?_
                            refine p_ 180 rfl rfl rfl rfl (x_pickF rfl rfl rfl rfl) ?_
                            refine p_ 181 rfl rfl rfl rfl (.move rfl rfl) ?_
                            refine p_ 182 rfl rfl rfl rfl (.move rfl rfl) ?_
                            refine pif 183 rfl rfl rfl rfl (.bin rfl rfl rfl rfl) ?_ ?_
                            · intro hc
                              replace h := iteT h hc
                              refine p_ 184 rfl rfl rfl rfl (.move rfl rfl) ?_
                              refine n_ 185 rfl rfl rfl (fun _ _ => x_loadA rfl rfl rfl sz29 un29 ag29 rfl) ?_
                              refine p_ 186 rfl rfl rfl rfl (.move rfl rfl) ?_
                              obtain ⟨v28, hv28, h⟩ := bindS h
                              refine n_ 187 rfl rfl rfl (fun _ _ => x_callP rfl rfl en7 (ok_doc_End hv28) rfl rfl rfl rfl rfl) ?_
                              refine pif 188 rfl rfl rfl rfl (x_eqG (b := ((v20.1.f_Line : Int) == v28.f_Line) && (((v20.1.f_At : Int) == v28.f_At) && true)) rfl rfl rfl eq29 rfl (by simp only [List.all_cons, List.all_nil, bs_beq, id_eq])) ?_ ?_
                              · intro hc
                                replace h := iteT h hc
                                refine p_ 189 rfl rfl rfl rfl (x_pickT rfl rfl rfl rfl) ?_
                                refine p_ 190 rfl rfl rfl rfl (x_pickF rfl rfl rfl rfl) ?_
                                refine p_ 191 rfl rfl rfl rfl (.move rfl rfl) ?_
                                obtain ⟨v29, hv29, h⟩ := bindS h
                                refine n_ 192 rfl rfl rfl (fun _ _ => x_callP rfl rfl en5 (ok_quillworklaw07u_awake hv29) rfl rfl rfl rfl rfl) ?_
                                refine p_ 193 rfl rfl rfl rfl (x_pickT rfl rfl rfl rfl) ?_
                                refine p_ 8 rfl rfl rfl rfl (.assign rfl rfl) ?_
                                refine we_nil ?_
                                cases h
                                exact ⟨rfl, _, .re [false, false, false, false, false, false, false, false, true, false, false, false, false, false, false, false, false, false, false, false, false, false, false, false, false, false, false, false, false, false, false, false, false, false, false, false, false, false, false, false, false, false, false, false, false, false, false, false, false, false, false, false, false, false, false, false, false, false, false, false, false, false, false, false, false, false, false, false, false, false, false, false, false, false, false, false, false, false, false, false, false, false, false, false, false, false, false, false, false, false, false, false, false, false, false, false, false, false, false, false, false, false, false, false, false, false, false, false, false, false, false, false, false, false, false, false, false, false, false, false, false, false, false, false, false, false, false, false, false, false, false, false, false, false, false, false, false, false, false, false, false, false, false, false, false, false, false, false, false, false, false, false, false, false, false, false, false, false, false, false, false, false, false, false, false, false, false, false, false, false, false, false, false, false, false, false, false, false, false, false, false, false, false, false, false, false, false, false, false, false, false, false, false, false] [] [] rfl (.refl _), rfl⟩
                              · intro hc
                                replace h := iteF h hc
                                refine p_ 189 rfl rfl rfl rfl (x_pickT rfl rfl rfl rfl) ?_
                                refine p_ 190 rfl rfl rfl rfl (x_pickF rfl rfl rfl rfl) ?_
                                refine p_ 191 rfl rfl rfl rfl (.move rfl rfl) ?_
                                refine k_ 192 rfl rfl rfl ?_
                                refine p_ 193 rfl rfl rfl rfl (x_pickF rfl rfl rfl rfl) ?_
                                refine p_ 8 rfl rfl rfl rfl (.assign rfl rfl) ?_
                                refine we_nil ?_
                                cases h
                                exact ⟨rfl, _, .re [false, false, false, false, false, false, false, false, true, false, false, false, false, false, false, false, false, false, false, false, false, false, false, false, false, false, false, false, false, false, false, false, false, false, false, false, false, false, false, false, false, false, false, false, false, false, false, false, false, false, false, false, false, false, false, false, false, false, false, false, false, false, false, false, false, false, false, false, false, false, false, false, false, false, false, false, false, false, false, false, false, false, false, false, false, false, false, false, false, false, false, false, false, false, false, false, false, false, false, false, false, false, false, false, false, false, false, false, false, false, false, false, false, false, false, false, false, false, false, false, false, false, false, false, false, false, false, false, false, false, false, false, false, false, false, false, false, false, false, false, false, false, false, false, false, false, false, false, false, false, false, false, false, false, false, false, false, false, false, false, false, false, false, false, false, false, false, false, false, false, false, false, false, false, false, false, false, false, false, false, false, false, false, false, false, false, false, false, false, false, false, false, false, false] [] [] rfl (.refl _), rfl⟩
                            · intro hc
                              replace h := iteF h hc
                              refine p_ 184 rfl rfl rfl rfl (.move rfl rfl) ?_
                              refine k_ 185 rfl rfl rfl ?_
                              refine k_ 186 rfl rfl rfl ?_
                              refine k_ 187 rfl rfl rfl ?_
                              refine k_ 188 rfl rfl rfl ?_
                              refine p_ 189 rfl rfl rfl rfl (x_pickF rfl rfl rfl rfl) ?_
                              refine p_ 190 rfl rfl rfl rfl (x_pickF rfl rfl rfl rfl) ?_
                              refine p_ 191 rfl rfl rfl rfl (.move rfl rfl) ?_
                              refine k_ 192 rfl rfl rfl ?_
                              refine p_ 193 rfl rfl rfl rfl (x_pickF rfl rfl rfl rfl) ?_
                              refine p_ 8 rfl rfl rfl rfl (.assign rfl rfl) ?_
                              refine we_nil ?_
                              cases h
                              exact ⟨rfl, _, .re [false, false, false, false, false, false, false, false, true, false, false, false, false, false, false, false, false, false, false, false, false, false, false, false, false, false, false, false, false, false, false, false, false, false, false, false, false, false, false, false, false, false, false, false, false, false, false, false, false, false, false, false, false, false, false, false, false, false, false, false, false, false, false, false, false, false, false, false, false, false, false, false, false, false, false, false, false, false, false, false, false, false, false, false, false, false, false, false, false, false, false, false, false, false, false, false, false, false, false, false, false, false, false, false, false, false, false, false, false, false, false, false, false, false, false, false, false, false, false, false, false, false, false, false, false, false, false, false, false, false, false, false, false, false, false, false, false, false, false, false, false, false, false, false, false, false, false, false, false, false, false, false, false, false, false, false, false, false, false, false, false, false, false, false, false, false, false, false, false, false, false, false, false, false, false, false, false, false, false, false, false, false, false, false, false, false, false, false, false, false, false, false, false, false] [] [] rfl (.refl _), rfl⟩
                        · clear hq
                          refine ex_ret ?_
                          obtain rfl := Option.some.inj h
                          exact finB (by first | exact .inr rfl | exact .inl rfl) (.refl _) [.bool q24] [] [] (res_cons (res_tmp rfl) res_nil) rfl rfl rfl rfl rfl rfl rfl
end Go.PM
