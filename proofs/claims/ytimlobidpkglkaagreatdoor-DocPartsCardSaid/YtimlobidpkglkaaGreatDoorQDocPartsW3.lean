/-
  The walks: each Go function answers what its plain Lean function answers. Printed. Part 3 of 4. No condition but that the plain function answers.
-/
import Derived.Test.YtimlobidpkglkaaGreatDoorQDocPartsW2
set_option linter.unusedVariables false
set_option linter.unusedSimpArgs false
set_option linter.unusedSectionVars false
set_option linter.unnecessarySimpa false
namespace Go.PM
open Go.RowKit Go.Proofs.Tryz
set_option linter.unusedSimpArgs false
set_option linter.unusedVariables false
set_option maxRecDepth 4000
theorem ok_quillworkref07u_Part {r : (List (T_api_Line)) × Int} {p0 : List (T_api_Line)} {p1 : T_api_Pos} {p2 : T_api_Pos} (h : quillworkref07u_Part p0 p1 p2 = some r) : OkB prog 52 [.sl false (List.map c_api_Line p0), .agg [.int .i64 p1.f_Line, .int .i64 p1.f_At], .agg [.int .i64 p2.f_Line, .int .i64 p2.f_At]] [] [] (.tup [.own 0, .int .i64 r.2]) [] [⟨55, 4, List.map c_api_Line r.1⟩] := by
 unfold quillworkref07u_Part at h
 refine okB_of_exG func52 rfl rfl (s0 := [.sl false (List.map c_api_Line p0), .agg [.int .i64 p1.f_Line, .int .i64 p1.f_At], .agg [.int .i64 p2.f_Line, .int .i64 p2.f_At], Z, Z, Z, Z, Z, Z, Z, Z, Z, Z, Z, Z, Z, Z, Z, Z, Z, Z, Z, Z, Z, Z, Z, Z, Z, Z, Z, Z, Z, Z, Z, Z, Z, Z, Z, Z, Z, Z, Z, Z, Z, Z, Z, Z, Z, Z, Z, Z, Z, Z, Z]) (b0 := []) (r0 := []) rfl rfl rfl ?_
 show Ex _ _ _ ⟨[.sl false (List.map c_api_Line p0), .agg [.int .i64 p1.f_Line, .int .i64 p1.f_At], .agg [.int .i64 p2.f_Line, .int .i64 p2.f_At], Z, Z, Z, Z, Z, Z, Z, Z, Z, Z, Z, Z, Z, Z, Z, Z, Z, Z, Z, Z, Z, Z, Z, Z, Z, Z, Z, Z, Z, Z, Z, Z, Z, Z, Z, Z, Z, Z, Z, Z, Z, Z, Z, Z, Z, Z, Z, Z, Z, Z, Z], [], [], 0⟩ _
 refine ex_seq ?_
 refine ex_ord [0, 1, 2] (l := [0, 1, 2, 3]) rfl ?_
 refine e_ (d := .bx 0 0) 4 rfl rfl rfl rfl rfl (b' := [some [.int .i64 p1.f_Line, .int .i64 p1.f_At]]) (r' := []) (.box rfl rfl rfl) rfl ?_
 refine e_ (d := .bx 1 0) 5 rfl rfl rfl rfl rfl (b' := [some [.int .i64 p1.f_Line, .int .i64 p1.f_At], some [.int .i64 p2.f_Line, .int .i64 p2.f_At]]) (r' := []) (.box rfl rfl rfl) rfl ?_
 refine e_ (d := .own 0) 6 rfl rfl rfl rfl rfl (b' := [some [.int .i64 p1.f_Line, .int .i64 p1.f_At], some [.int .i64 p2.f_Line, .int .i64 p2.f_At]]) (r' := [some ⟨55, 4, []⟩]) (.nilRow (.inr rfl) rfl 55 4) rfl ?_
 refine pa 7 ?_
 refine we_nil ?_
 refine ex_seq ?_
 refine ex_seq ?_
 refine ex_gst ⟨[.sl false (List.map c_api_Line p0), .agg [.int .i64 p1.f_Line, .int .i64 p1.f_At], .agg [.int .i64 p2.f_Line, .int .i64 p2.f_At], Z, .cp [.int .i64 p1.f_Line, .int .i64 p1.f_At], .bx 1 0, .own 0, .int .i64 0, Z, Z, Z, Z, Z, Z, Z, Z, Z, Z, Z, Z, Z, Z, Z, Z, Z, Z, Z, Z, Z, Z, Z, Z, Z, Z, Z, Z, Z, Z, Z, Z, Z, Z, Z, Z, Z, Z, Z, Z, Z, Z, Z, Z, Z, Z], [none, some [.int .i64 p2.f_Line, .int .i64 p2.f_At]], [some ⟨55, 4, []⟩], 0⟩ (.shutB (b := 0) rfl (fun d h => by simpa using List.all_eq_true.1 (rfl : List.all [.int .i64 p1.f_Line, .int .i64 p1.f_At] (fun d => !d.tok) = true) d h) (.refl _)) rfl ?_
 refine ex_gst ⟨[.sl false (List.map c_api_Line p0), .agg [.int .i64 p1.f_Line, .int .i64 p1.f_At], .agg [.int .i64 p2.f_Line, .int .i64 p2.f_At], Z, .cp [.int .i64 p1.f_Line, .int .i64 p1.f_At], .cp [.int .i64 p2.f_Line, .int .i64 p2.f_At], .own 0, .int .i64 0, Z, Z, Z, Z, Z, Z, Z, Z, Z, Z, Z, Z, Z, Z, Z, Z, Z, Z, Z, Z, Z, Z, Z, Z, Z, Z, Z, Z, Z, Z, Z, Z, Z, Z, Z, Z, Z, Z, Z, Z, Z, Z, Z, Z, Z, Z], [none, none], [some ⟨55, 4, []⟩], 0⟩ (.shutB (b := 1) rfl (fun d h => by simpa using List.all_eq_true.1 (rfl : List.all [.int .i64 p2.f_Line, .int .i64 p2.f_At] (fun d => !d.tok) = true) d h) (.refl _)) rfl ?_
 refine ex_ord [] (l := [0, 1, 2, 3, 4]) rfl ?_
 refine pm 13 ?_
 refine pq 14 rfl (x_loadA rfl rfl rfl sz24 un24 ag24 rfl) ?_
 refine pq 15 rfl (x_loadA rfl rfl rfl sz24 un24 ag24 rfl) ?_
 obtain ⟨v1, hv1, h⟩ := bindS h
 refine pq 16 rfl (x_callP rfl rfl en72 (ok_quillworkref07u_Span hv1) rfl rfl rfl rfl rfl) ?_
 refine pq 17 rfl (.un rfl rfl rfl) ?_
 refine we_nil ?_
 refine ex_if rfl ?_ ?_
 ·intro hc
  replace h := iteT h hc
  refine ex_seq ?_
  refine ex_ord [0] (l := [0, 1]) rfl ?_
  refine e_ (d := .own 1) 6 rfl rfl rfl rfl rfl (b' := [none, none]) (r' := [some ⟨55, 4, []⟩, some ⟨55, 4, []⟩]) (.nilRow (.inr rfl) rfl 55 4) rfl ?_
  refine pa 7 ?_
  refine we_nil ?_
  refine ex_ret ?_
  obtain rfl := Option.some.inj h
  exact finB (by first | exact .inr rfl | exact .inl rfl) (.refl _) [.own 1, .int .i64 1] [1] [] (res_cons (res_tmp rfl) (res_cons (res_tmp rfl) res_nil)) rfl rfl rfl rfl rfl rfl rfl
 ·intro hc
  replace h := iteF h hc
  refine ex_skip ?_
  refine ex_seq ?_
  refine ex_ord [0] (l := [0]) rfl ?_
  refine e_ (d := .own 1) 8 rfl rfl rfl rfl rfl (b' := [none, none]) (r' := [some ⟨55, 4, []⟩, some ⟨55, 4, []⟩]) (.nilRow (.inr rfl) rfl 55 4) rfl ?_
  refine we_nil ?_
  refine ex_seq ?_
  refine ex_seq ?_
  refine ex_ord [] (l := [0, 1, 2]) rfl ?_
  refine pq 18 rfl (.fieldAddr rfl rfl rfl fl24u_0 rfl) ?_
  refine pq 19 rfl (x_load rfl rfl rfl sz3 un3 ag3 rfl) ?_
  refine pa 9 ?_
  refine we_nil ?_
  refine ex_block ?_
  obtain ⟨k4, hl, h⟩ := bindS h
  refine ex_gst ⟨[.sl false (List.map c_api_Line p0), Z, Z, Z, .cp [.int .i64 p1.f_Line, .int .i64 p1.f_At], .cp [.int .i64 p2.f_Line, .int .i64 p2.f_At], Z, Z, .own 0, .int .i64 p1.f_Line, Z, Z, Z, Z, Z, Z, Z, Z, Z, Z, Z, Z, Z, Z, Z, Z, Z, Z, Z, Z, Z, Z, Z, Z, Z, Z, Z, Z, Z, Z, Z, Z, Z, Z, Z, Z, Z, Z, Z, Z, Z, Z, Z, Z], [], [some ⟨55, 4, []⟩], 0⟩ (.re (rl [0, 1, 3, 2, 2, 2, 44]) [] [1] rfl (.refl _)) rfl ?_
  refine ex_iterX (fun _ => .exit 0) (fun s => ⟨[.sl false (List.map c_api_Line p0), Z, Z, Z, .cp [.int .i64 p1.f_Line, .int .i64 p1.f_At], .cp [.int .i64 p2.f_Line, .int .i64 p2.f_At], Z, Z, .own 0, .int .i64 s.2, Z, Z, Z, Z, Z, Z, Z, Z, Z, Z, Z, Z, Z, Z, Z, Z, Z, Z, Z, Z, Z, Z, Z, Z, Z, Z, Z, Z, Z, Z, Z, Z, Z, Z, Z, Z, Z, Z, Z, Z, Z, Z, Z, Z], [], [some ⟨55, 4, List.map c_api_Line s.1⟩], 0⟩) (fun o => ⟨[Z, Z, Z, Z, Z, Z, Z, Z, .own 0, Z, Z, Z, Z, Z, Z, Z, Z, Z, Z, Z, Z, Z, Z, Z, Z, Z, Z, Z, Z, Z, Z, Z, Z, Z, Z, Z, Z, Z, Z, Z, Z, Z, Z, Z, Z, Z, Z, Z, Z, Z, Z, Z, Z, Z], [], [some ⟨55, 4, List.map c_api_Line o⟩], 0⟩) hl rfl ?_ ?_
  ·clear hl
   refine ex_seq ?_
   refine ex_ord [] (l := [0, 1, 2]) rfl ?_
   refine pm 53 ?_
   refine pa 6 ?_
   refine pa 7 ?_
   refine we_nil ?_
   refine ex_ret ?_
   obtain rfl := Option.some.inj h
   exact finB (by first | exact .inr rfl | exact .inl rfl) (.refl _) [.own 0, .int .i64 0] [0] [] (res_cons (res_tmp rfl) (res_cons (res_tmp rfl) res_nil)) rfl rfl rfl rfl rfl rfl rfl
  ·clear hl h
   rintro ⟨n2, n3⟩ y h
   replace h : quillworkref07u_Part_l1 p0 p1 p2 n2 n3 = some y := h
   unfold quillworkref07u_Part_l1 at h
   show Ex _ _ _ ⟨[.sl false (List.map c_api_Line p0), Z, Z, Z, .cp [.int .i64 p1.f_Line, .int .i64 p1.f_At], .cp [.int .i64 p2.f_Line, .int .i64 p2.f_At], Z, Z, .own 0, .int .i64 n3, Z, Z, Z, Z, Z, Z, Z, Z, Z, Z, Z, Z, Z, Z, Z, Z, Z, Z, Z, Z, Z, Z, Z, Z, Z, Z, Z, Z, Z, Z, Z, Z, Z, Z, Z, Z, Z, Z, Z, Z, Z, Z, Z, Z], [], [some ⟨55, 4, List.map c_api_Line n2⟩], 0⟩ _
   refine ex_seq ?_
   refine ex_seq ?_
   refine ex_ord [] (l := [0, 1, 2, 3]) rfl ?_
   refine pm 20 ?_
   refine pq 21 rfl (.fieldAddr rfl rfl rfl fl24u_0 rfl) ?_
   refine pq 22 rfl (x_load rfl rfl rfl sz3 un3 ag3 rfl) ?_
   refine pq 23 rfl (.bin rfl rfl rfl rfl) ?_
   refine we_nil ?_
   refine ex_if rfl ?_ ?_
   ·intro hc
    replace h := iteT h hc
    refine ex_skip ?_
    refine ex_seq ?_
    refine ex_block ?_
    refine ex_seq ?_
    refine ex_ord [] (l := [0, 1, 2, 3, 4, 5, 6, 7, 8, 9]) rfl ?_
    refine pm 27 ?_
    refine pq 28 rfl (x_loadA rfl rfl rfl sz24 un24 ag24 rfl) ?_
    refine pq 29 rfl (x_loadA rfl rfl rfl sz24 un24 ag24 rfl) ?_
    refine pm 30 ?_
    obtain ⟨v5, hv5, h⟩ := bindS h
    refine pq 31 rfl (x_callP rfl rfl en74 (ok_quillworkref07u_From hv5) rfl rfl rfl rfl rfl) ?_
    refine pm 26 ?_
    refine pq 32 rfl (.extract rfl rfl rfl rfl) ?_
    refine pq 33 rfl (.extract rfl rfl rfl rfl) ?_
    refine pa 10 ?_
    refine pa 11 ?_
    refine we_nil ?_
    refine ex_seq ?_
    refine ex_ord [5, 6] (l := [0, 1, 2, 3, 4, 5, 6]) rfl ?_
    refine pm 34 ?_
    refine pm 35 ?_
    obtain ⟨v6, hv6, h⟩ := bindS h
    refine pq 36 rfl (x_idx (f := c_api_Line) (cs := [.int .i64 v6.f_Quote, .sl false (List.map c_i64 v6.f_Lists), .int .i64 v6.f_Kind, .sl false (List.map c_api_Cell v6.f_Cells)]) rfl rfl rfl el22 sz55 hv6 rfl rfl) ?_
    refine pq 37 rfl (x_loadA rfl rfl rfl sz55 un55 ag55 rfl) ?_
    obtain ⟨v7, hv7, h⟩ := bindS h
    refine pq 38 rfl (x_callP rfl rfl en45 (ok_quillworkref06u_Frame hv7) rfl rfl rfl rfl rfl) ?_
    refine e_ (d := .bx 0 0) 12 rfl rfl rfl rfl rfl (b' := [some [.int .i64 0, .sl false [], .int .i64 0, .sl false []]]) (r' := [some ⟨55, 4, List.map c_api_Line n2⟩]) (.alloc rfl ze55) rfl ?_
    refine e0 rfl rfl rfl rfl rfl (b' := [some [.int .i64 v7.f_Quote, .sl false (List.map c_i64 v7.f_Lists), .int .i64 v7.f_Kind, .sl false (List.map c_api_Cell v7.f_Cells)]]) (r' := [some ⟨55, 4, List.map c_api_Line n2⟩]) (.store rfl rfl rfl sz55 rfl rfl rfl) rfl ?_
    refine we_nil ?_
    refine ex_seq ?_
    refine ex_ord [8, 10] (l := [0, 1, 2, 3, 4, 5, 6, 7, 8, 9, 10]) rfl ?_
    refine pm 39 ?_
    refine pm 40 ?_
    obtain ⟨v8, hv8, h⟩ := bindS h
    refine pq 41 rfl (x_idx (f := c_api_Line) (cs := [.int .i64 v8.f_Quote, .sl false (List.map c_i64 v8.f_Lists), .int .i64 v8.f_Kind, .sl false (List.map c_api_Cell v8.f_Cells)]) rfl rfl rfl el22 sz55 hv8 rfl rfl) ?_
    refine pq 42 rfl (.fieldAddr rfl rfl rfl fl55u_3 rfl) ?_
    refine pq 43 rfl (x_load rfl rfl rfl sz46 un46 ag46 rfl) ?_
    refine pm 44 ?_
    refine pm 45 ?_
    obtain ⟨v9, hv9, h⟩ := bindS h
    refine pq 46 rfl (x_cut rfl rfl el46 sz58 ⟨_, rfl⟩ ⟨_, rfl⟩ hv9 fl_api_Cell) ?_
    obtain ⟨v10, hv10, h⟩ := bindS h
    refine e_ (d := .own 1) 47 rfl rfl rfl rfl rfl (b' := [some [.int .i64 v7.f_Quote, .sl false (List.map c_i64 v7.f_Lists), .int .i64 v7.f_Kind, .sl false (List.map c_api_Cell v7.f_Cells)]]) (r' := [some ⟨55, 4, List.map c_api_Line n2⟩, some ⟨58, 3, List.map c_api_Cell v10⟩]) (x_call [] [] rfl rfl en50 (ok_quillworkref05u_Own hv10) rfl rfl rfl rfl rfl rfl rfl rfl rfl rfl rfl rfl rfl rfl) rfl ?_
    refine pq 48 rfl (.fieldAddr rfl rfl rfl fl55u_3 rfl) ?_
    refine e0 rfl rfl rfl rfl rfl (b' := [some [.int .i64 v7.f_Quote, .sl false (List.map c_i64 v7.f_Lists), .int .i64 v7.f_Kind, .own 1]]) (r' := [some ⟨55, 4, List.map c_api_Line n2⟩, some ⟨58, 3, List.map c_api_Cell v10⟩]) (.store rfl rfl rfl sz46 rfl rfl rfl) rfl ?_
    refine we_nil ?_
    refine ex_gst ⟨[.sl false (List.map c_api_Line p0), Z, Z, Z, .cp [.int .i64 p1.f_Line, .int .i64 p1.f_At], .cp [.int .i64 p2.f_Line, .int .i64 p2.f_At], Z, Z, .own 0, .int .i64 n3, .int .i64 v5.1, .int .i64 v5.2, .bx 0 0, Z, Z, Z, Z, Z, Z, Z, .int .i64 n3, .cp [.int .i64 p2.f_Line, .int .i64 p2.f_At], .int .i64 p2.f_Line, .bool (decide ((n3 : Int) ≤ p2.f_Line)), Z, Z, .tup [.int .i64 v5.1, .int .i64 v5.2], .sl false (List.map c_api_Line p0), .agg [.int .i64 p1.f_Line, .int .i64 p1.f_At], .agg [.int .i64 p2.f_Line, .int .i64 p2.f_At], .int .i64 n3, .tup [.int .i64 v5.1, .int .i64 v5.2], .int .i64 v5.1, .int .i64 v5.2, .sl false (List.map c_api_Line p0), .int .i64 n3, .cp [.int .i64 v6.f_Quote, .sl false (List.map c_i64 v6.f_Lists), .int .i64 v6.f_Kind, .sl false (List.map c_api_Cell v6.f_Cells)], .agg [.int .i64 v6.f_Quote, .sl false (List.map c_i64 v6.f_Lists), .int .i64 v6.f_Kind, .sl false (List.map c_api_Cell v6.f_Cells)], .agg [.int .i64 v7.f_Quote, .sl false (List.map c_i64 v7.f_Lists), .int .i64 v7.f_Kind, .sl false (List.map c_api_Cell v7.f_Cells)], .sl false (List.map c_api_Line p0), .int .i64 n3, .cp [.int .i64 v8.f_Quote, .sl false (List.map c_i64 v8.f_Lists), .int .i64 v8.f_Kind, .sl false (List.map c_api_Cell v8.f_Cells)], .cp [.sl false (List.map c_api_Cell v8.f_Cells)], .sl false (List.map c_api_Cell v8.f_Cells), .int .i64 v5.1, .int .i64 v5.2, .sl false (List.map c_api_Cell v9), .sl false (List.map c_api_Cell v10), .bx 0 3, Z, Z, Z, Z, Z], [some [.int .i64 v7.f_Quote, .sl false (List.map c_i64 v7.f_Lists), .int .i64 v7.f_Kind, .sl false (List.map c_api_Cell v10)]], [some ⟨55, 4, List.map c_api_Line n2⟩, none], 0⟩ (.shutR false (t := 1) rfl (.refl _)) rfl ?_
    refine ex_ord [2, 3] (l := [0, 1, 2, 3, 4]) rfl ?_
    refine pm 49 ?_
    refine pq 50 rfl (x_loadA rfl rfl rfl sz55 un55 ag55 rfl) ?_
    refine e_ (d := .own 2) 51 rfl rfl rfl rfl rfl (b' := [some [.int .i64 v7.f_Quote, .sl false (List.map c_i64 v7.f_Lists), .int .i64 v7.f_Kind, .sl false (List.map c_api_Cell v10)]]) (r' := [some ⟨55, 4, List.map c_api_Line n2⟩, none, some ⟨55, 4, List.map c_api_Line [(T_api_Line.mk (v7.f_Quote) (v7.f_Lists) (v7.f_Kind) (v10) : T_api_Line)]⟩]) (x_lit (f := c_api_Line) (l := [(T_api_Line.mk (v7.f_Quote) (v7.f_Lists) (v7.f_Kind) (v10) : T_api_Line)]) rfl el22 rw55 zs55 rfl rfl rfl (by decide) (by decide) fl_api_Line rfl) rfl ?_
    obtain ⟨v11, hv11, h⟩ := bindS h
    refine e_ (d := .own 3) 52 rfl rfl rfl rfl rfl (b' := [some [.int .i64 v7.f_Quote, .sl false (List.map c_i64 v7.f_Lists), .int .i64 v7.f_Kind, .sl false (List.map c_api_Cell v10)]]) (r' := [none, none, some ⟨55, 4, List.map c_api_Line [(T_api_Line.mk (v7.f_Quote) (v7.f_Lists) (v7.f_Kind) (v10) : T_api_Line)]⟩, some ⟨55, 4, List.map c_api_Line v11⟩]) (x_app (f := c_api_Line) (xs := n2) (ys := [(T_api_Line.mk (v7.f_Quote) (v7.f_Lists) (v7.f_Kind) (v10) : T_api_Line)]) rfl rfl rfl el22 rw55 rfl rfl rfl fl_api_Line hv11) rfl ?_
    refine pa 8 ?_
    refine we_nil ?_
    refine ex_ord [] (l := [0, 1, 2]) rfl ?_
    refine pm 24 ?_
    refine pq 25 rfl (.bin rfl rfl rfl rfl) ?_
    refine pa 9 ?_
    refine we_nil ?_
    exact rnd_on rfl h (.re (rl [0, 1, 3, 2, 2, 2, 44]) [] [3] rfl (.refl _)) rfl
   ·intro hc
    replace h := iteF h hc
    refine ex_exit ?_
    exact rnd_out (o := n2) rfl (fun h => by cases h) h (.re (rl [8, 1, 45]) [] [0] rfl (.refl _)) rfl
theorem ok_lines_May {r : Bool} {p0 : T_api_Line} (h : lines_May p0 = some r) : OkB prog 62 [.agg [.int .i64 p0.f_Quote, .sl false (List.map c_i64 p0.f_Lists), .int .i64 p0.f_Kind, .sl false (List.map c_api_Cell p0.f_Cells)]] [] [] (.bool r) [] [] := by
 unfold lines_May at h
 refine okB_of_exG func62 rfl rfl (s0 := [.agg [.int .i64 p0.f_Quote, .sl false (List.map c_i64 p0.f_Lists), .int .i64 p0.f_Kind, .sl false (List.map c_api_Cell p0.f_Cells)], Z, Z, Z, Z, Z, Z, Z, Z, Z, Z, Z, Z, Z, Z, Z, Z, Z, Z, Z, Z, Z, Z, Z, Z, Z, Z, Z, Z, Z, Z, Z, Z, Z, Z, Z, Z, Z, Z, Z, Z, Z, Z, Z, Z, Z, Z]) (b0 := []) (r0 := []) rfl rfl rfl ?_
 show Ex _ _ _ ⟨[.agg [.int .i64 p0.f_Quote, .sl false (List.map c_i64 p0.f_Lists), .int .i64 p0.f_Kind, .sl false (List.map c_api_Cell p0.f_Cells)], Z, Z, Z, Z, Z, Z, Z, Z, Z, Z, Z, Z, Z, Z, Z, Z, Z, Z, Z, Z, Z, Z, Z, Z, Z, Z, Z, Z, Z, Z, Z, Z, Z, Z, Z, Z, Z, Z, Z, Z, Z, Z, Z, Z, Z, Z], [], [], 0⟩ _
 refine ex_seq ?_
 refine ex_ord [0] (l := [0, 1]) rfl ?_
 refine e_ (d := .bx 0 0) 1 rfl rfl rfl rfl rfl (b' := [some [.int .i64 p0.f_Quote, .sl false (List.map c_i64 p0.f_Lists), .int .i64 p0.f_Kind, .sl false (List.map c_api_Cell p0.f_Cells)]]) (r' := []) (.box rfl rfl rfl) rfl ?_
 refine pa 2 ?_
 refine we_nil ?_
 refine ex_seq ?_
 refine ex_block ?_
 refine ex_seq ?_
 refine ex_gst ⟨[.agg [.int .i64 p0.f_Quote, .sl false (List.map c_i64 p0.f_Lists), .int .i64 p0.f_Kind, .sl false (List.map c_api_Cell p0.f_Cells)], .cp [.int .i64 p0.f_Quote, .sl false (List.map c_i64 p0.f_Lists), .int .i64 p0.f_Kind, .sl false (List.map c_api_Cell p0.f_Cells)], .bool false, Z, Z, Z, Z, Z, Z, Z, Z, Z, Z, Z, Z, Z, Z, Z, Z, Z, Z, Z, Z, Z, Z, Z, Z, Z, Z, Z, Z, Z, Z, Z, Z, Z, Z, Z, Z, Z, Z, Z, Z, Z, Z, Z, Z], [none], [], 0⟩ (.shutB (b := 0) rfl (fun d h => by simpa using List.all_eq_true.1 (rfl : List.all [.int .i64 p0.f_Quote, .sl false (List.map c_i64 p0.f_Lists), .int .i64 p0.f_Kind, .sl false (List.map c_api_Cell p0.f_Cells)] (fun d => !d.tok) = true) d h) (.refl _)) rfl ?_
 obtain ⟨q1, hq, h⟩ := bindS h
 refine ex_cut ⟨[Z, .cp [.int .i64 p0.f_Quote, .sl false (List.map c_i64 p0.f_Lists), .int .i64 p0.f_Kind, .sl false (List.map c_api_Cell p0.f_Cells)], Z, .bool q1, Z, Z, Z, Z, Z, Z, Z, Z, Z, Z, Z, Z, Z, Z, Z, Z, Z, Z, Z, Z, Z, Z, Z, Z, Z, Z, Z, Z, Z, Z, Z, Z, Z, Z, Z, Z, Z, Z, Z, Z, Z, Z, Z], [], [], 0⟩ ?_ ?_
 ·clear h
  have h := hq
  clear hq
  refine ex_ord [] (l := [0, 1, 2, 3, 4, 5, 6, 7, 8, 9, 10, 11, 12, 13, 14, 15, 16, 17, 18, 19, 20, 21, 22, 23, 24]) rfl ?_
  refine pq 4 rfl (.fieldAddr rfl rfl rfl fl55u_0 rfl) ?_
  refine pq 5 rfl (x_load rfl rfl rfl sz3 un3 ag3 rfl) ?_
  refine pif 6 rfl rfl rfl rfl (.bin rfl rfl rfl rfl) ?_ ?_
  ·intro hc
   replace h := iteT h hc
   refine pm 7 ?_
   refine kq 8 ?_
   refine kq 9 ?_
   refine kq 10 ?_
   refine pq 11 rfl (x_pickT rfl rfl rfl rfl) ?_
   refine pm 12 ?_
   refine kq 13 ?_
   refine kq 14 ?_
   refine kq 15 ?_
   refine kq 16 ?_
   refine pq 17 rfl (x_pickT rfl rfl rfl rfl) ?_
   refine pm 18 ?_
   refine kq 19 ?_
   refine kq 20 ?_
   refine kq 21 ?_
   refine pq 22 rfl (x_pickT rfl rfl rfl rfl) ?_
   refine pm 23 ?_
   refine kq 24 ?_
   refine kq 25 ?_
   refine kq 26 ?_
   refine pq 27 rfl (x_pickT rfl rfl rfl rfl) ?_
   refine pa 3 ?_
   refine we_nil ?_
   cases h
   exact ⟨rfl, _, .re (rl [1, 1, 1, 1, 43]) [] [] rfl (.refl _), rfl⟩
  ·intro hc
   replace h := iteF h hc
   refine pm 7 ?_
   refine pq 8 rfl (.fieldAddr rfl rfl rfl fl55u_0 rfl) ?_
   refine pq 9 rfl (x_load rfl rfl rfl sz3 un3 ag3 rfl) ?_
   refine pif 10 rfl rfl rfl rfl (.bin rfl rfl rfl rfl) ?_ ?_
   ·intro hc
    replace h := iteT h hc
    refine pq 11 rfl (x_pickF rfl rfl rfl rfl) ?_
    refine pm 12 ?_
    refine kq 13 ?_
    refine kq 14 ?_
    refine kq 15 ?_
    refine kq 16 ?_
    refine pq 17 rfl (x_pickT rfl rfl rfl rfl) ?_
    refine pm 18 ?_
    refine kq 19 ?_
    refine kq 20 ?_
    refine kq 21 ?_
    refine pq 22 rfl (x_pickT rfl rfl rfl rfl) ?_
    refine pm 23 ?_
    refine kq 24 ?_
    refine kq 25 ?_
    refine kq 26 ?_
    refine pq 27 rfl (x_pickT rfl rfl rfl rfl) ?_
    refine pa 3 ?_
    refine we_nil ?_
    cases h
    exact ⟨rfl, _, .re (rl [1, 1, 1, 1, 43]) [] [] rfl (.refl _), rfl⟩
   ·intro hc
    replace h := iteF h hc
    refine pq 11 rfl (x_pickF rfl rfl rfl rfl) ?_
    refine pm 12 ?_
    refine pq 13 rfl (.fieldAddr rfl rfl rfl fl55u_1 rfl) ?_
    refine pq 14 rfl (x_load rfl rfl rfl sz53 un53 ag53 rfl) ?_
    refine pq 15 rfl (x_len (f := c_i64) (l := p0.f_Lists) rfl rfl rfl el53) ?_
    refine pif 16 rfl rfl rfl rfl (.bin rfl rfl rfl rfl) ?_ ?_
    ·intro hc
     replace h := iteT h hc
     refine pq 17 rfl (x_pickF rfl rfl rfl rfl) ?_
     refine pm 18 ?_
     refine kq 19 ?_
     refine kq 20 ?_
     refine kq 21 ?_
     refine pq 22 rfl (x_pickT rfl rfl rfl rfl) ?_
     refine pm 23 ?_
     refine kq 24 ?_
     refine kq 25 ?_
     refine kq 26 ?_
     refine pq 27 rfl (x_pickT rfl rfl rfl rfl) ?_
     refine pa 3 ?_
     refine we_nil ?_
     cases h
     exact ⟨rfl, _, .re (rl [1, 1, 1, 1, 43]) [] [] rfl (.refl _), rfl⟩
    ·intro hc
     replace h := iteF h hc
     refine pq 17 rfl (x_pickF rfl rfl rfl rfl) ?_
     refine pm 18 ?_
     refine pq 19 rfl (.fieldAddr rfl rfl rfl fl55u_2 rfl) ?_
     refine pq 20 rfl (x_load rfl rfl rfl sz3 un3 ag3 rfl) ?_
     refine pif 21 rfl rfl rfl rfl (.bin rfl rfl rfl rfl) ?_ ?_
     ·intro hc
      replace h := iteT h hc
      refine pq 22 rfl (x_pickF rfl rfl rfl rfl) ?_
      refine pm 23 ?_
      refine kq 24 ?_
      refine kq 25 ?_
      refine kq 26 ?_
      refine pq 27 rfl (x_pickT rfl rfl rfl rfl) ?_
      refine pa 3 ?_
      refine we_nil ?_
      cases h
      exact ⟨rfl, _, .re (rl [1, 1, 1, 1, 43]) [] [] rfl (.refl _), rfl⟩
     ·intro hc
      replace h := iteF h hc
      refine pq 22 rfl (x_pickF rfl rfl rfl rfl) ?_
      refine pm 23 ?_
      refine pq 24 rfl (.fieldAddr rfl rfl rfl fl55u_2 rfl) ?_
      refine pq 25 rfl (x_load rfl rfl rfl sz3 un3 ag3 rfl) ?_
      refine pq 26 rfl (.bin rfl rfl rfl rfl) ?_
      refine pq 27 rfl (x_pickF rfl rfl rfl rfl) ?_
      refine pa 3 ?_
      refine we_nil ?_
      cases h
      exact ⟨rfl, _, .re (rl [1, 1, 1, 1, 43]) [] [] rfl (.refl _), rfl⟩
 ·clear hq
  refine ex_if rfl ?_ ?_
  ·intro hc
   replace h := iteT h hc
   refine ex_seq ?_
   refine ex_ord [] (l := [0]) rfl ?_
   refine pa 2 ?_
   refine we_nil ?_
   refine ex_ret ?_
   obtain rfl := Option.some.inj h
   exact finB (by first | exact .inr rfl | exact .inl rfl) (.refl _) [.bool false] [] [] (res_cons (res_tmp rfl) res_nil) rfl rfl rfl rfl rfl rfl rfl
  ·intro hc
   replace h := iteF h hc
   refine ex_seq ?_
   obtain ⟨q2, hq, h⟩ := bindS h
   refine ex_cut ⟨[Z, .cp [.int .i64 p0.f_Quote, .sl false (List.map c_i64 p0.f_Lists), .int .i64 p0.f_Kind, .sl false (List.map c_api_Cell p0.f_Cells)], Z, Z, Z, Z, Z, Z, Z, Z, Z, Z, Z, Z, Z, Z, Z, Z, Z, Z, Z, Z, Z, Z, Z, Z, Z, Z, .bool q2, Z, Z, Z, Z, Z, Z, Z, Z, Z, Z, Z, Z, Z, Z, Z, Z, Z, Z], [], [], 0⟩ ?_ ?_
   ·clear h
    have h := hq
    clear hq
    refine ex_ord [] (l := [0, 1, 2, 3, 4, 5, 6, 7, 8, 9]) rfl ?_
    refine pq 29 rfl (.fieldAddr rfl rfl rfl fl55u_1 rfl) ?_
    refine pq 30 rfl (x_load rfl rfl rfl sz53 un53 ag53 rfl) ?_
    refine pq 31 rfl (x_len (f := c_i64) (l := p0.f_Lists) rfl rfl rfl el53) ?_
    refine pif 32 rfl rfl rfl rfl (.bin rfl rfl rfl rfl) ?_ ?_
    ·intro hc
     replace h := iteT h hc
     refine pm 33 ?_
     refine pq 34 rfl (.fieldAddr rfl rfl rfl fl55u_2 rfl) ?_
     refine pq 35 rfl (x_load rfl rfl rfl sz3 un3 ag3 rfl) ?_
     refine pq 36 rfl (.bin rfl rfl rfl rfl) ?_
     refine pq 37 rfl (x_pickT rfl rfl rfl rfl) ?_
     refine pa 28 ?_
     refine we_nil ?_
     cases h
     exact ⟨rfl, _, .re (rl [1, 1, 26, 1, 18]) [] [] rfl (.refl _), rfl⟩
    ·intro hc
     replace h := iteF h hc
     refine pm 33 ?_
     refine kq 34 ?_
     refine kq 35 ?_
     refine kq 36 ?_
     refine pq 37 rfl (x_pickF rfl rfl rfl rfl) ?_
     refine pa 28 ?_
     refine we_nil ?_
     cases h
     exact ⟨rfl, _, .re (rl [1, 1, 26, 1, 18]) [] [] rfl (.refl _), rfl⟩
   ·clear hq
    refine ex_if rfl ?_ ?_
    ·intro hc
     replace h := iteT h hc
     refine ex_seq ?_
     refine ex_ord [] (l := [0]) rfl ?_
     refine pa 2 ?_
     refine we_nil ?_
     refine ex_ret ?_
     obtain rfl := Option.some.inj h
     exact finB (by first | exact .inr rfl | exact .inl rfl) (.refl _) [.bool false] [] [] (res_cons (res_tmp rfl) res_nil) rfl rfl rfl rfl rfl rfl rfl
    ·intro hc
     replace h := iteF h hc
     refine ex_skip ?_
     refine ex_seq ?_
     obtain ⟨q3, hq, h⟩ := bindS h
     refine ex_cut ⟨[Z, Z, .bool q3, Z, Z, Z, Z, Z, Z, Z, Z, Z, Z, Z, Z, Z, Z, Z, Z, Z, Z, Z, Z, Z, Z, Z, Z, Z, Z, Z, Z, Z, Z, Z, Z, Z, Z, Z, Z, Z, Z, Z, Z, Z, Z, Z, Z], [], [], 0⟩ ?_ ?_
     ·clear h
      have h := hq
      clear hq
      refine ex_ord [] (l := [0, 1, 2, 3, 4, 5, 6, 7, 8, 9]) rfl ?_
      refine pq 38 rfl (.fieldAddr rfl rfl rfl fl55u_1 rfl) ?_
      refine pq 39 rfl (x_load rfl rfl rfl sz53 un53 ag53 rfl) ?_
      obtain ⟨v4, hv4, h⟩ := bindS h
      refine pif 40 rfl rfl rfl rfl (x_callP rfl rfl en102 (ok_slices_ContainsFunc_int ⟨en103, rfl, rfl⟩ (fun _ _ h => ok_lines_May_1 h) hv4) rfl rfl rfl rfl rfl) ?_ ?_
      ·intro hc
       replace h := iteT h hc
       refine pq 41 rfl (.un rfl rfl rfl) ?_
       refine pm 42 ?_
       refine kq 43 ?_
       refine kq 44 ?_
       refine kq 45 ?_
       refine pq 46 rfl (x_pickF rfl rfl rfl rfl) ?_
       refine pa 2 ?_
       refine we_nil ?_
       cases h
       exact ⟨rfl, _, .re (rl [2, 1, 44]) [] [] rfl (.refl _), rfl⟩
      ·intro hc
       replace h := iteF h hc
       refine pq 41 rfl (.un rfl rfl rfl) ?_
       refine pm 42 ?_
       refine pq 43 rfl (.fieldAddr rfl rfl rfl fl55u_3 rfl) ?_
       refine pq 44 rfl (x_load rfl rfl rfl sz46 un46 ag46 rfl) ?_
       obtain ⟨v5, hv5, h⟩ := bindS h
       refine pq 45 rfl (x_callP rfl rfl en96 (ok_cells_May hv5) rfl rfl rfl rfl rfl) ?_
       refine pq 46 rfl (x_pickT rfl rfl rfl rfl) ?_
       refine pa 2 ?_
       refine we_nil ?_
       cases h
       exact ⟨rfl, _, .re (rl [2, 1, 44]) [] [] rfl (.refl _), rfl⟩
     ·clear hq
      refine ex_ret ?_
      obtain rfl := Option.some.inj h
      exact finB (by first | exact .inr rfl | exact .inl rfl) (.refl _) [.bool q3] [] [] (res_cons (res_tmp rfl) res_nil) rfl rfl rfl rfl rfl rfl rfl
theorem ok_lines_Split {r : T_api_Line × T_api_Line × Int} {p0 : T_api_Line} {p1 : Int} (h : lines_Split p0 p1 = some r) : OkB prog 99 [.agg [.int .i64 p0.f_Quote, .sl false (List.map c_i64 p0.f_Lists), .int .i64 p0.f_Kind, .sl false (List.map c_api_Cell p0.f_Cells)], .int .i64 p1] [] [] (.tup [.agg [.int .i64 r.1.f_Quote, .sl false (List.map c_i64 r.1.f_Lists), .int .i64 r.1.f_Kind, .sl false (List.map c_api_Cell r.1.f_Cells)], .agg [.int .i64 r.2.1.f_Quote, .sl false (List.map c_i64 r.2.1.f_Lists), .int .i64 r.2.1.f_Kind, .sl false (List.map c_api_Cell r.2.1.f_Cells)], .int .i64 r.2.2]) [] [] := by
 unfold lines_Split at h
 refine okB_of_exG func99 rfl rfl (s0 := [.agg [.int .i64 p0.f_Quote, .sl false (List.map c_i64 p0.f_Lists), .int .i64 p0.f_Kind, .sl false (List.map c_api_Cell p0.f_Cells)], .int .i64 p1, Z, Z, Z, Z, Z, Z, Z, Z, Z, Z, Z, Z, Z, Z, Z, Z, Z, Z, Z, Z, Z, Z, Z, Z, Z, Z, Z, Z, Z, Z, Z, Z, Z, Z, Z, Z, Z, Z, Z, Z, Z, Z, Z, Z, Z, Z]) (b0 := []) (r0 := []) rfl rfl rfl ?_
 show Ex _ _ _ ⟨[.agg [.int .i64 p0.f_Quote, .sl false (List.map c_i64 p0.f_Lists), .int .i64 p0.f_Kind, .sl false (List.map c_api_Cell p0.f_Cells)], .int .i64 p1, Z, Z, Z, Z, Z, Z, Z, Z, Z, Z, Z, Z, Z, Z, Z, Z, Z, Z, Z, Z, Z, Z, Z, Z, Z, Z, Z, Z, Z, Z, Z, Z, Z, Z, Z, Z, Z, Z, Z, Z, Z, Z, Z, Z, Z, Z], [], [], 0⟩ _
 refine ex_seq ?_
 refine ex_ord [0, 1, 2] (l := [0, 1, 2, 3]) rfl ?_
 refine e_ (d := .bx 0 0) 2 rfl rfl rfl rfl rfl (b' := [some [.int .i64 p0.f_Quote, .sl false (List.map c_i64 p0.f_Lists), .int .i64 p0.f_Kind, .sl false (List.map c_api_Cell p0.f_Cells)]]) (r' := []) (.box rfl rfl rfl) rfl ?_
 refine e_ (d := .bx 1 0) 4 rfl rfl rfl rfl rfl (b' := [some [.int .i64 p0.f_Quote, .sl false (List.map c_i64 p0.f_Lists), .int .i64 p0.f_Kind, .sl false (List.map c_api_Cell p0.f_Cells)], some [.int .i64 0, .sl false [], .int .i64 0, .sl false []]]) (r' := []) (.alloc rfl ze55) rfl ?_
 refine e_ (d := .bx 2 0) 5 rfl rfl rfl rfl rfl (b' := [some [.int .i64 p0.f_Quote, .sl false (List.map c_i64 p0.f_Lists), .int .i64 p0.f_Kind, .sl false (List.map c_api_Cell p0.f_Cells)], some [.int .i64 0, .sl false [], .int .i64 0, .sl false []], some [.int .i64 0, .sl false [], .int .i64 0, .sl false []]]) (r' := []) (.alloc rfl ze55) rfl ?_
 refine pa 6 ?_
 refine we_nil ?_
 refine ex_seq ?_
 refine ex_seq ?_
 refine ex_gst ⟨[.agg [.int .i64 p0.f_Quote, .sl false (List.map c_i64 p0.f_Lists), .int .i64 p0.f_Kind, .sl false (List.map c_api_Cell p0.f_Cells)], .int .i64 p1, .cp [.int .i64 p0.f_Quote, .sl false (List.map c_i64 p0.f_Lists), .int .i64 p0.f_Kind, .sl false (List.map c_api_Cell p0.f_Cells)], Z, .bx 1 0, .bx 2 0, .int .i64 0, Z, Z, Z, Z, Z, Z, Z, Z, Z, Z, Z, Z, Z, Z, Z, Z, Z, Z, Z, Z, Z, Z, Z, Z, Z, Z, Z, Z, Z, Z, Z, Z, Z, Z, Z, Z, Z, Z, Z, Z, Z], [none, some [.int .i64 0, .sl false [], .int .i64 0, .sl false []], some [.int .i64 0, .sl false [], .int .i64 0, .sl false []]], [], 0⟩ (.shutB (b := 0) rfl (fun d h => by simpa using List.all_eq_true.1 (rfl : List.all [.int .i64 p0.f_Quote, .sl false (List.map c_i64 p0.f_Lists), .int .i64 p0.f_Kind, .sl false (List.map c_api_Cell p0.f_Cells)] (fun d => !d.tok) = true) d h) (.refl _)) rfl ?_
 obtain ⟨q1, hq, h⟩ := bindS h
 refine ex_cut ⟨[Z, .int .i64 p1, .cp [.int .i64 p0.f_Quote, .sl false (List.map c_i64 p0.f_Lists), .int .i64 p0.f_Kind, .sl false (List.map c_api_Cell p0.f_Cells)], Z, .bx 0 0, .bx 1 0, Z, Z, Z, Z, Z, Z, Z, Z, Z, Z, Z, Z, Z, Z, Z, Z, .bool q1, Z, Z, Z, Z, Z, Z, Z, Z, Z, Z, Z, Z, Z, Z, Z, Z, Z, Z, Z, Z, Z, Z, Z, Z, Z], [some [.int .i64 0, .sl false [], .int .i64 0, .sl false []], some [.int .i64 0, .sl false [], .int .i64 0, .sl false []]], [], 0⟩ ?_ ?_
 ·clear h
  have h := hq
  clear hq
  refine ex_ord [] (l := [0, 1, 2, 3, 4, 5, 6, 7, 8, 9, 10, 11, 12, 13]) rfl ?_
  refine pq 9 rfl (x_loadA rfl rfl rfl sz55 un55 ag55 rfl) ?_
  obtain ⟨v2, hv2, h⟩ := bindS h
  refine pif 10 rfl rfl rfl rfl (x_callP rfl rfl en62 (ok_lines_May hv2) rfl rfl rfl rfl rfl) ?_ ?_
  ·intro hc
   replace h := iteT h hc
   refine pq 11 rfl (.un rfl rfl rfl) ?_
   refine pm 12 ?_
   refine pm 13 ?_
   refine pif 14 rfl rfl rfl rfl (.bin rfl rfl rfl rfl) ?_ ?_
   ·intro hc
    replace h := iteT h hc
    refine pq 15 rfl (x_pickF rfl rfl rfl rfl) ?_
    refine pm 16 ?_
    refine kq 17 ?_
    refine kq 18 ?_
    refine kq 19 ?_
    refine kq 20 ?_
    refine kq 21 ?_
    refine pq 22 rfl (x_pickT rfl rfl rfl rfl) ?_
    refine we_nil ?_
    cases h
    exact ⟨rfl, _, .re (rl [1, 2, 1, 2, 16, 1, 25]) [1, 2] [] rfl (.refl _), rfl⟩
   ·intro hc
    replace h := iteF h hc
    refine pq 15 rfl (x_pickF rfl rfl rfl rfl) ?_
    refine pm 16 ?_
    refine pm 17 ?_
    refine pq 18 rfl (.fieldAddr rfl rfl rfl fl55u_3 rfl) ?_
    refine pq 19 rfl (x_load rfl rfl rfl sz46 un46 ag46 rfl) ?_
    refine pq 20 rfl (x_len (f := c_api_Cell) (l := p0.f_Cells) rfl rfl rfl el46) ?_
    refine pq 21 rfl (.bin rfl rfl rfl rfl) ?_
    refine pq 22 rfl (x_pickF rfl rfl rfl rfl) ?_
    refine we_nil ?_
    cases h
    exact ⟨rfl, _, .re (rl [1, 2, 1, 2, 16, 1, 25]) [1, 2] [] rfl (.refl _), rfl⟩
  ·intro hc
   replace h := iteF h hc
   refine pq 11 rfl (.un rfl rfl rfl) ?_
   refine pm 12 ?_
   refine kq 13 ?_
   refine kq 14 ?_
   refine pq 15 rfl (x_pickT rfl rfl rfl rfl) ?_
   refine pm 16 ?_
   refine kq 17 ?_
   refine kq 18 ?_
   refine kq 19 ?_
   refine kq 20 ?_
   refine kq 21 ?_
   refine pq 22 rfl (x_pickT rfl rfl rfl rfl) ?_
   refine we_nil ?_
   cases h
   exact ⟨rfl, _, .re (rl [1, 2, 1, 2, 16, 1, 25]) [1, 2] [] rfl (.refl _), rfl⟩
 ·clear hq
  refine ex_if rfl ?_ ?_
  ·intro hc
   replace h := iteT h hc
   refine ex_seq ?_
   refine ex_ord [2, 3] (l := [0, 1, 2, 3, 4]) rfl ?_
   refine pq 23 rfl (x_build rfl pl55 ze55 rfl rfl rfl rfl) ?_
   refine pq 24 rfl (x_build rfl pl55 ze55 rfl rfl rfl rfl) ?_
   refine e0 rfl rfl rfl rfl rfl (b' := [some [.int .i64 0, .sl false [], .int .i64 0, .sl false []], some [.int .i64 0, .sl false [], .int .i64 0, .sl false []]]) (r' := []) (.store rfl rfl rfl sz55 rfl rfl rfl) rfl ?_
   refine e0 rfl rfl rfl rfl rfl (b' := [some [.int .i64 0, .sl false [], .int .i64 0, .sl false []], some [.int .i64 0, .sl false [], .int .i64 0, .sl false []]]) (r' := []) (.store rfl rfl rfl sz55 rfl rfl rfl) rfl ?_
   refine pa 6 ?_
   refine we_nil ?_
   refine ex_ret ?_
   obtain rfl := Option.some.inj h
   exact finB (by first | exact .inr rfl | exact .inl rfl) (.refl _) [.agg [.int .i64 0, .sl false [], .int .i64 0, .sl false []], .agg [.int .i64 0, .sl false [], .int .i64 0, .sl false []], .int .i64 1] [] [] (res_cons (res_cell rfl rfl sz55 un55 ag55 rfl) (res_cons (res_cell rfl rfl sz55 un55 ag55 rfl) (res_cons (res_tmp rfl) res_nil))) rfl rfl rfl rfl rfl rfl rfl
  ·intro hc
   replace h := iteF h hc
   refine ex_skip ?_
   refine ex_seq ?_
   obtain ⟨⟨q3, q4, q5, q6, q7, q8, q9, q10⟩, hq, h⟩ := bindS h
   refine ex_cut ⟨[Z, .int .i64 p1, Z, Z, .bx 0 0, .bx 1 0, Z, .bx 2 0, .bx 3 0, Z, Z, Z, Z, Z, Z, Z, Z, Z, Z, Z, Z, Z, Z, Z, Z, Z, Z, Z, Z, Z, Z, Z, Z, Z, Z, Z, Z, Z, Z, Z, Z, Z, Z, Z, Z, Z, Z, Z], [some [.int .i64 0, .sl false [], .int .i64 0, .sl false []], some [.int .i64 0, .sl false [], .int .i64 0, .sl false []], some [.int .i64 q3, .sl false (List.map c_i64 q4), .int .i64 q5, .sl false (List.map c_api_Cell q6)], some [.int .i64 q7, .sl false (List.map c_i64 q8), .int .i64 q9, .sl false (List.map c_api_Cell q10)]], [], 0⟩ ?_ ?_
   ·clear h
    have h := hq
    clear hq
    refine ex_sh mo [4, 5, 6, 7, 1000, 1001, 1002, 1003] (.pre [0, 1, 2, 3] (.fork 4 5 (.pre [5, 6, 7] .nil) (.pre [4, 6, 7] .nil))) (by kernel_rfl) ?_
    refine sh_pre ?_
    refine n_ 25 rfl rfl rfl (fun _ _ => x_loadA rfl rfl rfl sz55 un55 ag55 rfl) ?_
    obtain ⟨v11, hv11, h⟩ := bindS h
    refine n_ 26 rfl rfl rfl (fun _ _ => x_callP rfl rfl en68 (ok_lines_Own hv11) rfl rfl rfl rfl rfl) ?_
    refine n_ 27 rfl rfl rfl (fun _ _ => x_loadA rfl rfl rfl sz55 un55 ag55 rfl) ?_
    obtain ⟨v12, hv12, h⟩ := bindS h
    refine n_ 28 rfl rfl rfl (fun _ _ => x_callP rfl rfl en94 (ok_lines_Frame hv12) rfl rfl rfl rfl rfl) ?_
    refine we_nil ?_
    refine sh_forkT ?_ ?_
    ·refine e_ (d := .bx 2 0) 7 rfl rfl rfl rfl rfl (b' := [some [.int .i64 0, .sl false [], .int .i64 0, .sl false []], some [.int .i64 0, .sl false [], .int .i64 0, .sl false []], some [.int .i64 0, .sl false [], .int .i64 0, .sl false []]]) (r' := []) (.alloc rfl ze55) rfl ?_
     refine we_nil ?_
     refine sh_pre ?_
     refine e_ (d := .bx 3 0) 8 rfl rfl rfl rfl rfl (b' := [some [.int .i64 0, .sl false [], .int .i64 0, .sl false []], some [.int .i64 0, .sl false [], .int .i64 0, .sl false []], some [.int .i64 0, .sl false [], .int .i64 0, .sl false []], some [.int .i64 0, .sl false [], .int .i64 0, .sl false []]]) (r' := []) (.alloc rfl ze55) rfl ?_
     refine e0 rfl rfl rfl rfl rfl (b' := [some [.int .i64 0, .sl false [], .int .i64 0, .sl false []], some [.int .i64 0, .sl false [], .int .i64 0, .sl false []], some [.int .i64 v11.f_Quote, .sl false (List.map c_i64 v11.f_Lists), .int .i64 v11.f_Kind, .sl false (List.map c_api_Cell v11.f_Cells)], some [.int .i64 0, .sl false [], .int .i64 0, .sl false []]]) (r' := []) (.store rfl rfl rfl sz55 rfl rfl rfl) rfl ?_
     refine e0 rfl rfl rfl rfl rfl (b' := [some [.int .i64 0, .sl false [], .int .i64 0, .sl false []], some [.int .i64 0, .sl false [], .int .i64 0, .sl false []], some [.int .i64 v11.f_Quote, .sl false (List.map c_i64 v11.f_Lists), .int .i64 v11.f_Kind, .sl false (List.map c_api_Cell v11.f_Cells)], some [.int .i64 v12.f_Quote, .sl false (List.map c_i64 v12.f_Lists), .int .i64 v12.f_Kind, .sl false (List.map c_api_Cell v12.f_Cells)]]) (r' := []) (.store rfl rfl rfl sz55 rfl rfl rfl) rfl ?_
     refine we_nil ?_
     cases h
     exact ⟨rfl, _, .re (rl [1, 1, 2, 2, 1, 2, 39]) [0, 1, 2, 3] [] rfl (.refl _), rfl⟩
    ·refine e_ (d := .bx 2 0) 8 rfl rfl rfl rfl rfl (b' := [some [.int .i64 0, .sl false [], .int .i64 0, .sl false []], some [.int .i64 0, .sl false [], .int .i64 0, .sl false []], some [.int .i64 0, .sl false [], .int .i64 0, .sl false []]]) (r' := []) (.alloc rfl ze55) rfl ?_
     refine we_nil ?_
     refine sh_pre ?_
     refine e_ (d := .bx 3 0) 7 rfl rfl rfl rfl rfl (b' := [some [.int .i64 0, .sl false [], .int .i64 0, .sl false []], some [.int .i64 0, .sl false [], .int .i64 0, .sl false []], some [.int .i64 0, .sl false [], .int .i64 0, .sl false []], some [.int .i64 0, .sl false [], .int .i64 0, .sl false []]]) (r' := []) (.alloc rfl ze55) rfl ?_
     refine e0 rfl rfl rfl rfl rfl (b' := [some [.int .i64 0, .sl false [], .int .i64 0, .sl false []], some [.int .i64 0, .sl false [], .int .i64 0, .sl false []], some [.int .i64 0, .sl false [], .int .i64 0, .sl false []], some [.int .i64 v11.f_Quote, .sl false (List.map c_i64 v11.f_Lists), .int .i64 v11.f_Kind, .sl false (List.map c_api_Cell v11.f_Cells)]]) (r' := []) (.store rfl rfl rfl sz55 rfl rfl rfl) rfl ?_
     refine e0 rfl rfl rfl rfl rfl (b' := [some [.int .i64 0, .sl false [], .int .i64 0, .sl false []], some [.int .i64 0, .sl false [], .int .i64 0, .sl false []], some [.int .i64 v12.f_Quote, .sl false (List.map c_i64 v12.f_Lists), .int .i64 v12.f_Kind, .sl false (List.map c_api_Cell v12.f_Cells)], some [.int .i64 v11.f_Quote, .sl false (List.map c_i64 v11.f_Lists), .int .i64 v11.f_Kind, .sl false (List.map c_api_Cell v11.f_Cells)]]) (r' := []) (.store rfl rfl rfl sz55 rfl rfl rfl) rfl ?_
     refine we_nil ?_
     cases h
     exact ⟨rfl, _, .re (rl [1, 1, 2, 2, 1, 2, 39]) [0, 1, 3, 2] [] rfl (.refl _), rfl⟩
   ·clear hq
    refine ex_seq ?_
    refine ex_ord [5] (l := [0, 1, 2, 3, 4, 5]) rfl ?_
    refine pq 29 rfl (.fieldAddr rfl rfl rfl fl55u_3 rfl) ?_
    refine pq 30 rfl (x_load rfl rfl rfl sz46 un46 ag46 rfl) ?_
    refine pm 31 ?_
    obtain ⟨v13, hv13, h⟩ := bindS h
    refine pq 32 rfl (x_cut rfl rfl el46 sz58 ⟨_, rfl⟩ (by simp [hiIs]) hv13 fl_api_Cell) ?_
    refine pq 33 rfl (.fieldAddr rfl rfl rfl fl55u_3 rfl) ?_
    refine e0 rfl rfl rfl rfl rfl (b' := [some [.int .i64 0, .sl false [], .int .i64 0, .sl false []], some [.int .i64 0, .sl false [], .int .i64 0, .sl false []], some [.int .i64 q3, .sl false (List.map c_i64 q4), .int .i64 q5, .sl false (List.map c_api_Cell q6)], some [.int .i64 q7, .sl false (List.map c_i64 q8), .int .i64 q9, .sl false (List.map c_api_Cell v13)]]) (r' := []) (.store rfl rfl rfl sz46 rfl rfl rfl) rfl ?_
    refine we_nil ?_
    refine ex_seq ?_
    refine ex_ord [6] (l := [0, 1, 2, 3, 4, 5, 6]) rfl ?_
    refine pq 34 rfl (.fieldAddr rfl rfl rfl fl55u_3 rfl) ?_
    refine pq 35 rfl (x_load rfl rfl rfl sz46 un46 ag46 rfl) ?_
    refine pm 36 ?_
    refine pm 37 ?_
    obtain ⟨v14, hv14, h⟩ := bindS h
    refine pq 38 rfl (x_cut3 rfl rfl rfl rfl el46 sz58 hv14) ?_
    refine pq 39 rfl (.fieldAddr rfl rfl rfl fl55u_3 rfl) ?_
    refine e0 rfl rfl rfl rfl rfl (b' := [some [.int .i64 0, .sl false [], .int .i64 0, .sl false []], some [.int .i64 0, .sl false [], .int .i64 0, .sl false []], some [.int .i64 q3, .sl false (List.map c_i64 q4), .int .i64 q5, .sl false (List.map c_api_Cell v14)], some [.int .i64 q7, .sl false (List.map c_i64 q8), .int .i64 q9, .sl false (List.map c_api_Cell v13)]]) (r' := []) (.store rfl rfl rfl sz46 rfl rfl rfl) rfl ?_
    refine we_nil ?_
    refine ex_seq ?_
    refine ex_seq ?_
    refine ex_ord [] (l := [0, 1, 2, 3]) rfl ?_
    refine pq 40 rfl (.fieldAddr rfl rfl rfl fl55u_3 rfl) ?_
    refine pq 41 rfl (x_load rfl rfl rfl sz46 un46 ag46 rfl) ?_
    refine pq 42 rfl (x_len (f := c_api_Cell) (l := v13) rfl rfl rfl el46) ?_
    refine pq 43 rfl (.bin rfl rfl rfl rfl) ?_
    refine we_nil ?_
    obtain ⟨⟨q15, q16⟩, hq, h⟩ := bindS h
    refine ex_cut ⟨[Z, Z, Z, Z, .bx 0 0, .bx 1 0, Z, .bx 2 0, .bx 3 0, Z, Z, Z, Z, Z, Z, Z, Z, Z, Z, Z, Z, Z, Z, Z, Z, Z, Z, Z, Z, Z, Z, Z, Z, Z, Z, Z, Z, Z, Z, Z, Z, Z, Z, Z, Z, Z, Z, Z], [some [.int .i64 0, .sl false [], .int .i64 0, .sl false []], some [.int .i64 0, .sl false [], .int .i64 0, .sl false []], some [.int .i64 q3, .sl false (List.map c_i64 q4), .int .i64 q5, .sl false (List.map c_api_Cell v14)], some [.int .i64 q7, .sl false (List.map c_i64 q8), .int .i64 q15, .sl false (List.map c_api_Cell q16)]], [], 0⟩ ?_ ?_
    ·clear h
     have h := hq
     clear hq
     refine ex_if rfl ?_ ?_
     ·intro hc
      replace h := iteT h hc
      refine ex_ord [1, 3] (l := [0, 1, 2, 3]) rfl ?_
      refine pq 44 rfl (.fieldAddr rfl rfl rfl fl55u_2 rfl) ?_
      refine e0 rfl rfl rfl rfl rfl (b' := [some [.int .i64 0, .sl false [], .int .i64 0, .sl false []], some [.int .i64 0, .sl false [], .int .i64 0, .sl false []], some [.int .i64 q3, .sl false (List.map c_i64 q4), .int .i64 q5, .sl false (List.map c_api_Cell v14)], some [.int .i64 q7, .sl false (List.map c_i64 q8), .int .i64 0, .sl false (List.map c_api_Cell v13)]]) (r' := []) (.store rfl rfl rfl sz3 rfl rfl rfl) rfl ?_
      refine pq 45 rfl (.fieldAddr rfl rfl rfl fl55u_3 rfl) ?_
      refine e0 rfl rfl rfl rfl rfl (b' := [some [.int .i64 0, .sl false [], .int .i64 0, .sl false []], some [.int .i64 0, .sl false [], .int .i64 0, .sl false []], some [.int .i64 q3, .sl false (List.map c_i64 q4), .int .i64 q5, .sl false (List.map c_api_Cell v14)], some [.int .i64 q7, .sl false (List.map c_i64 q8), .int .i64 0, .sl false []]]) (r' := []) (.store rfl rfl rfl sz46 rfl rfl rfl) rfl ?_
      refine we_nil ?_
      cases h
      exact ⟨rfl, _, .re (rl [4, 2, 1, 2, 39]) [0, 1, 2, 3] [] rfl (.refl _), rfl⟩
     ·intro hc
      replace h := iteF h hc
      refine ex_skip ?_
      cases h
      exact ⟨rfl, _, .re (rl [4, 2, 1, 2, 39]) [0, 1, 2, 3] [] rfl (.refl _), rfl⟩
    ·clear hq
     refine ex_seq ?_
     refine ex_drw mo [2, 3, 2000, 2001, 3002, 3003, 100002, 200003, 300000, 400001] (by kernel_rfl) (l := [0, 1, 2, 3, 4]) rfl ?_
     refine r_ 46 2 rfl rfl rfl rfl rfl rfl (fun _ _ hb => x_loadA rfl rfl (at_bx hb rfl) sz55 un55 ag55 rfl) ?_
     refine r_ 47 3 rfl rfl rfl rfl rfl rfl (fun _ _ hb => x_loadA rfl rfl (at_bx hb rfl) sz55 un55 ag55 rfl) ?_
     refine e0 rfl rfl rfl rfl rfl (b' := [some [.int .i64 q3, .sl false (List.map c_i64 q4), .int .i64 q5, .sl false (List.map c_api_Cell v14)], some [.int .i64 0, .sl false [], .int .i64 0, .sl false []], some [.int .i64 q3, .sl false (List.map c_i64 q4), .int .i64 q5, .sl false (List.map c_api_Cell v14)], some [.int .i64 q7, .sl false (List.map c_i64 q8), .int .i64 q15, .sl false (List.map c_api_Cell q16)]]) (r' := []) (hb := set_out 0 (some [.int .i64 q3, .sl false (List.map c_i64 q4), .int .i64 q5, .sl false (List.map c_api_Cell v14)]) rfl rfl) (.store rfl rfl rfl sz55 rfl rfl rfl) rfl ?_
     refine e0 rfl rfl rfl rfl rfl (b' := [some [.int .i64 q3, .sl false (List.map c_i64 q4), .int .i64 q5, .sl false (List.map c_api_Cell v14)], some [.int .i64 q7, .sl false (List.map c_i64 q8), .int .i64 q15, .sl false (List.map c_api_Cell q16)], some [.int .i64 q3, .sl false (List.map c_i64 q4), .int .i64 q5, .sl false (List.map c_api_Cell v14)], some [.int .i64 q7, .sl false (List.map c_i64 q8), .int .i64 q15, .sl false (List.map c_api_Cell q16)]]) (r' := []) (hb := set_out 1 (some [.int .i64 q7, .sl false (List.map c_i64 q8), .int .i64 q15, .sl false (List.map c_api_Cell q16)]) rfl rfl) (.store rfl rfl rfl sz55 rfl rfl rfl) rfl ?_
     refine pa 6 ?_
     refine we_nil ?_
     refine ex_ret ?_
     obtain rfl := Option.some.inj h
     exact finB (by first | exact .inr rfl | exact .inl rfl) (.refl _) [.agg [.int .i64 q3, .sl false (List.map c_i64 q4), .int .i64 q5, .sl false (List.map c_api_Cell v14)], .agg [.int .i64 q7, .sl false (List.map c_i64 q8), .int .i64 q15, .sl false (List.map c_api_Cell q16)], .int .i64 0] [] [] (res_cons (res_cell rfl rfl sz55 un55 ag55 rfl) (res_cons (res_cell rfl rfl sz55 un55 ag55 rfl) (res_cons (res_tmp rfl) res_nil))) rfl rfl rfl rfl rfl rfl rfl
theorem ok_quillworkref07u_Cells {r : (List (T_api_Cell))} {p0 : List (T_api_Line)} {p1 : T_api_Pos} {p2 : T_api_Pos} (h : quillworkref07u_Cells p0 p1 p2 = some r) : OkB prog 38 [.sl false (List.map c_api_Line p0), .agg [.int .i64 p1.f_Line, .int .i64 p1.f_At], .agg [.int .i64 p2.f_Line, .int .i64 p2.f_At]] [] [] (.own 0) [] [⟨58, 3, List.map c_api_Cell r⟩] := by
 unfold quillworkref07u_Cells at h
 refine okB_of_exG func38 rfl rfl (s0 := [.sl false (List.map c_api_Line p0), .agg [.int .i64 p1.f_Line, .int .i64 p1.f_At], .agg [.int .i64 p2.f_Line, .int .i64 p2.f_At], Z, Z, Z, Z, Z, Z, Z, Z, Z, Z, Z, Z, Z, Z, Z, Z, Z, Z, Z, Z, Z, Z, Z, Z, Z, Z, Z, Z, Z]) (b0 := []) (r0 := []) rfl rfl rfl ?_
 show Ex _ _ _ ⟨[.sl false (List.map c_api_Line p0), .agg [.int .i64 p1.f_Line, .int .i64 p1.f_At], .agg [.int .i64 p2.f_Line, .int .i64 p2.f_At], Z, Z, Z, Z, Z, Z, Z, Z, Z, Z, Z, Z, Z, Z, Z, Z, Z, Z, Z, Z, Z, Z, Z, Z, Z, Z, Z, Z, Z], [], [], 0⟩ _
 refine ex_seq ?_
 refine ex_ord [0, 1, 2] (l := [0, 1, 2]) rfl ?_
 refine e_ (d := .bx 0 0) 4 rfl rfl rfl rfl rfl (b' := [some [.int .i64 p1.f_Line, .int .i64 p1.f_At]]) (r' := []) (.box rfl rfl rfl) rfl ?_
 refine e_ (d := .bx 1 0) 5 rfl rfl rfl rfl rfl (b' := [some [.int .i64 p1.f_Line, .int .i64 p1.f_At], some [.int .i64 p2.f_Line, .int .i64 p2.f_At]]) (r' := []) (.box rfl rfl rfl) rfl ?_
 refine e_ (d := .own 0) 6 rfl rfl rfl rfl rfl (b' := [some [.int .i64 p1.f_Line, .int .i64 p1.f_At], some [.int .i64 p2.f_Line, .int .i64 p2.f_At]]) (r' := [some ⟨58, 3, []⟩]) (.nilRow (.inr rfl) rfl 58 3) rfl ?_
 refine we_nil ?_
 refine ex_seq ?_
 refine ex_gst ⟨[.sl false (List.map c_api_Line p0), .agg [.int .i64 p1.f_Line, .int .i64 p1.f_At], .agg [.int .i64 p2.f_Line, .int .i64 p2.f_At], Z, .cp [.int .i64 p1.f_Line, .int .i64 p1.f_At], .bx 1 0, .own 0, Z, Z, Z, Z, Z, Z, Z, Z, Z, Z, Z, Z, Z, Z, Z, Z, Z, Z, Z, Z, Z, Z, Z, Z, Z], [none, some [.int .i64 p2.f_Line, .int .i64 p2.f_At]], [some ⟨58, 3, []⟩], 0⟩ (.shutB (b := 0) rfl (fun d h => by simpa using List.all_eq_true.1 (rfl : List.all [.int .i64 p1.f_Line, .int .i64 p1.f_At] (fun d => !d.tok) = true) d h) (.refl _)) rfl ?_
 refine ex_gst ⟨[.sl false (List.map c_api_Line p0), .agg [.int .i64 p1.f_Line, .int .i64 p1.f_At], .agg [.int .i64 p2.f_Line, .int .i64 p2.f_At], Z, .cp [.int .i64 p1.f_Line, .int .i64 p1.f_At], .cp [.int .i64 p2.f_Line, .int .i64 p2.f_At], .own 0, Z, Z, Z, Z, Z, Z, Z, Z, Z, Z, Z, Z, Z, Z, Z, Z, Z, Z, Z, Z, Z, Z, Z, Z, Z], [none, none], [some ⟨58, 3, []⟩], 0⟩ (.shutB (b := 1) rfl (fun d h => by simpa using List.all_eq_true.1 (rfl : List.all [.int .i64 p2.f_Line, .int .i64 p2.f_At] (fun d => !d.tok) = true) d h) (.refl _)) rfl ?_
 refine ex_ord [3] (l := [0, 1, 2, 3, 4, 5, 6, 7, 8]) rfl ?_
 refine pm 12 ?_
 refine pq 13 rfl (x_loadA rfl rfl rfl sz24 un24 ag24 rfl) ?_
 refine pq 14 rfl (x_loadA rfl rfl rfl sz24 un24 ag24 rfl) ?_
 obtain ⟨v1, hv1, h⟩ := bindS h
 refine e_ (d := .tup [.own 1, .int .i64 v1.2]) 15 rfl rfl rfl rfl rfl (b' := [none, none]) (r' := [some ⟨58, 3, []⟩, some ⟨55, 4, List.map c_api_Line v1.1⟩]) (x_call [] [] rfl rfl en52 (ok_quillworkref07u_Part hv1) rfl rfl rfl rfl rfl rfl rfl rfl rfl rfl rfl rfl rfl rfl) rfl ?_
 refine pm 11 ?_
 refine pq 16 rfl (.extract rfl rfl rfl rfl) ?_
 refine pq 17 rfl (.extract rfl rfl rfl rfl) ?_
 refine pa 7 ?_
 refine pa 8 ?_
 refine we_nil ?_
 refine ex_seq ?_
 refine ex_ord [0] (l := [0]) rfl ?_
 refine e_ (d := .own 2) 9 rfl rfl rfl rfl rfl (b' := [none, none]) (r' := [some ⟨58, 3, []⟩, some ⟨55, 4, List.map c_api_Line v1.1⟩, some ⟨58, 3, []⟩]) (.nilRow (.inr rfl) rfl 58 3) rfl ?_
 refine we_nil ?_
 refine ex_seq ?_
 refine ex_seq ?_
 refine ex_ord [] (l := [0]) rfl ?_
 refine pa 10 ?_
 refine we_nil ?_
 refine ex_block ?_
 obtain ⟨k4, hl, h⟩ := bindS h
 refine ex_gst ⟨[Z, Z, Z, Z, Z, Z, Z, .own 0, Z, .own 1, .int .i64 0, Z, Z, Z, Z, Z, Z, Z, Z, Z, Z, Z, Z, Z, Z, Z, Z, Z, Z, Z, Z, Z], [], [some ⟨55, 4, List.map c_api_Line v1.1⟩, some ⟨58, 3, []⟩], 0⟩ (.re (rl [7, 1, 1, 2, 21]) [] [1, 2] rfl (.refl _)) rfl ?_
 refine ex_iterX (fun _ => .exit 0) (fun s => ⟨[Z, Z, Z, Z, Z, Z, Z, .own 0, Z, .own 1, .int .i64 s.2, Z, Z, Z, Z, Z, Z, Z, Z, Z, Z, Z, Z, Z, Z, Z, Z, Z, Z, Z, Z, Z], [], [some ⟨55, 4, List.map c_api_Line v1.1⟩, some ⟨58, 3, List.map c_api_Cell s.1⟩], 0⟩) (fun o => ⟨[Z, Z, Z, Z, Z, Z, Z, Z, Z, .own 0, Z, Z, Z, Z, Z, Z, Z, Z, Z, Z, Z, Z, Z, Z, Z, Z, Z, Z, Z, Z, Z, Z], [], [some ⟨58, 3, List.map c_api_Cell o⟩], 0⟩) hl rfl ?_ ?_
 ·clear hl
  refine ex_seq ?_
  refine ex_ord [] (l := [0, 1]) rfl ?_
  refine pm 31 ?_
  refine pa 6 ?_
  refine we_nil ?_
  refine ex_ret ?_
  obtain rfl := Option.some.inj h
  exact finB (by first | exact .inr rfl | exact .inl rfl) (.refl _) [.own 0] [0] [] (res_cons (res_tmp rfl) res_nil) rfl rfl rfl rfl rfl rfl rfl
 ·clear hl h
  rintro ⟨n2, n3⟩ y h
  replace h : quillworkref07u_Cells_l1 v1 n2 n3 = some y := h
  unfold quillworkref07u_Cells_l1 at h
  show Ex _ _ _ ⟨[Z, Z, Z, Z, Z, Z, Z, .own 0, Z, .own 1, .int .i64 n3, Z, Z, Z, Z, Z, Z, Z, Z, Z, Z, Z, Z, Z, Z, Z, Z, Z, Z, Z, Z, Z], [], [some ⟨55, 4, List.map c_api_Line v1.1⟩, some ⟨58, 3, List.map c_api_Cell n2⟩], 0⟩ _
  refine ex_seq ?_
  refine ex_seq ?_
  refine ex_ord [] (l := [0, 1, 2, 3]) rfl ?_
  refine pm 18 ?_
  refine pm 19 ?_
  refine pq 20 rfl (x_len (f := c_api_Line) (l := v1.1) rfl rfl rfl el22) ?_
  refine pq 21 rfl (.bin rfl rfl rfl rfl) ?_
  refine we_nil ?_
  refine ex_if rfl ?_ ?_
  ·intro hc
   replace h := iteT h hc
   refine ex_skip ?_
   refine ex_seq ?_
   refine ex_block ?_
   refine ex_ord [6] (l := [0, 1, 2, 3, 4, 5, 6, 7]) rfl ?_
   refine pm 24 ?_
   refine pm 25 ?_
   refine pm 26 ?_
   obtain ⟨v5, hv5, h⟩ := bindS h
   refine pq 27 rfl (x_idxO (f := c_api_Line) (l := v1.1) rfl rfl rfl rfl rfl el22 sz55 hv5 rfl) ?_
   refine pq 28 rfl (.fieldAddr rfl rfl rfl fl55u_3 rfl) ?_
   obtain ⟨v6, hv6, h⟩ := bindS h
   refine pq 29 rfl (x_load rfl rfl (at_ex (f := c_api_Line) (xs := v1.1) (c := [.int .i64 v6.f_Quote, .sl false (List.map c_i64 v6.f_Lists), .int .i64 v6.f_Kind, .sl false (List.map c_api_Cell v6.f_Cells)]) rfl rfl (getI_some hv6).2 rfl (Nat.le_of_ble_eq_true rfl)) sz46 un46 ag46 rfl) ?_
   obtain ⟨v7, hv7, h⟩ := bindS h
   refine e_ (d := .own 2) 30 rfl rfl rfl rfl rfl (b' := []) (r' := [some ⟨55, 4, List.map c_api_Line v1.1⟩, none, some ⟨58, 3, List.map c_api_Cell v7⟩]) (x_app (f := c_api_Cell) (xs := n2) (ys := v6.f_Cells) rfl rfl rfl el46 rw58 rfl rfl rfl fl_api_Cell hv7) rfl ?_
   refine pa 9 ?_
   refine we_nil ?_
   refine ex_ord [] (l := [0, 1, 2]) rfl ?_
   refine pm 22 ?_
   refine pq 23 rfl (.bin rfl rfl rfl rfl) ?_
   refine pa 10 ?_
   refine we_nil ?_
   exact rnd_on rfl h (.re (rl [7, 1, 1, 2, 21]) [] [0, 2] rfl (.refl _)) rfl
  ·intro hc
   replace h := iteF h hc
   refine ex_exit ?_
   exact rnd_out (o := n2) rfl (fun h => by cases h) h (.re (rl [9, 1, 22]) [] [1] rfl (.refl _)) rfl
theorem ok_doc_May_1 {r : Bool} {p0 : T_api_Line} (h : doc_May_1 p0 = some r) : OkB prog 61 [.agg [.int .i64 p0.f_Quote, .sl false (List.map c_i64 p0.f_Lists), .int .i64 p0.f_Kind, .sl false (List.map c_api_Cell p0.f_Cells)]] [] [] (.bool r) [] [] := by
 unfold doc_May_1 at h
 refine okB_of_exG func61 rfl rfl (s0 := [.agg [.int .i64 p0.f_Quote, .sl false (List.map c_i64 p0.f_Lists), .int .i64 p0.f_Kind, .sl false (List.map c_api_Cell p0.f_Cells)], Z, Z, Z, Z, Z]) (b0 := []) (r0 := []) rfl rfl rfl ?_
 show Ex _ _ _ ⟨[.agg [.int .i64 p0.f_Quote, .sl false (List.map c_i64 p0.f_Lists), .int .i64 p0.f_Kind, .sl false (List.map c_api_Cell p0.f_Cells)], Z, Z, Z, Z, Z], [], [], 0⟩ _
 refine ex_seq ?_
 refine ex_ord [0] (l := [0, 1]) rfl ?_
 refine e_ (d := .bx 0 0) 1 rfl rfl rfl rfl rfl (b' := [some [.int .i64 p0.f_Quote, .sl false (List.map c_i64 p0.f_Lists), .int .i64 p0.f_Kind, .sl false (List.map c_api_Cell p0.f_Cells)]]) (r' := []) (.box rfl rfl rfl) rfl ?_
 refine pa 2 ?_
 refine we_nil ?_
 refine ex_seq ?_
 refine ex_gst ⟨[.agg [.int .i64 p0.f_Quote, .sl false (List.map c_i64 p0.f_Lists), .int .i64 p0.f_Kind, .sl false (List.map c_api_Cell p0.f_Cells)], .cp [.int .i64 p0.f_Quote, .sl false (List.map c_i64 p0.f_Lists), .int .i64 p0.f_Kind, .sl false (List.map c_api_Cell p0.f_Cells)], .bool false, Z, Z, Z], [none], [], 0⟩ (.shutB (b := 0) rfl (fun d h => by simpa using List.all_eq_true.1 (rfl : List.all [.int .i64 p0.f_Quote, .sl false (List.map c_i64 p0.f_Lists), .int .i64 p0.f_Kind, .sl false (List.map c_api_Cell p0.f_Cells)] (fun d => !d.tok) = true) d h) (.refl _)) rfl ?_
 refine ex_ord [] (l := [0, 1, 2, 3]) rfl ?_
 refine pq 3 rfl (x_loadA rfl rfl rfl sz55 un55 ag55 rfl) ?_
 obtain ⟨v1, hv1, h⟩ := bindS h
 refine pq 4 rfl (x_callP rfl rfl en62 (ok_lines_May hv1) rfl rfl rfl rfl rfl) ?_
 refine pq 5 rfl (.un rfl rfl rfl) ?_
 refine pa 2 ?_
 refine we_nil ?_
 refine ex_ret ?_
 obtain rfl := Option.some.inj h
 exact finB (by first | exact .inr rfl | exact .inl rfl) (.refl _) [.bool (!v1)] [] [] (res_cons (res_tmp rfl) res_nil) rfl rfl rfl rfl rfl rfl rfl
theorem ok_doc_May {r : Bool} {p0 : List (T_api_Line)} (h : doc_May p0 = some r) : OkB prog 13 [.sl false (List.map c_api_Line p0)] [] [] (.bool r) [] [] := by
 unfold doc_May at h
 refine okB_of_exG func13 rfl rfl (s0 := [.sl false (List.map c_api_Line p0), Z, Z, Z, Z, Z, Z, Z, Z, Z, Z, Z, Z, Z, Z, Z, Z, Z, Z, Z, Z]) (b0 := []) (r0 := []) rfl rfl rfl ?_
 show Ex _ _ _ ⟨[.sl false (List.map c_api_Line p0), Z, Z, Z, Z, Z, Z, Z, Z, Z, Z, Z, Z, Z, Z, Z, Z, Z, Z, Z, Z], [], [], 0⟩ _
 refine ex_seq ?_
 refine ex_ord [] (l := [0]) rfl ?_
 refine pa 2 ?_
 refine we_nil ?_
 refine ex_seq ?_
 obtain ⟨q1, hq, h⟩ := bindS h
 refine ex_cut ⟨[Z, Z, .bool q1, Z, Z, Z, Z, Z, Z, Z, Z, Z, Z, Z, Z, Z, Z, Z, Z, Z, Z], [], [], 0⟩ ?_ ?_
 ·clear h
  have h := hq
  clear hq
  refine ex_ord [] (l := [0, 1, 2, 3, 4, 5, 6, 7, 8, 9, 10, 11, 12, 13, 14, 15, 16, 17, 18]) rfl ?_
  refine pm 3 ?_
  refine pq 4 rfl (x_len (f := c_api_Line) (l := p0) rfl rfl rfl el22) ?_
  refine pif 5 rfl rfl rfl rfl (.bin rfl rfl rfl rfl) ?_ ?_
  ·intro hc
   replace h := iteT h hc
   refine pm 6 ?_
   refine pm 7 ?_
   refine pq 8 rfl (x_len (f := c_api_Line) (l := p0) rfl rfl rfl el22) ?_
   refine pif 9 rfl rfl rfl rfl (.bin rfl rfl rfl rfl) ?_ ?_
   ·intro hc
    replace h := iteT h hc
    refine pq 10 rfl (x_pickT rfl rfl rfl rfl) ?_
    refine pm 11 ?_
    refine pm 12 ?_
    obtain ⟨v2, hv2, h⟩ := bindS h
    refine pq 13 rfl (x_callP rfl rfl en15 (ok_doc_Size hv2) rfl rfl rfl rfl rfl) ?_
    refine pif 14 rfl rfl rfl rfl (.bin rfl rfl rfl rfl) ?_ ?_
    ·intro hc
     replace h := iteT h hc
     refine pq 15 rfl (x_pickT rfl rfl rfl rfl) ?_
     refine pm 16 ?_
     refine pm 17 ?_
     obtain ⟨v3, hv3, h⟩ := bindS h
     refine pq 18 rfl (x_callP rfl rfl en60 (ok_slices_ContainsFunc_apiLine ⟨en61, rfl, rfl⟩ (fun _ _ h => ok_doc_May_1 h) hv3) rfl rfl rfl rfl rfl) ?_
     refine pq 19 rfl (.un rfl rfl rfl) ?_
     refine pq 20 rfl (x_pickT rfl rfl rfl rfl) ?_
     refine pa 2 ?_
     refine we_nil ?_
     cases h
     exact ⟨rfl, _, .re (rl [2, 1, 18]) [] [] rfl (.refl _), rfl⟩
    ·intro hc
     replace h := iteF h hc
     refine pq 15 rfl (x_pickT rfl rfl rfl rfl) ?_
     refine pm 16 ?_
     refine kq 17 ?_
     refine kq 18 ?_
     refine kq 19 ?_
     refine pq 20 rfl (x_pickF rfl rfl rfl rfl) ?_
     refine pa 2 ?_
     refine we_nil ?_
     cases h
     exact ⟨rfl, _, .re (rl [2, 1, 18]) [] [] rfl (.refl _), rfl⟩
   ·intro hc
    replace h := iteF h hc
    refine pq 10 rfl (x_pickT rfl rfl rfl rfl) ?_
    refine pm 11 ?_
    refine kq 12 ?_
    refine kq 13 ?_
    refine kq 14 ?_
    refine pq 15 rfl (x_pickF rfl rfl rfl rfl) ?_
    refine pm 16 ?_
    refine kq 17 ?_
    refine kq 18 ?_
    refine kq 19 ?_
    refine pq 20 rfl (x_pickF rfl rfl rfl rfl) ?_
    refine pa 2 ?_
    refine we_nil ?_
    cases h
    exact ⟨rfl, _, .re (rl [2, 1, 18]) [] [] rfl (.refl _), rfl⟩
  ·intro hc
   replace h := iteF h hc
   refine pm 6 ?_
   refine kq 7 ?_
   refine kq 8 ?_
   refine kq 9 ?_
   refine pq 10 rfl (x_pickF rfl rfl rfl rfl) ?_
   refine pm 11 ?_
   refine kq 12 ?_
   refine kq 13 ?_
   refine kq 14 ?_
   refine pq 15 rfl (x_pickF rfl rfl rfl rfl) ?_
   refine pm 16 ?_
   refine kq 17 ?_
   refine kq 18 ?_
   refine kq 19 ?_
   refine pq 20 rfl (x_pickF rfl rfl rfl rfl) ?_
   refine pa 2 ?_
   refine we_nil ?_
   cases h
   exact ⟨rfl, _, .re (rl [2, 1, 18]) [] [] rfl (.refl _), rfl⟩
 ·clear hq
  refine ex_ret ?_
  obtain rfl := Option.some.inj h
  exact finB (by first | exact .inr rfl | exact .inl rfl) (.refl _) [.bool q1] [] [] (res_cons (res_tmp rfl) res_nil) rfl rfl rfl rfl rfl rfl rfl
theorem ok_doc_span {r : Bool} {p0 : List (T_api_Line)} {p1 : T_api_Pos} {p2 : T_api_Pos} (h : doc_span p0 p1 p2 = some r) : OkB prog 90 [.sl false (List.map c_api_Line p0), .agg [.int .i64 p1.f_Line, .int .i64 p1.f_At], .agg [.int .i64 p2.f_Line, .int .i64 p2.f_At]] [] [] (.bool r) [] [] := by
 unfold doc_span at h
 refine okB_of_exG func90 rfl rfl (s0 := [.sl false (List.map c_api_Line p0), .agg [.int .i64 p1.f_Line, .int .i64 p1.f_At], .agg [.int .i64 p2.f_Line, .int .i64 p2.f_At], Z, Z, Z, Z, Z, Z, Z, Z, Z, Z, Z, Z, Z, Z, Z, Z, Z, Z, Z, Z, Z, Z]) (b0 := []) (r0 := []) rfl rfl rfl ?_
 show Ex _ _ _ ⟨[.sl false (List.map c_api_Line p0), .agg [.int .i64 p1.f_Line, .int .i64 p1.f_At], .agg [.int .i64 p2.f_Line, .int .i64 p2.f_At], Z, Z, Z, Z, Z, Z, Z, Z, Z, Z, Z, Z, Z, Z, Z, Z, Z, Z, Z, Z, Z, Z], [], [], 0⟩ _
 refine ex_seq ?_
 refine ex_ord [0, 1] (l := [0, 1, 2]) rfl ?_
 refine e_ (d := .bx 0 0) 4 rfl rfl rfl rfl rfl (b' := [some [.int .i64 p1.f_Line, .int .i64 p1.f_At]]) (r' := []) (.box rfl rfl rfl) rfl ?_
 refine e_ (d := .bx 1 0) 5 rfl rfl rfl rfl rfl (b' := [some [.int .i64 p1.f_Line, .int .i64 p1.f_At], some [.int .i64 p2.f_Line, .int .i64 p2.f_At]]) (r' := []) (.box rfl rfl rfl) rfl ?_
 refine pa 6 ?_
 refine we_nil ?_
 refine ex_seq ?_
 refine ex_gst ⟨[.sl false (List.map c_api_Line p0), .agg [.int .i64 p1.f_Line, .int .i64 p1.f_At], .agg [.int .i64 p2.f_Line, .int .i64 p2.f_At], Z, .cp [.int .i64 p1.f_Line, .int .i64 p1.f_At], .bx 1 0, .bool false, Z, Z, Z, Z, Z, Z, Z, Z, Z, Z, Z, Z, Z, Z, Z, Z, Z, Z], [none, some [.int .i64 p2.f_Line, .int .i64 p2.f_At]], [], 0⟩ (.shutB (b := 0) rfl (fun d h => by simpa using List.all_eq_true.1 (rfl : List.all [.int .i64 p1.f_Line, .int .i64 p1.f_At] (fun d => !d.tok) = true) d h) (.refl _)) rfl ?_
 refine ex_gst ⟨[.sl false (List.map c_api_Line p0), .agg [.int .i64 p1.f_Line, .int .i64 p1.f_At], .agg [.int .i64 p2.f_Line, .int .i64 p2.f_At], Z, .cp [.int .i64 p1.f_Line, .int .i64 p1.f_At], .cp [.int .i64 p2.f_Line, .int .i64 p2.f_At], .bool false, Z, Z, Z, Z, Z, Z, Z, Z, Z, Z, Z, Z, Z, Z, Z, Z, Z, Z], [none, none], [], 0⟩ (.shutB (b := 1) rfl (fun d h => by simpa using List.all_eq_true.1 (rfl : List.all [.int .i64 p2.f_Line, .int .i64 p2.f_At] (fun d => !d.tok) = true) d h) (.refl _)) rfl ?_
 obtain ⟨q1, hq, h⟩ := bindS h
 refine ex_cut ⟨[Z, Z, Z, Z, Z, Z, .bool q1, Z, Z, Z, Z, Z, Z, Z, Z, Z, Z, Z, Z, Z, Z, Z, Z, Z, Z], [], [], 0⟩ ?_ ?_
 ·clear h
  have h := hq
  clear hq
  refine ex_ord [] (l := [0, 1, 2, 3, 4, 5, 6, 7, 8, 9, 10, 11, 12, 13, 14, 15, 16, 17, 18]) rfl ?_
  refine pm 7 ?_
  obtain ⟨v2, hv2, h⟩ := bindS h
  refine pif 8 rfl rfl rfl rfl (x_callP rfl rfl en13 (ok_doc_May hv2) rfl rfl rfl rfl rfl) ?_ ?_
  ·intro hc
   replace h := iteT h hc
   refine pm 9 ?_
   refine pm 10 ?_
   refine pq 11 rfl (x_loadA rfl rfl rfl sz24 un24 ag24 rfl) ?_
   obtain ⟨v3, hv3, h⟩ := bindS h
   refine pif 12 rfl rfl rfl rfl (x_callP rfl rfl en19 (ok_doc_Is hv3) rfl rfl rfl rfl rfl) ?_ ?_
   ·intro hc
    replace h := iteT h hc
    refine pq 13 rfl (x_pickT rfl rfl rfl rfl) ?_
    refine pm 14 ?_
    refine pm 15 ?_
    refine pq 16 rfl (x_loadA rfl rfl rfl sz24 un24 ag24 rfl) ?_
    obtain ⟨v4, hv4, h⟩ := bindS h
    refine pif 17 rfl rfl rfl rfl (x_callP rfl rfl en19 (ok_doc_Is hv4) rfl rfl rfl rfl rfl) ?_ ?_
    ·intro hc
     replace h := iteT h hc
     refine pq 18 rfl (x_pickT rfl rfl rfl rfl) ?_
     refine pm 19 ?_
     refine pq 20 rfl (x_loadA rfl rfl rfl sz24 un24 ag24 rfl) ?_
     refine pq 21 rfl (x_loadA rfl rfl rfl sz24 un24 ag24 rfl) ?_
     obtain ⟨v5, hv5, h⟩ := bindS h
     refine pq 22 rfl (x_callP rfl rfl en23 (ok_doc_Cmp hv5) rfl rfl rfl rfl rfl) ?_
     refine pq 23 rfl (.bin rfl rfl rfl rfl) ?_
     refine pq 24 rfl (x_pickT rfl rfl rfl rfl) ?_
     refine pa 6 ?_
     refine we_nil ?_
     cases h
     exact ⟨rfl, _, .re (rl [6, 1, 18]) [] [] rfl (.refl _), rfl⟩
    ·intro hc
     replace h := iteF h hc
     refine pq 18 rfl (x_pickT rfl rfl rfl rfl) ?_
     refine pm 19 ?_
     refine kq 20 ?_
     refine kq 21 ?_
     refine kq 22 ?_
     refine kq 23 ?_
     refine pq 24 rfl (x_pickF rfl rfl rfl rfl) ?_
     refine pa 6 ?_
     refine we_nil ?_
     cases h
     exact ⟨rfl, _, .re (rl [6, 1, 18]) [] [] rfl (.refl _), rfl⟩
   ·intro hc
    replace h := iteF h hc
    refine pq 13 rfl (x_pickT rfl rfl rfl rfl) ?_
    refine pm 14 ?_
    refine kq 15 ?_
    refine kq 16 ?_
    refine kq 17 ?_
    refine pq 18 rfl (x_pickF rfl rfl rfl rfl) ?_
    refine pm 19 ?_
    refine kq 20 ?_
    refine kq 21 ?_
    refine kq 22 ?_
    refine kq 23 ?_
    refine pq 24 rfl (x_pickF rfl rfl rfl rfl) ?_
    refine pa 6 ?_
    refine we_nil ?_
    cases h
    exact ⟨rfl, _, .re (rl [6, 1, 18]) [] [] rfl (.refl _), rfl⟩
  ·intro hc
   replace h := iteF h hc
   refine pm 9 ?_
   refine kq 10 ?_
   refine kq 11 ?_
   refine kq 12 ?_
   refine pq 13 rfl (x_pickF rfl rfl rfl rfl) ?_
   refine pm 14 ?_
   refine kq 15 ?_
   refine kq 16 ?_
   refine kq 17 ?_
   refine pq 18 rfl (x_pickF rfl rfl rfl rfl) ?_
   refine pm 19 ?_
   refine kq 20 ?_
   refine kq 21 ?_
   refine kq 22 ?_
   refine kq 23 ?_
   refine pq 24 rfl (x_pickF rfl rfl rfl rfl) ?_
   refine pa 6 ?_
   refine we_nil ?_
   cases h
   exact ⟨rfl, _, .re (rl [6, 1, 18]) [] [] rfl (.refl _), rfl⟩
 ·clear hq
  refine ex_ret ?_
  obtain rfl := Option.some.inj h
  exact finB (by first | exact .inr rfl | exact .inl rfl) (.refl _) [.bool q1] [] [] (res_cons (res_tmp rfl) res_nil) rfl rfl rfl rfl rfl rfl rfl
theorem ok_doc_Delete {r : (List (T_api_Line)) × Int} {p0 : List (T_api_Line)} {p1 : T_api_Pos} {p2 : T_api_Pos} (h : doc_Delete p0 p1 p2 = some r) : OkB prog 49 [.sl false (List.map c_api_Line p0), .agg [.int .i64 p1.f_Line, .int .i64 p1.f_At], .agg [.int .i64 p2.f_Line, .int .i64 p2.f_At]] [] [] (.tup [.own 0, .int .i64 r.2]) [] [⟨55, 4, List.map c_api_Line r.1⟩] := by
 unfold doc_Delete at h
 refine okB_of_exG func49 rfl rfl (s0 := [.sl false (List.map c_api_Line p0), .agg [.int .i64 p1.f_Line, .int .i64 p1.f_At], .agg [.int .i64 p2.f_Line, .int .i64 p2.f_At], Z, Z, Z, Z, Z, Z, Z, Z, Z, Z, Z, Z, Z, Z, Z, Z, Z, Z, Z, Z, Z, Z, Z, Z, Z, Z, Z, Z, Z, Z, Z, Z, Z, Z, Z, Z, Z, Z, Z, Z, Z, Z, Z, Z, Z, Z, Z, Z, Z]) (b0 := []) (r0 := []) rfl rfl rfl ?_
 show Ex _ _ _ ⟨[.sl false (List.map c_api_Line p0), .agg [.int .i64 p1.f_Line, .int .i64 p1.f_At], .agg [.int .i64 p2.f_Line, .int .i64 p2.f_At], Z, Z, Z, Z, Z, Z, Z, Z, Z, Z, Z, Z, Z, Z, Z, Z, Z, Z, Z, Z, Z, Z, Z, Z, Z, Z, Z, Z, Z, Z, Z, Z, Z, Z, Z, Z, Z, Z, Z, Z, Z, Z, Z, Z, Z, Z, Z, Z, Z], [], [], 0⟩ _
 refine ex_seq ?_
 refine ex_ord [0, 1, 2] (l := [0, 1, 2, 3]) rfl ?_
 refine e_ (d := .bx 0 0) 4 rfl rfl rfl rfl rfl (b' := [some [.int .i64 p1.f_Line, .int .i64 p1.f_At]]) (r' := []) (.box rfl rfl rfl) rfl ?_
 refine e_ (d := .bx 1 0) 5 rfl rfl rfl rfl rfl (b' := [some [.int .i64 p1.f_Line, .int .i64 p1.f_At], some [.int .i64 p2.f_Line, .int .i64 p2.f_At]]) (r' := []) (.box rfl rfl rfl) rfl ?_
 refine e_ (d := .own 0) 6 rfl rfl rfl rfl rfl (b' := [some [.int .i64 p1.f_Line, .int .i64 p1.f_At], some [.int .i64 p2.f_Line, .int .i64 p2.f_At]]) (r' := [some ⟨55, 4, []⟩]) (.nilRow (.inr rfl) rfl 55 4) rfl ?_
 refine pa 7 ?_
 refine we_nil ?_
 refine ex_seq ?_
 refine ex_seq ?_
 refine ex_gst ⟨[.sl false (List.map c_api_Line p0), .agg [.int .i64 p1.f_Line, .int .i64 p1.f_At], .agg [.int .i64 p2.f_Line, .int .i64 p2.f_At], Z, .cp [.int .i64 p1.f_Line, .int .i64 p1.f_At], .bx 1 0, .own 0, .int .i64 0, Z, Z, Z, Z, Z, Z, Z, Z, Z, Z, Z, Z, Z, Z, Z, Z, Z, Z, Z, Z, Z, Z, Z, Z, Z, Z, Z, Z, Z, Z, Z, Z, Z, Z, Z, Z, Z, Z, Z, Z, Z, Z, Z, Z], [none, some [.int .i64 p2.f_Line, .int .i64 p2.f_At]], [some ⟨55, 4, []⟩], 0⟩ (.shutB (b := 0) rfl (fun d h => by simpa using List.all_eq_true.1 (rfl : List.all [.int .i64 p1.f_Line, .int .i64 p1.f_At] (fun d => !d.tok) = true) d h) (.refl _)) rfl ?_
 refine ex_gst ⟨[.sl false (List.map c_api_Line p0), .agg [.int .i64 p1.f_Line, .int .i64 p1.f_At], .agg [.int .i64 p2.f_Line, .int .i64 p2.f_At], Z, .cp [.int .i64 p1.f_Line, .int .i64 p1.f_At], .cp [.int .i64 p2.f_Line, .int .i64 p2.f_At], .own 0, .int .i64 0, Z, Z, Z, Z, Z, Z, Z, Z, Z, Z, Z, Z, Z, Z, Z, Z, Z, Z, Z, Z, Z, Z, Z, Z, Z, Z, Z, Z, Z, Z, Z, Z, Z, Z, Z, Z, Z, Z, Z, Z, Z, Z, Z, Z], [none, none], [some ⟨55, 4, []⟩], 0⟩ (.shutB (b := 1) rfl (fun d h => by simpa using List.all_eq_true.1 (rfl : List.all [.int .i64 p2.f_Line, .int .i64 p2.f_At] (fun d => !d.tok) = true) d h) (.refl _)) rfl ?_
 refine ex_ord [] (l := [0, 1, 2, 3, 4]) rfl ?_
 refine pm 10 ?_
 refine pq 11 rfl (x_loadA rfl rfl rfl sz24 un24 ag24 rfl) ?_
 refine pq 12 rfl (x_loadA rfl rfl rfl sz24 un24 ag24 rfl) ?_
 obtain ⟨v1, hv1, h⟩ := bindS h
 refine pq 13 rfl (x_callP rfl rfl en90 (ok_doc_span hv1) rfl rfl rfl rfl rfl) ?_
 refine pq 14 rfl (.un rfl rfl rfl) ?_
 refine we_nil ?_
 refine ex_if rfl ?_ ?_
 ·intro hc
  replace h := iteT h hc
  refine ex_seq ?_
  refine ex_ord [0] (l := [0, 1]) rfl ?_
  refine e_ (d := .own 1) 6 rfl rfl rfl rfl rfl (b' := [none, none]) (r' := [some ⟨55, 4, []⟩, some ⟨55, 4, []⟩]) (.nilRow (.inr rfl) rfl 55 4) rfl ?_
  refine pa 7 ?_
  refine we_nil ?_
  refine ex_ret ?_
  obtain rfl := Option.some.inj h
  exact finB (by first | exact .inr rfl | exact .inl rfl) (.refl _) [.own 1, .int .i64 1] [1] [] (res_cons (res_tmp rfl) (res_cons (res_tmp rfl) res_nil)) rfl rfl rfl rfl rfl rfl rfl
 ·intro hc
  replace h := iteF h hc
  refine ex_skip ?_
  refine ex_seq ?_
  refine ex_ord [1] (l := [0, 1, 2]) rfl ?_
  refine pm 15 ?_
  obtain ⟨v2, hv2, h⟩ := bindS h
  refine e_ (d := .own 1) 16 rfl rfl rfl rfl rfl (b' := [none, none]) (r' := [some ⟨55, 4, []⟩, some ⟨55, 4, List.map c_api_Line v2⟩]) (x_call [] [] rfl rfl en32 (ok_doc_Own hv2) rfl rfl rfl rfl rfl rfl rfl rfl rfl rfl rfl rfl rfl rfl) rfl ?_
  refine pa 8 ?_
  refine we_nil ?_
  refine ex_seq ?_
  refine ex_ord [5, 6] (l := [0, 1, 2, 3, 4, 5, 6]) rfl ?_
  refine pm 17 ?_
  refine pq 18 rfl (.fieldAddr rfl rfl rfl fl24u_0 rfl) ?_
  refine pq 19 rfl (x_load rfl rfl rfl sz3 un3 ag3 rfl) ?_
  obtain ⟨v3, hv3, h⟩ := bindS h
  refine pq 20 rfl (x_idxO (f := c_api_Line) (l := v2) rfl rfl rfl rfl rfl el22 sz55 hv3 rfl) ?_
  obtain ⟨v4, hv4, h⟩ := bindS h
  refine pq 21 rfl (x_loadA rfl rfl (at_ex (f := c_api_Line) (xs := v2) (c := [.int .i64 v4.f_Quote, .sl false (List.map c_i64 v4.f_Lists), .int .i64 v4.f_Kind, .sl false (List.map c_api_Cell v4.f_Cells)]) rfl rfl (getI_some hv4).2 rfl (Nat.le_of_ble_eq_true rfl)) sz55 un55 ag55 rfl) ?_
  refine e_ (d := .bx 2 0) 9 rfl rfl rfl rfl rfl (b' := [none, none, some [.int .i64 0, .sl false [], .int .i64 0, .sl false []]]) (r' := [some ⟨55, 4, []⟩, some ⟨55, 4, List.map c_api_Line v2⟩]) (.alloc rfl ze55) rfl ?_
  refine e0 rfl rfl rfl rfl rfl (b' := [none, none, some [.int .i64 v4.f_Quote, .sl false (List.map c_i64 v4.f_Lists), .int .i64 v4.f_Kind, .sl false (List.map c_api_Cell v4.f_Cells)]]) (r' := [some ⟨55, 4, []⟩, some ⟨55, 4, List.map c_api_Line v2⟩]) (.store rfl rfl rfl sz55 rfl rfl rfl) rfl ?_
  refine we_nil ?_
  refine ex_seq ?_
  refine ex_drw mo [18, 19, 21, 1001, 1002, 1003, 1004, 1005, 1006, 1007, 1008, 1010, 1011, 1012, 1013, 1014, 1015, 1016, 1017, 2020, 3018, 3019, 3021, 2100002, 2200002] (by kernel_rfl) (l := [0, 1, 2, 3, 4, 5, 6, 7, 8, 9, 10, 11, 12, 13, 14, 15, 16, 17, 18, 19, 20, 21]) rfl ?_
  refine pm 22 ?_
  refine n_ 23 rfl rfl rfl (fun _ _ => .fieldAddr rfl rfl rfl fl24u_0 rfl) ?_
  refine n_ 24 rfl rfl rfl (fun _ _ => x_load rfl rfl rfl sz3 un3 ag3 rfl) ?_
  obtain ⟨v5, hv5, h⟩ := bindS h
  refine n_ 25 rfl rfl rfl (fun _ _ => x_idx (f := c_api_Line) (cs := [.int .i64 v5.f_Quote, .sl false (List.map c_i64 v5.f_Lists), .int .i64 v5.f_Kind, .sl false (List.map c_api_Cell v5.f_Cells)]) rfl rfl rfl el22 sz55 hv5 rfl rfl) ?_
  refine n_ 26 rfl rfl rfl (fun _ _ => .fieldAddr rfl rfl rfl fl55u_3 rfl) ?_
  refine n_ 27 rfl rfl rfl (fun _ _ => x_load rfl rfl rfl sz46 un46 ag46 rfl) ?_
  refine n_ 28 rfl rfl rfl (fun _ _ => .fieldAddr rfl rfl rfl fl24u_1 rfl) ?_
  refine n_ 29 rfl rfl rfl (fun _ _ => x_load rfl rfl rfl sz3 un3 ag3 rfl) ?_
  obtain ⟨v6, hv6, h⟩ := bindS h
  refine n_ 30 rfl rfl rfl (fun _ _ => x_cut rfl rfl el46 sz58 rfl ⟨_, rfl⟩ hv6 fl_api_Cell) ?_
  refine pm 31 ?_
  refine n_ 32 rfl rfl rfl (fun _ _ => .fieldAddr rfl rfl rfl fl24u_0 rfl) ?_
  refine n_ 33 rfl rfl rfl (fun _ _ => x_load rfl rfl rfl sz3 un3 ag3 rfl) ?_
  obtain ⟨v7, hv7, h⟩ := bindS h
  refine n_ 34 rfl rfl rfl (fun _ _ => x_idx (f := c_api_Line) (cs := [.int .i64 v7.f_Quote, .sl false (List.map c_i64 v7.f_Lists), .int .i64 v7.f_Kind, .sl false (List.map c_api_Cell v7.f_Cells)]) rfl rfl rfl el22 sz55 hv7 rfl rfl) ?_
  refine n_ 35 rfl rfl rfl (fun _ _ => .fieldAddr rfl rfl rfl fl55u_3 rfl) ?_
  refine n_ 36 rfl rfl rfl (fun _ _ => x_load rfl rfl rfl sz46 un46 ag46 rfl) ?_
  refine n_ 37 rfl rfl rfl (fun _ _ => .fieldAddr rfl rfl rfl fl24u_1 rfl) ?_
  refine n_ 38 rfl rfl rfl (fun _ _ => x_load rfl rfl rfl sz3 un3 ag3 rfl) ?_
  obtain ⟨v8, hv8, h⟩ := bindS h
  refine n_ 39 rfl rfl rfl (fun _ _ => x_cut rfl rfl el46 sz58 ⟨_, rfl⟩ (by simp [hiIs]) hv8 fl_api_Cell) ?_
  refine e_ (d := .own 2) 40 rfl rfl rfl rfl rfl (b' := [none, none, some [.int .i64 v4.f_Quote, .sl false (List.map c_i64 v4.f_Lists), .int .i64 v4.f_Kind, .sl false (List.map c_api_Cell v4.f_Cells)]]) (r' := [some ⟨55, 4, []⟩, some ⟨55, 4, List.map c_api_Line v2⟩, some ⟨46, 1, List.map c_Lapi_Cell [v6, v8]⟩]) (x_lit (f := c_Lapi_Cell) (l := [v6, v8]) rfl el115 rw46 zs46 rfl rfl rfl (by decide) (by decide) fl_Lapi_Cell rfl) rfl ?_
  obtain ⟨v9, hv9, h⟩ := bindS h
  refine e_ (d := .own 3) 41 rfl rfl rfl rfl rfl (b' := [none, none, some [.int .i64 v4.f_Quote, .sl false (List.map c_i64 v4.f_Lists), .int .i64 v4.f_Kind, .sl false (List.map c_api_Cell v4.f_Cells)]]) (r' := [some ⟨55, 4, []⟩, some ⟨55, 4, List.map c_api_Line v2⟩, none, some ⟨58, 3, List.map c_api_Cell v9⟩]) (x_call [] [2] rfl rfl en91 (ok_slices_Concat_apiCell hv9) rfl rfl rfl rfl rfl rfl rfl rfl rfl rfl rfl rfl rfl rfl) rfl ?_
  refine r_ 42 2 rfl rfl rfl rfl rfl rfl (fun _ _ hb => .fieldAddr rfl rfl (live_bx hb) fl55u_3 rfl) ?_
  refine e0 rfl rfl rfl rfl rfl (b' := [none, none, some [.int .i64 v4.f_Quote, .sl false (List.map c_i64 v4.f_Lists), .int .i64 v4.f_Kind, .own 3]]) (r' := [some ⟨55, 4, []⟩, some ⟨55, 4, List.map c_api_Line v2⟩, none, some ⟨58, 3, List.map c_api_Cell v9⟩]) (hb := set_out 2 (some [.int .i64 v4.f_Quote, .sl false (List.map c_i64 v4.f_Lists), .int .i64 v4.f_Kind, .own 3]) rfl rfl) (.store rfl rfl rfl sz46 rfl rfl rfl) rfl ?_
  refine we_nil ?_
  refine ex_seq ?_
  refine ex_gst ⟨[.sl false (List.map c_api_Line p0), .agg [.int .i64 p1.f_Line, .int .i64 p1.f_At], .agg [.int .i64 p2.f_Line, .int .i64 p2.f_At], Z, .cp [.int .i64 p1.f_Line, .int .i64 p1.f_At], .cp [.int .i64 p2.f_Line, .int .i64 p2.f_At], .own 0, .int .i64 0, .own 1, .bx 2 0, .sl false (List.map c_api_Line p0), .agg [.int .i64 p1.f_Line, .int .i64 p1.f_At], .agg [.int .i64 p2.f_Line, .int .i64 p2.f_At], .bool v1, .bool (!v1), .sl false (List.map c_api_Line p0), .own 1, .own 1, .cp [.int .i64 p1.f_Line, .int .i64 p1.f_At], .int .i64 p1.f_Line, .ex 1 (Int.toNat p1.f_Line) 0, .agg [.int .i64 v4.f_Quote, .sl false (List.map c_i64 v4.f_Lists), .int .i64 v4.f_Kind, .sl false (List.map c_api_Cell v4.f_Cells)], .sl false (List.map c_api_Line p0), .cp [.int .i64 p1.f_Line, .int .i64 p1.f_At], .int .i64 p1.f_Line, .cp [.int .i64 v5.f_Quote, .sl false (List.map c_i64 v5.f_Lists), .int .i64 v5.f_Kind, .sl false (List.map c_api_Cell v5.f_Cells)], .cp [.sl false (List.map c_api_Cell v5.f_Cells)], .sl false (List.map c_api_Cell v5.f_Cells), .cp [.int .i64 p1.f_At], .int .i64 p1.f_At, .sl false (List.map c_api_Cell v6), .sl false (List.map c_api_Line p0), .cp [.int .i64 p2.f_Line, .int .i64 p2.f_At], .int .i64 p2.f_Line, .cp [.int .i64 v7.f_Quote, .sl false (List.map c_i64 v7.f_Lists), .int .i64 v7.f_Kind, .sl false (List.map c_api_Cell v7.f_Cells)], .cp [.sl false (List.map c_api_Cell v7.f_Cells)], .sl false (List.map c_api_Cell v7.f_Cells), .cp [.int .i64 p2.f_At], .int .i64 p2.f_At, .sl false (List.map c_api_Cell v8), .own 2, .sl false (List.map c_api_Cell v9), .bx 2 3, Z, Z, Z, Z, Z, Z, Z, Z, Z], [none, none, some [.int .i64 v4.f_Quote, .sl false (List.map c_i64 v4.f_Lists), .int .i64 v4.f_Kind, .sl false (List.map c_api_Cell v9)]], [some ⟨55, 4, []⟩, some ⟨55, 4, List.map c_api_Line v2⟩, none, none], 0⟩ (.shutR false (t := 3) rfl (.refl _)) rfl ?_
  refine ex_ord [7, 8] (l := [0, 1, 2, 3, 4, 5, 6, 7, 8, 9, 10]) rfl ?_
  refine pm 43 ?_
  refine pq 44 rfl (.fieldAddr rfl rfl rfl fl24u_0 rfl) ?_
  refine pq 45 rfl (x_load rfl rfl rfl sz3 un3 ag3 rfl) ?_
  refine pq 46 rfl (.fieldAddr rfl rfl rfl fl24u_0 rfl) ?_
  refine pq 47 rfl (x_load rfl rfl rfl sz3 un3 ag3 rfl) ?_
  refine pq 48 rfl (.bin rfl rfl rfl rfl) ?_
  refine pq 49 rfl (x_loadA rfl rfl rfl sz55 un55 ag55 rfl) ?_
  refine e_ (d := .sl false (List.map c_api_Line [(T_api_Line.mk (v4.f_Quote) (v4.f_Lists) (v4.f_Kind) (v9) : T_api_Line)])) 50 rfl rfl rfl rfl rfl (b' := [none, none, some [.int .i64 v4.f_Quote, .sl false (List.map c_i64 v4.f_Lists), .int .i64 v4.f_Kind, .sl false (List.map c_api_Cell v9)]]) (r' := [some ⟨55, 4, []⟩, some ⟨55, 4, List.map c_api_Line v2⟩, none, none, none]) (x_litF (f := c_api_Line) (l := [(T_api_Line.mk (v4.f_Quote) (v4.f_Lists) (v4.f_Kind) (v9) : T_api_Line)]) rfl el22 rw55 zs55 rfl rfl rfl (by decide) (by decide) fl_api_Line rfl) rfl ?_
  obtain ⟨v10, hv10, h⟩ := bindS h
  refine e_ (d := .own 5) 51 rfl rfl rfl rfl rfl (b' := [none, none, some [.int .i64 v4.f_Quote, .sl false (List.map c_i64 v4.f_Lists), .int .i64 v4.f_Kind, .sl false (List.map c_api_Cell v9)]]) (r' := [some ⟨55, 4, []⟩, none, none, none, none, some ⟨55, 4, List.map c_api_Line v10⟩]) (x_call [] [1] rfl rfl en92 (ok_slices_Replace_apiLine hv10) rfl rfl rfl rfl rfl rfl rfl rfl rfl rfl rfl rfl rfl rfl) rfl ?_
  refine pa 6 ?_
  refine pa 7 ?_
  refine we_nil ?_
  refine ex_ret ?_
  obtain rfl := Option.some.inj h
  exact finB (by first | exact .inr rfl | exact .inl rfl) (.refl _) [.own 5, .int .i64 0] [5] [] (res_cons (res_tmp rfl) (res_cons (res_tmp rfl) res_nil)) rfl rfl rfl rfl rfl rfl rfl
theorem ok_doc_Split {r : (List (T_api_Line)) × T_api_Pos × Int} {p0 : List (T_api_Line)} {p1 : T_api_Pos} (h : doc_Split p0 p1 = some r) : OkB prog 56 [.sl false (List.map c_api_Line p0), .agg [.int .i64 p1.f_Line, .int .i64 p1.f_At]] [] [] (.tup [.own 0, .agg [.int .i64 r.2.1.f_Line, .int .i64 r.2.1.f_At], .int .i64 r.2.2]) [] [⟨55, 4, List.map c_api_Line r.1⟩] := by
 unfold doc_Split at h
 refine okB_of_exG func56 rfl rfl (s0 := [.sl false (List.map c_api_Line p0), .agg [.int .i64 p1.f_Line, .int .i64 p1.f_At], Z, Z, Z, Z, Z, Z, Z, Z, Z, Z, Z, Z, Z, Z, Z, Z, Z, Z, Z, Z, Z, Z, Z, Z, Z, Z, Z, Z, Z, Z, Z, Z, Z, Z, Z, Z, Z, Z, Z, Z, Z, Z, Z, Z, Z, Z, Z]) (b0 := []) (r0 := []) rfl rfl rfl ?_
 show Ex _ _ _ ⟨[.sl false (List.map c_api_Line p0), .agg [.int .i64 p1.f_Line, .int .i64 p1.f_At], Z, Z, Z, Z, Z, Z, Z, Z, Z, Z, Z, Z, Z, Z, Z, Z, Z, Z, Z, Z, Z, Z, Z, Z, Z, Z, Z, Z, Z, Z, Z, Z, Z, Z, Z, Z, Z, Z, Z, Z, Z, Z, Z, Z, Z, Z, Z], [], [], 0⟩ _
 refine ex_seq ?_
 refine ex_ord [0, 1, 2] (l := [0, 1, 2, 3]) rfl ?_
 refine e_ (d := .bx 0 0) 3 rfl rfl rfl rfl rfl (b' := [some [.int .i64 p1.f_Line, .int .i64 p1.f_At]]) (r' := []) (.box rfl rfl rfl) rfl ?_
 refine e_ (d := .own 0) 4 rfl rfl rfl rfl rfl (b' := [some [.int .i64 p1.f_Line, .int .i64 p1.f_At]]) (r' := [some ⟨55, 4, []⟩]) (.nilRow (.inr rfl) rfl 55 4) rfl ?_
 refine e_ (d := .bx 1 0) 5 rfl rfl rfl rfl rfl (b' := [some [.int .i64 p1.f_Line, .int .i64 p1.f_At], some [.int .i64 0, .int .i64 0]]) (r' := [some ⟨55, 4, []⟩]) (.alloc rfl ze24) rfl ?_
 refine pa 6 ?_
 refine we_nil ?_
 refine ex_seq ?_
 refine ex_block ?_
 refine ex_seq ?_
 refine ex_gst ⟨[.sl false (List.map c_api_Line p0), .agg [.int .i64 p1.f_Line, .int .i64 p1.f_At], Z, .cp [.int .i64 p1.f_Line, .int .i64 p1.f_At], .own 0, .bx 1 0, .int .i64 0, Z, Z, Z, Z, Z, Z, Z, Z, Z, Z, Z, Z, Z, Z, Z, Z, Z, Z, Z, Z, Z, Z, Z, Z, Z, Z, Z, Z, Z, Z, Z, Z, Z, Z, Z, Z, Z, Z, Z, Z, Z, Z], [none, some [.int .i64 0, .int .i64 0]], [some ⟨55, 4, []⟩], 0⟩ (.shutB (b := 0) rfl (fun d h => by simpa using List.all_eq_true.1 (rfl : List.all [.int .i64 p1.f_Line, .int .i64 p1.f_At] (fun d => !d.tok) = true) d h) (.refl _)) rfl ?_
 refine ex_ord [] (l := [0, 1, 2, 3, 4, 5]) rfl ?_
 refine pm 11 ?_
 refine pq 12 rfl (x_loadA rfl rfl rfl sz24 un24 ag24 rfl) ?_
 refine pq 13 rfl (x_loadA rfl rfl rfl sz24 un24 ag24 rfl) ?_
 obtain ⟨v1, hv1, h⟩ := bindS h
 refine pq 14 rfl (x_callP rfl rfl en90 (ok_doc_span hv1) rfl rfl rfl rfl rfl) ?_
 refine pq 15 rfl (.un rfl rfl rfl) ?_
 refine pa 10 ?_
 refine we_nil ?_
 refine ex_if rfl ?_ ?_
 ·intro hc
  replace h := iteT h hc
  refine ex_seq ?_
  refine ex_ord [1, 2] (l := [0, 1, 2, 3]) rfl ?_
  refine pq 16 rfl (x_build rfl pl24 ze24 rfl rfl rfl rfl) ?_
  refine e_ (d := .own 1) 4 rfl rfl rfl rfl rfl (b' := [none, some [.int .i64 0, .int .i64 0]]) (r' := [some ⟨55, 4, []⟩, some ⟨55, 4, []⟩]) (.nilRow (.inr rfl) rfl 55 4) rfl ?_
  refine e0 rfl rfl rfl rfl rfl (b' := [none, some [.int .i64 0, .int .i64 0]]) (r' := [some ⟨55, 4, []⟩, some ⟨55, 4, []⟩]) (.store rfl rfl rfl sz24 rfl rfl rfl) rfl ?_
  refine pa 6 ?_
  refine we_nil ?_
  refine ex_ret ?_
  obtain rfl := Option.some.inj h
  exact finB (by first | exact .inr rfl | exact .inl rfl) (.refl _) [.own 1, .agg [.int .i64 0, .int .i64 0], .int .i64 1] [1] [] (res_cons (res_tmp rfl) (res_cons (res_cell rfl rfl sz24 un24 ag24 rfl) (res_cons (res_tmp rfl) res_nil))) rfl rfl rfl rfl rfl rfl rfl
 ·intro hc
  replace h := iteF h hc
  refine ex_seq ?_
  refine ex_ord [] (l := [0, 1, 2, 3]) rfl ?_
  refine pm 18 ?_
  refine pq 19 rfl (x_len (f := c_api_Line) (l := p0) rfl rfl rfl el22) ?_
  refine pq 20 rfl (.bin rfl rfl rfl rfl) ?_
  refine pa 17 ?_
  refine we_nil ?_
  refine ex_if rfl ?_ ?_
  ·intro hc
   replace h := iteT h hc
   refine ex_seq ?_
   refine ex_ord [1, 2] (l := [0, 1, 2, 3]) rfl ?_
   refine pq 21 rfl (x_build rfl pl24 ze24 rfl rfl rfl rfl) ?_
   refine e_ (d := .own 1) 4 rfl rfl rfl rfl rfl (b' := [none, some [.int .i64 0, .int .i64 0]]) (r' := [some ⟨55, 4, []⟩, some ⟨55, 4, []⟩]) (.nilRow (.inr rfl) rfl 55 4) rfl ?_
   refine e0 rfl rfl rfl rfl rfl (b' := [none, some [.int .i64 0, .int .i64 0]]) (r' := [some ⟨55, 4, []⟩, some ⟨55, 4, []⟩]) (.store rfl rfl rfl sz24 rfl rfl rfl) rfl ?_
   refine pa 6 ?_
   refine we_nil ?_
   refine ex_ret ?_
   obtain rfl := Option.some.inj h
   exact finB (by first | exact .inr rfl | exact .inl rfl) (.refl _) [.own 1, .agg [.int .i64 0, .int .i64 0], .int .i64 10] [1] [] (res_cons (res_tmp rfl) (res_cons (res_cell rfl rfl sz24 un24 ag24 rfl) (res_cons (res_tmp rfl) res_nil))) rfl rfl rfl rfl rfl rfl rfl
  ·intro hc
   replace h := iteF h hc
   refine ex_skip ?_
   refine ex_seq ?_
   obtain ⟨⟨q2, q3, q4, q5, q6, q7, q8, q9⟩, hq, h⟩ := bindS h
   refine ex_cut ⟨[.sl false (List.map c_api_Line p0), Z, Z, .cp [.int .i64 p1.f_Line, .int .i64 p1.f_At], Z, .bx 0 0, Z, .bx 1 0, .bx 2 0, Z, Z, Z, Z, Z, Z, Z, Z, Z, Z, Z, Z, Z, Z, Z, Z, Z, Z, Z, Z, Z, Z, Z, Z, Z, Z, Z, Z, Z, Z, Z, Z, Z, Z, Z, Z, Z, Z, Z, Z], [some [.int .i64 0, .int .i64 0], some [.int .i64 q2, .sl false (List.map c_i64 q3), .int .i64 q4, .sl false (List.map c_api_Cell q5)], some [.int .i64 q6, .sl false (List.map c_i64 q7), .int .i64 q8, .sl false (List.map c_api_Cell q9)]], [], 0⟩ ?_ ?_
   ·clear h
    have h := hq
    clear hq
    refine ex_sh mo [12, 13, 14, 15, 1001, 1002, 1003, 1004, 1005, 1006, 1007] (.pre [0, 1, 2, 3, 4, 5, 6, 7, 8, 9, 10, 11] (.fork 12 13 (.pre [13, 14, 15, 16] .nil) (.pre [12, 14, 15, 16] .nil))) (by kernel_rfl) ?_
    refine sh_pre ?_
    refine pm 23 ?_
    refine n_ 24 rfl rfl rfl (fun _ _ => .fieldAddr rfl rfl rfl fl24u_0 rfl) ?_
    refine n_ 25 rfl rfl rfl (fun _ _ => x_load rfl rfl rfl sz3 un3 ag3 rfl) ?_
    obtain ⟨v10, hv10, h⟩ := bindS h
    refine n_ 26 rfl rfl rfl (fun _ _ => x_idx (f := c_api_Line) (cs := [.int .i64 v10.f_Quote, .sl false (List.map c_i64 v10.f_Lists), .int .i64 v10.f_Kind, .sl false (List.map c_api_Cell v10.f_Cells)]) rfl rfl rfl el22 sz55 hv10 rfl rfl) ?_
    refine n_ 27 rfl rfl rfl (fun _ _ => x_loadA rfl rfl rfl sz55 un55 ag55 rfl) ?_
    refine n_ 28 rfl rfl rfl (fun _ _ => .fieldAddr rfl rfl rfl fl24u_1 rfl) ?_
    refine n_ 29 rfl rfl rfl (fun _ _ => x_load rfl rfl rfl sz3 un3 ag3 rfl) ?_
    obtain ⟨v11, hv11, h⟩ := bindS h
    refine n_ 30 rfl rfl rfl (fun _ _ => x_callP rfl rfl en99 (ok_lines_Split hv11) rfl rfl rfl rfl rfl) ?_
    refine pm 22 ?_
    refine pq 31 rfl (.extract rfl rfl rfl rfl) ?_
    refine pq 32 rfl (.extract rfl rfl rfl rfl) ?_
    refine pq 33 rfl (.extract rfl rfl rfl rfl) ?_
    refine we_nil ?_
    refine sh_forkT ?_ ?_
    ·refine e_ (d := .bx 2 0) 7 rfl rfl rfl rfl rfl (b' := [none, some [.int .i64 0, .int .i64 0], some [.int .i64 0, .sl false [], .int .i64 0, .sl false []]]) (r' := [some ⟨55, 4, []⟩]) (.alloc rfl ze55) rfl ?_
     refine we_nil ?_
     refine sh_pre ?_
     refine e_ (d := .bx 3 0) 8 rfl rfl rfl rfl rfl (b' := [none, some [.int .i64 0, .int .i64 0], some [.int .i64 0, .sl false [], .int .i64 0, .sl false []], some [.int .i64 0, .sl false [], .int .i64 0, .sl false []]]) (r' := [some ⟨55, 4, []⟩]) (.alloc rfl ze55) rfl ?_
     refine e0 rfl rfl rfl rfl rfl (b' := [none, some [.int .i64 0, .int .i64 0], some [.int .i64 v11.1.f_Quote, .sl false (List.map c_i64 v11.1.f_Lists), .int .i64 v11.1.f_Kind, .sl false (List.map c_api_Cell v11.1.f_Cells)], some [.int .i64 0, .sl false [], .int .i64 0, .sl false []]]) (r' := [some ⟨55, 4, []⟩]) (.store rfl rfl rfl sz55 rfl rfl rfl) rfl ?_
     refine e0 rfl rfl rfl rfl rfl (b' := [none, some [.int .i64 0, .int .i64 0], some [.int .i64 v11.1.f_Quote, .sl false (List.map c_i64 v11.1.f_Lists), .int .i64 v11.1.f_Kind, .sl false (List.map c_api_Cell v11.1.f_Cells)], some [.int .i64 v11.2.1.f_Quote, .sl false (List.map c_i64 v11.2.1.f_Lists), .int .i64 v11.2.1.f_Kind, .sl false (List.map c_api_Cell v11.2.1.f_Cells)]]) (r' := [some ⟨55, 4, []⟩]) (.store rfl rfl rfl sz55 rfl rfl rfl) rfl ?_
     refine pa 9 ?_
     refine we_nil ?_
     cases h
     exact ⟨rfl, _, .re (rl [0, 1, 2, 1, 1, 1, 1, 2, 40]) [1, 2, 3] [] rfl (.refl _), rfl⟩
    ·refine e_ (d := .bx 2 0) 8 rfl rfl rfl rfl rfl (b' := [none, some [.int .i64 0, .int .i64 0], some [.int .i64 0, .sl false [], .int .i64 0, .sl false []]]) (r' := [some ⟨55, 4, []⟩]) (.alloc rfl ze55) rfl ?_
     refine we_nil ?_
     refine sh_pre ?_
     refine e_ (d := .bx 3 0) 7 rfl rfl rfl rfl rfl (b' := [none, some [.int .i64 0, .int .i64 0], some [.int .i64 0, .sl false [], .int .i64 0, .sl false []], some [.int .i64 0, .sl false [], .int .i64 0, .sl false []]]) (r' := [some ⟨55, 4, []⟩]) (.alloc rfl ze55) rfl ?_
     refine e0 rfl rfl rfl rfl rfl (b' := [none, some [.int .i64 0, .int .i64 0], some [.int .i64 0, .sl false [], .int .i64 0, .sl false []], some [.int .i64 v11.1.f_Quote, .sl false (List.map c_i64 v11.1.f_Lists), .int .i64 v11.1.f_Kind, .sl false (List.map c_api_Cell v11.1.f_Cells)]]) (r' := [some ⟨55, 4, []⟩]) (.store rfl rfl rfl sz55 rfl rfl rfl) rfl ?_
     refine e0 rfl rfl rfl rfl rfl (b' := [none, some [.int .i64 0, .int .i64 0], some [.int .i64 v11.2.1.f_Quote, .sl false (List.map c_i64 v11.2.1.f_Lists), .int .i64 v11.2.1.f_Kind, .sl false (List.map c_api_Cell v11.2.1.f_Cells)], some [.int .i64 v11.1.f_Quote, .sl false (List.map c_i64 v11.1.f_Lists), .int .i64 v11.1.f_Kind, .sl false (List.map c_api_Cell v11.1.f_Cells)]]) (r' := [some ⟨55, 4, []⟩]) (.store rfl rfl rfl sz55 rfl rfl rfl) rfl ?_
     refine pa 9 ?_
     refine we_nil ?_
     cases h
     exact ⟨rfl, _, .re (rl [0, 1, 2, 1, 1, 1, 1, 2, 40]) [1, 3, 2] [] rfl (.refl _), rfl⟩
   ·clear hq
    refine ex_seq ?_
    refine ex_gst ⟨[.sl false (List.map c_api_Line p0), Z, Z, .cp [.int .i64 p1.f_Line, .int .i64 p1.f_At], Z, .bx 0 0, Z, .cp [.int .i64 q2, .sl false (List.map c_i64 q3), .int .i64 q4, .sl false (List.map c_api_Cell q5)], .bx 2 0, Z, Z, Z, Z, Z, Z, Z, Z, Z, Z, Z, Z, Z, Z, Z, Z, Z, Z, Z, Z, Z, Z, Z, Z, Z, Z, Z, Z, Z, Z, Z, Z, Z, Z, Z, Z, Z, Z, Z, Z], [some [.int .i64 0, .int .i64 0], none, some [.int .i64 q6, .sl false (List.map c_i64 q7), .int .i64 q8, .sl false (List.map c_api_Cell q9)]], [], 0⟩ (.shutB (b := 1) rfl (fun d h => by simpa using List.all_eq_true.1 (rfl : List.all [.int .i64 q2, .sl false (List.map c_i64 q3), .int .i64 q4, .sl false (List.map c_api_Cell q5)] (fun d => !d.tok) = true) d h) (.refl _)) rfl ?_
    refine ex_gst ⟨[.sl false (List.map c_api_Line p0), Z, Z, .cp [.int .i64 p1.f_Line, .int .i64 p1.f_At], Z, .bx 0 0, Z, .cp [.int .i64 q2, .sl false (List.map c_i64 q3), .int .i64 q4, .sl false (List.map c_api_Cell q5)], .cp [.int .i64 q6, .sl false (List.map c_i64 q7), .int .i64 q8, .sl false (List.map c_api_Cell q9)], Z, Z, Z, Z, Z, Z, Z, Z, Z, Z, Z, Z, Z, Z, Z, Z, Z, Z, Z, Z, Z, Z, Z, Z, Z, Z, Z, Z, Z, Z, Z, Z, Z, Z, Z, Z, Z, Z, Z, Z], [some [.int .i64 0, .int .i64 0], none, none], [], 0⟩ (.shutB (b := 2) rfl (fun d h => by simpa using List.all_eq_true.1 (rfl : List.all [.int .i64 q6, .sl false (List.map c_i64 q7), .int .i64 q8, .sl false (List.map c_api_Cell q9)] (fun d => !d.tok) = true) d h) (.refl _)) rfl ?_
    obtain ⟨q12, hq, h⟩ := bindS h
    refine ex_cut ⟨[Z, Z, Z, Z, .own 0, .bx 0 0, .int .i64 0, Z, Z, Z, Z, Z, Z, Z, Z, Z, Z, Z, Z, Z, Z, Z, Z, Z, Z, Z, Z, Z, Z, Z, Z, Z, Z, Z, Z, Z, Z, Z, Z, Z, Z, Z, Z, Z, Z, Z, Z, Z, Z], [some [.int .i64 (IntKind.wrap .i64 (p1.f_Line + 1)), .int .i64 0]], [some ⟨55, 4, List.map c_api_Line q12⟩], 0⟩ ?_ ?_
    ·clear h
     have h := hq
     clear hq
     refine ex_sh mo [1, 9, 10, 16, 1002, 1003, 1004, 1005, 1007, 1008, 1011, 1012, 1014, 3001, 3009, 3010, 3016, 1700000] (.pre [0, 2, 3, 4, 5, 6, 7, 8, 11, 12, 13, 14] (.fork 1 9 (.pre [9, 10, 15, 16, 17] .nil) (.pre [1, 10, 15, 16, 17] .nil))) (by kernel_rfl) ?_
     refine sh_pre ?_
     refine pm 34 ?_
     refine n_ 36 rfl rfl rfl (fun _ _ => .fieldAddr rfl rfl rfl fl24u_0 rfl) ?_
     refine n_ 37 rfl rfl rfl (fun _ _ => x_load rfl rfl rfl sz3 un3 ag3 rfl) ?_
     refine n_ 38 rfl rfl rfl (fun _ _ => .fieldAddr rfl rfl rfl fl24u_0 rfl) ?_
     refine n_ 39 rfl rfl rfl (fun _ _ => x_load rfl rfl rfl sz3 un3 ag3 rfl) ?_
     refine pq 40 rfl (.bin rfl rfl rfl rfl) ?_
     refine n_ 41 rfl rfl rfl (fun _ _ => x_loadA rfl rfl rfl sz55 un55 ag55 rfl) ?_
     refine n_ 42 rfl rfl rfl (fun _ _ => x_loadA rfl rfl rfl sz55 un55 ag55 rfl) ?_
     refine n_ 45 rfl rfl rfl (fun _ _ => .fieldAddr rfl rfl rfl fl24u_0 rfl) ?_
     refine n_ 46 rfl rfl rfl (fun _ _ => x_load rfl rfl rfl sz3 un3 ag3 rfl) ?_
     refine pq 47 rfl (.bin rfl rfl rfl rfl) ?_
     refine n_ 48 rfl rfl rfl (fun _ _ => x_build rfl pl24 ze24 rfl rfl rfl rfl) ?_
     refine we_nil ?_
     refine sh_forkT ?_ ?_
     ·obtain ⟨v13, hv13, h⟩ := bindS h
      refine e_ (d := .own 0) 35 rfl rfl rfl rfl rfl (b' := [some [.int .i64 0, .int .i64 0], none, none]) (r' := [some ⟨55, 4, List.map c_api_Line v13⟩]) (x_call [] [] rfl rfl en32 (ok_doc_Own hv13) rfl rfl rfl rfl rfl rfl rfl rfl rfl rfl rfl rfl rfl rfl) rfl ?_
      refine we_nil ?_
      refine sh_pre ?_
      refine e_ (d := .sl false (List.map c_api_Line [(T_api_Line.mk (q2) (q3) (q4) (q5) : T_api_Line), (T_api_Line.mk (q6) (q7) (q8) (q9) : T_api_Line)])) 43 rfl rfl rfl rfl rfl (b' := [some [.int .i64 0, .int .i64 0], none, none]) (r' := [some ⟨55, 4, List.map c_api_Line v13⟩, none]) (x_litF (f := c_api_Line) (l := [(T_api_Line.mk (q2) (q3) (q4) (q5) : T_api_Line), (T_api_Line.mk (q6) (q7) (q8) (q9) : T_api_Line)]) rfl el22 rw55 zs55 rfl rfl rfl (by decide) (by decide) fl_api_Line rfl) rfl ?_
      obtain ⟨v14, hv14, h⟩ := bindS h
      refine e_ (d := .own 2) 44 rfl rfl rfl rfl rfl (b' := [some [.int .i64 0, .int .i64 0], none, none]) (r' := [none, none, some ⟨55, 4, List.map c_api_Line v14⟩]) (x_call [] [0] rfl rfl en92 (ok_slices_Replace_apiLine hv14) rfl rfl rfl rfl rfl rfl rfl rfl rfl rfl rfl rfl rfl rfl) rfl ?_
      refine pa 4 ?_
      refine e0 rfl rfl rfl rfl rfl (b' := [some [.int .i64 (IntKind.wrap .i64 (p1.f_Line + 1)), .int .i64 0], none, none]) (r' := [none, none, some ⟨55, 4, List.map c_api_Line v14⟩]) (hb := set_out 0 (some [.int .i64 (IntKind.wrap .i64 (p1.f_Line + 1)), .int .i64 0]) rfl rfl) (.store rfl rfl rfl sz24 rfl rfl rfl) rfl ?_
      refine pa 6 ?_
      refine we_nil ?_
      cases h
      exact ⟨rfl, _, .re (rl [4, 3, 42]) [0] [2] rfl (.refl _), rfl⟩
     ·obtain ⟨v13, hv13, h⟩ := bindS h
      refine e_ (d := .sl false (List.map c_api_Line [(T_api_Line.mk (q2) (q3) (q4) (q5) : T_api_Line), (T_api_Line.mk (q6) (q7) (q8) (q9) : T_api_Line)])) 43 rfl rfl rfl rfl rfl (b' := [some [.int .i64 0, .int .i64 0], none, none]) (r' := [none]) (x_litF (f := c_api_Line) (l := [(T_api_Line.mk (q2) (q3) (q4) (q5) : T_api_Line), (T_api_Line.mk (q6) (q7) (q8) (q9) : T_api_Line)]) rfl el22 rw55 zs55 rfl rfl rfl (by decide) (by decide) fl_api_Line rfl) rfl ?_
      refine we_nil ?_
      refine sh_pre ?_
      refine e_ (d := .own 1) 35 rfl rfl rfl rfl rfl (b' := [some [.int .i64 0, .int .i64 0], none, none]) (r' := [none, some ⟨55, 4, List.map c_api_Line v13⟩]) (x_call [] [] rfl rfl en32 (ok_doc_Own hv13) rfl rfl rfl rfl rfl rfl rfl rfl rfl rfl rfl rfl rfl rfl) rfl ?_
      obtain ⟨v14, hv14, h⟩ := bindS h
      refine e_ (d := .own 2) 44 rfl rfl rfl rfl rfl (b' := [some [.int .i64 0, .int .i64 0], none, none]) (r' := [none, none, some ⟨55, 4, List.map c_api_Line v14⟩]) (x_call [] [1] rfl rfl en92 (ok_slices_Replace_apiLine hv14) rfl rfl rfl rfl rfl rfl rfl rfl rfl rfl rfl rfl rfl rfl) rfl ?_
      refine pa 4 ?_
      refine e0 rfl rfl rfl rfl rfl (b' := [some [.int .i64 (IntKind.wrap .i64 (p1.f_Line + 1)), .int .i64 0], none, none]) (r' := [none, none, some ⟨55, 4, List.map c_api_Line v14⟩]) (hb := set_out 0 (some [.int .i64 (IntKind.wrap .i64 (p1.f_Line + 1)), .int .i64 0]) rfl rfl) (.store rfl rfl rfl sz24 rfl rfl rfl) rfl ?_
      refine pa 6 ?_
      refine we_nil ?_
      cases h
      exact ⟨rfl, _, .re (rl [4, 3, 42]) [0] [2] rfl (.refl _), rfl⟩
    ·clear hq
     refine ex_ret ?_
     obtain rfl := Option.some.inj h
     exact finB (by first | exact .inr rfl | exact .inl rfl) (.refl _) [.own 0, .agg [.int .i64 (IntKind.wrap .i64 (p1.f_Line + 1)), .int .i64 0], .int .i64 0] [0] [] (res_cons (res_tmp rfl) (res_cons (res_cell rfl rfl sz24 un24 ag24 rfl) (res_cons (res_tmp rfl) res_nil))) rfl rfl rfl rfl rfl rfl rfl
theorem ok_doc_tells {r : Int × Int} {p0 : List (T_api_Line)} {p1 : T_api_Pos} {p2 : T_api_Pos} {p3 : T_api_Cell → Option (Bool)} {g3 : FuncId} {cs3 : List DV} (hc3 : Cl prog g3 cs3) (hf3 : ∀ x0 r, p3 x0 = some r → OkB prog g3 ([.agg [.int .i32 x0.f_R, .int .i64 x0.f_Bits, .str (bs x0.f_Href)]] ++ cs3) [] [] (.bool r) [] []) (h : doc_tells p0 p1 p2 p3 = some r) : OkB prog 81 [.sl false (List.map c_api_Line p0), .agg [.int .i64 p1.f_Line, .int .i64 p1.f_At], .agg [.int .i64 p2.f_Line, .int .i64 p2.f_At], .fn g3 cs3] [] [] (.tup [.int .i64 r.1, .int .i64 r.2]) [] [] := by
 unfold doc_tells at h
 refine okB_of_exG func81 rfl rfl (s0 := [.sl false (List.map c_api_Line p0), .agg [.int .i64 p1.f_Line, .int .i64 p1.f_At], .agg [.int .i64 p2.f_Line, .int .i64 p2.f_At], .fn g3 cs3, Z, Z, Z, Z, Z, Z, Z, Z, Z, Z, Z, Z, Z, Z, Z, Z, Z, Z, Z, Z, Z, Z, Z, Z, Z, Z, Z, Z, Z, Z, Z, Z, Z, Z, Z, Z, Z, Z, Z, Z, Z, Z, Z, Z, Z, Z]) (b0 := []) (r0 := []) rfl rfl rfl ?_
 show Ex _ _ _ ⟨[.sl false (List.map c_api_Line p0), .agg [.int .i64 p1.f_Line, .int .i64 p1.f_At], .agg [.int .i64 p2.f_Line, .int .i64 p2.f_At], .fn g3 cs3, Z, Z, Z, Z, Z, Z, Z, Z, Z, Z, Z, Z, Z, Z, Z, Z, Z, Z, Z, Z, Z, Z, Z, Z, Z, Z, Z, Z, Z, Z, Z, Z, Z, Z, Z, Z, Z, Z, Z, Z, Z, Z, Z, Z, Z, Z], [], [], 0⟩ _
 refine ex_seq ?_
 refine ex_ord [0, 1, 2, 3, 4, 5] (l := [0, 1, 2, 3, 4, 5]) rfl ?_
 refine e_ (d := .bx 0 0) 4 rfl rfl rfl rfl rfl (b' := [some [.sl false (List.map c_api_Line p0)]]) (r' := []) (.box rfl rfl rfl) rfl ?_
 refine e_ (d := .bx 1 0) 5 rfl rfl rfl rfl rfl (b' := [some [.sl false (List.map c_api_Line p0)], some [.int .i64 p1.f_Line, .int .i64 p1.f_At]]) (r' := []) (.box rfl rfl rfl) rfl ?_
 refine e_ (d := .bx 2 0) 6 rfl rfl rfl rfl rfl (b' := [some [.sl false (List.map c_api_Line p0)], some [.int .i64 p1.f_Line, .int .i64 p1.f_At], some [.int .i64 p2.f_Line, .int .i64 p2.f_At]]) (r' := []) (.box rfl rfl rfl) rfl ?_
 refine e_ (d := .bx 3 0) 7 rfl rfl rfl rfl rfl (b' := [some [.sl false (List.map c_api_Line p0)], some [.int .i64 p1.f_Line, .int .i64 p1.f_At], some [.int .i64 p2.f_Line, .int .i64 p2.f_At], some [.fn g3 cs3]]) (r' := []) (.box rfl rfl rfl) rfl ?_
 refine e_ (d := .bx 4 0) 8 rfl rfl rfl rfl rfl (b' := [some [.sl false (List.map c_api_Line p0)], some [.int .i64 p1.f_Line, .int .i64 p1.f_At], some [.int .i64 p2.f_Line, .int .i64 p2.f_At], some [.fn g3 cs3], some [.int .i64 0]]) (r' := []) (.alloc rfl ze3) rfl ?_
 refine e_ (d := .bx 5 0) 9 rfl rfl rfl rfl rfl (b' := [some [.sl false (List.map c_api_Line p0)], some [.int .i64 p1.f_Line, .int .i64 p1.f_At], some [.int .i64 p2.f_Line, .int .i64 p2.f_At], some [.fn g3 cs3], some [.int .i64 0], some [.int .i64 0]]) (r' := []) (.alloc rfl ze3) rfl ?_
 refine we_nil ?_
 refine ex_seq ?_
 refine ex_seq ?_
 refine ex_gst ⟨[.sl false (List.map c_api_Line p0), .agg [.int .i64 p1.f_Line, .int .i64 p1.f_At], .agg [.int .i64 p2.f_Line, .int .i64 p2.f_At], .fn g3 cs3, .cp [.sl false (List.map c_api_Line p0)], .bx 1 0, .bx 2 0, .bx 3 0, .bx 4 0, .bx 5 0, Z, Z, Z, Z, Z, Z, Z, Z, Z, Z, Z, Z, Z, Z, Z, Z, Z, Z, Z, Z, Z, Z, Z, Z, Z, Z, Z, Z, Z, Z, Z, Z, Z, Z, Z, Z, Z, Z, Z, Z], [none, some [.int .i64 p1.f_Line, .int .i64 p1.f_At], some [.int .i64 p2.f_Line, .int .i64 p2.f_At], some [.fn g3 cs3], some [.int .i64 0], some [.int .i64 0]], [], 0⟩ (.shutB (b := 0) rfl (fun d h => by simpa using List.all_eq_true.1 (rfl : List.all [.sl false (List.map c_api_Line p0)] (fun d => !d.tok) = true) d h) (.refl _)) rfl ?_
 refine ex_gst ⟨[.sl false (List.map c_api_Line p0), .agg [.int .i64 p1.f_Line, .int .i64 p1.f_At], .agg [.int .i64 p2.f_Line, .int .i64 p2.f_At], .fn g3 cs3, .cp [.sl false (List.map c_api_Line p0)], .cp [.int .i64 p1.f_Line, .int .i64 p1.f_At], .bx 2 0, .bx 3 0, .bx 4 0, .bx 5 0, Z, Z, Z, Z, Z, Z, Z, Z, Z, Z, Z, Z, Z, Z, Z, Z, Z, Z, Z, Z, Z, Z, Z, Z, Z, Z, Z, Z, Z, Z, Z, Z, Z, Z, Z, Z, Z, Z, Z, Z], [none, none, some [.int .i64 p2.f_Line, .int .i64 p2.f_At], some [.fn g3 cs3], some [.int .i64 0], some [.int .i64 0]], [], 0⟩ (.shutB (b := 1) rfl (fun d h => by simpa using List.all_eq_true.1 (rfl : List.all [.int .i64 p1.f_Line, .int .i64 p1.f_At] (fun d => !d.tok) = true) d h) (.refl _)) rfl ?_
 refine ex_gst ⟨[.sl false (List.map c_api_Line p0), .agg [.int .i64 p1.f_Line, .int .i64 p1.f_At], .agg [.int .i64 p2.f_Line, .int .i64 p2.f_At], .fn g3 cs3, .cp [.sl false (List.map c_api_Line p0)], .cp [.int .i64 p1.f_Line, .int .i64 p1.f_At], .cp [.int .i64 p2.f_Line, .int .i64 p2.f_At], .bx 3 0, .bx 4 0, .bx 5 0, Z, Z, Z, Z, Z, Z, Z, Z, Z, Z, Z, Z, Z, Z, Z, Z, Z, Z, Z, Z, Z, Z, Z, Z, Z, Z, Z, Z, Z, Z, Z, Z, Z, Z, Z, Z, Z, Z, Z, Z], [none, none, none, some [.fn g3 cs3], some [.int .i64 0], some [.int .i64 0]], [], 0⟩ (.shutB (b := 2) rfl (fun d h => by simpa using List.all_eq_true.1 (rfl : List.all [.int .i64 p2.f_Line, .int .i64 p2.f_At] (fun d => !d.tok) = true) d h) (.refl _)) rfl ?_
 refine ex_gst ⟨[.sl false (List.map c_api_Line p0), .agg [.int .i64 p1.f_Line, .int .i64 p1.f_At], .agg [.int .i64 p2.f_Line, .int .i64 p2.f_At], .fn g3 cs3, .cp [.sl false (List.map c_api_Line p0)], .cp [.int .i64 p1.f_Line, .int .i64 p1.f_At], .cp [.int .i64 p2.f_Line, .int .i64 p2.f_At], .cp [.fn g3 cs3], .bx 4 0, .bx 5 0, Z, Z, Z, Z, Z, Z, Z, Z, Z, Z, Z, Z, Z, Z, Z, Z, Z, Z, Z, Z, Z, Z, Z, Z, Z, Z, Z, Z, Z, Z, Z, Z, Z, Z, Z, Z, Z, Z, Z, Z], [none, none, none, none, some [.int .i64 0], some [.int .i64 0]], [], 0⟩ (.shutB (b := 3) rfl (fun d h => by simpa using List.all_eq_true.1 (rfl : List.all [.fn g3 cs3] (fun d => !d.tok) = true) d h) (.refl _)) rfl ?_
 refine ex_ord [] (l := [0, 1, 2, 3, 4]) rfl ?_
 refine pq 14 rfl (x_load rfl rfl rfl sz22 un22 ag22 rfl) ?_
 refine pq 15 rfl (x_loadA rfl rfl rfl sz24 un24 ag24 rfl) ?_
 refine pq 16 rfl (x_loadA rfl rfl rfl sz24 un24 ag24 rfl) ?_
 obtain ⟨v1, hv1, h⟩ := bindS h
 refine pq 17 rfl (x_callP rfl rfl en90 (ok_doc_span hv1) rfl rfl rfl rfl rfl) ?_
 refine pq 18 rfl (.un rfl rfl rfl) ?_
 refine we_nil ?_
 refine ex_if rfl ?_ ?_
 ·intro hc
  replace h := iteT h hc
  refine ex_seq ?_
  refine ex_ord [0, 1] (l := [0, 1]) rfl ?_
  refine e0 rfl rfl rfl rfl rfl (b' := [none, none, none, none, some [.int .i64 0], some [.int .i64 0]]) (r' := []) (.store rfl rfl rfl sz3 rfl rfl rfl) rfl ?_
  refine e0 rfl rfl rfl rfl rfl (b' := [none, none, none, none, some [.int .i64 0], some [.int .i64 0]]) (r' := []) (.store rfl rfl rfl sz3 rfl rfl rfl) rfl ?_
  refine we_nil ?_
  refine ex_ret ?_
  obtain rfl := Option.some.inj h
  exact finB (by first | exact .inr rfl | exact .inl rfl) (.refl _) [.int .i64 0, .int .i64 0] [] [] (res_cons (res_cell rfl rfl sz3 un3 ag3 rfl) (res_cons (res_cell rfl rfl sz3 un3 ag3 rfl) res_nil)) rfl rfl rfl rfl rfl rfl rfl
 ·intro hc
  replace h := iteF h hc
  refine ex_skip ?_
  refine ex_seq ?_
  refine ex_seq ?_
  refine ex_ord [] (l := [0, 1, 2, 3]) rfl ?_
  refine pq 19 rfl (x_load rfl rfl rfl sz22 un22 ag22 rfl) ?_
  refine pq 20 rfl (x_loadA rfl rfl rfl sz24 un24 ag24 rfl) ?_
  refine pq 21 rfl (x_loadA rfl rfl rfl sz24 un24 ag24 rfl) ?_
  obtain ⟨v2, hv2, h⟩ := bindS h
  refine pq 22 rfl (x_callP rfl rfl en93 (ok_doc_between hv2) rfl rfl rfl rfl rfl) ?_
  refine we_nil ?_
  refine ex_block ?_
  obtain ⟨b3, hxs, h⟩ := bindS h
  obtain ⟨o18, hl, h⟩ := bindS h
  refine ex_gst ⟨[Z, Z, Z, Z, .cp [.sl false (List.map c_api_Line p0)], Z, Z, .cp [.fn g3 cs3], .bx 0 0, .bx 1 0, Z, Z, Z, Z, Z, Z, Z, Z, Z, Z, Z, Z, .fn 125 [.cp [.int .i64 v2.1.f_Line, .int .i64 v2.1.f_At], .cp [.int .i64 v2.2.1.f_Line, .int .i64 v2.2.1.f_At], .cp [.sl false (List.map c_api_Line v2.2.2)]], Z, Z, Z, Z, Z, Z, Z, Z, Z, Z, Z, Z, Z, Z, Z, Z, Z, Z, Z, Z, Z, Z, Z, Z, Z, Z, Z], [some [.int .i64 0], some [.int .i64 0]], [], 0⟩ (.re (rl [4, 1, 2, 3, 12, 1, 27]) [4, 5] [] rfl (.refl _)) rfl ?_
  refine ex_rangeX (encs := encs_doc_between_1) (encD := encD_doc_between_1) (step := (fun x s => doc_tells_r4 p0 p3 x s.1 s.2)) (fun s => [some [.int .i64 s.1], some [.int .i64 s.2]]) (fun s => []) (s0 := (0, 0)) hl rfl en125 (ok_doc_between_1 hxs) henc_doc_between_1 rfl rfl rfl ?_ ?_
  ·clear hl hxs
   obtain ⟨k19, k20⟩ := o18
   refine ex_seq ?_
   refine ex_drw mo [2, 3, 2000, 2001, 3002, 3003, 100000, 200001, 300000, 400001] (by kernel_rfl) (l := [0, 1, 2, 3]) rfl ?_
   refine r_ 48 0 rfl rfl rfl rfl rfl rfl (fun _ _ hb => x_load rfl rfl (at_bx hb rfl) sz3 un3 ag3 rfl) ?_
   refine r_ 49 1 rfl rfl rfl rfl rfl rfl (fun _ _ hb => x_load rfl rfl (at_bx hb rfl) sz3 un3 ag3 rfl) ?_
   refine e0 rfl rfl rfl rfl rfl (b' := [some [.int .i64 k19], some [.int .i64 k20]]) (r' := []) (hb := set_out 0 (some [.int .i64 k19]) rfl rfl) (.store rfl rfl rfl sz3 rfl rfl rfl) rfl ?_
   refine e0 rfl rfl rfl rfl rfl (b' := [some [.int .i64 k19], some [.int .i64 k20]]) (r' := []) (hb := set_out 1 (some [.int .i64 k20]) rfl rfl) (.store rfl rfl rfl sz3 rfl rfl rfl) rfl ?_
   refine we_nil ?_
   refine ex_ret ?_
   obtain rfl := Option.some.inj h
   exact finB (by first | exact .inr rfl | exact .inl rfl) (.refl _) [.int .i64 k19, .int .i64 k20] [] [] (res_cons (res_cell rfl rfl sz3 un3 ag3 rfl) (res_cons (res_cell rfl rfl sz3 un3 ag3 rfl) res_nil)) rfl rfl rfl rfl rfl rfl rfl
  ·clear hl hxs h
   rintro b4 ⟨n5, n6⟩ t h
   replace h : doc_tells_r4 p0 p3 b4 n5 n6 = some t := h
   unfold doc_tells_r4 at h
   show Ex _ _ _ ⟨[Z, Z, Z, Z, .cp [.sl false (List.map c_api_Line p0)], Z, Z, .cp [.fn g3 cs3], .bx 0 0, .bx 1 0, Z, Z, Z, Z, Z, Z, Z, Z, Z, Z, Z, Z, .fn 125 [.cp [.int .i64 v2.1.f_Line, .int .i64 v2.1.f_At], .cp [.int .i64 v2.2.1.f_Line, .int .i64 v2.2.1.f_At], .cp [.sl false (List.map c_api_Line v2.2.2)]], .int .i64 b4.1, .agg [.int .i64 b4.2.1, .int .i64 b4.2.2], Z, Z, Z, Z, Z, Z, Z, Z, Z, Z, Z, Z, Z, Z, Z, Z, Z, Z, Z, Z, Z, Z, Z, Z, Z], [some [.int .i64 n5], some [.int .i64 n6]], [], 0⟩ _
   refine ex_seq ?_
   refine ex_ord [] (l := [0]) rfl ?_
   refine pa 10 ?_
   refine we_nil ?_
   refine ex_ord [0, 1] (l := [0, 1]) rfl ?_
   refine e_ (d := .bx 2 0) 11 rfl rfl rfl rfl rfl (b' := [some [.int .i64 n5], some [.int .i64 n6], some [.int .i64 0, .int .i64 0]]) (r' := []) (.alloc rfl ze96) rfl ?_
   refine e0 rfl rfl rfl rfl rfl (b' := [some [.int .i64 n5], some [.int .i64 n6], some [.int .i64 b4.2.1, .int .i64 b4.2.2]]) (r' := []) (.store rfl rfl rfl sz96 rfl rfl rfl) rfl ?_
   refine we_nil ?_
   refine ex_block ?_
   refine ex_seq ?_
   refine ex_gst ⟨[Z, Z, Z, Z, .cp [.sl false (List.map c_api_Line p0)], Z, Z, .cp [.fn g3 cs3], .bx 0 0, .bx 1 0, .int .i64 b4.1, .cp [.int .i64 b4.2.1, .int .i64 b4.2.2], Z, Z, Z, Z, Z, Z, Z, Z, Z, Z, .fn 125 [.cp [.int .i64 v2.1.f_Line, .int .i64 v2.1.f_At], .cp [.int .i64 v2.2.1.f_Line, .int .i64 v2.2.1.f_At], .cp [.sl false (List.map c_api_Line v2.2.2)]], .int .i64 b4.1, .agg [.int .i64 b4.2.1, .int .i64 b4.2.2], Z, Z, Z, Z, Z, Z, Z, Z, Z, Z, Z, Z, Z, Z, Z, Z, Z, Z, Z, Z, Z, Z, Z, Z, Z], [some [.int .i64 n5], some [.int .i64 n6], none], [], 0⟩ (.shutB (b := 2) rfl (fun d h => by simpa using List.all_eq_true.1 (rfl : List.all [.int .i64 b4.2.1, .int .i64 b4.2.2] (fun d => !d.tok) = true) d h) (.refl _)) rfl ?_
   refine ex_drw mo [1000, 1002, 1003, 1004, 1005, 1006, 1007, 1008, 1009, 1010] (by kernel_rfl) (l := [0, 1, 2, 3, 4, 5, 6, 7, 8, 9, 10, 11]) rfl ?_
   refine n_ 25 rfl rfl rfl (fun _ _ => x_load rfl rfl rfl sz22 un22 ag22 rfl) ?_
   refine pm 26 ?_
   obtain ⟨v7, hv7, h⟩ := bindS h
   refine n_ 27 rfl rfl rfl (fun _ _ => x_idx (f := c_api_Line) (cs := [.int .i64 v7.f_Quote, .sl false (List.map c_i64 v7.f_Lists), .int .i64 v7.f_Kind, .sl false (List.map c_api_Cell v7.f_Cells)]) rfl rfl rfl el22 sz55 hv7 rfl rfl) ?_
   refine n_ 28 rfl rfl rfl (fun _ _ => .fieldAddr rfl rfl rfl fl55u_3 rfl) ?_
   refine n_ 29 rfl rfl rfl (fun _ _ => x_load rfl rfl rfl sz46 un46 ag46 rfl) ?_
   refine n_ 30 rfl rfl rfl (fun _ _ => .idxA (k := .i64) (i := 0) rfl rfl rfl rfl ar96 sz3 (by decide) (by decide) rfl) ?_
   refine n_ 31 rfl rfl rfl (fun _ _ => x_load rfl rfl rfl sz3 un3 ag3 rfl) ?_
   refine n_ 32 rfl rfl rfl (fun _ _ => .idxA (k := .i64) (i := 1) rfl rfl rfl rfl ar96 sz3 (by decide) (by decide) rfl) ?_
   refine n_ 33 rfl rfl rfl (fun _ _ => x_load rfl rfl rfl sz3 un3 ag3 rfl) ?_
   obtain ⟨v8, hv8, h⟩ := bindS h
   refine n_ 34 rfl rfl rfl (fun _ _ => x_cut rfl rfl el46 sz58 ⟨_, rfl⟩ ⟨_, rfl⟩ hv8 fl_api_Cell) ?_
   refine n_ 35 rfl rfl rfl (fun _ _ => x_len (f := c_api_Cell) (l := v8) rfl rfl rfl el46) ?_
   refine pm 36 ?_
   refine we_nil ?_
   refine ex_block ?_
   obtain ⟨o17, hl, h⟩ := bindS h
   refine ex_gst ⟨[Z, Z, Z, Z, .cp [.sl false (List.map c_api_Line p0)], Z, Z, .cp [.fn g3 cs3], .bx 0 0, .bx 1 0, Z, Z, Z, Z, Z, Z, Z, Z, Z, Z, Z, Z, .fn 125 [.cp [.int .i64 v2.1.f_Line, .int .i64 v2.1.f_At], .cp [.int .i64 v2.2.1.f_Line, .int .i64 v2.2.1.f_At], .cp [.sl false (List.map c_api_Line v2.2.2)]], Z, Z, Z, Z, Z, Z, Z, Z, Z, Z, Z, .sl false (List.map c_api_Cell v8), .int .i64 (v8.length : Int), .int .i64 0, Z, Z, Z, Z, Z, Z, Z, Z, Z, Z, Z, Z, Z], [some [.int .i64 n5], some [.int .i64 n6]], [], 0⟩ (.re (rl [4, 1, 2, 3, 12, 1, 11, 3, 13]) [0, 1] [] rfl (.refl _)) rfl ?_
   refine ex_iterX (fun _ => .exit 2) (fun s => ⟨[Z, Z, Z, Z, .cp [.sl false (List.map c_api_Line p0)], Z, Z, .cp [.fn g3 cs3], .bx 0 0, .bx 1 0, Z, Z, Z, Z, Z, Z, Z, Z, Z, Z, Z, Z, .fn 125 [.cp [.int .i64 v2.1.f_Line, .int .i64 v2.1.f_At], .cp [.int .i64 v2.2.1.f_Line, .int .i64 v2.2.1.f_At], .cp [.sl false (List.map c_api_Line v2.2.2)]], Z, Z, Z, Z, Z, Z, Z, Z, Z, Z, Z, .sl false (List.map c_api_Cell v8), .int .i64 (v8.length : Int), .int .i64 s.2.2, Z, Z, Z, Z, Z, Z, Z, Z, Z, Z, Z, Z, Z], [some [.int .i64 s.1], some [.int .i64 s.2.1]], [], 0⟩) (fun o => ⟨[Z, Z, Z, Z, .cp [.sl false (List.map c_api_Line p0)], Z, Z, .cp [.fn g3 cs3], .bx 0 0, .bx 1 0, Z, Z, Z, Z, Z, Z, Z, Z, Z, Z, Z, Z, .fn 125 [.cp [.int .i64 v2.1.f_Line, .int .i64 v2.1.f_At], .cp [.int .i64 v2.2.1.f_Line, .int .i64 v2.2.1.f_At], .cp [.sl false (List.map c_api_Line v2.2.2)]], Z, Z, Z, Z, Z, Z, Z, Z, Z, Z, Z, Z, Z, Z, Z, Z, Z, Z, Z, Z, Z, Z, Z, Z, Z, Z, Z], [some [.int .i64 o.1], some [.int .i64 o.2]], [], 0⟩) hl rfl ?_ ?_
   ·clear hl
    obtain ⟨k12, k13⟩ := o17
    cases h
    exact ⟨rfl, _, .re (rl [4, 1, 2, 3, 12, 1, 27]) [0, 1] [] rfl (.refl _), rfl⟩
   ·clear hl h
    rintro ⟨n9, n10, n11⟩ y h
    replace h : doc_tells_l3 p3 v8 n9 n10 n11 = some y := h
    unfold doc_tells_l3 at h
    show Ex _ _ _ ⟨[Z, Z, Z, Z, .cp [.sl false (List.map c_api_Line p0)], Z, Z, .cp [.fn g3 cs3], .bx 0 0, .bx 1 0, Z, Z, Z, Z, Z, Z, Z, Z, Z, Z, Z, Z, .fn 125 [.cp [.int .i64 v2.1.f_Line, .int .i64 v2.1.f_At], .cp [.int .i64 v2.2.1.f_Line, .int .i64 v2.2.1.f_At], .cp [.sl false (List.map c_api_Line v2.2.2)]], Z, Z, Z, Z, Z, Z, Z, Z, Z, Z, Z, .sl false (List.map c_api_Cell v8), .int .i64 (v8.length : Int), .int .i64 n11, Z, Z, Z, Z, Z, Z, Z, Z, Z, Z, Z, Z, Z], [some [.int .i64 n9], some [.int .i64 n10]], [], 0⟩ _
    refine ex_seq ?_
    refine ex_ord [] (l := [0]) rfl ?_
    refine pq 37 rfl (.bin rfl rfl rfl rfl) ?_
    refine we_nil ?_
    refine ex_seq ?_
    refine ex_if rfl ?_ ?_
    ·intro hc
     replace h := iteT h hc
     refine ex_skip ?_
     refine ex_seq ?_
     refine ex_block ?_
     refine ex_seq ?_
     refine ex_ord [2, 3] (l := [0, 1, 2, 3]) rfl ?_
     obtain ⟨v14, hv14, h⟩ := bindS h
     refine pq 38 rfl (x_idx (f := c_api_Cell) (cs := [.int .i32 v14.f_R, .int .i64 v14.f_Bits, .str (bs v14.f_Href)]) rfl rfl rfl el46 sz58 hv14 rfl rfl) ?_
     refine pq 39 rfl (x_loadA rfl rfl rfl sz58 un58 ag58 rfl) ?_
     refine e_ (d := .bx 2 0) 13 rfl rfl rfl rfl rfl (b' := [some [.int .i64 n9], some [.int .i64 n10], some [.int .i32 0, .int .i64 0, .str (bs [])]]) (r' := []) (.alloc rfl ze58) rfl ?_
     refine e0 rfl rfl rfl rfl rfl (b' := [some [.int .i64 n9], some [.int .i64 n10], some [.int .i32 v14.f_R, .int .i64 v14.f_Bits, .str (bs v14.f_Href)]]) (r' := []) (.store rfl rfl rfl sz58 rfl rfl rfl) rfl ?_
     refine we_nil ?_
     refine ex_seq ?_
     refine ex_gst ⟨[Z, Z, Z, Z, .cp [.sl false (List.map c_api_Line p0)], Z, Z, .cp [.fn g3 cs3], .bx 0 0, .bx 1 0, Z, Z, Z, .cp [.int .i32 v14.f_R, .int .i64 v14.f_Bits, .str (bs v14.f_Href)], Z, Z, Z, Z, Z, Z, Z, Z, .fn 125 [.cp [.int .i64 v2.1.f_Line, .int .i64 v2.1.f_At], .cp [.int .i64 v2.2.1.f_Line, .int .i64 v2.2.1.f_At], .cp [.sl false (List.map c_api_Line v2.2.2)]], Z, Z, Z, Z, Z, Z, Z, Z, Z, Z, Z, .sl false (List.map c_api_Cell v8), .int .i64 (v8.length : Int), .int .i64 n11, .bool (decide ((n11 : Int) < (v8.length : Int))), .cp [.int .i32 v14.f_R, .int .i64 v14.f_Bits, .str (bs v14.f_Href)], .agg [.int .i32 v14.f_R, .int .i64 v14.f_Bits, .str (bs v14.f_Href)], Z, Z, Z, Z, Z, Z, Z, Z, Z, Z], [some [.int .i64 n9], some [.int .i64 n10], none], [], 0⟩ (.shutB (b := 2) rfl (fun d h => by simpa using List.all_eq_true.1 (rfl : List.all [.int .i32 v14.f_R, .int .i64 v14.f_Bits, .str (bs v14.f_Href)] (fun d => !d.tok) = true) d h) (.refl _)) rfl ?_
     refine ex_ord [2] (l := [0, 1, 2]) rfl ?_
     refine pq 40 rfl (x_load rfl rfl rfl sz3 un3 ag3 rfl) ?_
     refine pq 41 rfl (.bin rfl rfl rfl rfl) ?_
     refine e0 rfl rfl rfl rfl rfl (b' := [some [.int .i64 (IntKind.wrap .i64 (n9 + 1))], some [.int .i64 n10], none]) (r' := []) (.store rfl rfl rfl sz3 rfl rfl rfl) rfl ?_
     refine we_nil ?_
     refine ex_seq ?_
     refine ex_ord [] (l := [0, 1, 2]) rfl ?_
     refine pq 42 rfl (x_load rfl rfl rfl sz86 un86 ag86 rfl) ?_
     refine pq 43 rfl (x_loadA rfl rfl rfl sz58 un58 ag58 rfl) ?_
     obtain ⟨v15, hv15, h⟩ := bindS h
     refine pq 44 rfl (x_callP rfl rfl hc3.en (hf3 _ _ hv15) rfl rfl (all_app rfl hc3.ok) hc3.nt rfl) ?_
     refine we_nil ?_
     obtain ⟨q16, hq, h⟩ := bindS h
     refine ex_cut ⟨[Z, Z, Z, Z, .cp [.sl false (List.map c_api_Line p0)], Z, Z, .cp [.fn g3 cs3], .bx 0 0, .bx 1 0, Z, Z, Z, Z, Z, Z, Z, Z, Z, Z, Z, Z, .fn 125 [.cp [.int .i64 v2.1.f_Line, .int .i64 v2.1.f_At], .cp [.int .i64 v2.2.1.f_Line, .int .i64 v2.2.1.f_At], .cp [.sl false (List.map c_api_Line v2.2.2)]], Z, Z, Z, Z, Z, Z, Z, Z, Z, Z, Z, .sl false (List.map c_api_Cell v8), .int .i64 (v8.length : Int), .int .i64 n11, Z, Z, Z, Z, Z, Z, Z, Z, Z, Z, Z, Z, Z], [some [.int .i64 (IntKind.wrap .i64 (n9 + 1))], some [.int .i64 q16]], [], 0⟩ ?_ ?_
     ·clear h
      have h := hq
      clear hq
      refine ex_if rfl ?_ ?_
      ·intro hc
       replace h := iteT h hc
       refine ex_ord [2] (l := [0, 1, 2]) rfl ?_
       refine pq 45 rfl (x_load rfl rfl rfl sz3 un3 ag3 rfl) ?_
       refine pq 46 rfl (.bin rfl rfl rfl rfl) ?_
       refine e0 rfl rfl rfl rfl rfl (b' := [some [.int .i64 (IntKind.wrap .i64 (n9 + 1))], some [.int .i64 (IntKind.wrap .i64 (n10 + 1))], none]) (r' := []) (.store rfl rfl rfl sz3 rfl rfl rfl) rfl ?_
       refine we_nil ?_
       cases h
       exact ⟨rfl, _, .re (rl [4, 1, 2, 3, 12, 1, 11, 3, 13]) [0, 1] [] rfl (.refl _), rfl⟩
      ·intro hc
       replace h := iteF h hc
       refine ex_skip ?_
       cases h
       exact ⟨rfl, _, .re (rl [4, 1, 2, 3, 12, 1, 11, 3, 13]) [0, 1] [] rfl (.refl _), rfl⟩
     ·clear hq
      refine ex_ord [] (l := [0, 1]) rfl ?_
      refine pq 47 rfl (.bin rfl rfl rfl rfl) ?_
      refine pm 36 ?_
      refine we_nil ?_
      exact rnd_on rfl h (.re (rl [4, 1, 2, 3, 12, 1, 11, 3, 13]) [0, 1] [] rfl (.refl _)) rfl
    ·intro hc
     replace h := iteF h hc
     refine ex_exit ?_
     exact rnd_out (o := (n9, n10)) rfl (fun h => by cases h) h (.re (rl [4, 1, 2, 3, 12, 1, 27]) [0, 1] [] rfl (.refl _)) rfl
theorem ok_doc_Count {r : Int} {p0 : List (T_api_Line)} {p1 : T_api_Pos} {p2 : T_api_Pos} (h : doc_Count p0 p1 p2 = some r) : OkB prog 43 [.sl false (List.map c_api_Line p0), .agg [.int .i64 p1.f_Line, .int .i64 p1.f_At], .agg [.int .i64 p2.f_Line, .int .i64 p2.f_At]] [] [] (.int .i64 r) [] [] := by
 unfold doc_Count at h
 refine okB_of_exG func43 rfl rfl (s0 := [.sl false (List.map c_api_Line p0), .agg [.int .i64 p1.f_Line, .int .i64 p1.f_At], .agg [.int .i64 p2.f_Line, .int .i64 p2.f_At], Z, Z, Z, Z, Z, Z, Z, Z, Z, Z, Z, Z, Z, Z]) (b0 := []) (r0 := []) rfl rfl rfl ?_
 show Ex _ _ _ ⟨[.sl false (List.map c_api_Line p0), .agg [.int .i64 p1.f_Line, .int .i64 p1.f_At], .agg [.int .i64 p2.f_Line, .int .i64 p2.f_At], Z, Z, Z, Z, Z, Z, Z, Z, Z, Z, Z, Z, Z, Z], [], [], 0⟩ _
 refine ex_seq ?_
 refine ex_ord [0, 1] (l := [0, 1, 2]) rfl ?_
 refine e_ (d := .bx 0 0) 4 rfl rfl rfl rfl rfl (b' := [some [.int .i64 p1.f_Line, .int .i64 p1.f_At]]) (r' := []) (.box rfl rfl rfl) rfl ?_
 refine e_ (d := .bx 1 0) 5 rfl rfl rfl rfl rfl (b' := [some [.int .i64 p1.f_Line, .int .i64 p1.f_At], some [.int .i64 p2.f_Line, .int .i64 p2.f_At]]) (r' := []) (.box rfl rfl rfl) rfl ?_
 refine pa 6 ?_
 refine we_nil ?_
 refine ex_seq ?_
 refine ex_gst ⟨[.sl false (List.map c_api_Line p0), .agg [.int .i64 p1.f_Line, .int .i64 p1.f_At], .agg [.int .i64 p2.f_Line, .int .i64 p2.f_At], Z, .cp [.int .i64 p1.f_Line, .int .i64 p1.f_At], .bx 1 0, .int .i64 0, Z, Z, Z, Z, Z, Z, Z, Z, Z, Z], [none, some [.int .i64 p2.f_Line, .int .i64 p2.f_At]], [], 0⟩ (.shutB (b := 0) rfl (fun d h => by simpa using List.all_eq_true.1 (rfl : List.all [.int .i64 p1.f_Line, .int .i64 p1.f_At] (fun d => !d.tok) = true) d h) (.refl _)) rfl ?_
 refine ex_gst ⟨[.sl false (List.map c_api_Line p0), .agg [.int .i64 p1.f_Line, .int .i64 p1.f_At], .agg [.int .i64 p2.f_Line, .int .i64 p2.f_At], Z, .cp [.int .i64 p1.f_Line, .int .i64 p1.f_At], .cp [.int .i64 p2.f_Line, .int .i64 p2.f_At], .int .i64 0, Z, Z, Z, Z, Z, Z, Z, Z, Z, Z], [none, none], [], 0⟩ (.shutB (b := 1) rfl (fun d h => by simpa using List.all_eq_true.1 (rfl : List.all [.int .i64 p2.f_Line, .int .i64 p2.f_At] (fun d => !d.tok) = true) d h) (.refl _)) rfl ?_
 refine ex_ord [] (l := [0, 1, 2, 3, 4, 5, 6, 7, 8]) rfl ?_
 refine pm 10 ?_
 refine pq 11 rfl (x_loadA rfl rfl rfl sz24 un24 ag24 rfl) ?_
 refine pq 12 rfl (x_loadA rfl rfl rfl sz24 un24 ag24 rfl) ?_
 obtain ⟨v1, hv1, h⟩ := bindS h
 refine pq 13 rfl (x_callP rfl rfl en81 (ok_doc_tells ⟨en85, rfl, rfl⟩ (fun _ _ h => ok_doc_Count_1 h) hv1) rfl rfl rfl rfl rfl) ?_
 refine pm 9 ?_
 refine pq 14 rfl (.extract rfl rfl rfl rfl) ?_
 refine pq 15 rfl (.extract rfl rfl rfl rfl) ?_
 refine pa 7 ?_
 refine pa 8 ?_
 refine we_nil ?_
 refine ex_seq ?_
 refine ex_ord [] (l := [0, 1]) rfl ?_
 refine pm 16 ?_
 refine pa 6 ?_
 refine we_nil ?_
 refine ex_ret ?_
 obtain rfl := Option.some.inj h
 exact finB (by first | exact .inr rfl | exact .inl rfl) (.refl _) [.int .i64 v1.1] [] [] (res_cons (res_tmp rfl) res_nil) rfl rfl rfl rfl rfl rfl rfl
theorem ok_doc_each {r : (List (T_api_Line)) × Int} {p0 : List (T_api_Line)} {p1 : T_api_Pos} {p2 : T_api_Pos} {p3 : (List (T_api_Cell)) → Int → Int → Option ((List (T_api_Cell)) × Int)} {g3 : FuncId} {cs3 : List DV} (hc3 : Cl prog g3 cs3) (hf3 : ∀ x0 x1 x2 r, p3 x0 x1 x2 = some r → OkB prog g3 ([.sl false (List.map c_api_Cell x0), .int .i64 x1, .int .i64 x2] ++ cs3) [] [] (.tup [.sl false (List.map c_api_Cell r.1), .int .i64 r.2]) [] []) (h : doc_each p0 p1 p2 p3 = some r) : OkB prog 69 [.sl false (List.map c_api_Line p0), .agg [.int .i64 p1.f_Line, .int .i64 p1.f_At], .agg [.int .i64 p2.f_Line, .int .i64 p2.f_At], .fn g3 cs3] [] [] (.tup [.own 0, .int .i64 r.2]) [] [⟨55, 4, List.map c_api_Line r.1⟩] := by
 unfold doc_each at h
 refine okB_of_exG func69 rfl rfl (s0 := [.sl false (List.map c_api_Line p0), .agg [.int .i64 p1.f_Line, .int .i64 p1.f_At], .agg [.int .i64 p2.f_Line, .int .i64 p2.f_At], .fn g3 cs3, Z, Z, Z, Z, Z, Z, Z, Z, Z, Z, Z, Z, Z, Z, Z, Z, Z, Z, Z, Z, Z, Z, Z, Z, Z, Z, Z, Z, Z, Z, Z, Z, Z, Z, Z, Z, Z, Z, Z, Z, Z, Z, Z, Z, Z, Z, Z, Z]) (b0 := []) (r0 := []) rfl rfl rfl ?_
 show Ex _ _ _ ⟨[.sl false (List.map c_api_Line p0), .agg [.int .i64 p1.f_Line, .int .i64 p1.f_At], .agg [.int .i64 p2.f_Line, .int .i64 p2.f_At], .fn g3 cs3, Z, Z, Z, Z, Z, Z, Z, Z, Z, Z, Z, Z, Z, Z, Z, Z, Z, Z, Z, Z, Z, Z, Z, Z, Z, Z, Z, Z, Z, Z, Z, Z, Z, Z, Z, Z, Z, Z, Z, Z, Z, Z, Z, Z, Z, Z, Z, Z], [], [], 0⟩ _
 refine ex_seq ?_
 refine ex_ord [0, 1, 2, 3] (l := [0, 1, 2, 3, 4]) rfl ?_
 refine e_ (d := .bx 0 0) 5 rfl rfl rfl rfl rfl (b' := [some [.int .i64 p1.f_Line, .int .i64 p1.f_At]]) (r' := []) (.box rfl rfl rfl) rfl ?_
 refine e_ (d := .bx 1 0) 6 rfl rfl rfl rfl rfl (b' := [some [.int .i64 p1.f_Line, .int .i64 p1.f_At], some [.int .i64 p2.f_Line, .int .i64 p2.f_At]]) (r' := []) (.box rfl rfl rfl) rfl ?_
 refine e_ (d := .bx 2 0) 7 rfl rfl rfl rfl rfl (b' := [some [.int .i64 p1.f_Line, .int .i64 p1.f_At], some [.int .i64 p2.f_Line, .int .i64 p2.f_At], some [.fn g3 cs3]]) (r' := []) (.box rfl rfl rfl) rfl ?_
 refine e_ (d := .own 0) 8 rfl rfl rfl rfl rfl (b' := [some [.int .i64 p1.f_Line, .int .i64 p1.f_At], some [.int .i64 p2.f_Line, .int .i64 p2.f_At], some [.fn g3 cs3]]) (r' := [some ⟨55, 4, []⟩]) (.nilRow (.inr rfl) rfl 55 4) rfl ?_
 refine pa 9 ?_
 refine we_nil ?_
 refine ex_seq ?_
 refine ex_block ?_
 refine ex_seq ?_
 refine ex_gst ⟨[.sl false (List.map c_api_Line p0), .agg [.int .i64 p1.f_Line, .int .i64 p1.f_At], .agg [.int .i64 p2.f_Line, .int .i64 p2.f_At], .fn g3 cs3, Z, .cp [.int .i64 p1.f_Line, .int .i64 p1.f_At], .bx 1 0, .bx 2 0, .own 0, .int .i64 0, Z, Z, Z, Z, Z, Z, Z, Z, Z, Z, Z, Z, Z, Z, Z, Z, Z, Z, Z, Z, Z, Z, Z, Z, Z, Z, Z, Z, Z, Z, Z, Z, Z, Z, Z, Z, Z, Z, Z, Z, Z, Z], [none, some [.int .i64 p2.f_Line, .int .i64 p2.f_At], some [.fn g3 cs3]], [some ⟨55, 4, []⟩], 0⟩ (.shutB (b := 0) rfl (fun d h => by simpa using List.all_eq_true.1 (rfl : List.all [.int .i64 p1.f_Line, .int .i64 p1.f_At] (fun d => !d.tok) = true) d h) (.refl _)) rfl ?_
 refine ex_gst ⟨[.sl false (List.map c_api_Line p0), .agg [.int .i64 p1.f_Line, .int .i64 p1.f_At], .agg [.int .i64 p2.f_Line, .int .i64 p2.f_At], .fn g3 cs3, Z, .cp [.int .i64 p1.f_Line, .int .i64 p1.f_At], .cp [.int .i64 p2.f_Line, .int .i64 p2.f_At], .bx 2 0, .own 0, .int .i64 0, Z, Z, Z, Z, Z, Z, Z, Z, Z, Z, Z, Z, Z, Z, Z, Z, Z, Z, Z, Z, Z, Z, Z, Z, Z, Z, Z, Z, Z, Z, Z, Z, Z, Z, Z, Z, Z, Z, Z, Z, Z, Z], [none, none, some [.fn g3 cs3]], [some ⟨55, 4, []⟩], 0⟩ (.shutB (b := 1) rfl (fun d h => by simpa using List.all_eq_true.1 (rfl : List.all [.int .i64 p2.f_Line, .int .i64 p2.f_At] (fun d => !d.tok) = true) d h) (.refl _)) rfl ?_
 refine ex_gst ⟨[.sl false (List.map c_api_Line p0), .agg [.int .i64 p1.f_Line, .int .i64 p1.f_At], .agg [.int .i64 p2.f_Line, .int .i64 p2.f_At], .fn g3 cs3, Z, .cp [.int .i64 p1.f_Line, .int .i64 p1.f_At], .cp [.int .i64 p2.f_Line, .int .i64 p2.f_At], .cp [.fn g3 cs3], .own 0, .int .i64 0, Z, Z, Z, Z, Z, Z, Z, Z, Z, Z, Z, Z, Z, Z, Z, Z, Z, Z, Z, Z, Z, Z, Z, Z, Z, Z, Z, Z, Z, Z, Z, Z, Z, Z, Z, Z, Z, Z, Z, Z, Z, Z], [none, none, none], [some ⟨55, 4, []⟩], 0⟩ (.shutB (b := 2) rfl (fun d h => by simpa using List.all_eq_true.1 (rfl : List.all [.fn g3 cs3] (fun d => !d.tok) = true) d h) (.refl _)) rfl ?_
 refine ex_ord [] (l := [0, 1, 2, 3, 4, 5]) rfl ?_
 refine pm 14 ?_
 refine pq 15 rfl (x_loadA rfl rfl rfl sz24 un24 ag24 rfl) ?_
 refine pq 16 rfl (x_loadA rfl rfl rfl sz24 un24 ag24 rfl) ?_
 obtain ⟨v1, hv1, h⟩ := bindS h
 refine pq 17 rfl (x_callP rfl rfl en90 (ok_doc_span hv1) rfl rfl rfl rfl rfl) ?_
 refine pq 18 rfl (.un rfl rfl rfl) ?_
 refine pa 13 ?_
 refine we_nil ?_
 refine ex_if rfl ?_ ?_
 ·intro hc
  replace h := iteT h hc
  refine ex_seq ?_
  refine ex_ord [0] (l := [0, 1]) rfl ?_
  refine e_ (d := .own 1) 8 rfl rfl rfl rfl rfl (b' := [none, none, none]) (r' := [some ⟨55, 4, []⟩, some ⟨55, 4, []⟩]) (.nilRow (.inr rfl) rfl 55 4) rfl ?_
  refine pa 9 ?_
  refine we_nil ?_
  refine ex_ret ?_
  obtain rfl := Option.some.inj h
  exact finB (by first | exact .inr rfl | exact .inl rfl) (.refl _) [.own 1, .int .i64 1] [1] [] (res_cons (res_tmp rfl) (res_cons (res_tmp rfl) res_nil)) rfl rfl rfl rfl rfl rfl rfl
 ·intro hc
  replace h := iteF h hc
  refine ex_seq ?_
  refine ex_ord [] (l := [0, 1, 2, 3, 4, 5]) rfl ?_
  refine pm 20 ?_
  refine pq 21 rfl (x_loadA rfl rfl rfl sz24 un24 ag24 rfl) ?_
  refine pq 22 rfl (x_loadA rfl rfl rfl sz24 un24 ag24 rfl) ?_
  obtain ⟨v2, hv2, h⟩ := bindS h
  refine pq 23 rfl (x_callP rfl rfl en43 (ok_doc_Count hv2) rfl rfl rfl rfl rfl) ?_
  refine pq 24 rfl (.bin rfl rfl rfl rfl) ?_
  refine pa 19 ?_
  refine we_nil ?_
  refine ex_if rfl ?_ ?_
  ·intro hc
   replace h := iteT h hc
   refine ex_seq ?_
   refine ex_ord [0] (l := [0, 1]) rfl ?_
   refine e_ (d := .own 1) 8 rfl rfl rfl rfl rfl (b' := [none, none, none]) (r' := [some ⟨55, 4, []⟩, some ⟨55, 4, []⟩]) (.nilRow (.inr rfl) rfl 55 4) rfl ?_
   refine pa 9 ?_
   refine we_nil ?_
   refine ex_ret ?_
   obtain rfl := Option.some.inj h
   exact finB (by first | exact .inr rfl | exact .inl rfl) (.refl _) [.own 1, .int .i64 7] [1] [] (res_cons (res_tmp rfl) (res_cons (res_tmp rfl) res_nil)) rfl rfl rfl rfl rfl rfl rfl
  ·intro hc
   replace h := iteF h hc
   refine ex_skip ?_
   refine ex_seq ?_
   refine ex_ord [1, 2, 3] (l := [0, 1, 2, 3]) rfl ?_
   refine pm 25 ?_
   obtain ⟨v3, hv3, h⟩ := bindS h
   refine e_ (d := .own 1) 26 rfl rfl rfl rfl rfl (b' := [none, none, none]) (r' := [some ⟨55, 4, []⟩, some ⟨55, 4, List.map c_api_Line v3⟩]) (x_call [] [] rfl rfl en32 (ok_doc_Own hv3) rfl rfl rfl rfl rfl rfl rfl rfl rfl rfl rfl rfl rfl rfl) rfl ?_
   refine e_ (d := .bx 3 0) 10 rfl rfl rfl rfl rfl (b' := [none, none, none, some [.own 2]]) (r' := [some ⟨55, 4, []⟩, some ⟨55, 4, List.map c_api_Line v3⟩, some ⟨55, 4, []⟩]) (.allocN (e := 55) (n := 4) rfl zn22) rfl ?_
   refine e0 rfl rfl rfl rfl rfl (b' := [none, none, none, some [.own 1]]) (r' := [some ⟨55, 4, []⟩, some ⟨55, 4, List.map c_api_Line v3⟩, some ⟨55, 4, []⟩]) (.store rfl rfl rfl sz22 rfl rfl rfl) rfl ?_
   refine we_nil ?_
   refine ex_seq ?_
   refine ex_seq ?_
   refine ex_ord [] (l := [0, 1, 2, 3]) rfl ?_
   refine pm 27 ?_
   refine pq 28 rfl (x_loadA rfl rfl rfl sz24 un24 ag24 rfl) ?_
   refine pq 29 rfl (x_loadA rfl rfl rfl sz24 un24 ag24 rfl) ?_
   obtain ⟨v4, hv4, h⟩ := bindS h
   refine pq 30 rfl (x_callP rfl rfl en93 (ok_doc_between hv4) rfl rfl rfl rfl rfl) ?_
   refine we_nil ?_
   refine ex_block ?_
   obtain ⟨b5, hxs, h⟩ := bindS h
   obtain ⟨k14, hl, h⟩ := bindS h
   refine ex_gst ⟨[Z, Z, Z, Z, Z, Z, Z, .cp [.fn g3 cs3], Z, Z, .bx 0 0, Z, Z, Z, Z, Z, Z, Z, Z, Z, Z, Z, Z, Z, Z, Z, Z, Z, Z, Z, .fn 125 [.cp [.int .i64 v4.1.f_Line, .int .i64 v4.1.f_At], .cp [.int .i64 v4.2.1.f_Line, .int .i64 v4.2.1.f_At], .cp [.sl false (List.map c_api_Line v4.2.2)]], Z, Z, Z, Z, Z, Z, Z, Z, Z, Z, Z, Z, Z, Z, Z, Z, Z, Z, Z, Z, Z], [some [.own 0]], [some ⟨55, 4, List.map c_api_Line v3⟩], 0⟩ (.re (rl [7, 1, 2, 1, 19, 1, 21]) [3] [1] rfl (.refl _)) rfl ?_
   refine ex_rangeX (encs := encs_doc_between_1) (encD := encD_doc_between_1) (step := (fun x s => doc_each_r1 p3 x s)) (fun s => [some [.own 0]]) (fun s => [some ⟨55, 4, List.map c_api_Line s⟩]) (s0 := v3) hl rfl en125 (ok_doc_between_1 hxs) henc_doc_between_1 rfl rfl rfl ?_ ?_
   ·clear hl hxs
    refine ex_seq ?_
    refine ex_ord [] (l := [0, 1, 2]) rfl ?_
    refine pq 51 rfl (x_load rfl rfl rfl sz22 un22 ag22 rfl) ?_
    refine pa 8 ?_
    refine pa 9 ?_
    refine we_nil ?_
    refine ex_ret ?_
    obtain rfl := Option.some.inj h
    exact finB (by first | exact .inr rfl | exact .inl rfl) (.refl _) [.own 0, .int .i64 0] [0] [] (res_cons (res_tmp rfl) (res_cons (res_tmp rfl) res_nil)) rfl rfl rfl rfl rfl rfl rfl
   ·clear hl hxs h
    rintro b6 n7 t h
    replace h : doc_each_r1 p3 b6 n7 = some t := h
    unfold doc_each_r1 at h
    show Ex _ _ _ ⟨[Z, Z, Z, Z, Z, Z, Z, .cp [.fn g3 cs3], Z, Z, .bx 0 0, Z, Z, Z, Z, Z, Z, Z, Z, Z, Z, Z, Z, Z, Z, Z, Z, Z, Z, Z, .fn 125 [.cp [.int .i64 v4.1.f_Line, .int .i64 v4.1.f_At], .cp [.int .i64 v4.2.1.f_Line, .int .i64 v4.2.1.f_At], .cp [.sl false (List.map c_api_Line v4.2.2)]], .int .i64 b6.1, .agg [.int .i64 b6.2.1, .int .i64 b6.2.2], Z, Z, Z, Z, Z, Z, Z, Z, Z, Z, Z, Z, Z, Z, Z, Z, Z, Z, Z], [some [.own 0]], [some ⟨55, 4, List.map c_api_Line n7⟩], 0⟩ _
    refine ex_seq ?_
    refine ex_ord [] (l := [0]) rfl ?_
    refine pa 11 ?_
    refine we_nil ?_
    refine ex_ord [0, 1] (l := [0, 1]) rfl ?_
    refine e_ (d := .bx 1 0) 12 rfl rfl rfl rfl rfl (b' := [some [.own 0], some [.int .i64 0, .int .i64 0]]) (r' := [some ⟨55, 4, List.map c_api_Line n7⟩]) (.alloc rfl ze96) rfl ?_
    refine e0 rfl rfl rfl rfl rfl (b' := [some [.own 0], some [.int .i64 b6.2.1, .int .i64 b6.2.2]]) (r' := [some ⟨55, 4, List.map c_api_Line n7⟩]) (.store rfl rfl rfl sz96 rfl rfl rfl) rfl ?_
    refine we_nil ?_
    refine ex_block ?_
    refine ex_gst ⟨[Z, Z, Z, Z, Z, Z, Z, .cp [.fn g3 cs3], Z, Z, .bx 0 0, .int .i64 b6.1, .cp [.int .i64 b6.2.1, .int .i64 b6.2.2], Z, Z, Z, Z, Z, Z, Z, Z, Z, Z, Z, Z, Z, Z, Z, Z, Z, .fn 125 [.cp [.int .i64 v4.1.f_Line, .int .i64 v4.1.f_At], .cp [.int .i64 v4.2.1.f_Line, .int .i64 v4.2.1.f_At], .cp [.sl false (List.map c_api_Line v4.2.2)]], .int .i64 b6.1, .agg [.int .i64 b6.2.1, .int .i64 b6.2.2], Z, Z, Z, Z, Z, Z, Z, Z, Z, Z, Z, Z, Z, Z, Z, Z, Z, Z, Z], [some [.own 0], none], [some ⟨55, 4, List.map c_api_Line n7⟩], 0⟩ (.shutB (b := 1) rfl (fun d h => by simpa using List.all_eq_true.1 (rfl : List.all [.int .i64 b6.2.1, .int .i64 b6.2.2] (fun d => !d.tok) = true) d h) (.refl _)) rfl ?_
    refine ex_drw mo [18, 1002, 1008, 1009, 1010, 1011, 1012, 2000, 2003, 3018, 100000, 400000] (by kernel_rfl) (l := [0, 1, 2, 3, 4, 5, 6, 7, 8, 9, 10, 11, 12, 13, 14, 15, 16, 17, 18]) rfl ?_
    refine r_ 34 0 rfl rfl rfl rfl rfl rfl (fun _ _ hb => x_load rfl rfl (at_bx hb rfl) sz22 un22 ag22 rfl) ?_
    refine pm 35 ?_
    refine n_ 36 rfl rfl rfl (fun _ _ => x_load rfl rfl rfl sz79 un79 ag79 rfl) ?_
    refine r_ 37 0 rfl rfl rfl rfl rfl rfl (fun _ _ hb => x_load rfl rfl (at_bx hb rfl) sz22 un22 ag22 rfl) ?_
    refine pm 38 ?_
    obtain ⟨v8, hv8, h⟩ := bindS h
    refine pq 39 rfl (x_idxO (f := c_api_Line) (l := n7) rfl rfl rfl rfl rfl el22 sz55 hv8 rfl) ?_
    refine pq 40 rfl (.fieldAddr rfl rfl rfl fl55u_3 rfl) ?_
    obtain ⟨v9, hv9, h⟩ := bindS h
    refine pq 41 rfl (x_load rfl rfl (at_ex (f := c_api_Line) (xs := n7) (c := [.int .i64 v9.f_Quote, .sl false (List.map c_i64 v9.f_Lists), .int .i64 v9.f_Kind, .sl false (List.map c_api_Cell v9.f_Cells)]) rfl rfl (getI_some hv9).2 rfl (Nat.le_of_ble_eq_true rfl)) sz46 un46 ag46 rfl) ?_
    refine n_ 42 rfl rfl rfl (fun _ _ => .idxA (k := .i64) (i := 0) rfl rfl rfl rfl ar96 sz3 (by decide) (by decide) rfl) ?_
    refine n_ 43 rfl rfl rfl (fun _ _ => x_load rfl rfl rfl sz3 un3 ag3 rfl) ?_
    refine n_ 44 rfl rfl rfl (fun _ _ => .idxA (k := .i64) (i := 1) rfl rfl rfl rfl ar96 sz3 (by decide) (by decide) rfl) ?_
    refine n_ 45 rfl rfl rfl (fun _ _ => x_load rfl rfl rfl sz3 un3 ag3 rfl) ?_
    obtain ⟨v10, hv10, h⟩ := bindS h
    refine n_ 46 rfl rfl rfl (fun _ _ => x_callP rfl rfl hc3.en (hf3 _ _ _ _ hv10) rfl rfl (all_app rfl hc3.ok) hc3.nt rfl) ?_
    refine pm 33 ?_
    refine pq 47 rfl (.extract rfl rfl rfl rfl) ?_
    refine pq 48 rfl (.extract rfl rfl rfl rfl) ?_
    obtain ⟨v11, hv11, h⟩ := bindS h
    refine pq 49 rfl (x_idxO (f := c_api_Line) (l := n7) rfl rfl rfl rfl rfl el22 sz55 hv11 rfl) ?_
    refine pq 50 rfl (.fieldAddr rfl rfl rfl fl55u_3 rfl) ?_
    obtain ⟨v12, hv12, h⟩ := bindS h
    refine e0 rfl rfl rfl rfl rfl (b' := [some [.own 0], none]) (r' := [some ⟨55, 4, List.map c_api_Line (setI n7 b6.1 (T_api_Line.mk (v12.f_Quote) (v12.f_Lists) (v12.f_Kind) (v10.1) : T_api_Line))⟩]) (x_stE (f := c_api_Line) (xs := n7) (c := v12) (c' := (T_api_Line.mk (v12.f_Quote) (v12.f_Lists) (v12.f_Kind) (v10.1) : T_api_Line)) rfl rfl rfl sz46 rfl rfl rfl rfl (getI_some hv12).2 (Nat.le_of_ble_eq_true rfl) rfl rfl) rfl ?_
    refine we_nil ?_
    cases h
    exact ⟨rfl, _, .re (rl [7, 1, 2, 1, 19, 1, 21]) [0] [0] rfl (.refl _), rfl⟩
theorem ok_doc_Set {r : (List (T_api_Line)) × Int} {p0 : List (T_api_Line)} {p1 : T_api_Pos} {p2 : T_api_Pos} {p3 : Int} {p4 : Int} (h : doc_Set p0 p1 p2 p3 p4 = some r) : OkB prog 34 [.sl false (List.map c_api_Line p0), .agg [.int .i64 p1.f_Line, .int .i64 p1.f_At], .agg [.int .i64 p2.f_Line, .int .i64 p2.f_At], .int .i64 p3, .int .i64 p4] [] [] (.tup [.own 0, .int .i64 r.2]) [] [⟨55, 4, List.map c_api_Line r.1⟩] := by
 unfold doc_Set at h
 refine okB_of_exG func34 rfl rfl (s0 := [.sl false (List.map c_api_Line p0), .agg [.int .i64 p1.f_Line, .int .i64 p1.f_At], .agg [.int .i64 p2.f_Line, .int .i64 p2.f_At], .int .i64 p3, .int .i64 p4, Z, Z, Z, Z, Z, Z, Z, Z, Z, Z, Z, Z, Z, Z]) (b0 := []) (r0 := []) rfl rfl rfl ?_
 show Ex _ _ _ ⟨[.sl false (List.map c_api_Line p0), .agg [.int .i64 p1.f_Line, .int .i64 p1.f_At], .agg [.int .i64 p2.f_Line, .int .i64 p2.f_At], .int .i64 p3, .int .i64 p4, Z, Z, Z, Z, Z, Z, Z, Z, Z, Z, Z, Z, Z, Z], [], [], 0⟩ _
 refine ex_seq ?_
 refine ex_ord [0, 1, 2, 3, 4] (l := [0, 1, 2, 3, 4, 5]) rfl ?_
 refine e_ (d := .bx 0 0) 6 rfl rfl rfl rfl rfl (b' := [some [.int .i64 p1.f_Line, .int .i64 p1.f_At]]) (r' := []) (.box rfl rfl rfl) rfl ?_
 refine e_ (d := .bx 1 0) 7 rfl rfl rfl rfl rfl (b' := [some [.int .i64 p1.f_Line, .int .i64 p1.f_At], some [.int .i64 p2.f_Line, .int .i64 p2.f_At]]) (r' := []) (.box rfl rfl rfl) rfl ?_
 refine e_ (d := .bx 2 0) 8 rfl rfl rfl rfl rfl (b' := [some [.int .i64 p1.f_Line, .int .i64 p1.f_At], some [.int .i64 p2.f_Line, .int .i64 p2.f_At], some [.int .i64 p3]]) (r' := []) (.box rfl rfl rfl) rfl ?_
 refine e_ (d := .bx 3 0) 9 rfl rfl rfl rfl rfl (b' := [some [.int .i64 p1.f_Line, .int .i64 p1.f_At], some [.int .i64 p2.f_Line, .int .i64 p2.f_At], some [.int .i64 p3], some [.int .i64 p4]]) (r' := []) (.box rfl rfl rfl) rfl ?_
 refine e_ (d := .own 0) 10 rfl rfl rfl rfl rfl (b' := [some [.int .i64 p1.f_Line, .int .i64 p1.f_At], some [.int .i64 p2.f_Line, .int .i64 p2.f_At], some [.int .i64 p3], some [.int .i64 p4]]) (r' := [some ⟨55, 4, []⟩]) (.nilRow (.inr rfl) rfl 55 4) rfl ?_
 refine pa 11 ?_
 refine we_nil ?_
 refine ex_seq ?_
 refine ex_gst ⟨[.sl false (List.map c_api_Line p0), .agg [.int .i64 p1.f_Line, .int .i64 p1.f_At], .agg [.int .i64 p2.f_Line, .int .i64 p2.f_At], .int .i64 p3, .int .i64 p4, Z, .cp [.int .i64 p1.f_Line, .int .i64 p1.f_At], .bx 1 0, .bx 2 0, .bx 3 0, .own 0, .int .i64 0, Z, Z, Z, Z, Z, Z, Z], [none, some [.int .i64 p2.f_Line, .int .i64 p2.f_At], some [.int .i64 p3], some [.int .i64 p4]], [some ⟨55, 4, []⟩], 0⟩ (.shutB (b := 0) rfl (fun d h => by simpa using List.all_eq_true.1 (rfl : List.all [.int .i64 p1.f_Line, .int .i64 p1.f_At] (fun d => !d.tok) = true) d h) (.refl _)) rfl ?_
 refine ex_gst ⟨[.sl false (List.map c_api_Line p0), .agg [.int .i64 p1.f_Line, .int .i64 p1.f_At], .agg [.int .i64 p2.f_Line, .int .i64 p2.f_At], .int .i64 p3, .int .i64 p4, Z, .cp [.int .i64 p1.f_Line, .int .i64 p1.f_At], .cp [.int .i64 p2.f_Line, .int .i64 p2.f_At], .bx 2 0, .bx 3 0, .own 0, .int .i64 0, Z, Z, Z, Z, Z, Z, Z], [none, none, some [.int .i64 p3], some [.int .i64 p4]], [some ⟨55, 4, []⟩], 0⟩ (.shutB (b := 1) rfl (fun d h => by simpa using List.all_eq_true.1 (rfl : List.all [.int .i64 p2.f_Line, .int .i64 p2.f_At] (fun d => !d.tok) = true) d h) (.refl _)) rfl ?_
 refine ex_gst ⟨[.sl false (List.map c_api_Line p0), .agg [.int .i64 p1.f_Line, .int .i64 p1.f_At], .agg [.int .i64 p2.f_Line, .int .i64 p2.f_At], .int .i64 p3, .int .i64 p4, Z, .cp [.int .i64 p1.f_Line, .int .i64 p1.f_At], .cp [.int .i64 p2.f_Line, .int .i64 p2.f_At], .cp [.int .i64 p3], .bx 3 0, .own 0, .int .i64 0, Z, Z, Z, Z, Z, Z, Z], [none, none, none, some [.int .i64 p4]], [some ⟨55, 4, []⟩], 0⟩ (.shutB (b := 2) rfl (fun d h => by simpa using List.all_eq_true.1 (rfl : List.all [.int .i64 p3] (fun d => !d.tok) = true) d h) (.refl _)) rfl ?_
 refine ex_gst ⟨[.sl false (List.map c_api_Line p0), .agg [.int .i64 p1.f_Line, .int .i64 p1.f_At], .agg [.int .i64 p2.f_Line, .int .i64 p2.f_At], .int .i64 p3, .int .i64 p4, Z, .cp [.int .i64 p1.f_Line, .int .i64 p1.f_At], .cp [.int .i64 p2.f_Line, .int .i64 p2.f_At], .cp [.int .i64 p3], .cp [.int .i64 p4], .own 0, .int .i64 0, Z, Z, Z, Z, Z, Z, Z], [none, none, none, none], [some ⟨55, 4, []⟩], 0⟩ (.shutB (b := 3) rfl (fun d h => by simpa using List.all_eq_true.1 (rfl : List.all [.int .i64 p4] (fun d => !d.tok) = true) d h) (.refl _)) rfl ?_
 refine ex_ord [4] (l := [0, 1, 2, 3, 4, 5, 6, 7, 8]) rfl ?_
 refine pm 12 ?_
 refine pq 13 rfl (x_loadA rfl rfl rfl sz24 un24 ag24 rfl) ?_
 refine pq 14 rfl (x_loadA rfl rfl rfl sz24 un24 ag24 rfl) ?_
 refine pq 15 rfl (.func rfl rfl rfl) ?_
 obtain ⟨v1, hv1, h⟩ := bindS h
 refine e_ (d := .tup [.own 1, .int .i64 v1.2]) 16 rfl rfl rfl rfl rfl (b' := [none, none, none, none]) (r' := [some ⟨55, 4, []⟩, some ⟨55, 4, List.map c_api_Line v1.1⟩]) (x_call [] [] rfl rfl en69 (ok_doc_each ⟨en70, rfl, rfl⟩ (fun _ _ _ _ h => OkB.shut (ok_doc_Set_1 h) rfl) hv1) rfl rfl rfl rfl rfl rfl rfl rfl rfl rfl rfl rfl rfl rfl) rfl ?_
 refine pq 17 rfl (.extract rfl rfl rfl rfl) ?_
 refine pq 18 rfl (.extract rfl rfl rfl rfl) ?_
 refine pa 10 ?_
 refine pa 11 ?_
 refine we_nil ?_
 refine ex_ret ?_
 obtain rfl := Option.some.inj h
 exact finB (by first | exact .inr rfl | exact .inl rfl) (.refl _) [.own 1, .int .i64 v1.2] [1] [] (res_cons (res_tmp rfl) (res_cons (res_tmp rfl) res_nil)) rfl rfl rfl rfl rfl rfl rfl
set_option maxHeartbeats 8000000 in
theorem ok_quillworklaw07u_awake {r : Bool}  (h : quillworklaw07u_awake = some r) : OkB prog 11 [] [] [] (.bool r) [] [] := by
 unfold quillworklaw07u_awake at h
 refine okB_of_exG func11 rfl rfl (s0 := [Z, Z, Z, Z, Z, Z, Z, Z, Z, Z, Z, Z, Z, Z, Z, Z, Z, Z, Z, Z, Z, Z, Z, Z, Z, Z, Z, Z, Z, Z, Z, Z, Z, Z, Z, Z, Z, Z, Z, Z, Z, Z, Z, Z, Z, Z, Z, Z, Z, Z, Z, Z, Z, Z, Z, Z, Z, Z, Z, Z, Z, Z, Z, Z, Z, Z, Z, Z, Z, Z, Z, Z, Z, Z, Z, Z, Z, Z, Z, Z, Z, Z, Z, Z, Z, Z, Z, Z, Z, Z, Z, Z, Z, Z, Z, Z, Z, Z, Z, Z, Z, Z, Z, Z, Z, Z, Z, Z, Z, Z, Z, Z, Z, Z, Z, Z, Z, Z, Z, Z, Z, Z, Z, Z, Z, Z, Z]) (b0 := []) (r0 := []) rfl rfl rfl ?_
 show Ex _ _ _ ⟨[Z, Z, Z, Z, Z, Z, Z, Z, Z, Z, Z, Z, Z, Z, Z, Z, Z, Z, Z, Z, Z, Z, Z, Z, Z, Z, Z, Z, Z, Z, Z, Z, Z, Z, Z, Z, Z, Z, Z, Z, Z, Z, Z, Z, Z, Z, Z, Z, Z, Z, Z, Z, Z, Z, Z, Z, Z, Z, Z, Z, Z, Z, Z, Z, Z, Z, Z, Z, Z, Z, Z, Z, Z, Z, Z, Z, Z, Z, Z, Z, Z, Z, Z, Z, Z, Z, Z, Z, Z, Z, Z, Z, Z, Z, Z, Z, Z, Z, Z, Z, Z, Z, Z, Z, Z, Z, Z, Z, Z, Z, Z, Z, Z, Z, Z, Z, Z, Z, Z, Z, Z, Z, Z, Z, Z, Z, Z], [], [], 0⟩ _
 refine ex_seq ?_
 refine ex_ord [] (l := [0]) rfl ?_
 refine pa 0 ?_
 refine we_nil ?_
 refine ex_seq ?_
 refine ex_ord [2, 5, 7] (l := [0, 1, 2, 3, 4, 5, 6, 7, 8]) rfl ?_
 refine pq 15 rfl (x_build rfl pl58 ze58 rfl rfl rfl rfl) ?_
 refine pq 16 rfl (x_build rfl pl58 ze58 rfl rfl rfl rfl) ?_
 refine e_ (d := .sl false (List.map c_api_Cell ([(T_api_Cell.mk (97) (0) ([]) : T_api_Cell), (T_api_Cell.mk (98) (0) ([]) : T_api_Cell)]))) 17 rfl rfl rfl rfl rfl (b' := []) (r' := [none]) (x_litF (f := c_api_Cell) (l := ([(T_api_Cell.mk (97) (0) ([]) : T_api_Cell), (T_api_Cell.mk (98) (0) ([]) : T_api_Cell)])) rfl el46 rw58 zs58 rfl rfl rfl (by decide) (by decide) fl_api_Cell rfl) rfl ?_
 refine pq 18 rfl (x_build rfl pl55 ze55 rfl rfl rfl rfl) ?_
 refine pq 19 rfl (x_build rfl pl58 ze58 rfl rfl rfl rfl) ?_
 refine e_ (d := .sl false (List.map c_api_Cell ([(T_api_Cell.mk (99) (0) ([]) : T_api_Cell)]))) 20 rfl rfl rfl rfl rfl (b' := []) (r' := [none, none]) (x_litF (f := c_api_Cell) (l := ([(T_api_Cell.mk (99) (0) ([]) : T_api_Cell)])) rfl el46 rw58 zs58 rfl rfl rfl (by decide) (by decide) fl_api_Cell rfl) rfl ?_
 refine pq 21 rfl (x_build rfl pl55 ze55 rfl rfl rfl rfl) ?_
 refine e_ (d := .own 2) 22 rfl rfl rfl rfl rfl (b' := []) (r' := [none, none, some ⟨55, 4, List.map c_api_Line ([(T_api_Line.mk (0) ([]) (0) ([(T_api_Cell.mk (97) (0) ([]) : T_api_Cell), (T_api_Cell.mk (98) (0) ([]) : T_api_Cell)]) : T_api_Line), (T_api_Line.mk (0) ([]) (1) ([(T_api_Cell.mk (99) (0) ([]) : T_api_Cell)]) : T_api_Line)])⟩]) (x_lit (f := c_api_Line) (l := ([(T_api_Line.mk (0) ([]) (0) ([(T_api_Cell.mk (97) (0) ([]) : T_api_Cell), (T_api_Cell.mk (98) (0) ([]) : T_api_Cell)]) : T_api_Line), (T_api_Line.mk (0) ([]) (1) ([(T_api_Cell.mk (99) (0) ([]) : T_api_Cell)]) : T_api_Line)])) rfl el22 rw55 zs55 rfl rfl rfl (by decide) (by decide) fl_api_Line rfl) rfl ?_
 refine pa 1 ?_
 refine we_nil ?_
 refine ex_seq ?_
 refine ex_gst ⟨[.bool false, .sl false (List.map c_api_Line ([(T_api_Line.mk (0) ([]) (0) ([(T_api_Cell.mk (97) (0) ([]) : T_api_Cell), (T_api_Cell.mk (98) (0) ([]) : T_api_Cell)]) : T_api_Line), (T_api_Line.mk (0) ([]) (1) ([(T_api_Cell.mk (99) (0) ([]) : T_api_Cell)]) : T_api_Line)])), Z, Z, Z, Z, Z, Z, Z, Z, Z, Z, Z, Z, Z, .agg [.int .i32 97, .int .i64 0, .str (bs [])], .agg [.int .i32 98, .int .i64 0, .str (bs [])], .sl false (List.map c_api_Cell ([(T_api_Cell.mk (97) (0) ([]) : T_api_Cell), (T_api_Cell.mk (98) (0) ([]) : T_api_Cell)])), .agg [.int .i64 0, .sl false [], .int .i64 0, .sl false (List.map c_api_Cell ([(T_api_Cell.mk (97) (0) ([]) : T_api_Cell), (T_api_Cell.mk (98) (0) ([]) : T_api_Cell)]))], .agg [.int .i32 99, .int .i64 0, .str (bs [])], .sl false (List.map c_api_Cell ([(T_api_Cell.mk (99) (0) ([]) : T_api_Cell)])), .agg [.int .i64 0, .sl false [], .int .i64 1, .sl false (List.map c_api_Cell ([(T_api_Cell.mk (99) (0) ([]) : T_api_Cell)]))], .sl false (List.map c_api_Line ([(T_api_Line.mk (0) ([]) (0) ([(T_api_Cell.mk (97) (0) ([]) : T_api_Cell), (T_api_Cell.mk (98) (0) ([]) : T_api_Cell)]) : T_api_Line), (T_api_Line.mk (0) ([]) (1) ([(T_api_Cell.mk (99) (0) ([]) : T_api_Cell)]) : T_api_Line)])), Z, Z, Z, Z, Z, Z, Z, Z, Z, Z, Z, Z, Z, Z, Z, Z, Z, Z, Z, Z, Z, Z, Z, Z, Z, Z, Z, Z, Z, Z, Z, Z, Z, Z, Z, Z, Z, Z, Z, Z, Z, Z, Z, Z, Z, Z, Z, Z, Z, Z, Z, Z, Z, Z, Z, Z, Z, Z, Z, Z, Z, Z, Z, Z, Z, Z, Z, Z, Z, Z, Z, Z, Z, Z, Z, Z, Z, Z, Z, Z, Z, Z, Z, Z, Z, Z, Z, Z, Z, Z, Z, Z, Z, Z, Z, Z, Z, Z, Z, Z, Z, Z, Z, Z], [], [none, none, none], 0⟩ (.shutR false (t := 2) rfl (.refl _)) rfl ?_
 refine ex_ord [] (l := [0, 1, 2, 3, 4, 5, 6, 7]) rfl ?_
 refine pm 24 ?_
 refine pq 25 rfl (x_build rfl pl24 ze24 rfl rfl rfl rfl) ?_
 obtain ⟨v1, hv1, h⟩ := bindS h
 refine pq 26 rfl (x_callP rfl rfl en25 (ok_doc_Offset hv1) rfl rfl rfl rfl rfl) ?_
 refine pm 23 ?_
 refine pq 27 rfl (.extract rfl rfl rfl rfl) ?_
 refine pq 28 rfl (.extract rfl rfl rfl rfl) ?_
 refine pa 2 ?_
 refine pa 3 ?_
 refine we_nil ?_
 refine ex_seq ?_
 refine ex_ord [5, 6] (l := [0, 1, 2, 3, 4, 5, 6, 7]) rfl ?_
 refine pm 30 ?_
 obtain ⟨v2, hv2, h⟩ := bindS h
 refine pq 31 rfl (x_callP rfl rfl en27 (ok_doc_At hv2) rfl rfl rfl rfl rfl) ?_
 refine pm 29 ?_
 refine pq 32 rfl (.extract rfl rfl rfl rfl) ?_
 refine pq 33 rfl (.extract rfl rfl rfl rfl) ?_
 refine e_ (d := .bx 0 0) 4 rfl rfl rfl rfl rfl (b' := [some [.int .i64 0, .int .i64 0]]) (r' := [none, none, none]) (.alloc rfl ze24) rfl ?_
 refine e0 rfl rfl rfl rfl rfl (b' := [some [.int .i64 v2.1.f_Line, .int .i64 v2.1.f_At]]) (r' := [none, none, none]) (.store rfl rfl rfl sz24 rfl rfl rfl) rfl ?_
 refine pa 5 ?_
 refine we_nil ?_
 refine ex_seq ?_
 refine ex_gst ⟨[.bool false, .sl false (List.map c_api_Line ([(T_api_Line.mk (0) ([]) (0) ([(T_api_Cell.mk (97) (0) ([]) : T_api_Cell), (T_api_Cell.mk (98) (0) ([]) : T_api_Cell)]) : T_api_Line), (T_api_Line.mk (0) ([]) (1) ([(T_api_Cell.mk (99) (0) ([]) : T_api_Cell)]) : T_api_Line)])), .int .i64 v1.1, .int .i64 v1.2, .cp [.int .i64 v2.1.f_Line, .int .i64 v2.1.f_At], .int .i64 v2.2, Z, Z, Z, Z, Z, Z, Z, Z, Z, .agg [.int .i32 97, .int .i64 0, .str (bs [])], .agg [.int .i32 98, .int .i64 0, .str (bs [])], .sl false (List.map c_api_Cell ([(T_api_Cell.mk (97) (0) ([]) : T_api_Cell), (T_api_Cell.mk (98) (0) ([]) : T_api_Cell)])), .agg [.int .i64 0, .sl false [], .int .i64 0, .sl false (List.map c_api_Cell ([(T_api_Cell.mk (97) (0) ([]) : T_api_Cell), (T_api_Cell.mk (98) (0) ([]) : T_api_Cell)]))], .agg [.int .i32 99, .int .i64 0, .str (bs [])], .sl false (List.map c_api_Cell ([(T_api_Cell.mk (99) (0) ([]) : T_api_Cell)])), .agg [.int .i64 0, .sl false [], .int .i64 1, .sl false (List.map c_api_Cell ([(T_api_Cell.mk (99) (0) ([]) : T_api_Cell)]))], .sl false (List.map c_api_Line ([(T_api_Line.mk (0) ([]) (0) ([(T_api_Cell.mk (97) (0) ([]) : T_api_Cell), (T_api_Cell.mk (98) (0) ([]) : T_api_Cell)]) : T_api_Line), (T_api_Line.mk (0) ([]) (1) ([(T_api_Cell.mk (99) (0) ([]) : T_api_Cell)]) : T_api_Line)])), .tup [.int .i64 v1.1, .int .i64 v1.2], .sl false (List.map c_api_Line ([(T_api_Line.mk (0) ([]) (0) ([(T_api_Cell.mk (97) (0) ([]) : T_api_Cell), (T_api_Cell.mk (98) (0) ([]) : T_api_Cell)]) : T_api_Line), (T_api_Line.mk (0) ([]) (1) ([(T_api_Cell.mk (99) (0) ([]) : T_api_Cell)]) : T_api_Line)])), .agg [.int .i64 1, .int .i64 0], .tup [.int .i64 v1.1, .int .i64 v1.2], .int .i64 v1.1, .int .i64 v1.2, .tup [.agg [.int .i64 v2.1.f_Line, .int .i64 v2.1.f_At], .int .i64 v2.2], .sl false (List.map c_api_Line ([(T_api_Line.mk (0) ([]) (0) ([(T_api_Cell.mk (97) (0) ([]) : T_api_Cell), (T_api_Cell.mk (98) (0) ([]) : T_api_Cell)]) : T_api_Line), (T_api_Line.mk (0) ([]) (1) ([(T_api_Cell.mk (99) (0) ([]) : T_api_Cell)]) : T_api_Line)])), .tup [.agg [.int .i64 v2.1.f_Line, .int .i64 v2.1.f_At], .int .i64 v2.2], .agg [.int .i64 v2.1.f_Line, .int .i64 v2.1.f_At], .int .i64 v2.2, Z, Z, Z, Z, Z, Z, Z, Z, Z, Z, Z, Z, Z, Z, Z, Z, Z, Z, Z, Z, Z, Z, Z, Z, Z, Z, Z, Z, Z, Z, Z, Z, Z, Z, Z, Z, Z, Z, Z, Z, Z, Z, Z, Z, Z, Z, Z, Z, Z, Z, Z, Z, Z, Z, Z, Z, Z, Z, Z, Z, Z, Z, Z, Z, Z, Z, Z, Z, Z, Z, Z, Z, Z, Z, Z, Z, Z, Z, Z, Z, Z, Z, Z, Z, Z, Z, Z, Z, Z, Z, Z, Z, Z], [none], [none, none, none], 0⟩ (.shutB (b := 0) rfl (fun d h => by simpa using List.all_eq_true.1 (rfl : List.all [.int .i64 v2.1.f_Line, .int .i64 v2.1.f_At] (fun d => !d.tok) = true) d h) (.refl _)) rfl ?_
 refine ex_ord [6, 7] (l := [0, 1, 2, 3, 4, 5, 6, 7, 8]) rfl ?_
 refine pm 35 ?_
 refine pq 36 rfl (x_build rfl pl24 ze24 rfl rfl rfl rfl) ?_
 obtain ⟨v3, hv3, h⟩ := bindS h
 refine pq 37 rfl (x_callP rfl rfl en29 (ok_doc_Step hv3) rfl rfl rfl rfl rfl) ?_
 refine pm 34 ?_
 refine pq 38 rfl (.extract rfl rfl rfl rfl) ?_
 refine pq 39 rfl (.extract rfl rfl rfl rfl) ?_
 refine e_ (d := .bx 1 0) 6 rfl rfl rfl rfl rfl (b' := [none, some [.int .i64 0, .int .i64 0]]) (r' := [none, none, none]) (.alloc rfl ze24) rfl ?_
 refine e0 rfl rfl rfl rfl rfl (b' := [none, some [.int .i64 v3.1.f_Line, .int .i64 v3.1.f_At]]) (r' := [none, none, none]) (.store rfl rfl rfl sz24 rfl rfl rfl) rfl ?_
 refine pa 7 ?_
 refine we_nil ?_
 refine ex_seq ?_
 refine ex_gst ⟨[.bool false, .sl false (List.map c_api_Line ([(T_api_Line.mk (0) ([]) (0) ([(T_api_Cell.mk (97) (0) ([]) : T_api_Cell), (T_api_Cell.mk (98) (0) ([]) : T_api_Cell)]) : T_api_Line), (T_api_Line.mk (0) ([]) (1) ([(T_api_Cell.mk (99) (0) ([]) : T_api_Cell)]) : T_api_Line)])), .int .i64 v1.1, .int .i64 v1.2, .cp [.int .i64 v2.1.f_Line, .int .i64 v2.1.f_At], .int .i64 v2.2, .cp [.int .i64 v3.1.f_Line, .int .i64 v3.1.f_At], .bool v3.2, Z, Z, Z, Z, Z, Z, Z, .agg [.int .i32 97, .int .i64 0, .str (bs [])], .agg [.int .i32 98, .int .i64 0, .str (bs [])], .sl false (List.map c_api_Cell ([(T_api_Cell.mk (97) (0) ([]) : T_api_Cell), (T_api_Cell.mk (98) (0) ([]) : T_api_Cell)])), .agg [.int .i64 0, .sl false [], .int .i64 0, .sl false (List.map c_api_Cell ([(T_api_Cell.mk (97) (0) ([]) : T_api_Cell), (T_api_Cell.mk (98) (0) ([]) : T_api_Cell)]))], .agg [.int .i32 99, .int .i64 0, .str (bs [])], .sl false (List.map c_api_Cell ([(T_api_Cell.mk (99) (0) ([]) : T_api_Cell)])), .agg [.int .i64 0, .sl false [], .int .i64 1, .sl false (List.map c_api_Cell ([(T_api_Cell.mk (99) (0) ([]) : T_api_Cell)]))], .sl false (List.map c_api_Line ([(T_api_Line.mk (0) ([]) (0) ([(T_api_Cell.mk (97) (0) ([]) : T_api_Cell), (T_api_Cell.mk (98) (0) ([]) : T_api_Cell)]) : T_api_Line), (T_api_Line.mk (0) ([]) (1) ([(T_api_Cell.mk (99) (0) ([]) : T_api_Cell)]) : T_api_Line)])), .tup [.int .i64 v1.1, .int .i64 v1.2], .sl false (List.map c_api_Line ([(T_api_Line.mk (0) ([]) (0) ([(T_api_Cell.mk (97) (0) ([]) : T_api_Cell), (T_api_Cell.mk (98) (0) ([]) : T_api_Cell)]) : T_api_Line), (T_api_Line.mk (0) ([]) (1) ([(T_api_Cell.mk (99) (0) ([]) : T_api_Cell)]) : T_api_Line)])), .agg [.int .i64 1, .int .i64 0], .tup [.int .i64 v1.1, .int .i64 v1.2], .int .i64 v1.1, .int .i64 v1.2, .tup [.agg [.int .i64 v2.1.f_Line, .int .i64 v2.1.f_At], .int .i64 v2.2], .sl false (List.map c_api_Line ([(T_api_Line.mk (0) ([]) (0) ([(T_api_Cell.mk (97) (0) ([]) : T_api_Cell), (T_api_Cell.mk (98) (0) ([]) : T_api_Cell)]) : T_api_Line), (T_api_Line.mk (0) ([]) (1) ([(T_api_Cell.mk (99) (0) ([]) : T_api_Cell)]) : T_api_Line)])), .tup [.agg [.int .i64 v2.1.f_Line, .int .i64 v2.1.f_At], .int .i64 v2.2], .agg [.int .i64 v2.1.f_Line, .int .i64 v2.1.f_At], .int .i64 v2.2, .tup [.agg [.int .i64 v3.1.f_Line, .int .i64 v3.1.f_At], .bool v3.2], .sl false (List.map c_api_Line ([(T_api_Line.mk (0) ([]) (0) ([(T_api_Cell.mk (97) (0) ([]) : T_api_Cell), (T_api_Cell.mk (98) (0) ([]) : T_api_Cell)]) : T_api_Line), (T_api_Line.mk (0) ([]) (1) ([(T_api_Cell.mk (99) (0) ([]) : T_api_Cell)]) : T_api_Line)])), .agg [.int .i64 0, .int .i64 1], .tup [.agg [.int .i64 v3.1.f_Line, .int .i64 v3.1.f_At], .bool v3.2], .agg [.int .i64 v3.1.f_Line, .int .i64 v3.1.f_At], .bool v3.2, Z, Z, Z, Z, Z, Z, Z, Z, Z, Z, Z, Z, Z, Z, Z, Z, Z, Z, Z, Z, Z, Z, Z, Z, Z, Z, Z, Z, Z, Z, Z, Z, Z, Z, Z, Z, Z, Z, Z, Z, Z, Z, Z, Z, Z, Z, Z, Z, Z, Z, Z, Z, Z, Z, Z, Z, Z, Z, Z, Z, Z, Z, Z, Z, Z, Z, Z, Z, Z, Z, Z, Z, Z, Z, Z, Z, Z, Z, Z, Z, Z, Z, Z, Z, Z, Z, Z], [none, none], [none, none, none], 0⟩ (.shutB (b := 1) rfl (fun d h => by simpa using List.all_eq_true.1 (rfl : List.all [.int .i64 v3.1.f_Line, .int .i64 v3.1.f_At] (fun d => !d.tok) = true) d h) (.refl _)) rfl ?_
 refine ex_ord [3] (l := [0, 1, 2, 3, 4, 5, 6, 7, 8]) rfl ?_
 refine pm 41 ?_
 refine pq 42 rfl (x_build rfl pl24 ze24 rfl rfl rfl rfl) ?_
 refine pq 43 rfl (x_build rfl pl24 ze24 rfl rfl rfl rfl) ?_
 obtain ⟨v4, hv4, h⟩ := bindS h
 refine e_ (d := .tup [.own 3, .int .i64 v4.2]) 44 rfl rfl rfl rfl rfl (b' := [none, none]) (r' := [none, none, none, some ⟨55, 4, List.map c_api_Line v4.1⟩]) (x_call [] [] rfl rfl en49 (ok_doc_Delete hv4) rfl rfl rfl rfl rfl rfl rfl rfl rfl rfl rfl rfl rfl rfl) rfl ?_
 refine pm 40 ?_
 refine pq 45 rfl (.extract rfl rfl rfl rfl) ?_
 refine pq 46 rfl (.extract rfl rfl rfl rfl) ?_
 refine pa 8 ?_
 refine pa 9 ?_
 refine we_nil ?_
 refine ex_seq ?_
 refine ex_ord [2, 7, 9] (l := [0, 1, 2, 3, 4, 5, 6, 7, 8, 9, 10]) rfl ?_
 refine pm 48 ?_
 refine pq 49 rfl (x_build rfl pl24 ze24 rfl rfl rfl rfl) ?_
 obtain ⟨v5, hv5, h⟩ := bindS h
 refine e_ (d := .tup [.own 4, .agg [.int .i64 v5.2.1.f_Line, .int .i64 v5.2.1.f_At], .int .i64 v5.2.2]) 50 rfl rfl rfl rfl rfl (b' := [none, none]) (r' := [none, none, none, some ⟨55, 4, List.map c_api_Line v4.1⟩, some ⟨55, 4, List.map c_api_Line v5.1⟩]) (x_call [] [] rfl rfl en56 (ok_doc_Split hv5) rfl rfl rfl rfl rfl rfl rfl rfl rfl rfl rfl rfl rfl rfl) rfl ?_
 refine pm 47 ?_
 refine pq 51 rfl (.extract rfl rfl rfl rfl) ?_
 refine pq 52 rfl (.extract rfl rfl rfl rfl) ?_
 refine pq 53 rfl (.extract rfl rfl rfl rfl) ?_
 refine e_ (d := .bx 2 0) 11 rfl rfl rfl rfl rfl (b' := [none, none, some [.int .i64 0, .int .i64 0]]) (r' := [none, none, none, some ⟨55, 4, List.map c_api_Line v4.1⟩, some ⟨55, 4, List.map c_api_Line v5.1⟩]) (.alloc rfl ze24) rfl ?_
 refine pa 10 ?_
 refine e0 rfl rfl rfl rfl rfl (b' := [none, none, some [.int .i64 v5.2.1.f_Line, .int .i64 v5.2.1.f_At]]) (r' := [none, none, none, some ⟨55, 4, List.map c_api_Line v4.1⟩, some ⟨55, 4, List.map c_api_Line v5.1⟩]) (.store rfl rfl rfl sz24 rfl rfl rfl) rfl ?_
 refine pa 12 ?_
 refine we_nil ?_
 refine ex_seq ?_
 refine ex_gst ⟨[.bool false, .sl false (List.map c_api_Line ([(T_api_Line.mk (0) ([]) (0) ([(T_api_Cell.mk (97) (0) ([]) : T_api_Cell), (T_api_Cell.mk (98) (0) ([]) : T_api_Cell)]) : T_api_Line), (T_api_Line.mk (0) ([]) (1) ([(T_api_Cell.mk (99) (0) ([]) : T_api_Cell)]) : T_api_Line)])), .int .i64 v1.1, .int .i64 v1.2, .cp [.int .i64 v2.1.f_Line, .int .i64 v2.1.f_At], .int .i64 v2.2, .cp [.int .i64 v3.1.f_Line, .int .i64 v3.1.f_At], .bool v3.2, .own 3, .int .i64 v4.2, .own 4, .cp [.int .i64 v5.2.1.f_Line, .int .i64 v5.2.1.f_At], .int .i64 v5.2.2, Z, Z, .agg [.int .i32 97, .int .i64 0, .str (bs [])], .agg [.int .i32 98, .int .i64 0, .str (bs [])], .sl false (List.map c_api_Cell ([(T_api_Cell.mk (97) (0) ([]) : T_api_Cell), (T_api_Cell.mk (98) (0) ([]) : T_api_Cell)])), .agg [.int .i64 0, .sl false [], .int .i64 0, .sl false (List.map c_api_Cell ([(T_api_Cell.mk (97) (0) ([]) : T_api_Cell), (T_api_Cell.mk (98) (0) ([]) : T_api_Cell)]))], .agg [.int .i32 99, .int .i64 0, .str (bs [])], .sl false (List.map c_api_Cell ([(T_api_Cell.mk (99) (0) ([]) : T_api_Cell)])), .agg [.int .i64 0, .sl false [], .int .i64 1, .sl false (List.map c_api_Cell ([(T_api_Cell.mk (99) (0) ([]) : T_api_Cell)]))], .sl false (List.map c_api_Line ([(T_api_Line.mk (0) ([]) (0) ([(T_api_Cell.mk (97) (0) ([]) : T_api_Cell), (T_api_Cell.mk (98) (0) ([]) : T_api_Cell)]) : T_api_Line), (T_api_Line.mk (0) ([]) (1) ([(T_api_Cell.mk (99) (0) ([]) : T_api_Cell)]) : T_api_Line)])), .tup [.int .i64 v1.1, .int .i64 v1.2], .sl false (List.map c_api_Line ([(T_api_Line.mk (0) ([]) (0) ([(T_api_Cell.mk (97) (0) ([]) : T_api_Cell), (T_api_Cell.mk (98) (0) ([]) : T_api_Cell)]) : T_api_Line), (T_api_Line.mk (0) ([]) (1) ([(T_api_Cell.mk (99) (0) ([]) : T_api_Cell)]) : T_api_Line)])), .agg [.int .i64 1, .int .i64 0], .tup [.int .i64 v1.1, .int .i64 v1.2], .int .i64 v1.1, .int .i64 v1.2, .tup [.agg [.int .i64 v2.1.f_Line, .int .i64 v2.1.f_At], .int .i64 v2.2], .sl false (List.map c_api_Line ([(T_api_Line.mk (0) ([]) (0) ([(T_api_Cell.mk (97) (0) ([]) : T_api_Cell), (T_api_Cell.mk (98) (0) ([]) : T_api_Cell)]) : T_api_Line), (T_api_Line.mk (0) ([]) (1) ([(T_api_Cell.mk (99) (0) ([]) : T_api_Cell)]) : T_api_Line)])), .tup [.agg [.int .i64 v2.1.f_Line, .int .i64 v2.1.f_At], .int .i64 v2.2], .agg [.int .i64 v2.1.f_Line, .int .i64 v2.1.f_At], .int .i64 v2.2, .tup [.agg [.int .i64 v3.1.f_Line, .int .i64 v3.1.f_At], .bool v3.2], .sl false (List.map c_api_Line ([(T_api_Line.mk (0) ([]) (0) ([(T_api_Cell.mk (97) (0) ([]) : T_api_Cell), (T_api_Cell.mk (98) (0) ([]) : T_api_Cell)]) : T_api_Line), (T_api_Line.mk (0) ([]) (1) ([(T_api_Cell.mk (99) (0) ([]) : T_api_Cell)]) : T_api_Line)])), .agg [.int .i64 0, .int .i64 1], .tup [.agg [.int .i64 v3.1.f_Line, .int .i64 v3.1.f_At], .bool v3.2], .agg [.int .i64 v3.1.f_Line, .int .i64 v3.1.f_At], .bool v3.2, .tup [.own 3, .int .i64 v4.2], .sl false (List.map c_api_Line ([(T_api_Line.mk (0) ([]) (0) ([(T_api_Cell.mk (97) (0) ([]) : T_api_Cell), (T_api_Cell.mk (98) (0) ([]) : T_api_Cell)]) : T_api_Line), (T_api_Line.mk (0) ([]) (1) ([(T_api_Cell.mk (99) (0) ([]) : T_api_Cell)]) : T_api_Line)])), .agg [.int .i64 0, .int .i64 1], .agg [.int .i64 1, .int .i64 0], .tup [.own 3, .int .i64 v4.2], .own 3, .int .i64 v4.2, .tup [.own 4, .agg [.int .i64 v5.2.1.f_Line, .int .i64 v5.2.1.f_At], .int .i64 v5.2.2], .sl false (List.map c_api_Line ([(T_api_Line.mk (0) ([]) (0) ([(T_api_Cell.mk (97) (0) ([]) : T_api_Cell), (T_api_Cell.mk (98) (0) ([]) : T_api_Cell)]) : T_api_Line), (T_api_Line.mk (0) ([]) (1) ([(T_api_Cell.mk (99) (0) ([]) : T_api_Cell)]) : T_api_Line)])), .agg [.int .i64 1, .int .i64 1], .tup [.own 4, .agg [.int .i64 v5.2.1.f_Line, .int .i64 v5.2.1.f_At], .int .i64 v5.2.2], .own 4, .agg [.int .i64 v5.2.1.f_Line, .int .i64 v5.2.1.f_At], .int .i64 v5.2.2, Z, Z, Z, Z, Z, Z, Z, Z, Z, Z, Z, Z, Z, Z, Z, Z, Z, Z, Z, Z, Z, Z, Z, Z, Z, Z, Z, Z, Z, Z, Z, Z, Z, Z, Z, Z, Z, Z, Z, Z, Z, Z, Z, Z, Z, Z, Z, Z, Z, Z, Z, Z, Z, Z, Z, Z, Z, Z, Z, Z, Z, Z, Z, Z, Z, Z, Z, Z, Z, Z, Z, Z, Z], [none, none, none], [none, none, none, some ⟨55, 4, List.map c_api_Line v4.1⟩, some ⟨55, 4, List.map c_api_Line v5.1⟩], 0⟩ (.shutB (b := 2) rfl (fun d h => by simpa using List.all_eq_true.1 (rfl : List.all [.int .i64 v5.2.1.f_Line, .int .i64 v5.2.1.f_At] (fun d => !d.tok) = true) d h) (.refl _)) rfl ?_
 refine ex_ord [3] (l := [0, 1, 2, 3, 4, 5, 6, 7, 8]) rfl ?_
 refine pm 55 ?_
 refine pq 56 rfl (x_build rfl pl24 ze24 rfl rfl rfl rfl) ?_
 refine pq 57 rfl (x_build rfl pl24 ze24 rfl rfl rfl rfl) ?_
 obtain ⟨v6, hv6, h⟩ := bindS h
 refine e_ (d := .tup [.own 5, .int .i64 v6.2]) 58 rfl rfl rfl rfl rfl (b' := [none, none, none]) (r' := [none, none, none, some ⟨55, 4, List.map c_api_Line v4.1⟩, some ⟨55, 4, List.map c_api_Line v5.1⟩, some ⟨55, 4, List.map c_api_Line v6.1⟩]) (x_call [] [] rfl rfl en34 (ok_doc_Set hv6) rfl rfl rfl rfl rfl rfl rfl rfl rfl rfl rfl rfl rfl rfl) rfl ?_
 refine pm 54 ?_
 refine pq 59 rfl (.extract rfl rfl rfl rfl) ?_
 refine pq 60 rfl (.extract rfl rfl rfl rfl) ?_
 refine pa 13 ?_
 refine pa 14 ?_
 refine we_nil ?_
 refine ex_seq ?_
 obtain ⟨q7, hq, h⟩ := bindS h
 refine ex_cut ⟨[.bool q7, Z, Z, Z, Z, Z, Z, Z, Z, Z, Z, Z, Z, Z, Z, Z, Z, Z, Z, Z, Z, Z, Z, Z, Z, Z, Z, Z, Z, Z, Z, Z, Z, Z, Z, Z, Z, Z, Z, Z, Z, Z, Z, Z, Z, Z, Z, Z, Z, Z, Z, Z, Z, Z, Z, Z, Z, Z, Z, Z, Z, Z, Z, Z, Z, Z, Z, Z, Z, Z, Z, Z, Z, Z, Z, Z, Z, Z, Z, Z, Z, Z, Z, Z, Z, Z, Z, Z, Z, Z, Z, Z, Z, Z, Z, Z, Z, Z, Z, Z, Z, Z, Z, Z, Z, Z, Z, Z, Z, Z, Z, Z, Z, Z, Z, Z, Z, Z, Z, Z, Z, Z, Z, Z, Z, Z, Z], [], [], 0⟩ ?_ ?_
 ·clear h
  have h := hq
  clear hq
  refine ex_ord [] (l := [0, 1, 2, 3, 4, 5, 6, 7, 8, 9, 10, 11, 12, 13, 14, 15, 16, 17, 18, 19, 20, 21, 22, 23, 24, 25, 26, 27, 28, 29, 30, 31, 32, 33, 34, 35, 36, 37, 38, 39, 40, 41, 42, 43, 44, 45, 46, 47, 48, 49, 50, 51, 52, 53, 54, 55, 56, 57, 58, 59, 60, 61, 62, 63, 64, 65, 66]) rfl ?_
  refine pm 61 ?_
  refine pif 62 rfl rfl rfl rfl (.bin rfl rfl rfl rfl) ?_ ?_
  ·intro hc
   replace h := iteT h hc
   refine pm 63 ?_
   refine pm 64 ?_
   refine pif 65 rfl rfl rfl rfl (.bin rfl rfl rfl rfl) ?_ ?_
   ·intro hc
    replace h := iteT h hc
    refine pq 66 rfl (x_pickT rfl rfl rfl rfl) ?_
    refine pm 67 ?_
    refine pq 68 rfl (x_loadA rfl rfl rfl sz24 un24 ag24 rfl) ?_
    refine pq 69 rfl (x_build rfl pl24 ze24 rfl rfl rfl rfl) ?_
    refine pif 70 rfl rfl rfl rfl (x_eqG (b := ((v2.1.f_Line : Int) == 0) && (((v2.1.f_At : Int) == 2) && true)) rfl rfl rfl eq24 rfl (by simp only [List.all_cons, List.all_nil, bs_beq, id_eq])) ?_ ?_
    ·intro hc
     replace h := iteT h hc
     refine pq 71 rfl (x_pickT rfl rfl rfl rfl) ?_
     refine pm 72 ?_
     refine pm 73 ?_
     refine pif 74 rfl rfl rfl rfl (.bin rfl rfl rfl rfl) ?_ ?_
     ·intro hc
      replace h := iteT h hc
      refine pq 75 rfl (x_pickT rfl rfl rfl rfl) ?_
      refine pm 76 ?_
      refine pq 77 rfl (x_loadA rfl rfl rfl sz24 un24 ag24 rfl) ?_
      refine pq 78 rfl (x_build rfl pl24 ze24 rfl rfl rfl rfl) ?_
      refine pif 79 rfl rfl rfl rfl (x_eqG (b := ((v3.1.f_Line : Int) == 0) && (((v3.1.f_At : Int) == 0) && true)) rfl rfl rfl eq24 rfl (by simp only [List.all_cons, List.all_nil, bs_beq, id_eq])) ?_ ?_
      ·intro hc
       replace h := iteT h hc
       refine pq 80 rfl (x_pickT rfl rfl rfl rfl) ?_
       refine pm 81 ?_
       refine pif 82 rfl rfl rfl rfl (.move rfl rfl) ?_ ?_
       ·intro hc
        replace h := iteT h hc
        refine pq 83 rfl (.un rfl rfl rfl) ?_
        refine pq 84 rfl (x_pickT rfl rfl rfl rfl) ?_
        refine pm 85 ?_
        refine kq 86 ?_
        refine kq 87 ?_
        refine pq 88 rfl (x_pickF rfl rfl rfl rfl) ?_
        refine pm 89 ?_
        refine kq 90 ?_
        refine kq 91 ?_
        refine kq 92 ?_
        refine pq 93 rfl (x_pickF rfl rfl rfl rfl) ?_
        refine pm 94 ?_
        refine kq 95 ?_
        refine kq 96 ?_
        refine kq 97 ?_
        refine kq 98 ?_
        refine kq 99 ?_
        refine kq 100 ?_
        refine pq 101 rfl (x_pickF rfl rfl rfl rfl) ?_
        refine pm 102 ?_
        refine kq 103 ?_
        refine kq 104 ?_
        refine pq 105 rfl (x_pickF rfl rfl rfl rfl) ?_
        refine pm 106 ?_
        refine kq 107 ?_
        refine kq 108 ?_
        refine kq 109 ?_
        refine pq 110 rfl (x_pickF rfl rfl rfl rfl) ?_
        refine pm 111 ?_
        refine kq 112 ?_
        refine kq 113 ?_
        refine kq 114 ?_
        refine kq 115 ?_
        refine kq 116 ?_
        refine pq 117 rfl (x_pickF rfl rfl rfl rfl) ?_
        refine pm 118 ?_
        refine kq 119 ?_
        refine kq 120 ?_
        refine kq 121 ?_
        refine pq 122 rfl (x_pickF rfl rfl rfl rfl) ?_
        refine pm 123 ?_
        refine kq 124 ?_
        refine kq 125 ?_
        refine pq 126 rfl (x_pickF rfl rfl rfl rfl) ?_
        refine pa 0 ?_
        refine we_nil ?_
        cases h
        exact ⟨rfl, _, .re (rl [0, 1, 126]) [] [] rfl (.refl _), rfl⟩
       ·intro hc
        replace h := iteF h hc
        refine pq 83 rfl (.un rfl rfl rfl) ?_
        refine pq 84 rfl (x_pickT rfl rfl rfl rfl) ?_
        refine pm 85 ?_
        refine pm 86 ?_
        refine pif 87 rfl rfl rfl rfl (.bin rfl rfl rfl rfl) ?_ ?_
        ·intro hc
         replace h := iteT h hc
         refine pq 88 rfl (x_pickT rfl rfl rfl rfl) ?_
         refine pm 89 ?_
         refine pm 90 ?_
         refine pq 91 rfl (x_len (f := c_api_Line) (l := v4.1) rfl rfl rfl el22) ?_
         refine pif 92 rfl rfl rfl rfl (.bin rfl rfl rfl rfl) ?_ ?_
         ·intro hc
          replace h := iteT h hc
          refine pq 93 rfl (x_pickT rfl rfl rfl rfl) ?_
          refine pm 94 ?_
          refine pm 95 ?_
          obtain ⟨v8, hv8, h⟩ := bindS h
          refine pq 96 rfl (x_idxO (f := c_api_Line) (l := v4.1) rfl rfl rfl rfl rfl el22 sz55 hv8 rfl) ?_
          refine pq 97 rfl (.fieldAddr rfl rfl rfl fl55u_3 rfl) ?_
          obtain ⟨v9, hv9, h⟩ := bindS h
          refine pq 98 rfl (x_load rfl rfl (at_ex (f := c_api_Line) (xs := v4.1) (c := [.int .i64 v9.f_Quote, .sl false (List.map c_i64 v9.f_Lists), .int .i64 v9.f_Kind, .sl false (List.map c_api_Cell v9.f_Cells)]) rfl rfl (getI_some hv9).2 rfl (Nat.le_of_ble_eq_true rfl)) sz46 un46 ag46 rfl) ?_
          refine pq 99 rfl (x_len (f := c_api_Cell) (l := v9.f_Cells) rfl rfl rfl el46) ?_
          refine pif 100 rfl rfl rfl rfl (.bin rfl rfl rfl rfl) ?_ ?_
          ·intro hc
           replace h := iteT h hc
           refine pq 101 rfl (x_pickT rfl rfl rfl rfl) ?_
           refine pm 102 ?_
           refine pm 103 ?_
           refine pif 104 rfl rfl rfl rfl (.bin rfl rfl rfl rfl) ?_ ?_
           ·intro hc
            replace h := iteT h hc
            refine pq 105 rfl (x_pickT rfl rfl rfl rfl) ?_
            refine pm 106 ?_
            refine pm 107 ?_
            refine pq 108 rfl (x_len (f := c_api_Line) (l := v5.1) rfl rfl rfl el22) ?_
            refine pif 109 rfl rfl rfl rfl (.bin rfl rfl rfl rfl) ?_ ?_
            ·intro hc
             replace h := iteT h hc
             refine pq 110 rfl (x_pickT rfl rfl rfl rfl) ?_
             refine pm 111 ?_
             refine pm 112 ?_
             obtain ⟨v10, hv10, h⟩ := bindS h
             refine pq 113 rfl (x_idxO (f := c_api_Line) (l := v5.1) rfl rfl rfl rfl rfl el22 sz55 hv10 rfl) ?_
             refine pq 114 rfl (.fieldAddr rfl rfl rfl fl55u_2 rfl) ?_
             obtain ⟨v11, hv11, h⟩ := bindS h
             refine pq 115 rfl (x_load rfl rfl (at_ex (f := c_api_Line) (xs := v5.1) (c := [.int .i64 v11.f_Quote, .sl false (List.map c_i64 v11.f_Lists), .int .i64 v11.f_Kind, .sl false (List.map c_api_Cell v11.f_Cells)]) rfl rfl (getI_some hv11).2 rfl (Nat.le_of_ble_eq_true rfl)) sz3 un3 ag3 rfl) ?_
             refine pif 116 rfl rfl rfl rfl (.bin rfl rfl rfl rfl) ?_ ?_
             ·intro hc
              replace h := iteT h hc
              refine pq 117 rfl (x_pickT rfl rfl rfl rfl) ?_
              refine pm 118 ?_
              refine pq 119 rfl (x_loadA rfl rfl rfl sz24 un24 ag24 rfl) ?_
              refine pq 120 rfl (x_build rfl pl24 ze24 rfl rfl rfl rfl) ?_
              refine pif 121 rfl rfl rfl rfl (x_eqG (b := ((v5.2.1.f_Line : Int) == 2) && (((v5.2.1.f_At : Int) == 0) && true)) rfl rfl rfl eq24 rfl (by simp only [List.all_cons, List.all_nil, bs_beq, id_eq])) ?_ ?_
              ·intro hc
               replace h := iteT h hc
               refine pq 122 rfl (x_pickT rfl rfl rfl rfl) ?_
               refine pm 123 ?_
               refine pm 124 ?_
               refine pq 125 rfl (.bin rfl rfl rfl rfl) ?_
               refine pq 126 rfl (x_pickT rfl rfl rfl rfl) ?_
               refine pa 0 ?_
               refine we_nil ?_
               cases h
               exact ⟨rfl, _, .re (rl [0, 1, 126]) [] [] rfl (.refl _), rfl⟩
              ·intro hc
               replace h := iteF h hc
               refine pq 122 rfl (x_pickT rfl rfl rfl rfl) ?_
               refine pm 123 ?_
               refine kq 124 ?_
               refine kq 125 ?_
               refine pq 126 rfl (x_pickF rfl rfl rfl rfl) ?_
               refine pa 0 ?_
               refine we_nil ?_
               cases h
               exact ⟨rfl, _, .re (rl [0, 1, 126]) [] [] rfl (.refl _), rfl⟩
             ·intro hc
              replace h := iteF h hc
              refine pq 117 rfl (x_pickT rfl rfl rfl rfl) ?_
              refine pm 118 ?_
              refine kq 119 ?_
              refine kq 120 ?_
              refine kq 121 ?_
              refine pq 122 rfl (x_pickF rfl rfl rfl rfl) ?_
              refine pm 123 ?_
              refine kq 124 ?_
              refine kq 125 ?_
              refine pq 126 rfl (x_pickF rfl rfl rfl rfl) ?_
              refine pa 0 ?_
              refine we_nil ?_
              cases h
              exact ⟨rfl, _, .re (rl [0, 1, 126]) [] [] rfl (.refl _), rfl⟩
            ·intro hc
             replace h := iteF h hc
             refine pq 110 rfl (x_pickT rfl rfl rfl rfl) ?_
             refine pm 111 ?_
             refine kq 112 ?_
             refine kq 113 ?_
             refine kq 114 ?_
             refine kq 115 ?_
             refine kq 116 ?_
             refine pq 117 rfl (x_pickF rfl rfl rfl rfl) ?_
             refine pm 118 ?_
             refine kq 119 ?_
             refine kq 120 ?_
             refine kq 121 ?_
             refine pq 122 rfl (x_pickF rfl rfl rfl rfl) ?_
             refine pm 123 ?_
             refine kq 124 ?_
             refine kq 125 ?_
             refine pq 126 rfl (x_pickF rfl rfl rfl rfl) ?_
             refine pa 0 ?_
             refine we_nil ?_
             cases h
             exact ⟨rfl, _, .re (rl [0, 1, 126]) [] [] rfl (.refl _), rfl⟩
           ·intro hc
            replace h := iteF h hc
            refine pq 105 rfl (x_pickT rfl rfl rfl rfl) ?_
            refine pm 106 ?_
            refine kq 107 ?_
            refine kq 108 ?_
            refine kq 109 ?_
            refine pq 110 rfl (x_pickF rfl rfl rfl rfl) ?_
            refine pm 111 ?_
            refine kq 112 ?_
            refine kq 113 ?_
            refine kq 114 ?_
            refine kq 115 ?_
            refine kq 116 ?_
            refine pq 117 rfl (x_pickF rfl rfl rfl rfl) ?_
            refine pm 118 ?_
            refine kq 119 ?_
            refine kq 120 ?_
            refine kq 121 ?_
            refine pq 122 rfl (x_pickF rfl rfl rfl rfl) ?_
            refine pm 123 ?_
            refine kq 124 ?_
            refine kq 125 ?_
            refine pq 126 rfl (x_pickF rfl rfl rfl rfl) ?_
            refine pa 0 ?_
            refine we_nil ?_
            cases h
            exact ⟨rfl, _, .re (rl [0, 1, 126]) [] [] rfl (.refl _), rfl⟩
          ·intro hc
           replace h := iteF h hc
           refine pq 101 rfl (x_pickT rfl rfl rfl rfl) ?_
           refine pm 102 ?_
           refine kq 103 ?_
           refine kq 104 ?_
           refine pq 105 rfl (x_pickF rfl rfl rfl rfl) ?_
           refine pm 106 ?_
           refine kq 107 ?_
           refine kq 108 ?_
           refine kq 109 ?_
           refine pq 110 rfl (x_pickF rfl rfl rfl rfl) ?_
           refine pm 111 ?_
           refine kq 112 ?_
           refine kq 113 ?_
           refine kq 114 ?_
           refine kq 115 ?_
           refine kq 116 ?_
           refine pq 117 rfl (x_pickF rfl rfl rfl rfl) ?_
           refine pm 118 ?_
           refine kq 119 ?_
           refine kq 120 ?_
           refine kq 121 ?_
           refine pq 122 rfl (x_pickF rfl rfl rfl rfl) ?_
           refine pm 123 ?_
           refine kq 124 ?_
           refine kq 125 ?_
           refine pq 126 rfl (x_pickF rfl rfl rfl rfl) ?_
           refine pa 0 ?_
           refine we_nil ?_
           cases h
           exact ⟨rfl, _, .re (rl [0, 1, 126]) [] [] rfl (.refl _), rfl⟩
         ·intro hc
          replace h := iteF h hc
          refine pq 93 rfl (x_pickT rfl rfl rfl rfl) ?_
          refine pm 94 ?_
          refine kq 95 ?_
          refine kq 96 ?_
          refine kq 97 ?_
          refine kq 98 ?_
          refine kq 99 ?_
          refine kq 100 ?_
          refine pq 101 rfl (x_pickF rfl rfl rfl rfl) ?_
          refine pm 102 ?_
          refine kq 103 ?_
          refine kq 104 ?_
          refine pq 105 rfl (x_pickF rfl rfl rfl rfl) ?_
          refine pm 106 ?_
          refine kq 107 ?_
          refine kq 108 ?_
          refine kq 109 ?_
          refine pq 110 rfl (x_pickF rfl rfl rfl rfl) ?_
          refine pm 111 ?_
          refine kq 112 ?_
          refine kq 113 ?_
          refine kq 114 ?_
          refine kq 115 ?_
          refine kq 116 ?_
          refine pq 117 rfl (x_pickF rfl rfl rfl rfl) ?_
          refine pm 118 ?_
          refine kq 119 ?_
          refine kq 120 ?_
          refine kq 121 ?_
          refine pq 122 rfl (x_pickF rfl rfl rfl rfl) ?_
          refine pm 123 ?_
          refine kq 124 ?_
          refine kq 125 ?_
          refine pq 126 rfl (x_pickF rfl rfl rfl rfl) ?_
          refine pa 0 ?_
          refine we_nil ?_
          cases h
          exact ⟨rfl, _, .re (rl [0, 1, 126]) [] [] rfl (.refl _), rfl⟩
        ·intro hc
         replace h := iteF h hc
         refine pq 88 rfl (x_pickT rfl rfl rfl rfl) ?_
         refine pm 89 ?_
         refine kq 90 ?_
         refine kq 91 ?_
         refine kq 92 ?_
         refine pq 93 rfl (x_pickF rfl rfl rfl rfl) ?_
         refine pm 94 ?_
         refine kq 95 ?_
         refine kq 96 ?_
         refine kq 97 ?_
         refine kq 98 ?_
         refine kq 99 ?_
         refine kq 100 ?_
         refine pq 101 rfl (x_pickF rfl rfl rfl rfl) ?_
         refine pm 102 ?_
         refine kq 103 ?_
         refine kq 104 ?_
         refine pq 105 rfl (x_pickF rfl rfl rfl rfl) ?_
         refine pm 106 ?_
         refine kq 107 ?_
         refine kq 108 ?_
         refine kq 109 ?_
         refine pq 110 rfl (x_pickF rfl rfl rfl rfl) ?_
         refine pm 111 ?_
         refine kq 112 ?_
         refine kq 113 ?_
         refine kq 114 ?_
         refine kq 115 ?_
         refine kq 116 ?_
         refine pq 117 rfl (x_pickF rfl rfl rfl rfl) ?_
         refine pm 118 ?_
         refine kq 119 ?_
         refine kq 120 ?_
         refine kq 121 ?_
         refine pq 122 rfl (x_pickF rfl rfl rfl rfl) ?_
         refine pm 123 ?_
         refine kq 124 ?_
         refine kq 125 ?_
         refine pq 126 rfl (x_pickF rfl rfl rfl rfl) ?_
         refine pa 0 ?_
         refine we_nil ?_
         cases h
         exact ⟨rfl, _, .re (rl [0, 1, 126]) [] [] rfl (.refl _), rfl⟩
      ·intro hc
       replace h := iteF h hc
       refine pq 80 rfl (x_pickT rfl rfl rfl rfl) ?_
       refine pm 81 ?_
       refine kq 82 ?_
       refine kq 83 ?_
       refine pq 84 rfl (x_pickF rfl rfl rfl rfl) ?_
       refine pm 85 ?_
       refine kq 86 ?_
       refine kq 87 ?_
       refine pq 88 rfl (x_pickF rfl rfl rfl rfl) ?_
       refine pm 89 ?_
       refine kq 90 ?_
       refine kq 91 ?_
       refine kq 92 ?_
       refine pq 93 rfl (x_pickF rfl rfl rfl rfl) ?_
       refine pm 94 ?_
       refine kq 95 ?_
       refine kq 96 ?_
       refine kq 97 ?_
       refine kq 98 ?_
       refine kq 99 ?_
       refine kq 100 ?_
       refine pq 101 rfl (x_pickF rfl rfl rfl rfl) ?_
       refine pm 102 ?_
       refine kq 103 ?_
       refine kq 104 ?_
       refine pq 105 rfl (x_pickF rfl rfl rfl rfl) ?_
       refine pm 106 ?_
       refine kq 107 ?_
       refine kq 108 ?_
       refine kq 109 ?_
       refine pq 110 rfl (x_pickF rfl rfl rfl rfl) ?_
       refine pm 111 ?_
       refine kq 112 ?_
       refine kq 113 ?_
       refine kq 114 ?_
       refine kq 115 ?_
       refine kq 116 ?_
       refine pq 117 rfl (x_pickF rfl rfl rfl rfl) ?_
       refine pm 118 ?_
       refine kq 119 ?_
       refine kq 120 ?_
       refine kq 121 ?_
       refine pq 122 rfl (x_pickF rfl rfl rfl rfl) ?_
       refine pm 123 ?_
       refine kq 124 ?_
       refine kq 125 ?_
       refine pq 126 rfl (x_pickF rfl rfl rfl rfl) ?_
       refine pa 0 ?_
       refine we_nil ?_
       cases h
       exact ⟨rfl, _, .re (rl [0, 1, 126]) [] [] rfl (.refl _), rfl⟩
     ·intro hc
      replace h := iteF h hc
      refine pq 75 rfl (x_pickT rfl rfl rfl rfl) ?_
      refine pm 76 ?_
      refine kq 77 ?_
      refine kq 78 ?_
      refine kq 79 ?_
      refine pq 80 rfl (x_pickF rfl rfl rfl rfl) ?_
      refine pm 81 ?_
      refine kq 82 ?_
      refine kq 83 ?_
      refine pq 84 rfl (x_pickF rfl rfl rfl rfl) ?_
      refine pm 85 ?_
      refine kq 86 ?_
      refine kq 87 ?_
      refine pq 88 rfl (x_pickF rfl rfl rfl rfl) ?_
      refine pm 89 ?_
      refine kq 90 ?_
      refine kq 91 ?_
      refine kq 92 ?_
      refine pq 93 rfl (x_pickF rfl rfl rfl rfl) ?_
      refine pm 94 ?_
      refine kq 95 ?_
      refine kq 96 ?_
      refine kq 97 ?_
      refine kq 98 ?_
      refine kq 99 ?_
      refine kq 100 ?_
      refine pq 101 rfl (x_pickF rfl rfl rfl rfl) ?_
      refine pm 102 ?_
      refine kq 103 ?_
      refine kq 104 ?_
      refine pq 105 rfl (x_pickF rfl rfl rfl rfl) ?_
      refine pm 106 ?_
      refine kq 107 ?_
      refine kq 108 ?_
      refine kq 109 ?_
      refine pq 110 rfl (x_pickF rfl rfl rfl rfl) ?_
      refine pm 111 ?_
      refine kq 112 ?_
      refine kq 113 ?_
      refine kq 114 ?_
      refine kq 115 ?_
      refine kq 116 ?_
      refine pq 117 rfl (x_pickF rfl rfl rfl rfl) ?_
      refine pm 118 ?_
      refine kq 119 ?_
      refine kq 120 ?_
      refine kq 121 ?_
      refine pq 122 rfl (x_pickF rfl rfl rfl rfl) ?_
      refine pm 123 ?_
      refine kq 124 ?_
      refine kq 125 ?_
      refine pq 126 rfl (x_pickF rfl rfl rfl rfl) ?_
      refine pa 0 ?_
      refine we_nil ?_
      cases h
      exact ⟨rfl, _, .re (rl [0, 1, 126]) [] [] rfl (.refl _), rfl⟩
    ·intro hc
     replace h := iteF h hc
     refine pq 71 rfl (x_pickT rfl rfl rfl rfl) ?_
     refine pm 72 ?_
     refine kq 73 ?_
     refine kq 74 ?_
     refine pq 75 rfl (x_pickF rfl rfl rfl rfl) ?_
     refine pm 76 ?_
     refine kq 77 ?_
     refine kq 78 ?_
     refine kq 79 ?_
     refine pq 80 rfl (x_pickF rfl rfl rfl rfl) ?_
     refine pm 81 ?_
     refine kq 82 ?_
     refine kq 83 ?_
     refine pq 84 rfl (x_pickF rfl rfl rfl rfl) ?_
     refine pm 85 ?_
     refine kq 86 ?_
     refine kq 87 ?_
     refine pq 88 rfl (x_pickF rfl rfl rfl rfl) ?_
     refine pm 89 ?_
     refine kq 90 ?_
     refine kq 91 ?_
     refine kq 92 ?_
     refine pq 93 rfl (x_pickF rfl rfl rfl rfl) ?_
     refine pm 94 ?_
     refine kq 95 ?_
     refine kq 96 ?_
     refine kq 97 ?_
     refine kq 98 ?_
     refine kq 99 ?_
     refine kq 100 ?_
     refine pq 101 rfl (x_pickF rfl rfl rfl rfl) ?_
     refine pm 102 ?_
     refine kq 103 ?_
     refine kq 104 ?_
     refine pq 105 rfl (x_pickF rfl rfl rfl rfl) ?_
     refine pm 106 ?_
     refine kq 107 ?_
     refine kq 108 ?_
     refine kq 109 ?_
     refine pq 110 rfl (x_pickF rfl rfl rfl rfl) ?_
     refine pm 111 ?_
     refine kq 112 ?_
     refine kq 113 ?_
     refine kq 114 ?_
     refine kq 115 ?_
     refine kq 116 ?_
     refine pq 117 rfl (x_pickF rfl rfl rfl rfl) ?_
     refine pm 118 ?_
     refine kq 119 ?_
     refine kq 120 ?_
     refine kq 121 ?_
     refine pq 122 rfl (x_pickF rfl rfl rfl rfl) ?_
     refine pm 123 ?_
     refine kq 124 ?_
     refine kq 125 ?_
     refine pq 126 rfl (x_pickF rfl rfl rfl rfl) ?_
     refine pa 0 ?_
     refine we_nil ?_
     cases h
     exact ⟨rfl, _, .re (rl [0, 1, 126]) [] [] rfl (.refl _), rfl⟩
   ·intro hc
    replace h := iteF h hc
    refine pq 66 rfl (x_pickT rfl rfl rfl rfl) ?_
    refine pm 67 ?_
    refine kq 68 ?_
    refine kq 69 ?_
    refine kq 70 ?_
    refine pq 71 rfl (x_pickF rfl rfl rfl rfl) ?_
    refine pm 72 ?_
    refine kq 73 ?_
    refine kq 74 ?_
    refine pq 75 rfl (x_pickF rfl rfl rfl rfl) ?_
    refine pm 76 ?_
    refine kq 77 ?_
    refine kq 78 ?_
    refine kq 79 ?_
    refine pq 80 rfl (x_pickF rfl rfl rfl rfl) ?_
    refine pm 81 ?_
    refine kq 82 ?_
    refine kq 83 ?_
    refine pq 84 rfl (x_pickF rfl rfl rfl rfl) ?_
    refine pm 85 ?_
    refine kq 86 ?_
    refine kq 87 ?_
    refine pq 88 rfl (x_pickF rfl rfl rfl rfl) ?_
    refine pm 89 ?_
    refine kq 90 ?_
    refine kq 91 ?_
    refine kq 92 ?_
    refine pq 93 rfl (x_pickF rfl rfl rfl rfl) ?_
    refine pm 94 ?_
    refine kq 95 ?_
    refine kq 96 ?_
    refine kq 97 ?_
    refine kq 98 ?_
    refine kq 99 ?_
    refine kq 100 ?_
    refine pq 101 rfl (x_pickF rfl rfl rfl rfl) ?_
    refine pm 102 ?_
    refine kq 103 ?_
    refine kq 104 ?_
    refine pq 105 rfl (x_pickF rfl rfl rfl rfl) ?_
    refine pm 106 ?_
    refine kq 107 ?_
    refine kq 108 ?_
    refine kq 109 ?_
    refine pq 110 rfl (x_pickF rfl rfl rfl rfl) ?_
    refine pm 111 ?_
    refine kq 112 ?_
    refine kq 113 ?_
    refine kq 114 ?_
    refine kq 115 ?_
    refine kq 116 ?_
    refine pq 117 rfl (x_pickF rfl rfl rfl rfl) ?_
    refine pm 118 ?_
    refine kq 119 ?_
    refine kq 120 ?_
    refine kq 121 ?_
    refine pq 122 rfl (x_pickF rfl rfl rfl rfl) ?_
    refine pm 123 ?_
    refine kq 124 ?_
    refine kq 125 ?_
    refine pq 126 rfl (x_pickF rfl rfl rfl rfl) ?_
    refine pa 0 ?_
    refine we_nil ?_
    cases h
    exact ⟨rfl, _, .re (rl [0, 1, 126]) [] [] rfl (.refl _), rfl⟩
  ·intro hc
   replace h := iteF h hc
   refine pm 63 ?_
   refine kq 64 ?_
   refine kq 65 ?_
   refine pq 66 rfl (x_pickF rfl rfl rfl rfl) ?_
   refine pm 67 ?_
   refine kq 68 ?_
   refine kq 69 ?_
   refine kq 70 ?_
   refine pq 71 rfl (x_pickF rfl rfl rfl rfl) ?_
   refine pm 72 ?_
   refine kq 73 ?_
   refine kq 74 ?_
   refine pq 75 rfl (x_pickF rfl rfl rfl rfl) ?_
   refine pm 76 ?_
   refine kq 77 ?_
   refine kq 78 ?_
   refine kq 79 ?_
   refine pq 80 rfl (x_pickF rfl rfl rfl rfl) ?_
   refine pm 81 ?_
   refine kq 82 ?_
   refine kq 83 ?_
   refine pq 84 rfl (x_pickF rfl rfl rfl rfl) ?_
   refine pm 85 ?_
   refine kq 86 ?_
   refine kq 87 ?_
   refine pq 88 rfl (x_pickF rfl rfl rfl rfl) ?_
   refine pm 89 ?_
   refine kq 90 ?_
   refine kq 91 ?_
   refine kq 92 ?_
   refine pq 93 rfl (x_pickF rfl rfl rfl rfl) ?_
   refine pm 94 ?_
   refine kq 95 ?_
   refine kq 96 ?_
   refine kq 97 ?_
   refine kq 98 ?_
   refine kq 99 ?_
   refine kq 100 ?_
   refine pq 101 rfl (x_pickF rfl rfl rfl rfl) ?_
   refine pm 102 ?_
   refine kq 103 ?_
   refine kq 104 ?_
   refine pq 105 rfl (x_pickF rfl rfl rfl rfl) ?_
   refine pm 106 ?_
   refine kq 107 ?_
   refine kq 108 ?_
   refine kq 109 ?_
   refine pq 110 rfl (x_pickF rfl rfl rfl rfl) ?_
   refine pm 111 ?_
   refine kq 112 ?_
   refine kq 113 ?_
   refine kq 114 ?_
   refine kq 115 ?_
   refine kq 116 ?_
   refine pq 117 rfl (x_pickF rfl rfl rfl rfl) ?_
   refine pm 118 ?_
   refine kq 119 ?_
   refine kq 120 ?_
   refine kq 121 ?_
   refine pq 122 rfl (x_pickF rfl rfl rfl rfl) ?_
   refine pm 123 ?_
   refine kq 124 ?_
   refine kq 125 ?_
   refine pq 126 rfl (x_pickF rfl rfl rfl rfl) ?_
   refine pa 0 ?_
   refine we_nil ?_
   cases h
   exact ⟨rfl, _, .re (rl [0, 1, 126]) [] [] rfl (.refl _), rfl⟩
 ·clear hq
  refine ex_ret ?_
  obtain rfl := Option.some.inj h
  exact finB (by first | exact .inr rfl | exact .inl rfl) (.refl _) [.bool q7] [] [] (res_cons (res_tmp rfl) res_nil) rfl rfl rfl rfl rfl rfl rfl
end Go.PM
