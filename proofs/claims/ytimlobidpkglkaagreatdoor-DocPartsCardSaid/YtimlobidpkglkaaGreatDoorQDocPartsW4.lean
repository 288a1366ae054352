/-
  The walks: each Go function answers what its plain Lean function answers. Printed. Part 4 of 4. No condition but that the plain function answers.
-/
import Derived.Test.YtimlobidpkglkaaGreatDoorQDocPartsW3
set_option linter.unusedVariables false
set_option linter.unusedSimpArgs false
set_option linter.unusedSectionVars false
set_option linter.unnecessarySimpa false
namespace Go.PM
open Go.RowKit Go.Proofs.Tryz
set_option linter.unusedSimpArgs false
set_option linter.unusedVariables false
set_option maxRecDepth 4000
set_option maxHeartbeats 8000000 in
theorem ok_quillworklaw07u_DocParts {r : Bool} {p0 : List (T_api_Line)} {p1 : T_api_Pos} {p2 : T_api_Pos} {p3 : T_api_Pos} (h : quillworklaw07u_DocParts p0 p1 p2 p3 = some r) : OkB prog 7 [.sl false (List.map c_api_Line p0), .agg [.int .i64 p1.f_Line, .int .i64 p1.f_At], .agg [.int .i64 p2.f_Line, .int .i64 p2.f_At], .agg [.int .i64 p3.f_Line, .int .i64 p3.f_At]] [] [] (.bool r) [] [] := by
 unfold quillworklaw07u_DocParts at h
 refine okB_of_exG func7 rfl rfl (s0 := [.sl false (List.map c_api_Line p0), .agg [.int .i64 p1.f_Line, .int .i64 p1.f_At], .agg [.int .i64 p2.f_Line, .int .i64 p2.f_At], .agg [.int .i64 p3.f_Line, .int .i64 p3.f_At], Z, Z, Z, Z, Z, Z, Z, Z, Z, Z, Z, Z, Z, Z, Z, Z, Z, Z, Z, Z, Z, Z, Z, Z, Z, Z, Z, Z, Z, Z, Z, Z, Z, Z, Z, Z, Z, Z, Z, Z, Z, Z, Z, Z, Z, Z, Z, Z, Z, Z, Z, Z, Z, Z, Z, Z, Z, Z, Z, Z, Z, Z, Z, Z, Z, Z, Z, Z, Z, Z, Z, Z, Z, Z, Z, Z, Z, Z, Z, Z, Z, Z, Z, Z, Z, Z, Z, Z, Z, Z, Z, Z, Z, Z, Z, Z, Z, Z, Z, Z, Z, Z, Z, Z, Z, Z, Z, Z, Z, Z, Z, Z, Z, Z, Z, Z, Z, Z, Z, Z, Z, Z, Z, Z, Z, Z, Z, Z, Z, Z, Z, Z]) (b0 := []) (r0 := []) rfl rfl rfl ?_
 show Ex _ _ _ ⟨[.sl false (List.map c_api_Line p0), .agg [.int .i64 p1.f_Line, .int .i64 p1.f_At], .agg [.int .i64 p2.f_Line, .int .i64 p2.f_At], .agg [.int .i64 p3.f_Line, .int .i64 p3.f_At], Z, Z, Z, Z, Z, Z, Z, Z, Z, Z, Z, Z, Z, Z, Z, Z, Z, Z, Z, Z, Z, Z, Z, Z, Z, Z, Z, Z, Z, Z, Z, Z, Z, Z, Z, Z, Z, Z, Z, Z, Z, Z, Z, Z, Z, Z, Z, Z, Z, Z, Z, Z, Z, Z, Z, Z, Z, Z, Z, Z, Z, Z, Z, Z, Z, Z, Z, Z, Z, Z, Z, Z, Z, Z, Z, Z, Z, Z, Z, Z, Z, Z, Z, Z, Z, Z, Z, Z, Z, Z, Z, Z, Z, Z, Z, Z, Z, Z, Z, Z, Z, Z, Z, Z, Z, Z, Z, Z, Z, Z, Z, Z, Z, Z, Z, Z, Z, Z, Z, Z, Z, Z, Z, Z, Z, Z, Z, Z, Z, Z, Z, Z], [], [], 0⟩ _
 refine ex_seq ?_
 refine ex_ord [0, 1, 2] (l := [0, 1, 2, 3]) rfl ?_
 refine e_ (d := .bx 0 0) 5 rfl rfl rfl rfl rfl (b' := [some [.int .i64 p1.f_Line, .int .i64 p1.f_At]]) (r' := []) (.box rfl rfl rfl) rfl ?_
 refine e_ (d := .bx 1 0) 6 rfl rfl rfl rfl rfl (b' := [some [.int .i64 p1.f_Line, .int .i64 p1.f_At], some [.int .i64 p2.f_Line, .int .i64 p2.f_At]]) (r' := []) (.box rfl rfl rfl) rfl ?_
 refine e_ (d := .bx 2 0) 7 rfl rfl rfl rfl rfl (b' := [some [.int .i64 p1.f_Line, .int .i64 p1.f_At], some [.int .i64 p2.f_Line, .int .i64 p2.f_At], some [.int .i64 p3.f_Line, .int .i64 p3.f_At]]) (r' := []) (.box rfl rfl rfl) rfl ?_
 refine pa 8 ?_
 refine we_nil ?_
 refine ex_seq ?_
 refine ex_seq ?_
 refine ex_gst ⟨[.sl false (List.map c_api_Line p0), .agg [.int .i64 p1.f_Line, .int .i64 p1.f_At], .agg [.int .i64 p2.f_Line, .int .i64 p2.f_At], .agg [.int .i64 p3.f_Line, .int .i64 p3.f_At], Z, .cp [.int .i64 p1.f_Line, .int .i64 p1.f_At], .bx 1 0, .bx 2 0, .bool false, Z, Z, Z, Z, Z, Z, Z, Z, Z, Z, Z, Z, Z, Z, Z, Z, Z, Z, Z, Z, Z, Z, Z, Z, Z, Z, Z, Z, Z, Z, Z, Z, Z, Z, Z, Z, Z, Z, Z, Z, Z, Z, Z, Z, Z, Z, Z, Z, Z, Z, Z, Z, Z, Z, Z, Z, Z, Z, Z, Z, Z, Z, Z, Z, Z, Z, Z, Z, Z, Z, Z, Z, Z, Z, Z, Z, Z, Z, Z, Z, Z, Z, Z, Z, Z, Z, Z, Z, Z, Z, Z, Z, Z, Z, Z, Z, Z, Z, Z, Z, Z, Z, Z, Z, Z, Z, Z, Z, Z, Z, Z, Z, Z, Z, Z, Z, Z, Z, Z, Z, Z, Z, Z, Z, Z, Z, Z], [none, some [.int .i64 p2.f_Line, .int .i64 p2.f_At], some [.int .i64 p3.f_Line, .int .i64 p3.f_At]], [], 0⟩ (.shutB (b := 0) rfl (fun d h => by simpa using List.all_eq_true.1 (rfl : List.all [.int .i64 p1.f_Line, .int .i64 p1.f_At] (fun d => !d.tok) = true) d h) (.refl _)) rfl ?_
 refine ex_gst ⟨[.sl false (List.map c_api_Line p0), .agg [.int .i64 p1.f_Line, .int .i64 p1.f_At], .agg [.int .i64 p2.f_Line, .int .i64 p2.f_At], .agg [.int .i64 p3.f_Line, .int .i64 p3.f_At], Z, .cp [.int .i64 p1.f_Line, .int .i64 p1.f_At], .cp [.int .i64 p2.f_Line, .int .i64 p2.f_At], .bx 2 0, .bool false, Z, Z, Z, Z, Z, Z, Z, Z, Z, Z, Z, Z, Z, Z, Z, Z, Z, Z, Z, Z, Z, Z, Z, Z, Z, Z, Z, Z, Z, Z, Z, Z, Z, Z, Z, Z, Z, Z, Z, Z, Z, Z, Z, Z, Z, Z, Z, Z, Z, Z, Z, Z, Z, Z, Z, Z, Z, Z, Z, Z, Z, Z, Z, Z, Z, Z, Z, Z, Z, Z, Z, Z, Z, Z, Z, Z, Z, Z, Z, Z, Z, Z, Z, Z, Z, Z, Z, Z, Z, Z, Z, Z, Z, Z, Z, Z, Z, Z, Z, Z, Z, Z, Z, Z, Z, Z, Z, Z, Z, Z, Z, Z, Z, Z, Z, Z, Z, Z, Z, Z, Z, Z, Z, Z, Z, Z, Z], [none, none, some [.int .i64 p3.f_Line, .int .i64 p3.f_At]], [], 0⟩ (.shutB (b := 1) rfl (fun d h => by simpa using List.all_eq_true.1 (rfl : List.all [.int .i64 p2.f_Line, .int .i64 p2.f_At] (fun d => !d.tok) = true) d h) (.refl _)) rfl ?_
 refine ex_gst ⟨[.sl false (List.map c_api_Line p0), .agg [.int .i64 p1.f_Line, .int .i64 p1.f_At], .agg [.int .i64 p2.f_Line, .int .i64 p2.f_At], .agg [.int .i64 p3.f_Line, .int .i64 p3.f_At], Z, .cp [.int .i64 p1.f_Line, .int .i64 p1.f_At], .cp [.int .i64 p2.f_Line, .int .i64 p2.f_At], .cp [.int .i64 p3.f_Line, .int .i64 p3.f_At], .bool false, Z, Z, Z, Z, Z, Z, Z, Z, Z, Z, Z, Z, Z, Z, Z, Z, Z, Z, Z, Z, Z, Z, Z, Z, Z, Z, Z, Z, Z, Z, Z, Z, Z, Z, Z, Z, Z, Z, Z, Z, Z, Z, Z, Z, Z, Z, Z, Z, Z, Z, Z, Z, Z, Z, Z, Z, Z, Z, Z, Z, Z, Z, Z, Z, Z, Z, Z, Z, Z, Z, Z, Z, Z, Z, Z, Z, Z, Z, Z, Z, Z, Z, Z, Z, Z, Z, Z, Z, Z, Z, Z, Z, Z, Z, Z, Z, Z, Z, Z, Z, Z, Z, Z, Z, Z, Z, Z, Z, Z, Z, Z, Z, Z, Z, Z, Z, Z, Z, Z, Z, Z, Z, Z, Z, Z, Z, Z], [none, none, none], [], 0⟩ (.shutB (b := 2) rfl (fun d h => by simpa using List.all_eq_true.1 (rfl : List.all [.int .i64 p3.f_Line, .int .i64 p3.f_At] (fun d => !d.tok) = true) d h) (.refl _)) rfl ?_
 obtain ⟨q1, hq, h⟩ := bindS h
 refine ex_cut ⟨[.sl false (List.map c_api_Line p0), Z, Z, Z, Z, .cp [.int .i64 p1.f_Line, .int .i64 p1.f_At], .cp [.int .i64 p2.f_Line, .int .i64 p2.f_At], .cp [.int .i64 p3.f_Line, .int .i64 p3.f_At], Z, Z, Z, Z, Z, Z, Z, Z, Z, Z, Z, Z, Z, Z, Z, Z, Z, Z, Z, Z, Z, Z, Z, Z, Z, Z, Z, Z, Z, Z, Z, Z, Z, Z, Z, Z, Z, Z, Z, Z, Z, Z, Z, Z, Z, .bool q1, Z, Z, Z, Z, Z, Z, Z, Z, Z, Z, Z, Z, Z, Z, Z, Z, Z, Z, Z, Z, Z, Z, Z, Z, Z, Z, Z, Z, Z, Z, Z, Z, Z, Z, Z, Z, Z, Z, Z, Z, Z, Z, Z, Z, Z, Z, Z, Z, Z, Z, Z, Z, Z, Z, Z, Z, Z, Z, Z, Z, Z, Z, Z, Z, Z, Z, Z, Z, Z, Z, Z, Z, Z, Z, Z, Z, Z, Z, Z, Z, Z, Z], [], [], 0⟩ ?_ ?_
 ·clear h
  have h := hq
  clear hq
  refine ex_ord [] (l := [0, 1, 2, 3, 4, 5, 6, 7, 8, 9, 10, 11, 12, 13, 14, 15, 16, 17, 18, 19, 20, 21, 22, 23, 24, 25, 26, 27, 28, 29, 30, 31, 32, 33, 34, 35, 36]) rfl ?_
  refine pm 17 ?_
  obtain ⟨v2, hv2, h⟩ := bindS h
  refine pif 18 rfl rfl rfl rfl (x_callP rfl rfl en10 (ok_quillworklaw07u_long hv2) rfl rfl rfl rfl rfl) ?_ ?_
  ·intro hc
   replace h := iteT h hc
   refine pm 19 ?_
   refine kq 20 ?_
   refine kq 21 ?_
   refine kq 22 ?_
   refine pq 23 rfl (x_pickT rfl rfl rfl rfl) ?_
   refine pm 24 ?_
   refine kq 25 ?_
   refine kq 26 ?_
   refine kq 27 ?_
   refine kq 28 ?_
   refine pq 29 rfl (x_pickT rfl rfl rfl rfl) ?_
   refine pm 30 ?_
   refine kq 31 ?_
   refine kq 32 ?_
   refine kq 33 ?_
   refine kq 34 ?_
   refine pq 35 rfl (x_pickT rfl rfl rfl rfl) ?_
   refine pm 36 ?_
   refine kq 37 ?_
   refine kq 38 ?_
   refine kq 39 ?_
   refine kq 40 ?_
   refine pq 41 rfl (x_pickT rfl rfl rfl rfl) ?_
   refine pm 42 ?_
   refine kq 43 ?_
   refine kq 44 ?_
   refine kq 45 ?_
   refine kq 46 ?_
   refine pq 47 rfl (x_pickT rfl rfl rfl rfl) ?_
   refine pm 48 ?_
   refine kq 49 ?_
   refine kq 50 ?_
   refine kq 51 ?_
   refine kq 52 ?_
   refine pq 53 rfl (x_pickT rfl rfl rfl rfl) ?_
   refine we_nil ?_
   cases h
   exact ⟨rfl, _, .re (rl [0, 1, 4, 3, 45, 1, 82]) [] [] rfl (.refl _), rfl⟩
  ·intro hc
   replace h := iteF h hc
   refine pm 19 ?_
   refine pm 20 ?_
   obtain ⟨v3, hv3, h⟩ := bindS h
   refine pif 21 rfl rfl rfl rfl (x_callP rfl rfl en13 (ok_doc_May hv3) rfl rfl rfl rfl rfl) ?_ ?_
   ·intro hc
    replace h := iteT h hc
    refine pq 22 rfl (.un rfl rfl rfl) ?_
    refine pq 23 rfl (x_pickF rfl rfl rfl rfl) ?_
    refine pm 24 ?_
    refine pm 25 ?_
    refine pq 26 rfl (x_loadA rfl rfl rfl sz24 un24 ag24 rfl) ?_
    obtain ⟨v4, hv4, h⟩ := bindS h
    refine pif 27 rfl rfl rfl rfl (x_callP rfl rfl en19 (ok_doc_Is hv4) rfl rfl rfl rfl rfl) ?_ ?_
    ·intro hc
     replace h := iteT h hc
     refine pq 28 rfl (.un rfl rfl rfl) ?_
     refine pq 29 rfl (x_pickF rfl rfl rfl rfl) ?_
     refine pm 30 ?_
     refine pm 31 ?_
     refine pq 32 rfl (x_loadA rfl rfl rfl sz24 un24 ag24 rfl) ?_
     obtain ⟨v5, hv5, h⟩ := bindS h
     refine pif 33 rfl rfl rfl rfl (x_callP rfl rfl en19 (ok_doc_Is hv5) rfl rfl rfl rfl rfl) ?_ ?_
     ·intro hc
      replace h := iteT h hc
      refine pq 34 rfl (.un rfl rfl rfl) ?_
      refine pq 35 rfl (x_pickF rfl rfl rfl rfl) ?_
      refine pm 36 ?_
      refine pm 37 ?_
      refine pq 38 rfl (x_loadA rfl rfl rfl sz24 un24 ag24 rfl) ?_
      obtain ⟨v6, hv6, h⟩ := bindS h
      refine pif 39 rfl rfl rfl rfl (x_callP rfl rfl en19 (ok_doc_Is hv6) rfl rfl rfl rfl rfl) ?_ ?_
      ·intro hc
       replace h := iteT h hc
       refine pq 40 rfl (.un rfl rfl rfl) ?_
       refine pq 41 rfl (x_pickF rfl rfl rfl rfl) ?_
       refine pm 42 ?_
       refine pq 43 rfl (x_loadA rfl rfl rfl sz24 un24 ag24 rfl) ?_
       refine pq 44 rfl (x_loadA rfl rfl rfl sz24 un24 ag24 rfl) ?_
       obtain ⟨v7, hv7, h⟩ := bindS h
       refine pq 45 rfl (x_callP rfl rfl en23 (ok_doc_Cmp hv7) rfl rfl rfl rfl rfl) ?_
       refine pif 46 rfl rfl rfl rfl (.bin rfl rfl rfl rfl) ?_ ?_
       ·intro hc
        replace h := iteT h hc
        refine pq 47 rfl (x_pickF rfl rfl rfl rfl) ?_
        refine pm 48 ?_
        refine kq 49 ?_
        refine kq 50 ?_
        refine kq 51 ?_
        refine kq 52 ?_
        refine pq 53 rfl (x_pickT rfl rfl rfl rfl) ?_
        refine we_nil ?_
        cases h
        exact ⟨rfl, _, .re (rl [0, 1, 4, 3, 45, 1, 82]) [] [] rfl (.refl _), rfl⟩
       ·intro hc
        replace h := iteF h hc
        refine pq 47 rfl (x_pickF rfl rfl rfl rfl) ?_
        refine pm 48 ?_
        refine pq 49 rfl (x_loadA rfl rfl rfl sz24 un24 ag24 rfl) ?_
        refine pq 50 rfl (x_loadA rfl rfl rfl sz24 un24 ag24 rfl) ?_
        obtain ⟨v8, hv8, h⟩ := bindS h
        refine pq 51 rfl (x_callP rfl rfl en23 (ok_doc_Cmp hv8) rfl rfl rfl rfl rfl) ?_
        refine pq 52 rfl (.bin rfl rfl rfl rfl) ?_
        refine pq 53 rfl (x_pickF rfl rfl rfl rfl) ?_
        refine we_nil ?_
        cases h
        exact ⟨rfl, _, .re (rl [0, 1, 4, 3, 45, 1, 82]) [] [] rfl (.refl _), rfl⟩
      ·intro hc
       replace h := iteF h hc
       refine pq 40 rfl (.un rfl rfl rfl) ?_
       refine pq 41 rfl (x_pickF rfl rfl rfl rfl) ?_
       refine pm 42 ?_
       refine kq 43 ?_
       refine kq 44 ?_
       refine kq 45 ?_
       refine kq 46 ?_
       refine pq 47 rfl (x_pickT rfl rfl rfl rfl) ?_
       refine pm 48 ?_
       refine kq 49 ?_
       refine kq 50 ?_
       refine kq 51 ?_
       refine kq 52 ?_
       refine pq 53 rfl (x_pickT rfl rfl rfl rfl) ?_
       refine we_nil ?_
       cases h
       exact ⟨rfl, _, .re (rl [0, 1, 4, 3, 45, 1, 82]) [] [] rfl (.refl _), rfl⟩
     ·intro hc
      replace h := iteF h hc
      refine pq 34 rfl (.un rfl rfl rfl) ?_
      refine pq 35 rfl (x_pickF rfl rfl rfl rfl) ?_
      refine pm 36 ?_
      refine kq 37 ?_
      refine kq 38 ?_
      refine kq 39 ?_
      refine kq 40 ?_
      refine pq 41 rfl (x_pickT rfl rfl rfl rfl) ?_
      refine pm 42 ?_
      refine kq 43 ?_
      refine kq 44 ?_
      refine kq 45 ?_
      refine kq 46 ?_
      refine pq 47 rfl (x_pickT rfl rfl rfl rfl) ?_
      refine pm 48 ?_
      refine kq 49 ?_
      refine kq 50 ?_
      refine kq 51 ?_
      refine kq 52 ?_
      refine pq 53 rfl (x_pickT rfl rfl rfl rfl) ?_
      refine we_nil ?_
      cases h
      exact ⟨rfl, _, .re (rl [0, 1, 4, 3, 45, 1, 82]) [] [] rfl (.refl _), rfl⟩
    ·intro hc
     replace h := iteF h hc
     refine pq 28 rfl (.un rfl rfl rfl) ?_
     refine pq 29 rfl (x_pickF rfl rfl rfl rfl) ?_
     refine pm 30 ?_
     refine kq 31 ?_
     refine kq 32 ?_
     refine kq 33 ?_
     refine kq 34 ?_
     refine pq 35 rfl (x_pickT rfl rfl rfl rfl) ?_
     refine pm 36 ?_
     refine kq 37 ?_
     refine kq 38 ?_
     refine kq 39 ?_
     refine kq 40 ?_
     refine pq 41 rfl (x_pickT rfl rfl rfl rfl) ?_
     refine pm 42 ?_
     refine kq 43 ?_
     refine kq 44 ?_
     refine kq 45 ?_
     refine kq 46 ?_
     refine pq 47 rfl (x_pickT rfl rfl rfl rfl) ?_
     refine pm 48 ?_
     refine kq 49 ?_
     refine kq 50 ?_
     refine kq 51 ?_
     refine kq 52 ?_
     refine pq 53 rfl (x_pickT rfl rfl rfl rfl) ?_
     refine we_nil ?_
     cases h
     exact ⟨rfl, _, .re (rl [0, 1, 4, 3, 45, 1, 82]) [] [] rfl (.refl _), rfl⟩
   ·intro hc
    replace h := iteF h hc
    refine pq 22 rfl (.un rfl rfl rfl) ?_
    refine pq 23 rfl (x_pickF rfl rfl rfl rfl) ?_
    refine pm 24 ?_
    refine kq 25 ?_
    refine kq 26 ?_
    refine kq 27 ?_
    refine kq 28 ?_
    refine pq 29 rfl (x_pickT rfl rfl rfl rfl) ?_
    refine pm 30 ?_
    refine kq 31 ?_
    refine kq 32 ?_
    refine kq 33 ?_
    refine kq 34 ?_
    refine pq 35 rfl (x_pickT rfl rfl rfl rfl) ?_
    refine pm 36 ?_
    refine kq 37 ?_
    refine kq 38 ?_
    refine kq 39 ?_
    refine kq 40 ?_
    refine pq 41 rfl (x_pickT rfl rfl rfl rfl) ?_
    refine pm 42 ?_
    refine kq 43 ?_
    refine kq 44 ?_
    refine kq 45 ?_
    refine kq 46 ?_
    refine pq 47 rfl (x_pickT rfl rfl rfl rfl) ?_
    refine pm 48 ?_
    refine kq 49 ?_
    refine kq 50 ?_
    refine kq 51 ?_
    refine kq 52 ?_
    refine pq 53 rfl (x_pickT rfl rfl rfl rfl) ?_
    refine we_nil ?_
    cases h
    exact ⟨rfl, _, .re (rl [0, 1, 4, 3, 45, 1, 82]) [] [] rfl (.refl _), rfl⟩
 ·clear hq
  refine ex_if rfl ?_ ?_
  ·intro hc
   replace h := iteT h hc
   refine ex_seq ?_
   refine ex_ord [] (l := [0, 1]) rfl ?_
   obtain ⟨v9, hv9, h⟩ := bindS h
   refine pq 54 rfl (x_callP rfl rfl en11 (ok_quillworklaw07u_awake hv9) rfl rfl rfl rfl rfl) ?_
   refine pa 8 ?_
   refine we_nil ?_
   refine ex_ret ?_
   obtain rfl := Option.some.inj h
   exact finB (by first | exact .inr rfl | exact .inl rfl) (.refl _) [.bool v9] [] [] (res_cons (res_tmp rfl) res_nil) rfl rfl rfl rfl rfl rfl rfl
  ·intro hc
   replace h := iteF h hc
   refine ex_skip ?_
   refine ex_seq ?_
   refine ex_ord [3] (l := [0, 1, 2, 3, 4]) rfl ?_
   refine pm 55 ?_
   refine pq 56 rfl (x_loadA rfl rfl rfl sz24 un24 ag24 rfl) ?_
   refine pq 57 rfl (x_loadA rfl rfl rfl sz24 un24 ag24 rfl) ?_
   obtain ⟨v10, hv10, h⟩ := bindS h
   refine e_ (d := .own 0) 58 rfl rfl rfl rfl rfl (b' := []) (r' := [some ⟨58, 3, List.map c_api_Cell v10⟩]) (x_call [] [] rfl rfl en38 (ok_quillworkref07u_Cells hv10) rfl rfl rfl rfl rfl rfl rfl rfl rfl rfl rfl rfl rfl rfl) rfl ?_
   refine pa 9 ?_
   refine we_nil ?_
   refine ex_seq ?_
   obtain ⟨q11, hq, h⟩ := bindS h
   refine ex_cut ⟨[.sl false (List.map c_api_Line p0), Z, Z, Z, Z, .cp [.int .i64 p1.f_Line, .int .i64 p1.f_At], .cp [.int .i64 p2.f_Line, .int .i64 p2.f_At], .cp [.int .i64 p3.f_Line, .int .i64 p3.f_At], Z, .own 0, .own 1, Z, Z, Z, Z, Z, Z, Z, Z, Z, Z, Z, Z, Z, Z, Z, Z, Z, Z, Z, Z, Z, Z, Z, Z, Z, Z, Z, Z, Z, Z, Z, Z, Z, Z, Z, Z, Z, Z, Z, Z, Z, Z, Z, Z, Z, Z, Z, Z, Z, Z, Z, Z, Z, Z, Z, Z, Z, Z, Z, Z, Z, Z, Z, Z, Z, Z, Z, Z, Z, Z, Z, Z, Z, Z, Z, Z, Z, Z, Z, Z, Z, Z, Z, Z, Z, Z, Z, Z, Z, Z, Z, Z, Z, Z, Z, Z, Z, Z, Z, Z, Z, Z, Z, Z, Z, Z, Z, Z, Z, Z, Z, Z, Z, Z, Z, Z, Z, Z, Z, Z, Z, Z, Z, Z, Z], [], [some ⟨58, 3, List.map c_api_Cell v10⟩, some ⟨58, 3, List.map c_api_Cell q11⟩], 0⟩ ?_ ?_
   ·clear h
    have h := hq
    clear hq
    refine ex_sh mo [0, 4, 5, 9, 10, 1002, 1003, 1007, 1008, 3000, 3004, 3005, 3009, 3010] (.pre [1, 2, 3, 6, 7, 8] (.fork 0 4 (.pre [4, 5, 9, 10, 11] .nil) (.pre [0, 5, 9, 10, 11] .nil))) (by kernel_rfl) ?_
    refine sh_pre ?_
    refine pm 60 ?_
    refine n_ 61 rfl rfl rfl (fun _ _ => x_loadA rfl rfl rfl sz24 un24 ag24 rfl) ?_
    refine n_ 62 rfl rfl rfl (fun _ _ => x_loadA rfl rfl rfl sz24 un24 ag24 rfl) ?_
    refine pm 65 ?_
    refine n_ 66 rfl rfl rfl (fun _ _ => x_loadA rfl rfl rfl sz24 un24 ag24 rfl) ?_
    refine n_ 67 rfl rfl rfl (fun _ _ => x_loadA rfl rfl rfl sz24 un24 ag24 rfl) ?_
    refine we_nil ?_
    refine sh_forkT ?_ ?_
    ·refine e_ (d := .own 1) 59 rfl rfl rfl rfl rfl (b' := []) (r' := [some ⟨58, 3, List.map c_api_Cell v10⟩, some ⟨58, 3, []⟩]) (x_lit (f := c_api_Cell) (l := []) rfl el46 rw58 zs58 rfl rfl rfl (by decide) (by decide) fl_api_Cell rfl) rfl ?_
     refine we_nil ?_
     refine sh_pre ?_
     obtain ⟨v12, hv12, h⟩ := bindS h
     refine e_ (d := .own 2) 63 rfl rfl rfl rfl rfl (b' := []) (r' := [some ⟨58, 3, List.map c_api_Cell v10⟩, some ⟨58, 3, []⟩, some ⟨58, 3, List.map c_api_Cell v12⟩]) (x_call [] [] rfl rfl en38 (ok_quillworkref07u_Cells hv12) rfl rfl rfl rfl rfl rfl rfl rfl rfl rfl rfl rfl rfl rfl) rfl ?_
     obtain ⟨v13, hv13, h⟩ := bindS h
     refine e_ (d := .own 3) 64 rfl rfl rfl rfl rfl (b' := []) (r' := [some ⟨58, 3, List.map c_api_Cell v10⟩, none, some ⟨58, 3, List.map c_api_Cell v12⟩, some ⟨58, 3, List.map c_api_Cell v13⟩]) (x_app (f := c_api_Cell) (xs := []) (ys := v12) rfl rfl rfl el46 rw58 rfl rfl rfl fl_api_Cell hv13) rfl ?_
     obtain ⟨v14, hv14, h⟩ := bindS h
     refine e_ (d := .own 4) 68 rfl rfl rfl rfl rfl (b' := []) (r' := [some ⟨58, 3, List.map c_api_Cell v10⟩, none, some ⟨58, 3, List.map c_api_Cell v12⟩, some ⟨58, 3, List.map c_api_Cell v13⟩, some ⟨58, 3, List.map c_api_Cell v14⟩]) (x_call [] [] rfl rfl en38 (ok_quillworkref07u_Cells hv14) rfl rfl rfl rfl rfl rfl rfl rfl rfl rfl rfl rfl rfl rfl) rfl ?_
     obtain ⟨v15, hv15, h⟩ := bindS h
     refine e_ (d := .own 5) 69 rfl rfl rfl rfl rfl (b' := []) (r' := [some ⟨58, 3, List.map c_api_Cell v10⟩, none, some ⟨58, 3, List.map c_api_Cell v12⟩, none, some ⟨58, 3, List.map c_api_Cell v14⟩, some ⟨58, 3, List.map c_api_Cell v15⟩]) (x_app (f := c_api_Cell) (xs := v13) (ys := v14) rfl rfl rfl el46 rw58 rfl rfl rfl fl_api_Cell hv15) rfl ?_
     refine pa 10 ?_
     refine we_nil ?_
     cases h
     exact ⟨rfl, _, .re (rl [0, 1, 4, 3, 1, 2, 125]) [] [0, 5] rfl (.refl _), rfl⟩
    ·obtain ⟨v12, hv12, h⟩ := bindS h
     refine e_ (d := .own 1) 63 rfl rfl rfl rfl rfl (b' := []) (r' := [some ⟨58, 3, List.map c_api_Cell v10⟩, some ⟨58, 3, List.map c_api_Cell v12⟩]) (x_call [] [] rfl rfl en38 (ok_quillworkref07u_Cells hv12) rfl rfl rfl rfl rfl rfl rfl rfl rfl rfl rfl rfl rfl rfl) rfl ?_
     refine we_nil ?_
     refine sh_pre ?_
     refine e_ (d := .own 2) 59 rfl rfl rfl rfl rfl (b' := []) (r' := [some ⟨58, 3, List.map c_api_Cell v10⟩, some ⟨58, 3, List.map c_api_Cell v12⟩, some ⟨58, 3, []⟩]) (x_lit (f := c_api_Cell) (l := []) rfl el46 rw58 zs58 rfl rfl rfl (by decide) (by decide) fl_api_Cell rfl) rfl ?_
     obtain ⟨v13, hv13, h⟩ := bindS h
     refine e_ (d := .own 3) 64 rfl rfl rfl rfl rfl (b' := []) (r' := [some ⟨58, 3, List.map c_api_Cell v10⟩, some ⟨58, 3, List.map c_api_Cell v12⟩, none, some ⟨58, 3, List.map c_api_Cell v13⟩]) (x_app (f := c_api_Cell) (xs := []) (ys := v12) rfl rfl rfl el46 rw58 rfl rfl rfl fl_api_Cell hv13) rfl ?_
     obtain ⟨v14, hv14, h⟩ := bindS h
     refine e_ (d := .own 4) 68 rfl rfl rfl rfl rfl (b' := []) (r' := [some ⟨58, 3, List.map c_api_Cell v10⟩, some ⟨58, 3, List.map c_api_Cell v12⟩, none, some ⟨58, 3, List.map c_api_Cell v13⟩, some ⟨58, 3, List.map c_api_Cell v14⟩]) (x_call [] [] rfl rfl en38 (ok_quillworkref07u_Cells hv14) rfl rfl rfl rfl rfl rfl rfl rfl rfl rfl rfl rfl rfl rfl) rfl ?_
     obtain ⟨v15, hv15, h⟩ := bindS h
     refine e_ (d := .own 5) 69 rfl rfl rfl rfl rfl (b' := []) (r' := [some ⟨58, 3, List.map c_api_Cell v10⟩, some ⟨58, 3, List.map c_api_Cell v12⟩, none, none, some ⟨58, 3, List.map c_api_Cell v14⟩, some ⟨58, 3, List.map c_api_Cell v15⟩]) (x_app (f := c_api_Cell) (xs := v13) (ys := v14) rfl rfl rfl el46 rw58 rfl rfl rfl fl_api_Cell hv15) rfl ?_
     refine pa 10 ?_
     refine we_nil ?_
     cases h
     exact ⟨rfl, _, .re (rl [0, 1, 4, 3, 1, 2, 125]) [] [0, 5] rfl (.refl _), rfl⟩
   ·clear hq
    refine ex_seq ?_
    refine ex_seq ?_
    refine ex_gst ⟨[.sl false (List.map c_api_Line p0), Z, Z, Z, Z, .cp [.int .i64 p1.f_Line, .int .i64 p1.f_At], .cp [.int .i64 p2.f_Line, .int .i64 p2.f_At], .cp [.int .i64 p3.f_Line, .int .i64 p3.f_At], Z, .sl false (List.map c_api_Cell v10), .own 1, Z, Z, Z, Z, Z, Z, Z, Z, Z, Z, Z, Z, Z, Z, Z, Z, Z, Z, Z, Z, Z, Z, Z, Z, Z, Z, Z, Z, Z, Z, Z, Z, Z, Z, Z, Z, Z, Z, Z, Z, Z, Z, Z, Z, Z, Z, Z, Z, Z, Z, Z, Z, Z, Z, Z, Z, Z, Z, Z, Z, Z, Z, Z, Z, Z, Z, Z, Z, Z, Z, Z, Z, Z, Z, Z, Z, Z, Z, Z, Z, Z, Z, Z, Z, Z, Z, Z, Z, Z, Z, Z, Z, Z, Z, Z, Z, Z, Z, Z, Z, Z, Z, Z, Z, Z, Z, Z, Z, Z, Z, Z, Z, Z, Z, Z, Z, Z, Z, Z, Z, Z, Z, Z, Z, Z], [], [none, some ⟨58, 3, List.map c_api_Cell q11⟩], 0⟩ (.shutR false (t := 0) rfl (.refl _)) rfl ?_
    refine ex_gst ⟨[.sl false (List.map c_api_Line p0), Z, Z, Z, Z, .cp [.int .i64 p1.f_Line, .int .i64 p1.f_At], .cp [.int .i64 p2.f_Line, .int .i64 p2.f_At], .cp [.int .i64 p3.f_Line, .int .i64 p3.f_At], Z, .sl false (List.map c_api_Cell v10), .sl false (List.map c_api_Cell q11), Z, Z, Z, Z, Z, Z, Z, Z, Z, Z, Z, Z, Z, Z, Z, Z, Z, Z, Z, Z, Z, Z, Z, Z, Z, Z, Z, Z, Z, Z, Z, Z, Z, Z, Z, Z, Z, Z, Z, Z, Z, Z, Z, Z, Z, Z, Z, Z, Z, Z, Z, Z, Z, Z, Z, Z, Z, Z, Z, Z, Z, Z, Z, Z, Z, Z, Z, Z, Z, Z, Z, Z, Z, Z, Z, Z, Z, Z, Z, Z, Z, Z, Z, Z, Z, Z, Z, Z, Z, Z, Z, Z, Z, Z, Z, Z, Z, Z, Z, Z, Z, Z, Z, Z, Z, Z, Z, Z, Z, Z, Z, Z, Z, Z, Z, Z, Z, Z, Z, Z, Z, Z, Z, Z, Z], [], [none, none], 0⟩ (.shutR false (t := 1) rfl (.refl _)) rfl ?_
    obtain ⟨q16, hq, h⟩ := bindS h
    refine ex_cut ⟨[.sl false (List.map c_api_Line p0), Z, Z, Z, Z, .cp [.int .i64 p1.f_Line, .int .i64 p1.f_At], .cp [.int .i64 p2.f_Line, .int .i64 p2.f_At], .cp [.int .i64 p3.f_Line, .int .i64 p3.f_At], Z, Z, Z, Z, Z, Z, Z, Z, Z, Z, Z, Z, Z, Z, Z, Z, Z, Z, Z, Z, Z, Z, Z, Z, Z, Z, Z, Z, Z, Z, Z, Z, Z, Z, Z, Z, Z, Z, Z, Z, Z, Z, Z, Z, Z, Z, Z, Z, Z, Z, Z, Z, Z, Z, Z, Z, Z, Z, Z, Z, Z, Z, Z, Z, Z, Z, Z, Z, Z, Z, Z, Z, Z, Z, Z, Z, Z, Z, Z, Z, Z, Z, Z, Z, Z, Z, Z, Z, Z, Z, .bool q16, Z, Z, Z, Z, Z, Z, Z, Z, Z, Z, Z, Z, Z, Z, Z, Z, Z, Z, Z, Z, Z, Z, Z, Z, Z, Z, Z, Z, Z, Z, Z, Z, Z, Z, Z, Z, Z], [], [], 0⟩ ?_ ?_
    ·clear h
     have h := hq
     clear hq
     refine ex_drw mo [1006, 1007, 1008, 1010, 1011, 1012, 1014, 1015, 1016, 1022, 1023, 1024, 1026] (by kernel_rfl) (l := [0, 1, 2, 3, 4, 5, 6, 7, 8, 9, 10, 11, 12, 13, 14, 15, 16, 17, 18, 19, 20, 21, 22, 23, 24, 25, 26, 27, 28]) rfl ?_
     refine pm 70 ?_
     refine pm 71 ?_
     obtain ⟨v17, hv17, h⟩ := bindS h
     refine pif 72 rfl rfl rfl rfl (x_callP rfl rfl en48 (ok_quillworkref05u_Same hv17) rfl rfl rfl rfl rfl) ?_ ?_
     ·intro hc
      replace h := iteT h hc
      refine pq 73 rfl (.un rfl rfl rfl) ?_
      refine pm 74 ?_
      refine pm 75 ?_
      refine n_ 76 rfl rfl rfl (fun _ _ => x_loadA rfl rfl rfl sz24 un24 ag24 rfl) ?_
      refine n_ 77 rfl rfl rfl (fun _ _ => x_loadA rfl rfl rfl sz24 un24 ag24 rfl) ?_
      obtain ⟨v18, hv18, h⟩ := bindS h
      refine n_ 78 rfl rfl rfl (fun _ _ => x_callP rfl rfl en43 (ok_doc_Count hv18) rfl rfl rfl rfl rfl) ?_
      refine pm 79 ?_
      refine n_ 80 rfl rfl rfl (fun _ _ => x_loadA rfl rfl rfl sz24 un24 ag24 rfl) ?_
      refine n_ 81 rfl rfl rfl (fun _ _ => x_loadA rfl rfl rfl sz24 un24 ag24 rfl) ?_
      obtain ⟨v19, hv19, h⟩ := bindS h
      refine n_ 82 rfl rfl rfl (fun _ _ => x_callP rfl rfl en43 (ok_doc_Count hv19) rfl rfl rfl rfl rfl) ?_
      refine pm 83 ?_
      refine n_ 84 rfl rfl rfl (fun _ _ => x_loadA rfl rfl rfl sz24 un24 ag24 rfl) ?_
      refine n_ 85 rfl rfl rfl (fun _ _ => x_loadA rfl rfl rfl sz24 un24 ag24 rfl) ?_
      obtain ⟨v20, hv20, h⟩ := bindS h
      refine n_ 86 rfl rfl rfl (fun _ _ => x_callP rfl rfl en43 (ok_doc_Count hv20) rfl rfl rfl rfl rfl) ?_
      refine pq 87 rfl (.bin rfl rfl rfl rfl) ?_
      refine pif 88 rfl rfl rfl rfl (.bin rfl rfl rfl rfl) ?_ ?_
      ·intro hc
       replace h := iteT h hc
       refine pq 89 rfl (x_pickF rfl rfl rfl rfl) ?_
       refine pm 90 ?_
       refine kq 91 ?_
       refine kq 92 ?_
       refine kq 93 ?_
       refine kq 94 ?_
       refine kq 95 ?_
       refine kq 96 ?_
       refine kq 97 ?_
       refine pq 98 rfl (x_pickT rfl rfl rfl rfl) ?_
       refine we_nil ?_
       cases h
       exact ⟨rfl, _, .re (rl [0, 1, 4, 3, 90, 1, 37]) [] [] rfl (.refl _), rfl⟩
      ·intro hc
       replace h := iteF h hc
       refine pq 89 rfl (x_pickF rfl rfl rfl rfl) ?_
       refine pm 90 ?_
       refine pm 91 ?_
       refine n_ 92 rfl rfl rfl (fun _ _ => x_loadA rfl rfl rfl sz24 un24 ag24 rfl) ?_
       refine n_ 93 rfl rfl rfl (fun _ _ => x_loadA rfl rfl rfl sz24 un24 ag24 rfl) ?_
       obtain ⟨v21, hv21, h⟩ := bindS h
       refine n_ 94 rfl rfl rfl (fun _ _ => x_callP rfl rfl en43 (ok_doc_Count hv21) rfl rfl rfl rfl rfl) ?_
       refine pm 95 ?_
       refine n_ 96 rfl rfl rfl (fun _ _ => x_len (f := c_api_Cell) (l := v10) rfl rfl rfl el46) ?_
       refine pq 97 rfl (.bin rfl rfl rfl rfl) ?_
       refine pq 98 rfl (x_pickF rfl rfl rfl rfl) ?_
       refine we_nil ?_
       cases h
       exact ⟨rfl, _, .re (rl [0, 1, 4, 3, 90, 1, 37]) [] [] rfl (.refl _), rfl⟩
     ·intro hc
      replace h := iteF h hc
      refine pq 73 rfl (.un rfl rfl rfl) ?_
      refine pm 74 ?_
      refine kq 75 ?_
      refine kq 76 ?_
      refine kq 77 ?_
      refine kq 78 ?_
      refine kq 79 ?_
      refine kq 80 ?_
      refine kq 81 ?_
      refine kq 82 ?_
      refine kq 83 ?_
      refine kq 84 ?_
      refine kq 85 ?_
      refine kq 86 ?_
      refine kq 87 ?_
      refine kq 88 ?_
      refine pq 89 rfl (x_pickT rfl rfl rfl rfl) ?_
      refine pm 90 ?_
      refine kq 91 ?_
      refine kq 92 ?_
      refine kq 93 ?_
      refine kq 94 ?_
      refine kq 95 ?_
      refine kq 96 ?_
      refine kq 97 ?_
      refine pq 98 rfl (x_pickT rfl rfl rfl rfl) ?_
      refine we_nil ?_
      cases h
      exact ⟨rfl, _, .re (rl [0, 1, 4, 3, 90, 1, 37]) [] [] rfl (.refl _), rfl⟩
    ·clear hq
     refine ex_if rfl ?_ ?_
     ·intro hc
      replace h := iteT h hc
      refine ex_seq ?_
      refine ex_ord [] (l := [0]) rfl ?_
      refine pa 8 ?_
      refine we_nil ?_
      refine ex_ret ?_
      obtain rfl := Option.some.inj h
      exact finB (by first | exact .inr rfl | exact .inl rfl) (.refl _) [.bool false] [] [] (res_cons (res_tmp rfl) res_nil) rfl rfl rfl rfl rfl rfl rfl
     ·intro hc
      replace h := iteF h hc
      refine ex_skip ?_
      refine ex_seq ?_
      refine ex_ord [3] (l := [0, 1, 2, 3, 4, 5, 6, 7, 8]) rfl ?_
      refine pm 100 ?_
      refine pq 101 rfl (x_loadA rfl rfl rfl sz24 un24 ag24 rfl) ?_
      refine pq 102 rfl (x_loadA rfl rfl rfl sz24 un24 ag24 rfl) ?_
      obtain ⟨v22, hv22, h⟩ := bindS h
      refine e_ (d := .tup [.own 0, .int .i64 v22.2]) 103 rfl rfl rfl rfl rfl (b' := []) (r' := [some ⟨55, 4, List.map c_api_Line v22.1⟩]) (x_call [] [] rfl rfl en49 (ok_doc_Delete hv22) rfl rfl rfl rfl rfl rfl rfl rfl rfl rfl rfl rfl rfl rfl) rfl ?_
      refine pm 99 ?_
      refine pq 104 rfl (.extract rfl rfl rfl rfl) ?_
      refine pq 105 rfl (.extract rfl rfl rfl rfl) ?_
      refine pa 11 ?_
      refine pa 12 ?_
      refine we_nil ?_
      refine ex_seq ?_
      refine ex_ord [3] (l := [0, 1, 2, 3, 4, 5, 6, 7, 8]) rfl ?_
      refine pm 107 ?_
      refine pq 108 rfl (x_loadA rfl rfl rfl sz24 un24 ag24 rfl) ?_
      refine pq 109 rfl (x_loadA rfl rfl rfl sz24 un24 ag24 rfl) ?_
      obtain ⟨v23, hv23, h⟩ := bindS h
      refine e_ (d := .tup [.own 1, .int .i64 v23.2]) 110 rfl rfl rfl rfl rfl (b' := []) (r' := [some ⟨55, 4, List.map c_api_Line v22.1⟩, some ⟨55, 4, List.map c_api_Line v23.1⟩]) (x_call [] [] rfl rfl en49 (ok_doc_Delete hv23) rfl rfl rfl rfl rfl rfl rfl rfl rfl rfl rfl rfl rfl rfl) rfl ?_
      refine pm 106 ?_
      refine pq 111 rfl (.extract rfl rfl rfl rfl) ?_
      refine pq 112 rfl (.extract rfl rfl rfl rfl) ?_
      refine pa 13 ?_
      refine pa 14 ?_
      refine we_nil ?_
      refine ex_seq ?_
      refine ex_seq ?_
      obtain ⟨q24, hq, h⟩ := bindS h
      refine ex_cut ⟨[Z, Z, Z, Z, Z, .cp [.int .i64 p1.f_Line, .int .i64 p1.f_At], .cp [.int .i64 p2.f_Line, .int .i64 p2.f_At], Z, Z, Z, Z, .own 0, Z, .own 1, Z, Z, Z, Z, Z, Z, Z, Z, Z, Z, Z, Z, Z, Z, Z, Z, Z, Z, Z, Z, Z, Z, Z, Z, Z, Z, Z, Z, Z, Z, Z, Z, Z, Z, Z, Z, Z, Z, Z, Z, Z, Z, Z, Z, Z, Z, Z, Z, Z, Z, Z, Z, Z, Z, Z, Z, Z, Z, Z, Z, Z, Z, Z, Z, Z, Z, Z, Z, Z, Z, Z, Z, Z, Z, Z, Z, Z, Z, Z, Z, Z, Z, Z, Z, Z, Z, Z, Z, Z, Z, Z, Z, Z, Z, Z, Z, Z, Z, Z, Z, Z, Z, Z, Z, .bool q24, Z, Z, Z, Z, Z, Z, Z, Z, Z, Z, Z, Z, Z, Z, Z, Z, Z], [], [some ⟨55, 4, List.map c_api_Line v22.1⟩, some ⟨55, 4, List.map c_api_Line v23.1⟩], 0⟩ ?_ ?_
      ·clear h
       have h := hq
       clear hq
       refine ex_ord [] (l := [0, 1, 2, 3, 4, 5]) rfl ?_
       refine pm 113 ?_
       refine pif 114 rfl rfl rfl rfl (.bin rfl rfl rfl rfl) ?_ ?_
       ·intro hc
        replace h := iteT h hc
        refine pm 115 ?_
        refine kq 116 ?_
        refine kq 117 ?_
        refine pq 118 rfl (x_pickT rfl rfl rfl rfl) ?_
        refine we_nil ?_
        cases h
        exact ⟨rfl, _, .re (rl [5, 2, 4, 1, 1, 1, 104, 1, 17]) [] [0, 1] rfl (.refl _), rfl⟩
       ·intro hc
        replace h := iteF h hc
        refine pm 115 ?_
        refine pm 116 ?_
        refine pq 117 rfl (.bin rfl rfl rfl rfl) ?_
        refine pq 118 rfl (x_pickF rfl rfl rfl rfl) ?_
        refine we_nil ?_
        cases h
        exact ⟨rfl, _, .re (rl [5, 2, 4, 1, 1, 1, 104, 1, 17]) [] [0, 1] rfl (.refl _), rfl⟩
      ·clear hq
       refine ex_if rfl ?_ ?_
       ·intro hc
        replace h := iteT h hc
        refine ex_seq ?_
        refine ex_ord [] (l := [0]) rfl ?_
        refine pa 8 ?_
        refine we_nil ?_
        refine ex_ret ?_
        obtain rfl := Option.some.inj h
        exact finB (by first | exact .inr rfl | exact .inl rfl) (.refl _) [.bool false] [] [] (res_cons (res_tmp rfl) res_nil) rfl rfl rfl rfl rfl rfl rfl
       ·intro hc
        replace h := iteF h hc
        refine ex_skip ?_
        refine ex_seq ?_
        refine ex_gst ⟨[Z, Z, Z, Z, Z, .cp [.int .i64 p1.f_Line, .int .i64 p1.f_At], .cp [.int .i64 p2.f_Line, .int .i64 p2.f_At], Z, Z, Z, Z, .own 0, Z, .sl false (List.map c_api_Line v23.1), Z, Z, Z, Z, Z, Z, Z, Z, Z, Z, Z, Z, Z, Z, Z, Z, Z, Z, Z, Z, Z, Z, Z, Z, Z, Z, Z, Z, Z, Z, Z, Z, Z, Z, Z, Z, Z, Z, Z, Z, Z, Z, Z, Z, Z, Z, Z, Z, Z, Z, Z, Z, Z, Z, Z, Z, Z, Z, Z, Z, Z, Z, Z, Z, Z, Z, Z, Z, Z, Z, Z, Z, Z, Z, Z, Z, Z, Z, Z, Z, Z, Z, Z, Z, Z, Z, Z, Z, Z, Z, Z, Z, Z, Z, Z, Z, Z, Z, Z, Z, Z, Z, Z, Z, .bool q24, Z, Z, Z, Z, Z, Z, Z, Z, Z, Z, Z, Z, Z, Z, Z, Z, Z], [], [some ⟨55, 4, List.map c_api_Line v22.1⟩, none], 0⟩ (.shutR false (t := 1) rfl (.refl _)) rfl ?_
        refine ex_ord [3] (l := [0, 1, 2, 3, 4, 5, 6, 7, 8]) rfl ?_
        refine pm 120 ?_
        refine pq 121 rfl (x_loadA rfl rfl rfl sz24 un24 ag24 rfl) ?_
        refine pq 122 rfl (x_loadA rfl rfl rfl sz24 un24 ag24 rfl) ?_
        obtain ⟨v25, hv25, h⟩ := bindS h
        refine e_ (d := .tup [.own 2, .int .i64 v25.2]) 123 rfl rfl rfl rfl rfl (b' := []) (r' := [some ⟨55, 4, List.map c_api_Line v22.1⟩, none, some ⟨55, 4, List.map c_api_Line v25.1⟩]) (x_call [] [] rfl rfl en49 (ok_doc_Delete hv25) rfl rfl rfl rfl rfl rfl rfl rfl rfl rfl rfl rfl rfl rfl) rfl ?_
        refine pm 119 ?_
        refine pq 124 rfl (.extract rfl rfl rfl rfl) ?_
        refine pq 125 rfl (.extract rfl rfl rfl rfl) ?_
        refine pa 15 ?_
        refine pa 16 ?_
        refine we_nil ?_
        refine ex_seq ?_
        refine ex_gst ⟨[Z, Z, Z, Z, Z, .cp [.int .i64 p1.f_Line, .int .i64 p1.f_At], .cp [.int .i64 p2.f_Line, .int .i64 p2.f_At], Z, Z, Z, Z, .sl false (List.map c_api_Line v22.1), Z, .sl false (List.map c_api_Line v23.1), Z, .own 2, .int .i64 v25.2, Z, Z, Z, Z, Z, Z, Z, Z, Z, Z, Z, Z, Z, Z, Z, Z, Z, Z, Z, Z, Z, Z, Z, Z, Z, Z, Z, Z, Z, Z, Z, Z, Z, Z, Z, Z, Z, Z, Z, Z, Z, Z, Z, Z, Z, Z, Z, Z, Z, Z, Z, Z, Z, Z, Z, Z, Z, Z, Z, Z, Z, Z, Z, Z, Z, Z, Z, Z, Z, Z, Z, Z, Z, Z, Z, Z, Z, Z, Z, Z, Z, Z, Z, Z, Z, Z, Z, Z, Z, Z, Z, Z, Z, Z, Z, Z, Z, Z, Z, Z, Z, .bool q24, .tup [.own 2, .int .i64 v25.2], .sl false (List.map c_api_Line v23.1), .agg [.int .i64 p1.f_Line, .int .i64 p1.f_At], .agg [.int .i64 p2.f_Line, .int .i64 p2.f_At], .tup [.own 2, .int .i64 v25.2], .own 2, .int .i64 v25.2, Z, Z, Z, Z, Z, Z, Z, Z, Z, Z], [], [none, none, some ⟨55, 4, List.map c_api_Line v25.1⟩], 0⟩ (.shutR false (t := 0) rfl (.refl _)) rfl ?_
        refine ex_gst ⟨[Z, Z, Z, Z, Z, .cp [.int .i64 p1.f_Line, .int .i64 p1.f_At], .cp [.int .i64 p2.f_Line, .int .i64 p2.f_At], Z, Z, Z, Z, .sl false (List.map c_api_Line v22.1), Z, .sl false (List.map c_api_Line v23.1), Z, .sl false (List.map c_api_Line v25.1), .int .i64 v25.2, Z, Z, Z, Z, Z, Z, Z, Z, Z, Z, Z, Z, Z, Z, Z, Z, Z, Z, Z, Z, Z, Z, Z, Z, Z, Z, Z, Z, Z, Z, Z, Z, Z, Z, Z, Z, Z, Z, Z, Z, Z, Z, Z, Z, Z, Z, Z, Z, Z, Z, Z, Z, Z, Z, Z, Z, Z, Z, Z, Z, Z, Z, Z, Z, Z, Z, Z, Z, Z, Z, Z, Z, Z, Z, Z, Z, Z, Z, Z, Z, Z, Z, Z, Z, Z, Z, Z, Z, Z, Z, Z, Z, Z, Z, Z, Z, Z, Z, Z, Z, Z, .bool q24, .tup [.own 2, .int .i64 v25.2], .sl false (List.map c_api_Line v23.1), .agg [.int .i64 p1.f_Line, .int .i64 p1.f_At], .agg [.int .i64 p2.f_Line, .int .i64 p2.f_At], .tup [.own 2, .int .i64 v25.2], .sl false (List.map c_api_Line v25.1), .int .i64 v25.2, Z, Z, Z, Z, Z, Z, Z, Z, Z, Z], [], [none, none, none], 0⟩ (.shutR false (t := 2) rfl (.refl _)) rfl ?_
        obtain ⟨q26, hq, h⟩ := bindS h
        refine ex_cut ⟨[Z, Z, Z, Z, Z, Z, Z, Z, .bool q26, Z, Z, Z, Z, Z, Z, Z, Z, Z, Z, Z, Z, Z, Z, Z, Z, Z, Z, Z, Z, Z, Z, Z, Z, Z, Z, Z, Z, Z, Z, Z, Z, Z, Z, Z, Z, Z, Z, Z, Z, Z, Z, Z, Z, Z, Z, Z, Z, Z, Z, Z, Z, Z, Z, Z, Z, Z, Z, Z, Z, Z, Z, Z, Z, Z, Z, Z, Z, Z, Z, Z, Z, Z, Z, Z, Z, Z, Z, Z, Z, Z, Z, Z, Z, Z, Z, Z, Z, Z, Z, Z, Z, Z, Z, Z, Z, Z, Z, Z, Z, Z, Z, Z, Z, Z, Z, Z, Z, Z, Z, Z, Z, Z, Z, Z, Z, Z, Z, Z, Z, Z, Z, Z, Z, Z, Z, Z], [], [], 0⟩ ?_ ?_
        ·clear h
         have h := hq
         clear hq
         refine ex_ord [] (l := [0, 1, 2, 3, 4, 5, 6, 7, 8, 9, 10]) rfl ?_
         refine pm 126 ?_
         refine pif 127 rfl rfl rfl rfl (.bin rfl rfl rfl rfl) ?_ ?_
         ·intro hc
          replace h := iteT h hc
          refine pm 128 ?_
          refine pm 129 ?_
          refine pm 130 ?_
          obtain ⟨v27, hv27, h⟩ := bindS h
          refine pif 131 rfl rfl rfl rfl (x_callP rfl rfl en47 (ok_doc_Same hv27) rfl rfl rfl rfl rfl) ?_ ?_
          ·intro hc
           replace h := iteT h hc
           refine pq 132 rfl (x_pickT rfl rfl rfl rfl) ?_
           refine pm 133 ?_
           obtain ⟨v28, hv28, h⟩ := bindS h
           refine pq 134 rfl (x_callP rfl rfl en11 (ok_quillworklaw07u_awake hv28) rfl rfl rfl rfl rfl) ?_
           refine pq 135 rfl (x_pickT rfl rfl rfl rfl) ?_
           refine pa 8 ?_
           refine we_nil ?_
           cases h
           exact ⟨rfl, _, .re (rl [8, 1, 127]) [] [] rfl (.refl _), rfl⟩
          ·intro hc
           replace h := iteF h hc
           refine pq 132 rfl (x_pickT rfl rfl rfl rfl) ?_
           refine pm 133 ?_
           refine kq 134 ?_
           refine pq 135 rfl (x_pickF rfl rfl rfl rfl) ?_
           refine pa 8 ?_
           refine we_nil ?_
           cases h
           exact ⟨rfl, _, .re (rl [8, 1, 127]) [] [] rfl (.refl _), rfl⟩
         ·intro hc
          replace h := iteF h hc
          refine pm 128 ?_
          refine kq 129 ?_
          refine kq 130 ?_
          refine kq 131 ?_
          refine pq 132 rfl (x_pickF rfl rfl rfl rfl) ?_
          refine pm 133 ?_
          refine kq 134 ?_
          refine pq 135 rfl (x_pickF rfl rfl rfl rfl) ?_
          refine pa 8 ?_
          refine we_nil ?_
          cases h
          exact ⟨rfl, _, .re (rl [8, 1, 127]) [] [] rfl (.refl _), rfl⟩
        ·clear hq
         refine ex_ret ?_
         obtain rfl := Option.some.inj h
         exact finB (by first | exact .inr rfl | exact .inl rfl) (.refl _) [.bool q26] [] [] (res_cons (res_tmp rfl) res_nil) rfl rfl rfl rfl rfl rfl rfl
end Go.PM
