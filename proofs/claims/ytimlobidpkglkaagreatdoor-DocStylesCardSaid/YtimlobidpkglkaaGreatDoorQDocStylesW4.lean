/-
  The walks: each Go function answers what its plain Lean function answers. Printed. Part 4 of 4. No condition but that the plain function answers.
-/
import Derived.Test.YtimlobidpkglkaaGreatDoorQDocStylesW3
set_option linter.unusedVariables false
set_option linter.unusedSimpArgs false
set_option linter.unusedSectionVars false
set_option linter.unnecessarySimpa false
namespace Go.PM
open Go.RowKit Go.Proofs.Tryz
set_option linter.unusedSimpArgs false
set_option linter.unusedVariables false
set_option maxRecDepth 4000
set_option maxHeartbeats 8000000 in
theorem ok_quillworklaw07u_DocStyles {r : Bool} {p0 : List (T_api_Line)} {p1 : T_api_Pos} {p2 : T_api_Pos} {p3 : Int} {p4 : Int} (h : quillworklaw07u_DocStyles p0 p1 p2 p3 p4 = some r) : OkB prog 5 [.sl false (List.map c_api_Line p0), .agg [.int .i64 p1.f_Line, .int .i64 p1.f_At], .agg [.int .i64 p2.f_Line, .int .i64 p2.f_At], .int .i64 p3, .int .i64 p4] [] [] (.bool r) [] [] := by
 unfold quillworklaw07u_DocStyles at h
 refine okB_of_exG func5 rfl rfl (s0 := [.sl false (List.map c_api_Line p0), .agg [.int .i64 p1.f_Line, .int .i64 p1.f_At], .agg [.int .i64 p2.f_Line, .int .i64 p2.f_At], .int .i64 p3, .int .i64 p4, Z, Z, Z, Z, Z, Z, Z, Z, Z, Z, Z, Z, Z, Z, Z, Z, Z, Z, Z, Z, Z, Z, Z, Z, Z, Z, Z, Z, Z, Z, Z, Z, Z, Z, Z, Z, Z, Z, Z, Z, Z, Z, Z, Z, Z, Z, Z, Z, Z, Z, Z, Z, Z, Z, Z, Z, Z, Z, Z, Z, Z, Z, Z, Z, Z, Z, Z, Z, Z, Z, Z, Z, Z, Z, Z, Z, Z, Z, Z, Z, Z, Z, Z, Z, Z, Z, Z, Z, Z, Z, Z, Z, Z, Z, Z, Z, Z, Z, Z, Z, Z, Z, Z, Z, Z, Z, Z, Z, Z, Z, Z, Z, Z, Z, Z, Z, Z, Z, Z, Z, Z, Z, Z, Z, Z, Z, Z, Z, Z, Z, Z, Z, Z, Z, Z, Z, Z, Z, Z, Z, Z, Z, Z, Z, Z, Z, Z, Z, Z, Z, Z, Z, Z, Z, Z, Z, Z, Z, Z, Z, Z, Z, Z, Z, Z, Z, Z, Z, Z, Z, Z, Z, Z, Z, Z, Z, Z, Z, Z, Z, Z, Z, Z, Z, Z, Z, Z, Z, Z, Z, Z, Z, Z, Z, Z, Z, Z, Z, Z, Z, Z, Z, Z, Z, Z, Z, Z, Z, Z, Z, Z, Z, Z, Z, Z, Z, Z, Z, Z, Z, Z, Z, Z, Z, Z, Z, Z, Z, Z, Z, Z, Z, Z, Z, Z, Z, Z, Z, Z, Z, Z, Z, Z, Z, Z, Z, Z, Z, Z, Z, Z, Z, Z, Z, Z, Z, Z, Z, Z, Z, Z, Z, Z, Z]) (b0 := []) (r0 := []) rfl rfl rfl ?_
 show Ex _ _ _ ⟨[.sl false (List.map c_api_Line p0), .agg [.int .i64 p1.f_Line, .int .i64 p1.f_At], .agg [.int .i64 p2.f_Line, .int .i64 p2.f_At], .int .i64 p3, .int .i64 p4, Z, Z, Z, Z, Z, Z, Z, Z, Z, Z, Z, Z, Z, Z, Z, Z, Z, Z, Z, Z, Z, Z, Z, Z, Z, Z, Z, Z, Z, Z, Z, Z, Z, Z, Z, Z, Z, Z, Z, Z, Z, Z, Z, Z, Z, Z, Z, Z, Z, Z, Z, Z, Z, Z, Z, Z, Z, Z, Z, Z, Z, Z, Z, Z, Z, Z, Z, Z, Z, Z, Z, Z, Z, Z, Z, Z, Z, Z, Z, Z, Z, Z, Z, Z, Z, Z, Z, Z, Z, Z, Z, Z, Z, Z, Z, Z, Z, Z, Z, Z, Z, Z, Z, Z, Z, Z, Z, Z, Z, Z, Z, Z, Z, Z, Z, Z, Z, Z, Z, Z, Z, Z, Z, Z, Z, Z, Z, Z, Z, Z, Z, Z, Z, Z, Z, Z, Z, Z, Z, Z, Z, Z, Z, Z, Z, Z, Z, Z, Z, Z, Z, Z, Z, Z, Z, Z, Z, Z, Z, Z, Z, Z, Z, Z, Z, Z, Z, Z, Z, Z, Z, Z, Z, Z, Z, Z, Z, Z, Z, Z, Z, Z, Z, Z, Z, Z, Z, Z, Z, Z, Z, Z, Z, Z, Z, Z, Z, Z, Z, Z, Z, Z, Z, Z, Z, Z, Z, Z, Z, Z, Z, Z, Z, Z, Z, Z, Z, Z, Z, Z, Z, Z, Z, Z, Z, Z, Z, Z, Z, Z, Z, Z, Z, Z, Z, Z, Z, Z, Z, Z, Z, Z, Z, Z, Z, Z, Z, Z, Z, Z, Z, Z, Z, Z, Z, Z, Z, Z, Z, Z, Z, Z, Z, Z], [], [], 0⟩ _
 refine ex_seq ?_
 refine ex_ord [0, 1] (l := [0, 1, 2]) rfl ?_
 refine e_ (d := .bx 0 0) 6 rfl rfl rfl rfl rfl (b' := [some [.int .i64 p1.f_Line, .int .i64 p1.f_At]]) (r' := []) (.box rfl rfl rfl) rfl ?_
 refine e_ (d := .bx 1 0) 7 rfl rfl rfl rfl rfl (b' := [some [.int .i64 p1.f_Line, .int .i64 p1.f_At], some [.int .i64 p2.f_Line, .int .i64 p2.f_At]]) (r' := []) (.box rfl rfl rfl) rfl ?_
 refine pa 10 ?_
 refine we_nil ?_
 refine ex_seq ?_
 refine ex_seq ?_
 refine ex_gst ⟨[.sl false (List.map c_api_Line p0), .agg [.int .i64 p1.f_Line, .int .i64 p1.f_At], .agg [.int .i64 p2.f_Line, .int .i64 p2.f_At], .int .i64 p3, .int .i64 p4, Z, .cp [.int .i64 p1.f_Line, .int .i64 p1.f_At], .bx 1 0, Z, Z, .bool false, Z, Z, Z, Z, Z, Z, Z, Z, Z, Z, Z, Z, Z, Z, Z, Z, Z, Z, Z, Z, Z, Z, Z, Z, Z, Z, Z, Z, Z, Z, Z, Z, Z, Z, Z, Z, Z, Z, Z, Z, Z, Z, Z, Z, Z, Z, Z, Z, Z, Z, Z, Z, Z, Z, Z, Z, Z, Z, Z, Z, Z, Z, Z, Z, Z, Z, Z, Z, Z, Z, Z, Z, Z, Z, Z, Z, Z, Z, Z, Z, Z, Z, Z, Z, Z, Z, Z, Z, Z, Z, Z, Z, Z, Z, Z, Z, Z, Z, Z, Z, Z, Z, Z, Z, Z, Z, Z, Z, Z, Z, Z, Z, Z, Z, Z, Z, Z, Z, Z, Z, Z, Z, Z, Z, Z, Z, Z, Z, Z, Z, Z, Z, Z, Z, Z, Z, Z, Z, Z, Z, Z, Z, Z, Z, Z, Z, Z, Z, Z, Z, Z, Z, Z, Z, Z, Z, Z, Z, Z, Z, Z, Z, Z, Z, Z, Z, Z, Z, Z, Z, Z, Z, Z, Z, Z, Z, Z, Z, Z, Z, Z, Z, Z, Z, Z, Z, Z, Z, Z, Z, Z, Z, Z, Z, Z, Z, Z, Z, Z, Z, Z, Z, Z, Z, Z, Z, Z, Z, Z, Z, Z, Z, Z, Z, Z, Z, Z, Z, Z, Z, Z, Z, Z, Z, Z, Z, Z, Z, Z, Z, Z, Z, Z, Z, Z, Z, Z, Z, Z, Z, Z, Z, Z, Z, Z, Z, Z, Z, Z, Z, Z, Z, Z, Z, Z, Z, Z, Z], [none, some [.int .i64 p2.f_Line, .int .i64 p2.f_At]], [], 0⟩ (.shutB (b := 0) rfl (fun d h => by simpa using List.all_eq_true.1 (rfl : List.all [.int .i64 p1.f_Line, .int .i64 p1.f_At] (fun d => !d.tok) = true) d h) (.refl _)) rfl ?_
 refine ex_gst ⟨[.sl false (List.map c_api_Line p0), .agg [.int .i64 p1.f_Line, .int .i64 p1.f_At], .agg [.int .i64 p2.f_Line, .int .i64 p2.f_At], .int .i64 p3, .int .i64 p4, Z, .cp [.int .i64 p1.f_Line, .int .i64 p1.f_At], .cp [.int .i64 p2.f_Line, .int .i64 p2.f_At], Z, Z, .bool false, Z, Z, Z, Z, Z, Z, Z, Z, Z, Z, Z, Z, Z, Z, Z, Z, Z, Z, Z, Z, Z, Z, Z, Z, Z, Z, Z, Z, Z, Z, Z, Z, Z, Z, Z, Z, Z, Z, Z, Z, Z, Z, Z, Z, Z, Z, Z, Z, Z, Z, Z, Z, Z, Z, Z, Z, Z, Z, Z, Z, Z, Z, Z, Z, Z, Z, Z, Z, Z, Z, Z, Z, Z, Z, Z, Z, Z, Z, Z, Z, Z, Z, Z, Z, Z, Z, Z, Z, Z, Z, Z, Z, Z, Z, Z, Z, Z, Z, Z, Z, Z, Z, Z, Z, Z, Z, Z, Z, Z, Z, Z, Z, Z, Z, Z, Z, Z, Z, Z, Z, Z, Z, Z, Z, Z, Z, Z, Z, Z, Z, Z, Z, Z, Z, Z, Z, Z, Z, Z, Z, Z, Z, Z, Z, Z, Z, Z, Z, Z, Z, Z, Z, Z, Z, Z, Z, Z, Z, Z, Z, Z, Z, Z, Z, Z, Z, Z, Z, Z, Z, Z, Z, Z, Z, Z, Z, Z, Z, Z, Z, Z, Z, Z, Z, Z, Z, Z, Z, Z, Z, Z, Z, Z, Z, Z, Z, Z, Z, Z, Z, Z, Z, Z, Z, Z, Z, Z, Z, Z, Z, Z, Z, Z, Z, Z, Z, Z, Z, Z, Z, Z, Z, Z, Z, Z, Z, Z, Z, Z, Z, Z, Z, Z, Z, Z, Z, Z, Z, Z, Z, Z, Z, Z, Z, Z, Z, Z, Z, Z, Z, Z, Z, Z, Z, Z, Z, Z, Z], [none, none], [], 0⟩ (.shutB (b := 1) rfl (fun d h => by simpa using List.all_eq_true.1 (rfl : List.all [.int .i64 p2.f_Line, .int .i64 p2.f_At] (fun d => !d.tok) = true) d h) (.refl _)) rfl ?_
 refine ex_ord [] (l := [0, 1]) rfl ?_
 refine pm 22 ?_
 obtain ⟨v1, hv1, h⟩ := bindS h
 refine pq 23 rfl (x_callP rfl rfl en10 (ok_quillworklaw07u_long hv1) rfl rfl rfl rfl rfl) ?_
 refine we_nil ?_
 refine ex_if rfl ?_ ?_
 ·intro hc
  replace h := iteT h hc
  refine ex_seq ?_
  refine ex_ord [] (l := [0, 1]) rfl ?_
  obtain ⟨v2, hv2, h⟩ := bindS h
  refine pq 24 rfl (x_callP rfl rfl en11 (ok_quillworklaw07u_awake hv2) rfl rfl rfl rfl rfl) ?_
  refine pa 10 ?_
  refine we_nil ?_
  refine ex_ret ?_
  obtain rfl := Option.some.inj h
  exact finB (by first | exact .inr rfl | exact .inl rfl) (.refl _) [.bool v2] [] [] (res_cons (res_tmp rfl) res_nil) rfl rfl rfl rfl rfl rfl rfl
 ·intro hc
  replace h := iteF h hc
  refine ex_skip ?_
  refine ex_seq ?_
  refine ex_ord [] (l := [0, 1, 2, 3, 4, 5]) rfl ?_
  refine pm 25 ?_
  refine pq 26 rfl (.bin rfl rfl rfl rfl) ?_
  refine pm 27 ?_
  refine pq 28 rfl (.bin rfl rfl rfl rfl) ?_
  refine pa 3 ?_
  refine pa 4 ?_
  refine we_nil ?_
  refine ex_seq ?_
  refine ex_ord [5] (l := [0, 1, 2, 3, 4, 5, 6, 7, 8, 9, 10]) rfl ?_
  refine pm 30 ?_
  refine pq 31 rfl (x_loadA rfl rfl rfl sz24 un24 ag24 rfl) ?_
  refine pq 32 rfl (x_loadA rfl rfl rfl sz24 un24 ag24 rfl) ?_
  refine pm 33 ?_
  refine pm 34 ?_
  obtain ⟨v3, hv3, h⟩ := bindS h
  refine e_ (d := .tup [.own 0, .int .i64 v3.2]) 35 rfl rfl rfl rfl rfl (b' := [none, none]) (r' := [some ⟨55, 4, List.map c_api_Line v3.1⟩]) (x_call [] [] rfl rfl en34 (ok_doc_Set hv3) rfl rfl rfl rfl rfl rfl rfl rfl rfl rfl rfl rfl rfl rfl) rfl ?_
  refine pm 29 ?_
  refine pq 36 rfl (.extract rfl rfl rfl rfl) ?_
  refine pq 37 rfl (.extract rfl rfl rfl rfl) ?_
  refine pa 11 ?_
  refine pa 12 ?_
  refine we_nil ?_
  refine ex_seq ?_
  refine ex_seq ?_
  refine ex_ord [] (l := [0, 1]) rfl ?_
  refine pm 38 ?_
  refine pq 39 rfl (.bin rfl rfl rfl rfl) ?_
  refine we_nil ?_
  refine ex_if rfl ?_ ?_
  ·intro hc
   replace h := iteT h hc
   refine ex_seq ?_
   obtain ⟨q4, hq, h⟩ := bindS h
   refine ex_cut ⟨[Z, Z, Z, Z, Z, Z, Z, Z, Z, Z, .bool q4, Z, Z, Z, Z, Z, Z, Z, Z, Z, Z, Z, Z, Z, Z, Z, Z, Z, Z, Z, Z, Z, Z, Z, Z, Z, Z, Z, Z, Z, Z, Z, Z, Z, Z, Z, Z, Z, Z, Z, Z, Z, Z, Z, Z, Z, Z, Z, Z, Z, Z, Z, Z, Z, Z, Z, Z, Z, Z, Z, Z, Z, Z, Z, Z, Z, Z, Z, Z, Z, Z, Z, Z, Z, Z, Z, Z, Z, Z, Z, Z, Z, Z, Z, Z, Z, Z, Z, Z, Z, Z, Z, Z, Z, Z, Z, Z, Z, Z, Z, Z, Z, Z, Z, Z, Z, Z, Z, Z, Z, Z, Z, Z, Z, Z, Z, Z, Z, Z, Z, Z, Z, Z, Z, Z, Z, Z, Z, Z, Z, Z, Z, Z, Z, Z, Z, Z, Z, Z, Z, Z, Z, Z, Z, Z, Z, Z, Z, Z, Z, Z, Z, Z, Z, Z, Z, Z, Z, Z, Z, Z, Z, Z, Z, Z, Z, Z, Z, Z, Z, Z, Z, Z, Z, Z, Z, Z, Z, Z, Z, Z, Z, Z, Z, Z, Z, Z, Z, Z, Z, Z, Z, Z, Z, Z, Z, Z, Z, Z, Z, Z, Z, Z, Z, Z, Z, Z, Z, Z, Z, Z, Z, Z, Z, Z, Z, Z, Z, Z, Z, Z, Z, Z, Z, Z, Z, Z, Z, Z, Z, Z, Z, Z, Z, Z, Z, Z, Z, Z, Z, Z, Z, Z, Z, Z, Z, Z, Z, Z, Z, Z, Z, Z, Z, Z, Z, Z, Z, Z], [], [], 0⟩ ?_ ?_
   ·clear h
    have h := hq
    clear hq
    refine ex_ord [] (l := [0, 1, 2, 3, 4, 5, 6, 7, 8, 9, 10, 11, 12, 13, 14, 15, 16, 17, 18, 19, 20, 21, 22, 23, 24]) rfl ?_
    refine pm 40 ?_
    refine pif 41 rfl rfl rfl rfl (.bin rfl rfl rfl rfl) ?_ ?_
    ·intro hc
     replace h := iteT h hc
     refine pm 42 ?_
     refine pm 43 ?_
     refine pq 44 rfl (x_loadA rfl rfl rfl sz24 un24 ag24 rfl) ?_
     refine pq 45 rfl (x_loadA rfl rfl rfl sz24 un24 ag24 rfl) ?_
     obtain ⟨v5, hv5, h⟩ := bindS h
     refine pq 46 rfl (x_callP rfl rfl en43 (ok_doc_Count hv5) rfl rfl rfl rfl rfl) ?_
     refine pif 47 rfl rfl rfl rfl (.bin rfl rfl rfl rfl) ?_ ?_
     ·intro hc
      replace h := iteT h hc
      refine pq 48 rfl (x_pickT rfl rfl rfl rfl) ?_
      refine pm 49 ?_
      refine pm 50 ?_
      refine pq 51 rfl (x_len (f := c_api_Line) (l := v3.1) rfl rfl rfl el22) ?_
      refine pif 52 rfl rfl rfl rfl (.bin rfl rfl rfl rfl) ?_ ?_
      ·intro hc
       replace h := iteT h hc
       refine pq 53 rfl (x_pickT rfl rfl rfl rfl) ?_
       refine pm 54 ?_
       obtain ⟨v6, hv6, h⟩ := bindS h
       refine pif 55 rfl rfl rfl rfl (x_callP rfl rfl en11 (ok_quillworklaw07u_awake hv6) rfl rfl rfl rfl rfl) ?_ ?_
       ·intro hc
        replace h := iteT h hc
        refine pq 56 rfl (x_pickT rfl rfl rfl rfl) ?_
        refine pm 57 ?_
        refine kq 58 ?_
        refine kq 59 ?_
        refine kq 60 ?_
        refine kq 61 ?_
        refine kq 62 ?_
        refine pq 63 rfl (x_pickT rfl rfl rfl rfl) ?_
        refine pa 10 ?_
        refine we_nil ?_
        cases h
        exact ⟨rfl, _, .re (rl [10, 1, 258]) [] [] rfl (.refl _), rfl⟩
       ·intro hc
        replace h := iteF h hc
        refine pq 56 rfl (x_pickT rfl rfl rfl rfl) ?_
        refine pm 57 ?_
        refine pm 58 ?_
        refine pif 59 rfl rfl rfl rfl (.bin rfl rfl rfl rfl) ?_ ?_
        ·intro hc
         replace h := iteT h hc
         refine pm 60 ?_
         obtain ⟨v7, hv7, h⟩ := bindS h
         refine pq 61 rfl (x_callP rfl rfl en11 (ok_quillworklaw07u_awake hv7) rfl rfl rfl rfl rfl) ?_
         refine pq 62 rfl (x_pickT rfl rfl rfl rfl) ?_
         refine pq 63 rfl (x_pickF rfl rfl rfl rfl) ?_
         refine pa 10 ?_
         refine we_nil ?_
         cases h
         exact ⟨rfl, _, .re (rl [10, 1, 258]) [] [] rfl (.refl _), rfl⟩
        ·intro hc
         replace h := iteF h hc
         refine pm 60 ?_
         refine kq 61 ?_
         refine pq 62 rfl (x_pickF rfl rfl rfl rfl) ?_
         refine pq 63 rfl (x_pickF rfl rfl rfl rfl) ?_
         refine pa 10 ?_
         refine we_nil ?_
         cases h
         exact ⟨rfl, _, .re (rl [10, 1, 258]) [] [] rfl (.refl _), rfl⟩
      ·intro hc
       replace h := iteF h hc
       refine pq 53 rfl (x_pickT rfl rfl rfl rfl) ?_
       refine pm 54 ?_
       refine kq 55 ?_
       refine pq 56 rfl (x_pickF rfl rfl rfl rfl) ?_
       refine pm 57 ?_
       refine pm 58 ?_
       refine pif 59 rfl rfl rfl rfl (.bin rfl rfl rfl rfl) ?_ ?_
       ·intro hc
        replace h := iteT h hc
        refine pm 60 ?_
        obtain ⟨v8, hv8, h⟩ := bindS h
        refine pq 61 rfl (x_callP rfl rfl en11 (ok_quillworklaw07u_awake hv8) rfl rfl rfl rfl rfl) ?_
        refine pq 62 rfl (x_pickT rfl rfl rfl rfl) ?_
        refine pq 63 rfl (x_pickF rfl rfl rfl rfl) ?_
        refine pa 10 ?_
        refine we_nil ?_
        cases h
        exact ⟨rfl, _, .re (rl [10, 1, 258]) [] [] rfl (.refl _), rfl⟩
       ·intro hc
        replace h := iteF h hc
        refine pm 60 ?_
        refine kq 61 ?_
        refine pq 62 rfl (x_pickF rfl rfl rfl rfl) ?_
        refine pq 63 rfl (x_pickF rfl rfl rfl rfl) ?_
        refine pa 10 ?_
        refine we_nil ?_
        cases h
        exact ⟨rfl, _, .re (rl [10, 1, 258]) [] [] rfl (.refl _), rfl⟩
     ·intro hc
      replace h := iteF h hc
      refine pq 48 rfl (x_pickT rfl rfl rfl rfl) ?_
      refine pm 49 ?_
      refine kq 50 ?_
      refine kq 51 ?_
      refine kq 52 ?_
      refine pq 53 rfl (x_pickF rfl rfl rfl rfl) ?_
      refine pm 54 ?_
      refine kq 55 ?_
      refine pq 56 rfl (x_pickF rfl rfl rfl rfl) ?_
      refine pm 57 ?_
      refine pm 58 ?_
      refine pif 59 rfl rfl rfl rfl (.bin rfl rfl rfl rfl) ?_ ?_
      ·intro hc
       replace h := iteT h hc
       refine pm 60 ?_
       obtain ⟨v9, hv9, h⟩ := bindS h
       refine pq 61 rfl (x_callP rfl rfl en11 (ok_quillworklaw07u_awake hv9) rfl rfl rfl rfl rfl) ?_
       refine pq 62 rfl (x_pickT rfl rfl rfl rfl) ?_
       refine pq 63 rfl (x_pickF rfl rfl rfl rfl) ?_
       refine pa 10 ?_
       refine we_nil ?_
       cases h
       exact ⟨rfl, _, .re (rl [10, 1, 258]) [] [] rfl (.refl _), rfl⟩
      ·intro hc
       replace h := iteF h hc
       refine pm 60 ?_
       refine kq 61 ?_
       refine pq 62 rfl (x_pickF rfl rfl rfl rfl) ?_
       refine pq 63 rfl (x_pickF rfl rfl rfl rfl) ?_
       refine pa 10 ?_
       refine we_nil ?_
       cases h
       exact ⟨rfl, _, .re (rl [10, 1, 258]) [] [] rfl (.refl _), rfl⟩
    ·intro hc
     replace h := iteF h hc
     refine pm 42 ?_
     refine kq 43 ?_
     refine kq 44 ?_
     refine kq 45 ?_
     refine kq 46 ?_
     refine kq 47 ?_
     refine pq 48 rfl (x_pickF rfl rfl rfl rfl) ?_
     refine pm 49 ?_
     refine kq 50 ?_
     refine kq 51 ?_
     refine kq 52 ?_
     refine pq 53 rfl (x_pickF rfl rfl rfl rfl) ?_
     refine pm 54 ?_
     refine kq 55 ?_
     refine pq 56 rfl (x_pickF rfl rfl rfl rfl) ?_
     refine pm 57 ?_
     refine pm 58 ?_
     refine pif 59 rfl rfl rfl rfl (.bin rfl rfl rfl rfl) ?_ ?_
     ·intro hc
      replace h := iteT h hc
      refine pm 60 ?_
      obtain ⟨v10, hv10, h⟩ := bindS h
      refine pq 61 rfl (x_callP rfl rfl en11 (ok_quillworklaw07u_awake hv10) rfl rfl rfl rfl rfl) ?_
      refine pq 62 rfl (x_pickT rfl rfl rfl rfl) ?_
      refine pq 63 rfl (x_pickF rfl rfl rfl rfl) ?_
      refine pa 10 ?_
      refine we_nil ?_
      cases h
      exact ⟨rfl, _, .re (rl [10, 1, 258]) [] [] rfl (.refl _), rfl⟩
     ·intro hc
      replace h := iteF h hc
      refine pm 60 ?_
      refine kq 61 ?_
      refine pq 62 rfl (x_pickF rfl rfl rfl rfl) ?_
      refine pq 63 rfl (x_pickF rfl rfl rfl rfl) ?_
      refine pa 10 ?_
      refine we_nil ?_
      cases h
      exact ⟨rfl, _, .re (rl [10, 1, 258]) [] [] rfl (.refl _), rfl⟩
   ·clear hq
    refine ex_ret ?_
    obtain rfl := Option.some.inj h
    exact finB (by first | exact .inr rfl | exact .inl rfl) (.refl _) [.bool q4] [] [] (res_cons (res_tmp rfl) res_nil) rfl rfl rfl rfl rfl rfl rfl
  ·intro hc
   replace h := iteF h hc
   refine ex_skip ?_
   refine ex_seq ?_
   refine ex_ord [3] (l := [0, 1, 2, 3, 4, 5, 6, 7, 8]) rfl ?_
   refine pm 65 ?_
   refine pq 66 rfl (x_loadA rfl rfl rfl sz24 un24 ag24 rfl) ?_
   refine pq 67 rfl (x_loadA rfl rfl rfl sz24 un24 ag24 rfl) ?_
   obtain ⟨v11, hv11, h⟩ := bindS h
   refine e_ (d := .tup [.own 1, .int .i64 v11.2]) 68 rfl rfl rfl rfl rfl (b' := [none, none]) (r' := [some ⟨55, 4, List.map c_api_Line v3.1⟩, some ⟨55, 4, List.map c_api_Line v11.1⟩]) (x_call [] [] rfl rfl en36 (ok_doc_Link hv11) rfl rfl rfl rfl rfl rfl rfl rfl rfl rfl rfl rfl rfl rfl) rfl ?_
   refine pm 64 ?_
   refine pq 69 rfl (.extract rfl rfl rfl rfl) ?_
   refine pq 70 rfl (.extract rfl rfl rfl rfl) ?_
   refine pa 13 ?_
   refine pa 14 ?_
   refine we_nil ?_
   refine ex_seq ?_
   refine ex_seq ?_
   refine ex_gst ⟨[.sl false (List.map c_api_Line p0), .agg [.int .i64 p1.f_Line, .int .i64 p1.f_At], .agg [.int .i64 p2.f_Line, .int .i64 p2.f_At], .int .i64 (bit_and .i64 p3 15), .int .i64 (bit_and .i64 p4 15), Z, .cp [.int .i64 p1.f_Line, .int .i64 p1.f_At], .cp [.int .i64 p2.f_Line, .int .i64 p2.f_At], Z, Z, .bool false, .sl false (List.map c_api_Line v3.1), .int .i64 v3.2, .own 1, .int .i64 v11.2, Z, Z, Z, Z, Z, Z, Z, .sl false (List.map c_api_Line p0), .bool v1, Z, .int .i64 p3, .int .i64 (bit_and .i64 p3 15), .int .i64 p4, .int .i64 (bit_and .i64 p4 15), .tup [.own 0, .int .i64 v3.2], .sl false (List.map c_api_Line p0), .agg [.int .i64 p1.f_Line, .int .i64 p1.f_At], .agg [.int .i64 p2.f_Line, .int .i64 p2.f_At], .int .i64 (bit_and .i64 p3 15), .int .i64 (bit_and .i64 p4 15), .tup [.own 0, .int .i64 v3.2], .sl false (List.map c_api_Line v3.1), .int .i64 v3.2, .int .i64 v3.2, .bool ((v3.2 : Int) != 0), Z, Z, Z, Z, Z, Z, Z, Z, Z, Z, Z, Z, Z, Z, Z, Z, Z, Z, Z, Z, Z, Z, Z, Z, .tup [.own 1, .int .i64 v11.2], .sl false (List.map c_api_Line p0), .agg [.int .i64 p1.f_Line, .int .i64 p1.f_At], .agg [.int .i64 p2.f_Line, .int .i64 p2.f_At], .tup [.own 1, .int .i64 v11.2], .own 1, .int .i64 v11.2, Z, Z, Z, Z, Z, Z, Z, Z, Z, Z, Z, Z, Z, Z, Z, Z, Z, Z, Z, Z, Z, Z, Z, Z, Z, Z, Z, Z, Z, Z, Z, Z, Z, Z, Z, Z, Z, Z, Z, Z, Z, Z, Z, Z, Z, Z, Z, Z, Z, Z, Z, Z, Z, Z, Z, Z, Z, Z, Z, Z, Z, Z, Z, Z, Z, Z, Z, Z, Z, Z, Z, Z, Z, Z, Z, Z, Z, Z, Z, Z, Z, Z, Z, Z, Z, Z, Z, Z, Z, Z, Z, Z, Z, Z, Z, Z, Z, Z, Z, Z, Z, Z, Z, Z, Z, Z, Z, Z, Z, Z, Z, Z, Z, Z, Z, Z, Z, Z, Z, Z, Z, Z, Z, Z, Z, Z, Z, Z, Z, Z, Z, Z, Z, Z, Z, Z, Z, Z, Z, Z, Z, Z, Z, Z, Z, Z, Z, Z, Z, Z, Z, Z, Z, Z, Z, Z, Z, Z, Z, Z, Z, Z, Z, Z, Z, Z, Z, Z, Z, Z, Z, Z, Z, Z, Z, Z, Z, Z, Z, Z, Z, Z, Z, Z, Z, Z, Z, Z, Z, Z, Z, Z, Z, Z, Z, Z, Z, Z], [none, none], [none, some ⟨55, 4, List.map c_api_Line v11.1⟩], 0⟩ (.shutR false (t := 0) rfl (.refl _)) rfl ?_
   refine ex_gst ⟨[.sl false (List.map c_api_Line p0), .agg [.int .i64 p1.f_Line, .int .i64 p1.f_At], .agg [.int .i64 p2.f_Line, .int .i64 p2.f_At], .int .i64 (bit_and .i64 p3 15), .int .i64 (bit_and .i64 p4 15), Z, .cp [.int .i64 p1.f_Line, .int .i64 p1.f_At], .cp [.int .i64 p2.f_Line, .int .i64 p2.f_At], Z, Z, .bool false, .sl false (List.map c_api_Line v3.1), .int .i64 v3.2, .sl false (List.map c_api_Line v11.1), .int .i64 v11.2, Z, Z, Z, Z, Z, Z, Z, .sl false (List.map c_api_Line p0), .bool v1, Z, .int .i64 p3, .int .i64 (bit_and .i64 p3 15), .int .i64 p4, .int .i64 (bit_and .i64 p4 15), .tup [.own 0, .int .i64 v3.2], .sl false (List.map c_api_Line p0), .agg [.int .i64 p1.f_Line, .int .i64 p1.f_At], .agg [.int .i64 p2.f_Line, .int .i64 p2.f_At], .int .i64 (bit_and .i64 p3 15), .int .i64 (bit_and .i64 p4 15), .tup [.own 0, .int .i64 v3.2], .sl false (List.map c_api_Line v3.1), .int .i64 v3.2, .int .i64 v3.2, .bool ((v3.2 : Int) != 0), Z, Z, Z, Z, Z, Z, Z, Z, Z, Z, Z, Z, Z, Z, Z, Z, Z, Z, Z, Z, Z, Z, Z, Z, .tup [.own 1, .int .i64 v11.2], .sl false (List.map c_api_Line p0), .agg [.int .i64 p1.f_Line, .int .i64 p1.f_At], .agg [.int .i64 p2.f_Line, .int .i64 p2.f_At], .tup [.own 1, .int .i64 v11.2], .sl false (List.map c_api_Line v11.1), .int .i64 v11.2, Z, Z, Z, Z, Z, Z, Z, Z, Z, Z, Z, Z, Z, Z, Z, Z, Z, Z, Z, Z, Z, Z, Z, Z, Z, Z, Z, Z, Z, Z, Z, Z, Z, Z, Z, Z, Z, Z, Z, Z, Z, Z, Z, Z, Z, Z, Z, Z, Z, Z, Z, Z, Z, Z, Z, Z, Z, Z, Z, Z, Z, Z, Z, Z, Z, Z, Z, Z, Z, Z, Z, Z, Z, Z, Z, Z, Z, Z, Z, Z, Z, Z, Z, Z, Z, Z, Z, Z, Z, Z, Z, Z, Z, Z, Z, Z, Z, Z, Z, Z, Z, Z, Z, Z, Z, Z, Z, Z, Z, Z, Z, Z, Z, Z, Z, Z, Z, Z, Z, Z, Z, Z, Z, Z, Z, Z, Z, Z, Z, Z, Z, Z, Z, Z, Z, Z, Z, Z, Z, Z, Z, Z, Z, Z, Z, Z, Z, Z, Z, Z, Z, Z, Z, Z, Z, Z, Z, Z, Z, Z, Z, Z, Z, Z, Z, Z, Z, Z, Z, Z, Z, Z, Z, Z, Z, Z, Z, Z, Z, Z, Z, Z, Z, Z, Z, Z, Z, Z, Z, Z, Z, Z, Z, Z, Z, Z, Z, Z], [none, none], [none, none], 0⟩ (.shutR false (t := 1) rfl (.refl _)) rfl ?_
   obtain ⟨q12, hq, h⟩ := bindS h
   refine ex_cut ⟨[.sl false (List.map c_api_Line p0), Z, Z, Z, Z, Z, .cp [.int .i64 p1.f_Line, .int .i64 p1.f_At], .cp [.int .i64 p2.f_Line, .int .i64 p2.f_At], Z, Z, Z, .sl false (List.map c_api_Line v3.1), Z, .sl false (List.map c_api_Line v11.1), Z, Z, Z, Z, Z, Z, Z, Z, Z, Z, Z, Z, Z, Z, Z, Z, Z, Z, Z, Z, Z, Z, Z, Z, Z, Z, Z, Z, Z, Z, Z, Z, Z, Z, Z, Z, Z, Z, Z, Z, Z, Z, Z, Z, Z, Z, Z, Z, Z, Z, Z, Z, Z, Z, Z, Z, Z, Z, Z, Z, Z, Z, Z, Z, Z, Z, Z, Z, Z, Z, Z, Z, Z, Z, Z, Z, Z, Z, Z, Z, Z, Z, Z, Z, Z, Z, Z, Z, Z, Z, Z, Z, Z, Z, Z, Z, Z, Z, Z, .bool q12, Z, Z, Z, Z, Z, Z, Z, Z, Z, Z, Z, Z, Z, Z, Z, Z, Z, Z, Z, Z, Z, Z, Z, Z, Z, Z, Z, Z, Z, Z, Z, Z, Z, Z, Z, Z, Z, Z, Z, Z, Z, Z, Z, Z, Z, Z, Z, Z, Z, Z, Z, Z, Z, Z, Z, Z, Z, Z, Z, Z, Z, Z, Z, Z, Z, Z, Z, Z, Z, Z, Z, Z, Z, Z, Z, Z, Z, Z, Z, Z, Z, Z, Z, Z, Z, Z, Z, Z, Z, Z, Z, Z, Z, Z, Z, Z, Z, Z, Z, Z, Z, Z, Z, Z, Z, Z, Z, Z, Z, Z, Z, Z, Z, Z, Z, Z, Z, Z, Z, Z, Z, Z, Z, Z, Z, Z, Z, Z, Z, Z, Z, Z, Z, Z, Z, Z, Z, Z, Z, Z, Z, Z, Z, Z, Z, Z, Z, Z, Z, Z, Z, Z, Z, Z, Z], [], [], 0⟩ ?_ ?_
   ·clear h
    have h := hq
    clear hq
    refine ex_ord [] (l := [0, 1, 2, 3, 4, 5, 6, 7, 8, 9, 10, 11, 12, 13, 14, 15, 16, 17, 18, 19, 20, 21, 22, 23, 24, 25, 26, 27, 28, 29, 30, 31, 32, 33, 34, 35, 36, 37, 38, 39, 40, 41, 42]) rfl ?_
    refine pm 71 ?_
    refine pif 72 rfl rfl rfl rfl (.bin rfl rfl rfl rfl) ?_ ?_
    ·intro hc
     replace h := iteT h hc
     refine pm 73 ?_
     refine kq 74 ?_
     refine kq 75 ?_
     refine kq 76 ?_
     refine kq 77 ?_
     refine kq 78 ?_
     refine pq 79 rfl (x_pickT rfl rfl rfl rfl) ?_
     refine pm 80 ?_
     refine kq 81 ?_
     refine kq 82 ?_
     refine kq 83 ?_
     refine kq 84 ?_
     refine kq 85 ?_
     refine pq 86 rfl (x_pickT rfl rfl rfl rfl) ?_
     refine pm 87 ?_
     refine kq 88 ?_
     refine kq 89 ?_
     refine kq 90 ?_
     refine pq 91 rfl (x_pickT rfl rfl rfl rfl) ?_
     refine pm 92 ?_
     refine kq 93 ?_
     refine kq 94 ?_
     refine kq 95 ?_
     refine pq 96 rfl (x_pickT rfl rfl rfl rfl) ?_
     refine pm 97 ?_
     refine kq 98 ?_
     refine kq 99 ?_
     refine kq 100 ?_
     refine kq 101 ?_
     refine kq 102 ?_
     refine kq 103 ?_
     refine pq 104 rfl (x_pickT rfl rfl rfl rfl) ?_
     refine pm 105 ?_
     refine kq 106 ?_
     refine kq 107 ?_
     refine kq 108 ?_
     refine kq 109 ?_
     refine kq 110 ?_
     refine kq 111 ?_
     refine kq 112 ?_
     refine pq 113 rfl (x_pickT rfl rfl rfl rfl) ?_
     refine we_nil ?_
     cases h
     exact ⟨rfl, _, .re (rl [0, 1, 5, 2, 3, 1, 1, 1, 99, 1, 155]) [] [] rfl (.refl _), rfl⟩
    ·intro hc
     replace h := iteF h hc
     refine pm 73 ?_
     refine pm 74 ?_
     refine pq 75 rfl (x_len (f := c_api_Line) (l := v3.1) rfl rfl rfl el22) ?_
     refine pm 76 ?_
     refine pq 77 rfl (x_len (f := c_api_Line) (l := p0) rfl rfl rfl el22) ?_
     refine pif 78 rfl rfl rfl rfl (.bin rfl rfl rfl rfl) ?_ ?_
     ·intro hc
      replace h := iteT h hc
      refine pq 79 rfl (x_pickF rfl rfl rfl rfl) ?_
      refine pm 80 ?_
      refine kq 81 ?_
      refine kq 82 ?_
      refine kq 83 ?_
      refine kq 84 ?_
      refine kq 85 ?_
      refine pq 86 rfl (x_pickT rfl rfl rfl rfl) ?_
      refine pm 87 ?_
      refine kq 88 ?_
      refine kq 89 ?_
      refine kq 90 ?_
      refine pq 91 rfl (x_pickT rfl rfl rfl rfl) ?_
      refine pm 92 ?_
      refine kq 93 ?_
      refine kq 94 ?_
      refine kq 95 ?_
      refine pq 96 rfl (x_pickT rfl rfl rfl rfl) ?_
      refine pm 97 ?_
      refine kq 98 ?_
      refine kq 99 ?_
      refine kq 100 ?_
      refine kq 101 ?_
      refine kq 102 ?_
      refine kq 103 ?_
      refine pq 104 rfl (x_pickT rfl rfl rfl rfl) ?_
      refine pm 105 ?_
      refine kq 106 ?_
      refine kq 107 ?_
      refine kq 108 ?_
      refine kq 109 ?_
      refine kq 110 ?_
      refine kq 111 ?_
      refine kq 112 ?_
      refine pq 113 rfl (x_pickT rfl rfl rfl rfl) ?_
      refine we_nil ?_
      cases h
      exact ⟨rfl, _, .re (rl [0, 1, 5, 2, 3, 1, 1, 1, 99, 1, 155]) [] [] rfl (.refl _), rfl⟩
     ·intro hc
      replace h := iteF h hc
      refine pq 79 rfl (x_pickF rfl rfl rfl rfl) ?_
      refine pm 80 ?_
      refine pm 81 ?_
      refine pq 82 rfl (x_len (f := c_api_Line) (l := v11.1) rfl rfl rfl el22) ?_
      refine pm 83 ?_
      refine pq 84 rfl (x_len (f := c_api_Line) (l := p0) rfl rfl rfl el22) ?_
      refine pif 85 rfl rfl rfl rfl (.bin rfl rfl rfl rfl) ?_ ?_
      ·intro hc
       replace h := iteT h hc
       refine pq 86 rfl (x_pickF rfl rfl rfl rfl) ?_
       refine pm 87 ?_
       refine kq 88 ?_
       refine kq 89 ?_
       refine kq 90 ?_
       refine pq 91 rfl (x_pickT rfl rfl rfl rfl) ?_
       refine pm 92 ?_
       refine kq 93 ?_
       refine kq 94 ?_
       refine kq 95 ?_
       refine pq 96 rfl (x_pickT rfl rfl rfl rfl) ?_
       refine pm 97 ?_
       refine kq 98 ?_
       refine kq 99 ?_
       refine kq 100 ?_
       refine kq 101 ?_
       refine kq 102 ?_
       refine kq 103 ?_
       refine pq 104 rfl (x_pickT rfl rfl rfl rfl) ?_
       refine pm 105 ?_
       refine kq 106 ?_
       refine kq 107 ?_
       refine kq 108 ?_
       refine kq 109 ?_
       refine kq 110 ?_
       refine kq 111 ?_
       refine kq 112 ?_
       refine pq 113 rfl (x_pickT rfl rfl rfl rfl) ?_
       refine we_nil ?_
       cases h
       exact ⟨rfl, _, .re (rl [0, 1, 5, 2, 3, 1, 1, 1, 99, 1, 155]) [] [] rfl (.refl _), rfl⟩
      ·intro hc
       replace h := iteF h hc
       refine pq 86 rfl (x_pickF rfl rfl rfl rfl) ?_
       refine pm 87 ?_
       refine pm 88 ?_
       obtain ⟨v13, hv13, h⟩ := bindS h
       refine pif 89 rfl rfl rfl rfl (x_callP rfl rfl en13 (ok_doc_May hv13) rfl rfl rfl rfl rfl) ?_ ?_
       ·intro hc
        replace h := iteT h hc
        refine pq 90 rfl (.un rfl rfl rfl) ?_
        refine pq 91 rfl (x_pickF rfl rfl rfl rfl) ?_
        refine pm 92 ?_
        refine pm 93 ?_
        obtain ⟨v14, hv14, h⟩ := bindS h
        refine pif 94 rfl rfl rfl rfl (x_callP rfl rfl en13 (ok_doc_May hv14) rfl rfl rfl rfl rfl) ?_ ?_
        ·intro hc
         replace h := iteT h hc
         refine pq 95 rfl (.un rfl rfl rfl) ?_
         refine pq 96 rfl (x_pickF rfl rfl rfl rfl) ?_
         refine pm 97 ?_
         refine pm 98 ?_
         refine pq 99 rfl (x_loadA rfl rfl rfl sz24 un24 ag24 rfl) ?_
         refine pq 100 rfl (x_loadA rfl rfl rfl sz24 un24 ag24 rfl) ?_
         refine pm 101 ?_
         obtain ⟨v15, hv15, h⟩ := bindS h
         refine pif 102 rfl rfl rfl rfl (x_callP rfl rfl en39 (ok_doc_All hv15) rfl rfl rfl rfl rfl) ?_ ?_
         ·intro hc
          replace h := iteT h hc
          refine pq 103 rfl (.un rfl rfl rfl) ?_
          refine pq 104 rfl (x_pickF rfl rfl rfl rfl) ?_
          refine pm 105 ?_
          refine pm 106 ?_
          refine pq 107 rfl (x_loadA rfl rfl rfl sz24 un24 ag24 rfl) ?_
          refine pq 108 rfl (x_loadA rfl rfl rfl sz24 un24 ag24 rfl) ?_
          refine pm 109 ?_
          refine pm 110 ?_
          refine pq 111 rfl (.bin rfl rfl rfl rfl) ?_
          obtain ⟨v16, hv16, h⟩ := bindS h
          refine pq 112 rfl (x_callP rfl rfl en41 (ok_doc_Some hv16) rfl rfl rfl rfl rfl) ?_
          refine pq 113 rfl (x_pickF rfl rfl rfl rfl) ?_
          refine we_nil ?_
          cases h
          exact ⟨rfl, _, .re (rl [0, 1, 5, 2, 3, 1, 1, 1, 99, 1, 155]) [] [] rfl (.refl _), rfl⟩
         ·intro hc
          replace h := iteF h hc
          refine pq 103 rfl (.un rfl rfl rfl) ?_
          refine pq 104 rfl (x_pickF rfl rfl rfl rfl) ?_
          refine pm 105 ?_
          refine kq 106 ?_
          refine kq 107 ?_
          refine kq 108 ?_
          refine kq 109 ?_
          refine kq 110 ?_
          refine kq 111 ?_
          refine kq 112 ?_
          refine pq 113 rfl (x_pickT rfl rfl rfl rfl) ?_
          refine we_nil ?_
          cases h
          exact ⟨rfl, _, .re (rl [0, 1, 5, 2, 3, 1, 1, 1, 99, 1, 155]) [] [] rfl (.refl _), rfl⟩
        ·intro hc
         replace h := iteF h hc
         refine pq 95 rfl (.un rfl rfl rfl) ?_
         refine pq 96 rfl (x_pickF rfl rfl rfl rfl) ?_
         refine pm 97 ?_
         refine kq 98 ?_
         refine kq 99 ?_
         refine kq 100 ?_
         refine kq 101 ?_
         refine kq 102 ?_
         refine kq 103 ?_
         refine pq 104 rfl (x_pickT rfl rfl rfl rfl) ?_
         refine pm 105 ?_
         refine kq 106 ?_
         refine kq 107 ?_
         refine kq 108 ?_
         refine kq 109 ?_
         refine kq 110 ?_
         refine kq 111 ?_
         refine kq 112 ?_
         refine pq 113 rfl (x_pickT rfl rfl rfl rfl) ?_
         refine we_nil ?_
         cases h
         exact ⟨rfl, _, .re (rl [0, 1, 5, 2, 3, 1, 1, 1, 99, 1, 155]) [] [] rfl (.refl _), rfl⟩
       ·intro hc
        replace h := iteF h hc
        refine pq 90 rfl (.un rfl rfl rfl) ?_
        refine pq 91 rfl (x_pickF rfl rfl rfl rfl) ?_
        refine pm 92 ?_
        refine kq 93 ?_
        refine kq 94 ?_
        refine kq 95 ?_
        refine pq 96 rfl (x_pickT rfl rfl rfl rfl) ?_
        refine pm 97 ?_
        refine kq 98 ?_
        refine kq 99 ?_
        refine kq 100 ?_
        refine kq 101 ?_
        refine kq 102 ?_
        refine kq 103 ?_
        refine pq 104 rfl (x_pickT rfl rfl rfl rfl) ?_
        refine pm 105 ?_
        refine kq 106 ?_
        refine kq 107 ?_
        refine kq 108 ?_
        refine kq 109 ?_
        refine kq 110 ?_
        refine kq 111 ?_
        refine kq 112 ?_
        refine pq 113 rfl (x_pickT rfl rfl rfl rfl) ?_
        refine we_nil ?_
        cases h
        exact ⟨rfl, _, .re (rl [0, 1, 5, 2, 3, 1, 1, 1, 99, 1, 155]) [] [] rfl (.refl _), rfl⟩
   ·clear hq
    refine ex_if rfl ?_ ?_
    ·intro hc
     replace h := iteT h hc
     refine ex_seq ?_
     refine ex_ord [] (l := [0]) rfl ?_
     refine pa 10 ?_
     refine we_nil ?_
     refine ex_ret ?_
     obtain rfl := Option.some.inj h
     exact finB (by first | exact .inr rfl | exact .inl rfl) (.refl _) [.bool false] [] [] (res_cons (res_tmp rfl) res_nil) rfl rfl rfl rfl rfl rfl rfl
    ·intro hc
     replace h := iteF h hc
     refine ex_skip ?_
     refine ex_seq ?_
     refine ex_seq ?_
     refine ex_ord [] (l := [0]) rfl ?_
     refine pa 15 ?_
     refine we_nil ?_
     refine ex_block ?_
     obtain ⟨o51, hl, h⟩ := bindS h
     refine ex_gst ⟨[.sl false (List.map c_api_Line p0), Z, Z, Z, Z, Z, .cp [.int .i64 p1.f_Line, .int .i64 p1.f_At], .cp [.int .i64 p2.f_Line, .int .i64 p2.f_At], Z, Z, Z, .sl false (List.map c_api_Line v3.1), Z, .sl false (List.map c_api_Line v11.1), Z, .int .i64 0, Z, Z, Z, Z, Z, Z, Z, Z, Z, Z, Z, Z, Z, Z, Z, Z, Z, Z, Z, Z, Z, Z, Z, Z, Z, Z, Z, Z, Z, Z, Z, Z, Z, Z, Z, Z, Z, Z, Z, Z, Z, Z, Z, Z, Z, Z, Z, Z, Z, Z, Z, Z, Z, Z, Z, Z, Z, Z, Z, Z, Z, Z, Z, Z, Z, Z, Z, Z, Z, Z, Z, Z, Z, Z, Z, Z, Z, Z, Z, Z, Z, Z, Z, Z, Z, Z, Z, Z, Z, Z, Z, Z, Z, Z, Z, Z, Z, Z, Z, Z, Z, Z, Z, Z, Z, Z, Z, Z, Z, Z, Z, Z, Z, Z, Z, Z, Z, Z, Z, Z, Z, Z, Z, Z, Z, Z, Z, Z, Z, Z, Z, Z, Z, Z, Z, Z, Z, Z, Z, Z, Z, Z, Z, Z, Z, Z, Z, Z, Z, Z, Z, Z, Z, Z, Z, Z, Z, Z, Z, Z, Z, Z, Z, Z, Z, Z, Z, Z, Z, Z, Z, Z, Z, Z, Z, Z, Z, Z, Z, Z, Z, Z, Z, Z, Z, Z, Z, Z, Z, Z, Z, Z, Z, Z, Z, Z, Z, Z, Z, Z, Z, Z, Z, Z, Z, Z, Z, Z, Z, Z, Z, Z, Z, Z, Z, Z, Z, Z, Z, Z, Z, Z, Z, Z, Z, Z, Z, Z, Z, Z, Z, Z, Z, Z, Z, Z, Z, Z, Z, Z, Z, Z, Z, Z, Z, Z, Z, Z, Z, Z, Z, Z, Z], [], [], 0⟩ (.re (rl [0, 1, 5, 2, 3, 1, 1, 1, 1, 1, 253]) [] [] rfl (.refl _)) rfl ?_
     refine ex_iterX (fun o => match o with | .inl _ => .ret | .inr _ => .exit 0) (fun s => ⟨[.sl false (List.map c_api_Line p0), Z, Z, Z, Z, Z, .cp [.int .i64 p1.f_Line, .int .i64 p1.f_At], .cp [.int .i64 p2.f_Line, .int .i64 p2.f_At], Z, Z, Z, .sl false (List.map c_api_Line v3.1), Z, .sl false (List.map c_api_Line v11.1), Z, .int .i64 s, Z, Z, Z, Z, Z, Z, Z, Z, Z, Z, Z, Z, Z, Z, Z, Z, Z, Z, Z, Z, Z, Z, Z, Z, Z, Z, Z, Z, Z, Z, Z, Z, Z, Z, Z, Z, Z, Z, Z, Z, Z, Z, Z, Z, Z, Z, Z, Z, Z, Z, Z, Z, Z, Z, Z, Z, Z, Z, Z, Z, Z, Z, Z, Z, Z, Z, Z, Z, Z, Z, Z, Z, Z, Z, Z, Z, Z, Z, Z, Z, Z, Z, Z, Z, Z, Z, Z, Z, Z, Z, Z, Z, Z, Z, Z, Z, Z, Z, Z, Z, Z, Z, Z, Z, Z, Z, Z, Z, Z, Z, Z, Z, Z, Z, Z, Z, Z, Z, Z, Z, Z, Z, Z, Z, Z, Z, Z, Z, Z, Z, Z, Z, Z, Z, Z, Z, Z, Z, Z, Z, Z, Z, Z, Z, Z, Z, Z, Z, Z, Z, Z, Z, Z, Z, Z, Z, Z, Z, Z, Z, Z, Z, Z, Z, Z, Z, Z, Z, Z, Z, Z, Z, Z, Z, Z, Z, Z, Z, Z, Z, Z, Z, Z, Z, Z, Z, Z, Z, Z, Z, Z, Z, Z, Z, Z, Z, Z, Z, Z, Z, Z, Z, Z, Z, Z, Z, Z, Z, Z, Z, Z, Z, Z, Z, Z, Z, Z, Z, Z, Z, Z, Z, Z, Z, Z, Z, Z, Z, Z, Z, Z, Z, Z, Z, Z, Z, Z, Z, Z, Z, Z, Z, Z, Z, Z, Z, Z, Z, Z, Z, Z, Z, Z], [], [], 0⟩) (fun o => match o with | .inl o => ⟨[Z, Z, Z, Z, Z, Z, Z, Z, Z, Z, .bool false, Z, Z, Z, Z, Z, Z, Z, Z, Z, Z, Z, Z, Z, Z, Z, Z, Z, Z, Z, Z, Z, Z, Z, Z, Z, Z, Z, Z, Z, Z, Z, Z, Z, Z, Z, Z, Z, Z, Z, Z, Z, Z, Z, Z, Z, Z, Z, Z, Z, Z, Z, Z, Z, Z, Z, Z, Z, Z, Z, Z, Z, Z, Z, Z, Z, Z, Z, Z, Z, Z, Z, Z, Z, Z, Z, Z, Z, Z, Z, Z, Z, Z, Z, Z, Z, Z, Z, Z, Z, Z, Z, Z, Z, Z, Z, Z, Z, Z, Z, Z, Z, Z, Z, Z, Z, Z, Z, Z, Z, Z, Z, Z, Z, Z, Z, Z, Z, Z, Z, Z, Z, Z, Z, Z, Z, Z, Z, Z, Z, Z, Z, Z, Z, Z, Z, Z, Z, Z, Z, Z, Z, Z, Z, Z, Z, Z, Z, Z, Z, Z, Z, Z, Z, Z, Z, Z, Z, Z, Z, Z, Z, Z, Z, Z, Z, Z, Z, Z, Z, Z, Z, Z, Z, Z, Z, Z, Z, Z, Z, Z, Z, Z, Z, Z, Z, Z, Z, Z, Z, Z, Z, Z, Z, Z, Z, Z, Z, Z, Z, Z, Z, Z, Z, Z, Z, Z, Z, Z, Z, Z, Z, Z, Z, Z, Z, Z, Z, Z, Z, Z, Z, Z, Z, Z, Z, Z, Z, Z, Z, Z, Z, Z, Z, Z, Z, Z, Z, Z, Z, Z, Z, Z, Z, Z, Z, Z, Z, Z, Z, Z, Z, Z, Z, Z, Z, Z, Z, Z], [], [], 0⟩ | .inr o => ⟨[Z, Z, Z, Z, Z, Z, .cp [.int .i64 p1.f_Line, .int .i64 p1.f_At], .cp [.int .i64 p2.f_Line, .int .i64 p2.f_At], Z, Z, Z, .sl false (List.map c_api_Line v3.1), Z, Z, Z, Z, Z, Z, Z, Z, Z, Z, Z, Z, Z, Z, Z, Z, Z, Z, Z, Z, Z, Z, Z, Z, Z, Z, Z, Z, Z, Z, Z, Z, Z, Z, Z, Z, Z, Z, Z, Z, Z, Z, Z, Z, Z, Z, Z, Z, Z, Z, Z, Z, Z, Z, Z, Z, Z, Z, Z, Z, Z, Z, Z, Z, Z, Z, Z, Z, Z, Z, Z, Z, Z, Z, Z, Z, Z, Z, Z, Z, Z, Z, Z, Z, Z, Z, Z, Z, Z, Z, Z, Z, Z, Z, Z, Z, Z, Z, Z, Z, Z, Z, Z, Z, Z, Z, Z, Z, Z, Z, Z, Z, Z, Z, Z, Z, Z, Z, Z, Z, Z, Z, Z, Z, Z, Z, Z, Z, Z, Z, Z, Z, Z, Z, Z, Z, Z, Z, Z, Z, Z, Z, Z, Z, Z, Z, Z, Z, Z, Z, Z, Z, Z, Z, Z, Z, Z, Z, Z, Z, Z, Z, Z, Z, Z, Z, Z, Z, Z, Z, Z, Z, Z, Z, Z, Z, Z, Z, Z, Z, Z, Z, Z, Z, Z, Z, Z, Z, Z, Z, Z, Z, Z, Z, Z, Z, Z, Z, Z, Z, Z, Z, Z, Z, Z, Z, Z, Z, Z, Z, Z, Z, Z, Z, Z, Z, Z, Z, Z, Z, Z, Z, Z, Z, Z, Z, Z, Z, Z, Z, Z, Z, Z, Z, Z, Z, Z, Z, Z, Z, Z, Z, Z, Z, Z, Z, Z, Z, Z, Z, Z, Z, Z, Z, Z, Z, Z], [], [], 0⟩) hl rfl ?_ ?_
     ·clear hl
      rcases o51 with _ | _
      ·obtain rfl := Option.some.inj h
       exact finB (by first | exact .inr rfl | exact .inl rfl) (.refl _) [.bool false] [] [] (res_cons (res_tmp rfl) res_nil) rfl rfl rfl rfl rfl rfl rfl
      ·refine ex_seq ?_
       obtain ⟨q52, hq, h⟩ := bindS h
       refine ex_cut ⟨[Z, Z, Z, Z, Z, Z, Z, Z, Z, Z, .bool q52, Z, Z, Z, Z, Z, Z, Z, Z, Z, Z, Z, Z, Z, Z, Z, Z, Z, Z, Z, Z, Z, Z, Z, Z, Z, Z, Z, Z, Z, Z, Z, Z, Z, Z, Z, Z, Z, Z, Z, Z, Z, Z, Z, Z, Z, Z, Z, Z, Z, Z, Z, Z, Z, Z, Z, Z, Z, Z, Z, Z, Z, Z, Z, Z, Z, Z, Z, Z, Z, Z, Z, Z, Z, Z, Z, Z, Z, Z, Z, Z, Z, Z, Z, Z, Z, Z, Z, Z, Z, Z, Z, Z, Z, Z, Z, Z, Z, Z, Z, Z, Z, Z, Z, Z, Z, Z, Z, Z, Z, Z, Z, Z, Z, Z, Z, Z, Z, Z, Z, Z, Z, Z, Z, Z, Z, Z, Z, Z, Z, Z, Z, Z, Z, Z, Z, Z, Z, Z, Z, Z, Z, Z, Z, Z, Z, Z, Z, Z, Z, Z, Z, Z, Z, Z, Z, Z, Z, Z, Z, Z, Z, Z, Z, Z, Z, Z, Z, Z, Z, Z, Z, Z, Z, Z, Z, Z, Z, Z, Z, Z, Z, Z, Z, Z, Z, Z, Z, Z, Z, Z, Z, Z, Z, Z, Z, Z, Z, Z, Z, Z, Z, Z, Z, Z, Z, Z, Z, Z, Z, Z, Z, Z, Z, Z, Z, Z, Z, Z, Z, Z, Z, Z, Z, Z, Z, Z, Z, Z, Z, Z, Z, Z, Z, Z, Z, Z, Z, Z, Z, Z, Z, Z, Z, Z, Z, Z, Z, Z, Z, Z, Z, Z, Z, Z, Z, Z, Z, Z], [], [], 0⟩ ?_ ?_
       ·clear h
        have h := hq
        clear hq
        refine ex_ord [] (l := [0, 1, 2, 3, 4, 5, 6, 7, 8]) rfl ?_
        refine pm 261 ?_
        refine pq 262 rfl (x_loadA rfl rfl rfl sz24 un24 ag24 rfl) ?_
        refine pq 263 rfl (x_loadA rfl rfl rfl sz24 un24 ag24 rfl) ?_
        obtain ⟨v53, hv53, h⟩ := bindS h
        refine pq 264 rfl (x_callP rfl rfl en38 (OkB.shut (ok_quillworkref07u_Cells hv53) rfl) rfl rfl rfl rfl rfl) ?_
        obtain ⟨v54, hv54, h⟩ := bindS h
        refine pif 265 rfl rfl rfl rfl (x_callP rfl rfl en46 (ok_quillworkref05u_May hv54) rfl rfl rfl rfl rfl) ?_ ?_
        ·intro hc
         replace h := iteT h hc
         refine pm 266 ?_
         obtain ⟨v55, hv55, h⟩ := bindS h
         refine pq 267 rfl (x_callP rfl rfl en11 (ok_quillworklaw07u_awake hv55) rfl rfl rfl rfl rfl) ?_
         refine pq 268 rfl (x_pickT rfl rfl rfl rfl) ?_
         refine pa 10 ?_
         refine we_nil ?_
         cases h
         exact ⟨rfl, _, .re (rl [10, 1, 258]) [] [] rfl (.refl _), rfl⟩
        ·intro hc
         replace h := iteF h hc
         refine pm 266 ?_
         refine kq 267 ?_
         refine pq 268 rfl (x_pickF rfl rfl rfl rfl) ?_
         refine pa 10 ?_
         refine we_nil ?_
         cases h
         exact ⟨rfl, _, .re (rl [10, 1, 258]) [] [] rfl (.refl _), rfl⟩
       ·clear hq
        refine ex_ret ?_
        obtain rfl := Option.some.inj h
        exact finB (by first | exact .inr rfl | exact .inl rfl) (.refl _) [.bool q52] [] [] (res_cons (res_tmp rfl) res_nil) rfl rfl rfl rfl rfl rfl rfl
     ·clear hl h
      rintro n17 y h
      replace h : quillworklaw07u_DocStyles_l3 p0 p1 p2 v3 v11 n17 = some y := h
      unfold quillworklaw07u_DocStyles_l3 at h
      show Ex _ _ _ ⟨[.sl false (List.map c_api_Line p0), Z, Z, Z, Z, Z, .cp [.int .i64 p1.f_Line, .int .i64 p1.f_At], .cp [.int .i64 p2.f_Line, .int .i64 p2.f_At], Z, Z, Z, .sl false (List.map c_api_Line v3.1), Z, .sl false (List.map c_api_Line v11.1), Z, .int .i64 n17, Z, Z, Z, Z, Z, Z, Z, Z, Z, Z, Z, Z, Z, Z, Z, Z, Z, Z, Z, Z, Z, Z, Z, Z, Z, Z, Z, Z, Z, Z, Z, Z, Z, Z, Z, Z, Z, Z, Z, Z, Z, Z, Z, Z, Z, Z, Z, Z, Z, Z, Z, Z, Z, Z, Z, Z, Z, Z, Z, Z, Z, Z, Z, Z, Z, Z, Z, Z, Z, Z, Z, Z, Z, Z, Z, Z, Z, Z, Z, Z, Z, Z, Z, Z, Z, Z, Z, Z, Z, Z, Z, Z, Z, Z, Z, Z, Z, Z, Z, Z, Z, Z, Z, Z, Z, Z, Z, Z, Z, Z, Z, Z, Z, Z, Z, Z, Z, Z, Z, Z, Z, Z, Z, Z, Z, Z, Z, Z, Z, Z, Z, Z, Z, Z, Z, Z, Z, Z, Z, Z, Z, Z, Z, Z, Z, Z, Z, Z, Z, Z, Z, Z, Z, Z, Z, Z, Z, Z, Z, Z, Z, Z, Z, Z, Z, Z, Z, Z, Z, Z, Z, Z, Z, Z, Z, Z, Z, Z, Z, Z, Z, Z, Z, Z, Z, Z, Z, Z, Z, Z, Z, Z, Z, Z, Z, Z, Z, Z, Z, Z, Z, Z, Z, Z, Z, Z, Z, Z, Z, Z, Z, Z, Z, Z, Z, Z, Z, Z, Z, Z, Z, Z, Z, Z, Z, Z, Z, Z, Z, Z, Z, Z, Z, Z, Z, Z, Z, Z, Z, Z, Z, Z, Z, Z, Z, Z, Z, Z, Z, Z, Z, Z, Z], [], [], 0⟩ _
      refine ex_seq ?_
      refine ex_seq ?_
      refine ex_ord [] (l := [0, 1, 2, 3]) rfl ?_
      refine pm 114 ?_
      refine pm 115 ?_
      refine pq 116 rfl (x_len (f := c_api_Line) (l := p0) rfl rfl rfl el22) ?_
      refine pq 117 rfl (.bin rfl rfl rfl rfl) ?_
      refine we_nil ?_
      refine ex_if rfl ?_ ?_
      ·intro hc
       replace h := iteT h hc
       refine ex_skip ?_
       refine ex_seq ?_
       refine ex_block ?_
       refine ex_seq ?_
       refine ex_seq ?_
       obtain ⟨q18, hq, h⟩ := bindS h
       refine ex_cut ⟨[.sl false (List.map c_api_Line p0), Z, Z, Z, Z, Z, .cp [.int .i64 p1.f_Line, .int .i64 p1.f_At], .cp [.int .i64 p2.f_Line, .int .i64 p2.f_At], Z, Z, Z, .sl false (List.map c_api_Line v3.1), Z, .sl false (List.map c_api_Line v11.1), Z, .int .i64 n17, Z, Z, Z, Z, Z, Z, Z, Z, Z, Z, Z, Z, Z, Z, Z, Z, Z, Z, Z, Z, Z, Z, Z, Z, Z, Z, Z, Z, Z, Z, Z, Z, Z, Z, Z, Z, Z, Z, Z, Z, Z, Z, Z, Z, Z, Z, Z, Z, Z, Z, Z, Z, Z, Z, Z, Z, Z, Z, Z, Z, Z, Z, Z, Z, Z, Z, Z, Z, Z, Z, Z, Z, Z, Z, Z, Z, Z, Z, Z, Z, Z, Z, Z, Z, Z, Z, Z, Z, Z, Z, Z, Z, Z, Z, Z, Z, Z, Z, Z, Z, Z, Z, Z, Z, Z, Z, Z, Z, Z, Z, Z, Z, Z, Z, Z, Z, Z, Z, Z, Z, Z, Z, Z, Z, Z, Z, Z, Z, Z, Z, Z, Z, Z, Z, Z, Z, Z, Z, Z, Z, Z, Z, Z, Z, Z, .bool q18, Z, Z, Z, Z, Z, Z, Z, Z, Z, Z, Z, Z, Z, Z, Z, Z, Z, Z, Z, Z, Z, Z, Z, Z, Z, Z, Z, Z, Z, Z, Z, Z, Z, Z, Z, Z, Z, Z, Z, Z, Z, Z, Z, Z, Z, Z, Z, Z, Z, Z, Z, Z, Z, Z, Z, Z, Z, Z, Z, Z, Z, Z, Z, Z, Z, Z, Z, Z, Z, Z, Z, Z, Z, Z, Z, Z, Z, Z, Z, Z, Z, Z, Z, Z, Z, Z, Z, Z, Z, Z, Z, Z, Z, Z, Z, Z, Z, Z, Z, Z, Z, Z, Z, Z, Z, Z, Z], [], [], 0⟩ ?_ ?_
       ·clear h
        have h := hq
        clear hq
        refine ex_drw mo [1002, 1003, 1004, 1007, 1008, 1009, 1015, 1016, 1017, 1018, 1021, 1022, 1023, 1024, 1030, 1031, 1032, 1033, 1036, 1037, 1038, 1039] (by kernel_rfl) (l := [0, 1, 2, 3, 4, 5, 6, 7, 8, 9, 10, 11, 12, 13, 14, 15, 16, 17, 18, 19, 20, 21, 22, 23, 24, 25, 26, 27, 28, 29, 30, 31, 32, 33, 34, 35, 36, 37, 38, 39, 40, 41]) rfl ?_
        refine pm 120 ?_
        refine pm 121 ?_
        obtain ⟨v19, hv19, h⟩ := bindS h
        refine n_ 122 rfl rfl rfl (fun _ _ => x_idx (f := c_api_Line) (cs := [.int .i64 v19.f_Quote, .sl false (List.map c_i64 v19.f_Lists), .int .i64 v19.f_Kind, .sl false (List.map c_api_Cell v19.f_Cells)]) rfl rfl rfl el22 sz55 hv19 rfl rfl) ?_
        refine n_ 123 rfl rfl rfl (fun _ _ => x_loadA rfl rfl rfl sz55 un55 ag55 rfl) ?_
        obtain ⟨v20, hv20, h⟩ := bindS h
        refine n_ 124 rfl rfl rfl (fun _ _ => x_callP rfl rfl en45 (ok_quillworkref06u_Frame hv20) rfl rfl rfl rfl rfl) ?_
        refine pm 125 ?_
        refine pm 126 ?_
        obtain ⟨v21, hv21, h⟩ := bindS h
        refine n_ 127 rfl rfl rfl (fun _ _ => x_idx (f := c_api_Line) (cs := [.int .i64 v21.f_Quote, .sl false (List.map c_i64 v21.f_Lists), .int .i64 v21.f_Kind, .sl false (List.map c_api_Cell v21.f_Cells)]) rfl rfl rfl el22 sz55 hv21 rfl rfl) ?_
        refine n_ 128 rfl rfl rfl (fun _ _ => x_loadA rfl rfl rfl sz55 un55 ag55 rfl) ?_
        obtain ⟨v22, hv22, h⟩ := bindS h
        refine n_ 129 rfl rfl rfl (fun _ _ => x_callP rfl rfl en45 (ok_quillworkref06u_Frame hv22) rfl rfl rfl rfl rfl) ?_
        obtain ⟨v23, hv23, h⟩ := bindS h
        refine pif 130 rfl rfl rfl rfl (x_callP rfl rfl en44 (ok_quillworkref06u_Same hv23) rfl rfl rfl rfl rfl) ?_ ?_
        ·intro hc
         replace h := iteT h hc
         refine pq 131 rfl (.un rfl rfl rfl) ?_
         refine pm 132 ?_
         refine pm 133 ?_
         refine pm 134 ?_
         obtain ⟨v24, hv24, h⟩ := bindS h
         refine n_ 135 rfl rfl rfl (fun _ _ => x_idx (f := c_api_Line) (cs := [.int .i64 v24.f_Quote, .sl false (List.map c_i64 v24.f_Lists), .int .i64 v24.f_Kind, .sl false (List.map c_api_Cell v24.f_Cells)]) rfl rfl rfl el22 sz55 hv24 rfl rfl) ?_
         refine n_ 136 rfl rfl rfl (fun _ _ => .fieldAddr rfl rfl rfl fl55u_3 rfl) ?_
         refine n_ 137 rfl rfl rfl (fun _ _ => x_load rfl rfl rfl sz46 un46 ag46 rfl) ?_
         refine n_ 138 rfl rfl rfl (fun _ _ => x_len (f := c_api_Cell) (l := v24.f_Cells) rfl rfl rfl el46) ?_
         refine pm 139 ?_
         refine pm 140 ?_
         obtain ⟨v25, hv25, h⟩ := bindS h
         refine n_ 141 rfl rfl rfl (fun _ _ => x_idx (f := c_api_Line) (cs := [.int .i64 v25.f_Quote, .sl false (List.map c_i64 v25.f_Lists), .int .i64 v25.f_Kind, .sl false (List.map c_api_Cell v25.f_Cells)]) rfl rfl rfl el22 sz55 hv25 rfl rfl) ?_
         refine n_ 142 rfl rfl rfl (fun _ _ => .fieldAddr rfl rfl rfl fl55u_3 rfl) ?_
         refine n_ 143 rfl rfl rfl (fun _ _ => x_load rfl rfl rfl sz46 un46 ag46 rfl) ?_
         refine n_ 144 rfl rfl rfl (fun _ _ => x_len (f := c_api_Cell) (l := v25.f_Cells) rfl rfl rfl el46) ?_
         refine pif 145 rfl rfl rfl rfl (.bin rfl rfl rfl rfl) ?_ ?_
         ·intro hc
          replace h := iteT h hc
          refine pq 146 rfl (x_pickF rfl rfl rfl rfl) ?_
          refine pm 147 ?_
          refine kq 148 ?_
          refine kq 149 ?_
          refine kq 150 ?_
          refine kq 151 ?_
          refine kq 152 ?_
          refine kq 153 ?_
          refine kq 154 ?_
          refine kq 155 ?_
          refine kq 156 ?_
          refine kq 157 ?_
          refine kq 158 ?_
          refine kq 159 ?_
          refine kq 160 ?_
          refine pq 161 rfl (x_pickT rfl rfl rfl rfl) ?_
          refine we_nil ?_
          cases h
          exact ⟨rfl, _, .re (rl [0, 1, 5, 2, 3, 1, 1, 1, 1, 1, 145, 1, 107]) [] [] rfl (.refl _), rfl⟩
         ·intro hc
          replace h := iteF h hc
          refine pq 146 rfl (x_pickF rfl rfl rfl rfl) ?_
          refine pm 147 ?_
          refine pm 148 ?_
          refine pm 149 ?_
          obtain ⟨v26, hv26, h⟩ := bindS h
          refine n_ 150 rfl rfl rfl (fun _ _ => x_idx (f := c_api_Line) (cs := [.int .i64 v26.f_Quote, .sl false (List.map c_i64 v26.f_Lists), .int .i64 v26.f_Kind, .sl false (List.map c_api_Cell v26.f_Cells)]) rfl rfl rfl el22 sz55 hv26 rfl rfl) ?_
          refine n_ 151 rfl rfl rfl (fun _ _ => .fieldAddr rfl rfl rfl fl55u_3 rfl) ?_
          refine n_ 152 rfl rfl rfl (fun _ _ => x_load rfl rfl rfl sz46 un46 ag46 rfl) ?_
          refine n_ 153 rfl rfl rfl (fun _ _ => x_len (f := c_api_Cell) (l := v26.f_Cells) rfl rfl rfl el46) ?_
          refine pm 154 ?_
          refine pm 155 ?_
          obtain ⟨v27, hv27, h⟩ := bindS h
          refine n_ 156 rfl rfl rfl (fun _ _ => x_idx (f := c_api_Line) (cs := [.int .i64 v27.f_Quote, .sl false (List.map c_i64 v27.f_Lists), .int .i64 v27.f_Kind, .sl false (List.map c_api_Cell v27.f_Cells)]) rfl rfl rfl el22 sz55 hv27 rfl rfl) ?_
          refine n_ 157 rfl rfl rfl (fun _ _ => .fieldAddr rfl rfl rfl fl55u_3 rfl) ?_
          refine n_ 158 rfl rfl rfl (fun _ _ => x_load rfl rfl rfl sz46 un46 ag46 rfl) ?_
          refine n_ 159 rfl rfl rfl (fun _ _ => x_len (f := c_api_Cell) (l := v27.f_Cells) rfl rfl rfl el46) ?_
          refine pq 160 rfl (.bin rfl rfl rfl rfl) ?_
          refine pq 161 rfl (x_pickF rfl rfl rfl rfl) ?_
          refine we_nil ?_
          cases h
          exact ⟨rfl, _, .re (rl [0, 1, 5, 2, 3, 1, 1, 1, 1, 1, 145, 1, 107]) [] [] rfl (.refl _), rfl⟩
        ·intro hc
         replace h := iteF h hc
         refine pq 131 rfl (.un rfl rfl rfl) ?_
         refine pm 132 ?_
         refine kq 133 ?_
         refine kq 134 ?_
         refine kq 135 ?_
         refine kq 136 ?_
         refine kq 137 ?_
         refine kq 138 ?_
         refine kq 139 ?_
         refine kq 140 ?_
         refine kq 141 ?_
         refine kq 142 ?_
         refine kq 143 ?_
         refine kq 144 ?_
         refine kq 145 ?_
         refine pq 146 rfl (x_pickT rfl rfl rfl rfl) ?_
         refine pm 147 ?_
         refine kq 148 ?_
         refine kq 149 ?_
         refine kq 150 ?_
         refine kq 151 ?_
         refine kq 152 ?_
         refine kq 153 ?_
         refine kq 154 ?_
         refine kq 155 ?_
         refine kq 156 ?_
         refine kq 157 ?_
         refine kq 158 ?_
         refine kq 159 ?_
         refine kq 160 ?_
         refine pq 161 rfl (x_pickT rfl rfl rfl rfl) ?_
         refine we_nil ?_
         cases h
         exact ⟨rfl, _, .re (rl [0, 1, 5, 2, 3, 1, 1, 1, 1, 1, 145, 1, 107]) [] [] rfl (.refl _), rfl⟩
       ·clear hq
        refine ex_if rfl ?_ ?_
        ·intro hc
         replace h := iteT h hc
         refine ex_seq ?_
         refine ex_ord [] (l := [0]) rfl ?_
         refine pa 10 ?_
         refine we_nil ?_
         refine ex_ret ?_
         exact rnd_out (o := (.inl ())) rfl (fun h => by cases h) h (.re (rl [10, 1, 258]) [] [] rfl (.refl _)) rfl
        ·intro hc
         replace h := iteF h hc
         refine ex_skip ?_
         refine ex_seq ?_
         refine ex_ord [] (l := [0]) rfl ?_
         refine pa 16 ?_
         refine we_nil ?_
         refine ex_block ?_
         obtain ⟨o50, hl, h⟩ := bindS h
         refine ex_gst ⟨[.sl false (List.map c_api_Line p0), Z, Z, Z, Z, Z, .cp [.int .i64 p1.f_Line, .int .i64 p1.f_At], .cp [.int .i64 p2.f_Line, .int .i64 p2.f_At], Z, Z, Z, .sl false (List.map c_api_Line v3.1), Z, .sl false (List.map c_api_Line v11.1), Z, .int .i64 n17, .int .i64 0, Z, Z, Z, Z, Z, Z, Z, Z, Z, Z, Z, Z, Z, Z, Z, Z, Z, Z, Z, Z, Z, Z, Z, Z, Z, Z, Z, Z, Z, Z, Z, Z, Z, Z, Z, Z, Z, Z, Z, Z, Z, Z, Z, Z, Z, Z, Z, Z, Z, Z, Z, Z, Z, Z, Z, Z, Z, Z, Z, Z, Z, Z, Z, Z, Z, Z, Z, Z, Z, Z, Z, Z, Z, Z, Z, Z, Z, Z, Z, Z, Z, Z, Z, Z, Z, Z, Z, Z, Z, Z, Z, Z, Z, Z, Z, Z, Z, Z, Z, Z, Z, Z, Z, Z, Z, Z, Z, Z, Z, Z, Z, Z, Z, Z, Z, Z, Z, Z, Z, Z, Z, Z, Z, Z, Z, Z, Z, Z, Z, Z, Z, Z, Z, Z, Z, Z, Z, Z, Z, Z, Z, Z, Z, Z, Z, Z, Z, Z, Z, Z, Z, Z, Z, Z, Z, Z, Z, Z, Z, Z, Z, Z, Z, Z, Z, Z, Z, Z, Z, Z, Z, Z, Z, Z, Z, Z, Z, Z, Z, Z, Z, Z, Z, Z, Z, Z, Z, Z, Z, Z, Z, Z, Z, Z, Z, Z, Z, Z, Z, Z, Z, Z, Z, Z, Z, Z, Z, Z, Z, Z, Z, Z, Z, Z, Z, Z, Z, Z, Z, Z, Z, Z, Z, Z, Z, Z, Z, Z, Z, Z, Z, Z, Z, Z, Z, Z, Z, Z, Z, Z, Z, Z, Z, Z, Z, Z, Z, Z, Z, Z, Z, Z], [], [], 0⟩ (.re (rl [0, 1, 5, 2, 3, 1, 1, 1, 1, 2, 252]) [] [] rfl (.refl _)) rfl ?_
         refine ex_iterX (fun o => match o with | .inl _ => .ret | .inr _ => .exit 2) (fun s => ⟨[.sl false (List.map c_api_Line p0), Z, Z, Z, Z, Z, .cp [.int .i64 p1.f_Line, .int .i64 p1.f_At], .cp [.int .i64 p2.f_Line, .int .i64 p2.f_At], Z, Z, Z, .sl false (List.map c_api_Line v3.1), Z, .sl false (List.map c_api_Line v11.1), Z, .int .i64 n17, .int .i64 s, Z, Z, Z, Z, Z, Z, Z, Z, Z, Z, Z, Z, Z, Z, Z, Z, Z, Z, Z, Z, Z, Z, Z, Z, Z, Z, Z, Z, Z, Z, Z, Z, Z, Z, Z, Z, Z, Z, Z, Z, Z, Z, Z, Z, Z, Z, Z, Z, Z, Z, Z, Z, Z, Z, Z, Z, Z, Z, Z, Z, Z, Z, Z, Z, Z, Z, Z, Z, Z, Z, Z, Z, Z, Z, Z, Z, Z, Z, Z, Z, Z, Z, Z, Z, Z, Z, Z, Z, Z, Z, Z, Z, Z, Z, Z, Z, Z, Z, Z, Z, Z, Z, Z, Z, Z, Z, Z, Z, Z, Z, Z, Z, Z, Z, Z, Z, Z, Z, Z, Z, Z, Z, Z, Z, Z, Z, Z, Z, Z, Z, Z, Z, Z, Z, Z, Z, Z, Z, Z, Z, Z, Z, Z, Z, Z, Z, Z, Z, Z, Z, Z, Z, Z, Z, Z, Z, Z, Z, Z, Z, Z, Z, Z, Z, Z, Z, Z, Z, Z, Z, Z, Z, Z, Z, Z, Z, Z, Z, Z, Z, Z, Z, Z, Z, Z, Z, Z, Z, Z, Z, Z, Z, Z, Z, Z, Z, Z, Z, Z, Z, Z, Z, Z, Z, Z, Z, Z, Z, Z, Z, Z, Z, Z, Z, Z, Z, Z, Z, Z, Z, Z, Z, Z, Z, Z, Z, Z, Z, Z, Z, Z, Z, Z, Z, Z, Z, Z, Z, Z, Z, Z, Z, Z, Z, Z, Z, Z, Z, Z, Z, Z, Z], [], [], 0⟩) (fun o => match o with | .inl o => ⟨[Z, Z, Z, Z, Z, Z, Z, Z, Z, Z, .bool false, Z, Z, Z, Z, Z, Z, Z, Z, Z, Z, Z, Z, Z, Z, Z, Z, Z, Z, Z, Z, Z, Z, Z, Z, Z, Z, Z, Z, Z, Z, Z, Z, Z, Z, Z, Z, Z, Z, Z, Z, Z, Z, Z, Z, Z, Z, Z, Z, Z, Z, Z, Z, Z, Z, Z, Z, Z, Z, Z, Z, Z, Z, Z, Z, Z, Z, Z, Z, Z, Z, Z, Z, Z, Z, Z, Z, Z, Z, Z, Z, Z, Z, Z, Z, Z, Z, Z, Z, Z, Z, Z, Z, Z, Z, Z, Z, Z, Z, Z, Z, Z, Z, Z, Z, Z, Z, Z, Z, Z, Z, Z, Z, Z, Z, Z, Z, Z, Z, Z, Z, Z, Z, Z, Z, Z, Z, Z, Z, Z, Z, Z, Z, Z, Z, Z, Z, Z, Z, Z, Z, Z, Z, Z, Z, Z, Z, Z, Z, Z, Z, Z, Z, Z, Z, Z, Z, Z, Z, Z, Z, Z, Z, Z, Z, Z, Z, Z, Z, Z, Z, Z, Z, Z, Z, Z, Z, Z, Z, Z, Z, Z, Z, Z, Z, Z, Z, Z, Z, Z, Z, Z, Z, Z, Z, Z, Z, Z, Z, Z, Z, Z, Z, Z, Z, Z, Z, Z, Z, Z, Z, Z, Z, Z, Z, Z, Z, Z, Z, Z, Z, Z, Z, Z, Z, Z, Z, Z, Z, Z, Z, Z, Z, Z, Z, Z, Z, Z, Z, Z, Z, Z, Z, Z, Z, Z, Z, Z, Z, Z, Z, Z, Z, Z, Z, Z, Z, Z, Z], [], [], 0⟩ | .inr o => ⟨[.sl false (List.map c_api_Line p0), Z, Z, Z, Z, Z, .cp [.int .i64 p1.f_Line, .int .i64 p1.f_At], .cp [.int .i64 p2.f_Line, .int .i64 p2.f_At], Z, Z, Z, .sl false (List.map c_api_Line v3.1), Z, .sl false (List.map c_api_Line v11.1), Z, .int .i64 n17, Z, Z, Z, Z, Z, Z, Z, Z, Z, Z, Z, Z, Z, Z, Z, Z, Z, Z, Z, Z, Z, Z, Z, Z, Z, Z, Z, Z, Z, Z, Z, Z, Z, Z, Z, Z, Z, Z, Z, Z, Z, Z, Z, Z, Z, Z, Z, Z, Z, Z, Z, Z, Z, Z, Z, Z, Z, Z, Z, Z, Z, Z, Z, Z, Z, Z, Z, Z, Z, Z, Z, Z, Z, Z, Z, Z, Z, Z, Z, Z, Z, Z, Z, Z, Z, Z, Z, Z, Z, Z, Z, Z, Z, Z, Z, Z, Z, Z, Z, Z, Z, Z, Z, Z, Z, Z, Z, Z, Z, Z, Z, Z, Z, Z, Z, Z, Z, Z, Z, Z, Z, Z, Z, Z, Z, Z, Z, Z, Z, Z, Z, Z, Z, Z, Z, Z, Z, Z, Z, Z, Z, Z, Z, Z, Z, Z, Z, Z, Z, Z, Z, Z, Z, Z, Z, Z, Z, Z, Z, Z, Z, Z, Z, Z, Z, Z, Z, Z, Z, Z, Z, Z, Z, Z, Z, Z, Z, Z, Z, Z, Z, Z, Z, Z, Z, Z, Z, Z, Z, Z, Z, Z, Z, Z, Z, Z, Z, Z, Z, Z, Z, Z, Z, Z, Z, Z, Z, Z, Z, Z, Z, Z, Z, Z, Z, Z, Z, Z, Z, Z, Z, Z, Z, Z, Z, Z, Z, Z, Z, Z, Z, Z, Z, Z, Z, Z, Z, Z, Z, Z, Z, Z, Z, Z, Z, Z, Z, Z, Z, Z, Z, Z, Z], [], [], 0⟩) hl rfl ?_ ?_
         ·clear hl
          rcases o50 with _ | _
          ·exact rnd_out (o := (.inl ())) rfl (fun h => by cases h) h (.re (rl [10, 1, 258]) [] [] rfl (.refl _)) rfl
          ·refine ex_ord [] (l := [0, 1, 2]) rfl ?_
           refine pm 118 ?_
           refine pq 119 rfl (.bin rfl rfl rfl rfl) ?_
           refine pa 15 ?_
           refine we_nil ?_
           exact rnd_on rfl h (.re (rl [0, 1, 5, 2, 3, 1, 1, 1, 1, 1, 253]) [] [] rfl (.refl _)) rfl
         ·clear hl h
          rintro n28 y h
          replace h : quillworklaw07u_DocStyles_l4 p0 p1 p2 v3 v11 n17 n28 = some y := h
          unfold quillworklaw07u_DocStyles_l4 at h
          show Ex _ _ _ ⟨[.sl false (List.map c_api_Line p0), Z, Z, Z, Z, Z, .cp [.int .i64 p1.f_Line, .int .i64 p1.f_At], .cp [.int .i64 p2.f_Line, .int .i64 p2.f_At], Z, Z, Z, .sl false (List.map c_api_Line v3.1), Z, .sl false (List.map c_api_Line v11.1), Z, .int .i64 n17, .int .i64 n28, Z, Z, Z, Z, Z, Z, Z, Z, Z, Z, Z, Z, Z, Z, Z, Z, Z, Z, Z, Z, Z, Z, Z, Z, Z, Z, Z, Z, Z, Z, Z, Z, Z, Z, Z, Z, Z, Z, Z, Z, Z, Z, Z, Z, Z, Z, Z, Z, Z, Z, Z, Z, Z, Z, Z, Z, Z, Z, Z, Z, Z, Z, Z, Z, Z, Z, Z, Z, Z, Z, Z, Z, Z, Z, Z, Z, Z, Z, Z, Z, Z, Z, Z, Z, Z, Z, Z, Z, Z, Z, Z, Z, Z, Z, Z, Z, Z, Z, Z, Z, Z, Z, Z, Z, Z, Z, Z, Z, Z, Z, Z, Z, Z, Z, Z, Z, Z, Z, Z, Z, Z, Z, Z, Z, Z, Z, Z, Z, Z, Z, Z, Z, Z, Z, Z, Z, Z, Z, Z, Z, Z, Z, Z, Z, Z, Z, Z, Z, Z, Z, Z, Z, Z, Z, Z, Z, Z, Z, Z, Z, Z, Z, Z, Z, Z, Z, Z, Z, Z, Z, Z, Z, Z, Z, Z, Z, Z, Z, Z, Z, Z, Z, Z, Z, Z, Z, Z, Z, Z, Z, Z, Z, Z, Z, Z, Z, Z, Z, Z, Z, Z, Z, Z, Z, Z, Z, Z, Z, Z, Z, Z, Z, Z, Z, Z, Z, Z, Z, Z, Z, Z, Z, Z, Z, Z, Z, Z, Z, Z, Z, Z, Z, Z, Z, Z, Z, Z, Z, Z, Z, Z, Z, Z, Z, Z, Z, Z, Z, Z, Z, Z, Z], [], [], 0⟩ _
          refine ex_seq ?_
          refine ex_seq ?_
          refine ex_ord [] (l := [0, 1, 2, 3, 4, 5, 6, 7]) rfl ?_
          refine pm 162 ?_
          refine pm 163 ?_
          refine pm 164 ?_
          obtain ⟨v29, hv29, h⟩ := bindS h
          refine pq 165 rfl (x_idx (f := c_api_Line) (cs := [.int .i64 v29.f_Quote, .sl false (List.map c_i64 v29.f_Lists), .int .i64 v29.f_Kind, .sl false (List.map c_api_Cell v29.f_Cells)]) rfl rfl rfl el22 sz55 hv29 rfl rfl) ?_
          refine pq 166 rfl (.fieldAddr rfl rfl rfl fl55u_3 rfl) ?_
          refine pq 167 rfl (x_load rfl rfl rfl sz46 un46 ag46 rfl) ?_
          refine pq 168 rfl (x_len (f := c_api_Cell) (l := v29.f_Cells) rfl rfl rfl el46) ?_
          refine pq 169 rfl (.bin rfl rfl rfl rfl) ?_
          refine we_nil ?_
          refine ex_if rfl ?_ ?_
          ·intro hc
           replace h := iteT h hc
           refine ex_skip ?_
           refine ex_seq ?_
           refine ex_block ?_
           refine ex_seq ?_
           refine ex_ord [3, 4] (l := [0, 1, 2, 3, 4]) rfl ?_
           refine pm 172 ?_
           refine pm 173 ?_
           refine pq 174 rfl (x_build rfl pl24 ze24 rfl rfl rfl rfl) ?_
           refine e_ (d := .bx 0 0) 17 rfl rfl rfl rfl rfl (b' := [some [.int .i64 0, .int .i64 0]]) (r' := []) (.alloc rfl ze24) rfl ?_
           refine e0 rfl rfl rfl rfl rfl (b' := [some [.int .i64 n17, .int .i64 n28]]) (r' := []) (.store rfl rfl rfl sz24 rfl rfl rfl) rfl ?_
           refine we_nil ?_
           refine ex_seq ?_
           refine ex_gst ⟨[.sl false (List.map c_api_Line p0), Z, Z, Z, Z, Z, .cp [.int .i64 p1.f_Line, .int .i64 p1.f_At], .cp [.int .i64 p2.f_Line, .int .i64 p2.f_At], Z, Z, Z, .sl false (List.map c_api_Line v3.1), Z, .sl false (List.map c_api_Line v11.1), Z, .int .i64 n17, .int .i64 n28, .cp [.int .i64 n17, .int .i64 n28], Z, Z, Z, Z, Z, Z, Z, Z, Z, Z, Z, Z, Z, Z, Z, Z, Z, Z, Z, Z, Z, Z, Z, Z, Z, Z, Z, Z, Z, Z, Z, Z, Z, Z, Z, Z, Z, Z, Z, Z, Z, Z, Z, Z, Z, Z, Z, Z, Z, Z, Z, Z, Z, Z, Z, Z, Z, Z, Z, Z, Z, Z, Z, Z, Z, Z, Z, Z, Z, Z, Z, Z, Z, Z, Z, Z, Z, Z, Z, Z, Z, Z, Z, Z, Z, Z, Z, Z, Z, Z, Z, Z, Z, Z, Z, Z, Z, Z, Z, Z, Z, Z, Z, Z, Z, Z, Z, Z, Z, Z, Z, Z, Z, Z, Z, Z, Z, Z, Z, Z, Z, Z, Z, Z, Z, Z, Z, Z, Z, Z, Z, Z, Z, Z, Z, Z, Z, Z, Z, Z, Z, Z, Z, Z, .int .i64 n28, .sl false (List.map c_api_Line p0), .int .i64 n17, .cp [.int .i64 v29.f_Quote, .sl false (List.map c_i64 v29.f_Lists), .int .i64 v29.f_Kind, .sl false (List.map c_api_Cell v29.f_Cells)], .cp [.sl false (List.map c_api_Cell v29.f_Cells)], .sl false (List.map c_api_Cell v29.f_Cells), .int .i64 (v29.f_Cells.length : Int), .bool (decide ((n28 : Int) < (v29.f_Cells.length : Int))), Z, Z, .int .i64 n17, .int .i64 n28, .agg [.int .i64 n17, .int .i64 n28], Z, Z, Z, Z, Z, Z, Z, Z, Z, Z, Z, Z, Z, Z, Z, Z, Z, Z, Z, Z, Z, Z, Z, Z, Z, Z, Z, Z, Z, Z, Z, Z, Z, Z, Z, Z, Z, Z, Z, Z, Z, Z, Z, Z, Z, Z, Z, Z, Z, Z, Z, Z, Z, Z, Z, Z, Z, Z, Z, Z, Z, Z, Z, Z, Z, Z, Z, Z, Z, Z, Z, Z, Z, Z, Z, Z, Z, Z, Z, Z, Z, Z, Z, Z, Z, Z, Z, Z, Z, Z, Z, Z, Z, Z], [none], [], 0⟩ (.shutB (b := 0) rfl (fun d h => by simpa using List.all_eq_true.1 (rfl : List.all [.int .i64 n17, .int .i64 n28] (fun d => !d.tok) = true) d h) (.refl _)) rfl ?_
           obtain ⟨q30, hq, h⟩ := bindS h
           refine ex_cut ⟨[.sl false (List.map c_api_Line p0), Z, Z, Z, Z, Z, .cp [.int .i64 p1.f_Line, .int .i64 p1.f_At], .cp [.int .i64 p2.f_Line, .int .i64 p2.f_At], Z, Z, Z, .sl false (List.map c_api_Line v3.1), Z, .sl false (List.map c_api_Line v11.1), Z, .int .i64 n17, .int .i64 n28, Z, .bool q30, Z, Z, Z, Z, Z, Z, Z, Z, Z, Z, Z, Z, Z, Z, Z, Z, Z, Z, Z, Z, Z, Z, Z, Z, Z, Z, Z, Z, Z, Z, Z, Z, Z, Z, Z, Z, Z, Z, Z, Z, Z, Z, Z, Z, Z, Z, Z, Z, Z, Z, Z, Z, Z, Z, Z, Z, Z, Z, Z, Z, Z, Z, Z, Z, Z, Z, Z, Z, Z, Z, Z, Z, Z, Z, Z, Z, Z, Z, Z, Z, Z, Z, Z, Z, Z, Z, Z, Z, Z, Z, Z, Z, Z, Z, Z, Z, Z, Z, Z, Z, Z, Z, Z, Z, Z, Z, Z, Z, Z, Z, Z, Z, Z, Z, Z, Z, Z, Z, Z, Z, Z, Z, Z, Z, Z, Z, Z, Z, Z, Z, Z, Z, Z, Z, Z, Z, Z, Z, Z, Z, Z, Z, Z, Z, Z, Z, Z, Z, Z, Z, Z, Z, Z, Z, Z, Z, Z, Z, Z, Z, Z, Z, Z, Z, Z, Z, Z, Z, Z, Z, Z, Z, Z, Z, Z, Z, Z, Z, Z, Z, Z, Z, Z, Z, Z, Z, Z, Z, Z, Z, Z, Z, Z, Z, Z, Z, Z, Z, Z, Z, Z, Z, Z, Z, Z, Z, Z, Z, Z, Z, Z, Z, Z, Z, Z, Z, Z, Z, Z, Z, Z, Z, Z, Z, Z, Z, Z, Z, Z, Z, Z, Z, Z, Z, Z, Z, Z, Z, Z, Z, Z, Z, Z, Z, Z, Z, Z, Z, Z, Z], [], [], 0⟩ ?_ ?_
           ·clear h
            have h := hq
            clear hq
            refine ex_ord [] (l := [0, 1, 2, 3, 4, 5, 6, 7, 8, 9, 10]) rfl ?_
            refine pq 175 rfl (x_loadA rfl rfl rfl sz24 un24 ag24 rfl) ?_
            refine pq 176 rfl (x_loadA rfl rfl rfl sz24 un24 ag24 rfl) ?_
            obtain ⟨v31, hv31, h⟩ := bindS h
            refine pq 177 rfl (x_callP rfl rfl en24 (ok_quillworkref07u_Cmp hv31) rfl rfl rfl rfl rfl) ?_
            refine pif 178 rfl rfl rfl rfl (.bin rfl rfl rfl rfl) ?_ ?_
            ·intro hc
             replace h := iteT h hc
             refine pm 179 ?_
             refine pq 180 rfl (x_loadA rfl rfl rfl sz24 un24 ag24 rfl) ?_
             refine pq 181 rfl (x_loadA rfl rfl rfl sz24 un24 ag24 rfl) ?_
             obtain ⟨v32, hv32, h⟩ := bindS h
             refine pq 182 rfl (x_callP rfl rfl en24 (ok_quillworkref07u_Cmp hv32) rfl rfl rfl rfl rfl) ?_
             refine pq 183 rfl (.bin rfl rfl rfl rfl) ?_
             refine pq 184 rfl (x_pickT rfl rfl rfl rfl) ?_
             refine pa 18 ?_
             refine we_nil ?_
             cases h
             exact ⟨rfl, _, .re (rl [0, 1, 5, 2, 3, 1, 1, 1, 1, 2, 1, 1, 250]) [] [] rfl (.refl _), rfl⟩
            ·intro hc
             replace h := iteF h hc
             refine pm 179 ?_
             refine kq 180 ?_
             refine kq 181 ?_
             refine kq 182 ?_
             refine kq 183 ?_
             refine pq 184 rfl (x_pickF rfl rfl rfl rfl) ?_
             refine pa 18 ?_
             refine we_nil ?_
             cases h
             exact ⟨rfl, _, .re (rl [0, 1, 5, 2, 3, 1, 1, 1, 1, 2, 1, 1, 250]) [] [] rfl (.refl _), rfl⟩
           ·clear hq
            refine ex_seq ?_
            obtain ⟨⟨q33, q34, q35, q36, q37, q38, q39, q40, q41⟩, hq, h⟩ := bindS h
            refine ex_cut ⟨[.sl false (List.map c_api_Line p0), Z, Z, Z, Z, Z, .cp [.int .i64 p1.f_Line, .int .i64 p1.f_At], .cp [.int .i64 p2.f_Line, .int .i64 p2.f_At], Z, Z, Z, .sl false (List.map c_api_Line v3.1), Z, .sl false (List.map c_api_Line v11.1), Z, .int .i64 n17, .int .i64 n28, Z, .bool q30, .bx 0 0, .bx 1 0, .bx 2 0, Z, Z, Z, Z, Z, Z, Z, Z, Z, Z, Z, Z, Z, Z, Z, Z, Z, Z, Z, Z, Z, Z, Z, Z, Z, Z, Z, Z, Z, Z, Z, Z, Z, Z, Z, Z, Z, Z, Z, Z, Z, Z, Z, Z, Z, Z, Z, Z, Z, Z, Z, Z, Z, Z, Z, Z, Z, Z, Z, Z, Z, Z, Z, Z, Z, Z, Z, Z, Z, Z, Z, Z, Z, Z, Z, Z, Z, Z, Z, Z, Z, Z, Z, Z, Z, Z, Z, Z, Z, Z, Z, Z, Z, Z, Z, Z, Z, Z, Z, Z, Z, Z, Z, Z, Z, Z, Z, Z, Z, Z, Z, Z, Z, Z, Z, Z, Z, Z, Z, Z, Z, Z, Z, Z, Z, Z, Z, Z, Z, Z, Z, Z, Z, Z, Z, Z, Z, Z, Z, Z, Z, Z, Z, Z, Z, Z, Z, Z, Z, Z, Z, Z, Z, Z, Z, Z, Z, Z, Z, Z, Z, Z, Z, Z, Z, Z, Z, Z, Z, Z, Z, Z, Z, Z, Z, Z, Z, Z, Z, Z, Z, Z, Z, Z, Z, Z, Z, Z, Z, Z, Z, Z, Z, Z, Z, Z, Z, Z, Z, Z, Z, Z, Z, Z, Z, Z, Z, Z, Z, Z, Z, Z, Z, Z, Z, Z, Z, Z, Z, Z, Z, Z, Z, Z, Z, Z, Z, Z, Z, Z, Z, Z, Z, Z, Z, Z, Z, Z, Z, Z, Z, Z, Z, Z, Z, Z, Z], [some [.int .i32 q33, .int .i64 q34, .str (bs q35)], some [.int .i32 q36, .int .i64 q37, .str (bs q38)], some [.int .i32 q39, .int .i64 q40, .str (bs q41)]], [], 0⟩ ?_ ?_
            ·clear h
             have h := hq
             clear hq
             refine ex_sh mo [24, 25, 26, 27, 28, 29, 1002, 1003, 1004, 1006, 1007, 1010, 1011, 1012, 1014, 1015, 1018, 1019, 1020, 1022, 1023] (.pre [0, 1, 2, 3, 4, 5, 6, 7, 8, 9, 10, 11, 12, 13, 14, 15, 16, 17, 18, 19, 20, 21, 22, 23] (.fork3 24 25 26 (.fork 25 26 (.pre [26, 27, 28, 29] .nil) (.pre [25, 27, 28, 29] .nil)) (.fork 24 26 (.pre [26, 27, 28, 29] .nil) (.pre [24, 27, 28, 29] .nil)) (.fork 24 25 (.pre [25, 27, 28, 29] .nil) (.pre [24, 27, 28, 29] .nil)))) (by kernel_rfl) ?_
             refine sh_pre ?_
             refine pm 185 ?_
             refine pm 186 ?_
             obtain ⟨v42, hv42, h⟩ := bindS h
             refine n_ 187 rfl rfl rfl (fun _ _ => x_idx (f := c_api_Line) (cs := [.int .i64 v42.f_Quote, .sl false (List.map c_i64 v42.f_Lists), .int .i64 v42.f_Kind, .sl false (List.map c_api_Cell v42.f_Cells)]) rfl rfl rfl el22 sz55 hv42 rfl rfl) ?_
             refine n_ 188 rfl rfl rfl (fun _ _ => .fieldAddr rfl rfl rfl fl55u_3 rfl) ?_
             refine n_ 189 rfl rfl rfl (fun _ _ => x_load rfl rfl rfl sz46 un46 ag46 rfl) ?_
             refine pm 190 ?_
             obtain ⟨v43, hv43, h⟩ := bindS h
             refine n_ 191 rfl rfl rfl (fun _ _ => x_idx (f := c_api_Cell) (cs := [.int .i32 v43.f_R, .int .i64 v43.f_Bits, .str (bs v43.f_Href)]) rfl rfl rfl el46 sz58 hv43 rfl rfl) ?_
             refine n_ 192 rfl rfl rfl (fun _ _ => x_loadA rfl rfl rfl sz58 un58 ag58 rfl) ?_
             refine pm 193 ?_
             refine pm 194 ?_
             obtain ⟨v44, hv44, h⟩ := bindS h
             refine n_ 195 rfl rfl rfl (fun _ _ => x_idx (f := c_api_Line) (cs := [.int .i64 v44.f_Quote, .sl false (List.map c_i64 v44.f_Lists), .int .i64 v44.f_Kind, .sl false (List.map c_api_Cell v44.f_Cells)]) rfl rfl rfl el22 sz55 hv44 rfl rfl) ?_
             refine n_ 196 rfl rfl rfl (fun _ _ => .fieldAddr rfl rfl rfl fl55u_3 rfl) ?_
             refine n_ 197 rfl rfl rfl (fun _ _ => x_load rfl rfl rfl sz46 un46 ag46 rfl) ?_
             refine pm 198 ?_
             obtain ⟨v45, hv45, h⟩ := bindS h
             refine n_ 199 rfl rfl rfl (fun _ _ => x_idx (f := c_api_Cell) (cs := [.int .i32 v45.f_R, .int .i64 v45.f_Bits, .str (bs v45.f_Href)]) rfl rfl rfl el46 sz58 hv45 rfl rfl) ?_
             refine n_ 200 rfl rfl rfl (fun _ _ => x_loadA rfl rfl rfl sz58 un58 ag58 rfl) ?_
             refine pm 201 ?_
             refine pm 202 ?_
             obtain ⟨v46, hv46, h⟩ := bindS h
             refine n_ 203 rfl rfl rfl (fun _ _ => x_idx (f := c_api_Line) (cs := [.int .i64 v46.f_Quote, .sl false (List.map c_i64 v46.f_Lists), .int .i64 v46.f_Kind, .sl false (List.map c_api_Cell v46.f_Cells)]) rfl rfl rfl el22 sz55 hv46 rfl rfl) ?_
             refine n_ 204 rfl rfl rfl (fun _ _ => .fieldAddr rfl rfl rfl fl55u_3 rfl) ?_
             refine n_ 205 rfl rfl rfl (fun _ _ => x_load rfl rfl rfl sz46 un46 ag46 rfl) ?_
             refine pm 206 ?_
             obtain ⟨v47, hv47, h⟩ := bindS h
             refine n_ 207 rfl rfl rfl (fun _ _ => x_idx (f := c_api_Cell) (cs := [.int .i32 v47.f_R, .int .i64 v47.f_Bits, .str (bs v47.f_Href)]) rfl rfl rfl el46 sz58 hv47 rfl rfl) ?_
             refine n_ 208 rfl rfl rfl (fun _ _ => x_loadA rfl rfl rfl sz58 un58 ag58 rfl) ?_
             refine we_nil ?_
             refine sh_fork3 ?_ ?_ ?_
             ·refine e_ (d := .bx 0 0) 19 rfl rfl rfl rfl rfl (b' := [some [.int .i32 0, .int .i64 0, .str (bs [])]]) (r' := []) (.alloc rfl ze58) rfl ?_
              refine we_nil ?_
              refine sh_forkT ?_ ?_
              ·refine e_ (d := .bx 1 0) 20 rfl rfl rfl rfl rfl (b' := [some [.int .i32 0, .int .i64 0, .str (bs [])], some [.int .i32 0, .int .i64 0, .str (bs [])]]) (r' := []) (.alloc rfl ze58) rfl ?_
               refine we_nil ?_
               refine sh_pre ?_
               refine e_ (d := .bx 2 0) 21 rfl rfl rfl rfl rfl (b' := [some [.int .i32 0, .int .i64 0, .str (bs [])], some [.int .i32 0, .int .i64 0, .str (bs [])], some [.int .i32 0, .int .i64 0, .str (bs [])]]) (r' := []) (.alloc rfl ze58) rfl ?_
               refine e0 rfl rfl rfl rfl rfl (b' := [some [.int .i32 v43.f_R, .int .i64 v43.f_Bits, .str (bs v43.f_Href)], some [.int .i32 0, .int .i64 0, .str (bs [])], some [.int .i32 0, .int .i64 0, .str (bs [])]]) (r' := []) (.store rfl rfl rfl sz58 rfl rfl rfl) rfl ?_
               refine e0 rfl rfl rfl rfl rfl (b' := [some [.int .i32 v43.f_R, .int .i64 v43.f_Bits, .str (bs v43.f_Href)], some [.int .i32 v45.f_R, .int .i64 v45.f_Bits, .str (bs v45.f_Href)], some [.int .i32 0, .int .i64 0, .str (bs [])]]) (r' := []) (.store rfl rfl rfl sz58 rfl rfl rfl) rfl ?_
               refine e0 rfl rfl rfl rfl rfl (b' := [some [.int .i32 v43.f_R, .int .i64 v43.f_Bits, .str (bs v43.f_Href)], some [.int .i32 v45.f_R, .int .i64 v45.f_Bits, .str (bs v45.f_Href)], some [.int .i32 v47.f_R, .int .i64 v47.f_Bits, .str (bs v47.f_Href)]]) (r' := []) (.store rfl rfl rfl sz58 rfl rfl rfl) rfl ?_
               refine we_nil ?_
               cases h
               exact ⟨rfl, _, .re (rl [0, 1, 5, 2, 3, 1, 1, 1, 1, 2, 1, 4, 247]) [0, 1, 2] [] rfl (.refl _), rfl⟩
              ·refine e_ (d := .bx 1 0) 21 rfl rfl rfl rfl rfl (b' := [some [.int .i32 0, .int .i64 0, .str (bs [])], some [.int .i32 0, .int .i64 0, .str (bs [])]]) (r' := []) (.alloc rfl ze58) rfl ?_
               refine we_nil ?_
               refine sh_pre ?_
               refine e_ (d := .bx 2 0) 20 rfl rfl rfl rfl rfl (b' := [some [.int .i32 0, .int .i64 0, .str (bs [])], some [.int .i32 0, .int .i64 0, .str (bs [])], some [.int .i32 0, .int .i64 0, .str (bs [])]]) (r' := []) (.alloc rfl ze58) rfl ?_
               refine e0 rfl rfl rfl rfl rfl (b' := [some [.int .i32 v43.f_R, .int .i64 v43.f_Bits, .str (bs v43.f_Href)], some [.int .i32 0, .int .i64 0, .str (bs [])], some [.int .i32 0, .int .i64 0, .str (bs [])]]) (r' := []) (.store rfl rfl rfl sz58 rfl rfl rfl) rfl ?_
               refine e0 rfl rfl rfl rfl rfl (b' := [some [.int .i32 v43.f_R, .int .i64 v43.f_Bits, .str (bs v43.f_Href)], some [.int .i32 0, .int .i64 0, .str (bs [])], some [.int .i32 v45.f_R, .int .i64 v45.f_Bits, .str (bs v45.f_Href)]]) (r' := []) (.store rfl rfl rfl sz58 rfl rfl rfl) rfl ?_
               refine e0 rfl rfl rfl rfl rfl (b' := [some [.int .i32 v43.f_R, .int .i64 v43.f_Bits, .str (bs v43.f_Href)], some [.int .i32 v47.f_R, .int .i64 v47.f_Bits, .str (bs v47.f_Href)], some [.int .i32 v45.f_R, .int .i64 v45.f_Bits, .str (bs v45.f_Href)]]) (r' := []) (.store rfl rfl rfl sz58 rfl rfl rfl) rfl ?_
               refine we_nil ?_
               cases h
               exact ⟨rfl, _, .re (rl [0, 1, 5, 2, 3, 1, 1, 1, 1, 2, 1, 4, 247]) [0, 2, 1] [] rfl (.refl _), rfl⟩
             ·refine e_ (d := .bx 0 0) 20 rfl rfl rfl rfl rfl (b' := [some [.int .i32 0, .int .i64 0, .str (bs [])]]) (r' := []) (.alloc rfl ze58) rfl ?_
              refine we_nil ?_
              refine sh_forkT ?_ ?_
              ·refine e_ (d := .bx 1 0) 19 rfl rfl rfl rfl rfl (b' := [some [.int .i32 0, .int .i64 0, .str (bs [])], some [.int .i32 0, .int .i64 0, .str (bs [])]]) (r' := []) (.alloc rfl ze58) rfl ?_
               refine we_nil ?_
               refine sh_pre ?_
               refine e_ (d := .bx 2 0) 21 rfl rfl rfl rfl rfl (b' := [some [.int .i32 0, .int .i64 0, .str (bs [])], some [.int .i32 0, .int .i64 0, .str (bs [])], some [.int .i32 0, .int .i64 0, .str (bs [])]]) (r' := []) (.alloc rfl ze58) rfl ?_
               refine e0 rfl rfl rfl rfl rfl (b' := [some [.int .i32 0, .int .i64 0, .str (bs [])], some [.int .i32 v43.f_R, .int .i64 v43.f_Bits, .str (bs v43.f_Href)], some [.int .i32 0, .int .i64 0, .str (bs [])]]) (r' := []) (.store rfl rfl rfl sz58 rfl rfl rfl) rfl ?_
               refine e0 rfl rfl rfl rfl rfl (b' := [some [.int .i32 v45.f_R, .int .i64 v45.f_Bits, .str (bs v45.f_Href)], some [.int .i32 v43.f_R, .int .i64 v43.f_Bits, .str (bs v43.f_Href)], some [.int .i32 0, .int .i64 0, .str (bs [])]]) (r' := []) (.store rfl rfl rfl sz58 rfl rfl rfl) rfl ?_
               refine e0 rfl rfl rfl rfl rfl (b' := [some [.int .i32 v45.f_R, .int .i64 v45.f_Bits, .str (bs v45.f_Href)], some [.int .i32 v43.f_R, .int .i64 v43.f_Bits, .str (bs v43.f_Href)], some [.int .i32 v47.f_R, .int .i64 v47.f_Bits, .str (bs v47.f_Href)]]) (r' := []) (.store rfl rfl rfl sz58 rfl rfl rfl) rfl ?_
               refine we_nil ?_
               cases h
               exact ⟨rfl, _, .re (rl [0, 1, 5, 2, 3, 1, 1, 1, 1, 2, 1, 4, 247]) [1, 0, 2] [] rfl (.refl _), rfl⟩
              ·refine e_ (d := .bx 1 0) 21 rfl rfl rfl rfl rfl (b' := [some [.int .i32 0, .int .i64 0, .str (bs [])], some [.int .i32 0, .int .i64 0, .str (bs [])]]) (r' := []) (.alloc rfl ze58) rfl ?_
               refine we_nil ?_
               refine sh_pre ?_
               refine e_ (d := .bx 2 0) 19 rfl rfl rfl rfl rfl (b' := [some [.int .i32 0, .int .i64 0, .str (bs [])], some [.int .i32 0, .int .i64 0, .str (bs [])], some [.int .i32 0, .int .i64 0, .str (bs [])]]) (r' := []) (.alloc rfl ze58) rfl ?_
               refine e0 rfl rfl rfl rfl rfl (b' := [some [.int .i32 0, .int .i64 0, .str (bs [])], some [.int .i32 0, .int .i64 0, .str (bs [])], some [.int .i32 v43.f_R, .int .i64 v43.f_Bits, .str (bs v43.f_Href)]]) (r' := []) (.store rfl rfl rfl sz58 rfl rfl rfl) rfl ?_
               refine e0 rfl rfl rfl rfl rfl (b' := [some [.int .i32 v45.f_R, .int .i64 v45.f_Bits, .str (bs v45.f_Href)], some [.int .i32 0, .int .i64 0, .str (bs [])], some [.int .i32 v43.f_R, .int .i64 v43.f_Bits, .str (bs v43.f_Href)]]) (r' := []) (.store rfl rfl rfl sz58 rfl rfl rfl) rfl ?_
               refine e0 rfl rfl rfl rfl rfl (b' := [some [.int .i32 v45.f_R, .int .i64 v45.f_Bits, .str (bs v45.f_Href)], some [.int .i32 v47.f_R, .int .i64 v47.f_Bits, .str (bs v47.f_Href)], some [.int .i32 v43.f_R, .int .i64 v43.f_Bits, .str (bs v43.f_Href)]]) (r' := []) (.store rfl rfl rfl sz58 rfl rfl rfl) rfl ?_
               refine we_nil ?_
               cases h
               exact ⟨rfl, _, .re (rl [0, 1, 5, 2, 3, 1, 1, 1, 1, 2, 1, 4, 247]) [2, 0, 1] [] rfl (.refl _), rfl⟩
             ·refine e_ (d := .bx 0 0) 21 rfl rfl rfl rfl rfl (b' := [some [.int .i32 0, .int .i64 0, .str (bs [])]]) (r' := []) (.alloc rfl ze58) rfl ?_
              refine we_nil ?_
              refine sh_forkT ?_ ?_
              ·refine e_ (d := .bx 1 0) 19 rfl rfl rfl rfl rfl (b' := [some [.int .i32 0, .int .i64 0, .str (bs [])], some [.int .i32 0, .int .i64 0, .str (bs [])]]) (r' := []) (.alloc rfl ze58) rfl ?_
               refine we_nil ?_
               refine sh_pre ?_
               refine e_ (d := .bx 2 0) 20 rfl rfl rfl rfl rfl (b' := [some [.int .i32 0, .int .i64 0, .str (bs [])], some [.int .i32 0, .int .i64 0, .str (bs [])], some [.int .i32 0, .int .i64 0, .str (bs [])]]) (r' := []) (.alloc rfl ze58) rfl ?_
               refine e0 rfl rfl rfl rfl rfl (b' := [some [.int .i32 0, .int .i64 0, .str (bs [])], some [.int .i32 v43.f_R, .int .i64 v43.f_Bits, .str (bs v43.f_Href)], some [.int .i32 0, .int .i64 0, .str (bs [])]]) (r' := []) (.store rfl rfl rfl sz58 rfl rfl rfl) rfl ?_
               refine e0 rfl rfl rfl rfl rfl (b' := [some [.int .i32 0, .int .i64 0, .str (bs [])], some [.int .i32 v43.f_R, .int .i64 v43.f_Bits, .str (bs v43.f_Href)], some [.int .i32 v45.f_R, .int .i64 v45.f_Bits, .str (bs v45.f_Href)]]) (r' := []) (.store rfl rfl rfl sz58 rfl rfl rfl) rfl ?_
               refine e0 rfl rfl rfl rfl rfl (b' := [some [.int .i32 v47.f_R, .int .i64 v47.f_Bits, .str (bs v47.f_Href)], some [.int .i32 v43.f_R, .int .i64 v43.f_Bits, .str (bs v43.f_Href)], some [.int .i32 v45.f_R, .int .i64 v45.f_Bits, .str (bs v45.f_Href)]]) (r' := []) (.store rfl rfl rfl sz58 rfl rfl rfl) rfl ?_
               refine we_nil ?_
               cases h
               exact ⟨rfl, _, .re (rl [0, 1, 5, 2, 3, 1, 1, 1, 1, 2, 1, 4, 247]) [1, 2, 0] [] rfl (.refl _), rfl⟩
              ·refine e_ (d := .bx 1 0) 20 rfl rfl rfl rfl rfl (b' := [some [.int .i32 0, .int .i64 0, .str (bs [])], some [.int .i32 0, .int .i64 0, .str (bs [])]]) (r' := []) (.alloc rfl ze58) rfl ?_
               refine we_nil ?_
               refine sh_pre ?_
               refine e_ (d := .bx 2 0) 19 rfl rfl rfl rfl rfl (b' := [some [.int .i32 0, .int .i64 0, .str (bs [])], some [.int .i32 0, .int .i64 0, .str (bs [])], some [.int .i32 0, .int .i64 0, .str (bs [])]]) (r' := []) (.alloc rfl ze58) rfl ?_
               refine e0 rfl rfl rfl rfl rfl (b' := [some [.int .i32 0, .int .i64 0, .str (bs [])], some [.int .i32 0, .int .i64 0, .str (bs [])], some [.int .i32 v43.f_R, .int .i64 v43.f_Bits, .str (bs v43.f_Href)]]) (r' := []) (.store rfl rfl rfl sz58 rfl rfl rfl) rfl ?_
               refine e0 rfl rfl rfl rfl rfl (b' := [some [.int .i32 0, .int .i64 0, .str (bs [])], some [.int .i32 v45.f_R, .int .i64 v45.f_Bits, .str (bs v45.f_Href)], some [.int .i32 v43.f_R, .int .i64 v43.f_Bits, .str (bs v43.f_Href)]]) (r' := []) (.store rfl rfl rfl sz58 rfl rfl rfl) rfl ?_
               refine e0 rfl rfl rfl rfl rfl (b' := [some [.int .i32 v47.f_R, .int .i64 v47.f_Bits, .str (bs v47.f_Href)], some [.int .i32 v45.f_R, .int .i64 v45.f_Bits, .str (bs v45.f_Href)], some [.int .i32 v43.f_R, .int .i64 v43.f_Bits, .str (bs v43.f_Href)]]) (r' := []) (.store rfl rfl rfl sz58 rfl rfl rfl) rfl ?_
               refine we_nil ?_
               cases h
               exact ⟨rfl, _, .re (rl [0, 1, 5, 2, 3, 1, 1, 1, 1, 2, 1, 4, 247]) [2, 1, 0] [] rfl (.refl _), rfl⟩
            ·clear hq
             refine ex_seq ?_
             refine ex_gst ⟨[.sl false (List.map c_api_Line p0), Z, Z, Z, Z, Z, .cp [.int .i64 p1.f_Line, .int .i64 p1.f_At], .cp [.int .i64 p2.f_Line, .int .i64 p2.f_At], Z, Z, Z, .sl false (List.map c_api_Line v3.1), Z, .sl false (List.map c_api_Line v11.1), Z, .int .i64 n17, .int .i64 n28, Z, .bool q30, .cp [.int .i32 q33, .int .i64 q34, .str (bs q35)], .bx 1 0, .bx 2 0, Z, Z, Z, Z, Z, Z, Z, Z, Z, Z, Z, Z, Z, Z, Z, Z, Z, Z, Z, Z, Z, Z, Z, Z, Z, Z, Z, Z, Z, Z, Z, Z, Z, Z, Z, Z, Z, Z, Z, Z, Z, Z, Z, Z, Z, Z, Z, Z, Z, Z, Z, Z, Z, Z, Z, Z, Z, Z, Z, Z, Z, Z, Z, Z, Z, Z, Z, Z, Z, Z, Z, Z, Z, Z, Z, Z, Z, Z, Z, Z, Z, Z, Z, Z, Z, Z, Z, Z, Z, Z, Z, Z, Z, Z, Z, Z, Z, Z, Z, Z, Z, Z, Z, Z, Z, Z, Z, Z, Z, Z, Z, Z, Z, Z, Z, Z, Z, Z, Z, Z, Z, Z, Z, Z, Z, Z, Z, Z, Z, Z, Z, Z, Z, Z, Z, Z, Z, Z, Z, Z, Z, Z, Z, Z, Z, Z, Z, Z, Z, Z, Z, Z, Z, Z, Z, Z, Z, Z, Z, Z, Z, Z, Z, Z, Z, Z, Z, Z, Z, Z, Z, Z, Z, Z, Z, Z, Z, Z, Z, Z, Z, Z, Z, Z, Z, Z, Z, Z, Z, Z, Z, Z, Z, Z, Z, Z, Z, Z, Z, Z, Z, Z, Z, Z, Z, Z, Z, Z, Z, Z, Z, Z, Z, Z, Z, Z, Z, Z, Z, Z, Z, Z, Z, Z, Z, Z, Z, Z, Z, Z, Z, Z, Z, Z, Z, Z, Z, Z, Z, Z, Z, Z, Z, Z, Z, Z, Z], [none, some [.int .i32 q36, .int .i64 q37, .str (bs q38)], some [.int .i32 q39, .int .i64 q40, .str (bs q41)]], [], 0⟩ (.shutB (b := 0) rfl (fun d h => by simpa using List.all_eq_true.1 (rfl : List.all [.int .i32 q33, .int .i64 q34, .str (bs q35)] (fun d => !d.tok) = true) d h) (.refl _)) rfl ?_
             refine ex_gst ⟨[.sl false (List.map c_api_Line p0), Z, Z, Z, Z, Z, .cp [.int .i64 p1.f_Line, .int .i64 p1.f_At], .cp [.int .i64 p2.f_Line, .int .i64 p2.f_At], Z, Z, Z, .sl false (List.map c_api_Line v3.1), Z, .sl false (List.map c_api_Line v11.1), Z, .int .i64 n17, .int .i64 n28, Z, .bool q30, .cp [.int .i32 q33, .int .i64 q34, .str (bs q35)], .cp [.int .i32 q36, .int .i64 q37, .str (bs q38)], .bx 2 0, Z, Z, Z, Z, Z, Z, Z, Z, Z, Z, Z, Z, Z, Z, Z, Z, Z, Z, Z, Z, Z, Z, Z, Z, Z, Z, Z, Z, Z, Z, Z, Z, Z, Z, Z, Z, Z, Z, Z, Z, Z, Z, Z, Z, Z, Z, Z, Z, Z, Z, Z, Z, Z, Z, Z, Z, Z, Z, Z, Z, Z, Z, Z, Z, Z, Z, Z, Z, Z, Z, Z, Z, Z, Z, Z, Z, Z, Z, Z, Z, Z, Z, Z, Z, Z, Z, Z, Z, Z, Z, Z, Z, Z, Z, Z, Z, Z, Z, Z, Z, Z, Z, Z, Z, Z, Z, Z, Z, Z, Z, Z, Z, Z, Z, Z, Z, Z, Z, Z, Z, Z, Z, Z, Z, Z, Z, Z, Z, Z, Z, Z, Z, Z, Z, Z, Z, Z, Z, Z, Z, Z, Z, Z, Z, Z, Z, Z, Z, Z, Z, Z, Z, Z, Z, Z, Z, Z, Z, Z, Z, Z, Z, Z, Z, Z, Z, Z, Z, Z, Z, Z, Z, Z, Z, Z, Z, Z, Z, Z, Z, Z, Z, Z, Z, Z, Z, Z, Z, Z, Z, Z, Z, Z, Z, Z, Z, Z, Z, Z, Z, Z, Z, Z, Z, Z, Z, Z, Z, Z, Z, Z, Z, Z, Z, Z, Z, Z, Z, Z, Z, Z, Z, Z, Z, Z, Z, Z, Z, Z, Z, Z, Z, Z, Z, Z, Z, Z, Z, Z, Z, Z, Z, Z, Z, Z, Z, Z], [none, none, some [.int .i32 q39, .int .i64 q40, .str (bs q41)]], [], 0⟩ (.shutB (b := 1) rfl (fun d h => by simpa using List.all_eq_true.1 (rfl : List.all [.int .i32 q36, .int .i64 q37, .str (bs q38)] (fun d => !d.tok) = true) d h) (.refl _)) rfl ?_
             refine ex_gst ⟨[.sl false (List.map c_api_Line p0), Z, Z, Z, Z, Z, .cp [.int .i64 p1.f_Line, .int .i64 p1.f_At], .cp [.int .i64 p2.f_Line, .int .i64 p2.f_At], Z, Z, Z, .sl false (List.map c_api_Line v3.1), Z, .sl false (List.map c_api_Line v11.1), Z, .int .i64 n17, .int .i64 n28, Z, .bool q30, .cp [.int .i32 q33, .int .i64 q34, .str (bs q35)], .cp [.int .i32 q36, .int .i64 q37, .str (bs q38)], .cp [.int .i32 q39, .int .i64 q40, .str (bs q41)], Z, Z, Z, Z, Z, Z, Z, Z, Z, Z, Z, Z, Z, Z, Z, Z, Z, Z, Z, Z, Z, Z, Z, Z, Z, Z, Z, Z, Z, Z, Z, Z, Z, Z, Z, Z, Z, Z, Z, Z, Z, Z, Z, Z, Z, Z, Z, Z, Z, Z, Z, Z, Z, Z, Z, Z, Z, Z, Z, Z, Z, Z, Z, Z, Z, Z, Z, Z, Z, Z, Z, Z, Z, Z, Z, Z, Z, Z, Z, Z, Z, Z, Z, Z, Z, Z, Z, Z, Z, Z, Z, Z, Z, Z, Z, Z, Z, Z, Z, Z, Z, Z, Z, Z, Z, Z, Z, Z, Z, Z, Z, Z, Z, Z, Z, Z, Z, Z, Z, Z, Z, Z, Z, Z, Z, Z, Z, Z, Z, Z, Z, Z, Z, Z, Z, Z, Z, Z, Z, Z, Z, Z, Z, Z, Z, Z, Z, Z, Z, Z, Z, Z, Z, Z, Z, Z, Z, Z, Z, Z, Z, Z, Z, Z, Z, Z, Z, Z, Z, Z, Z, Z, Z, Z, Z, Z, Z, Z, Z, Z, Z, Z, Z, Z, Z, Z, Z, Z, Z, Z, Z, Z, Z, Z, Z, Z, Z, Z, Z, Z, Z, Z, Z, Z, Z, Z, Z, Z, Z, Z, Z, Z, Z, Z, Z, Z, Z, Z, Z, Z, Z, Z, Z, Z, Z, Z, Z, Z, Z, Z, Z, Z, Z, Z, Z, Z, Z, Z, Z, Z, Z, Z, Z, Z, Z, Z, Z], [none, none, none], [], 0⟩ (.shutB (b := 2) rfl (fun d h => by simpa using List.all_eq_true.1 (rfl : List.all [.int .i32 q39, .int .i64 q40, .str (bs q41)] (fun d => !d.tok) = true) d h) (.refl _)) rfl ?_
             obtain ⟨q48, hq, h⟩ := bindS h
             refine ex_cut ⟨[.sl false (List.map c_api_Line p0), Z, Z, Z, Z, Z, .cp [.int .i64 p1.f_Line, .int .i64 p1.f_At], .cp [.int .i64 p2.f_Line, .int .i64 p2.f_At], Z, Z, Z, .sl false (List.map c_api_Line v3.1), Z, .sl false (List.map c_api_Line v11.1), Z, .int .i64 n17, .int .i64 n28, Z, Z, Z, Z, Z, Z, Z, Z, Z, Z, Z, Z, Z, Z, Z, Z, Z, Z, Z, Z, Z, Z, Z, Z, Z, Z, Z, Z, Z, Z, Z, Z, Z, Z, Z, Z, Z, Z, Z, Z, Z, Z, Z, Z, Z, Z, Z, Z, Z, Z, Z, Z, Z, Z, Z, Z, Z, Z, Z, Z, Z, Z, Z, Z, Z, Z, Z, Z, Z, Z, Z, Z, Z, Z, Z, Z, Z, Z, Z, Z, Z, Z, Z, Z, Z, Z, Z, Z, Z, Z, Z, Z, Z, Z, Z, Z, Z, Z, Z, Z, Z, Z, Z, Z, Z, Z, Z, Z, Z, Z, Z, Z, Z, Z, Z, Z, Z, Z, Z, Z, Z, Z, Z, Z, Z, Z, Z, Z, Z, Z, Z, Z, Z, Z, Z, Z, Z, Z, Z, Z, Z, Z, Z, Z, Z, Z, Z, Z, Z, Z, Z, Z, Z, Z, Z, Z, Z, Z, Z, Z, Z, Z, Z, Z, Z, Z, Z, Z, Z, Z, Z, Z, Z, Z, Z, Z, Z, Z, Z, Z, Z, Z, Z, Z, Z, Z, Z, Z, Z, Z, Z, Z, Z, Z, Z, Z, Z, Z, Z, Z, Z, Z, Z, Z, Z, Z, Z, Z, Z, Z, Z, Z, Z, Z, Z, Z, Z, Z, Z, Z, Z, Z, Z, Z, Z, Z, Z, Z, Z, Z, Z, Z, Z, Z, Z, Z, Z, Z, Z, Z, Z, Z, Z, .bool q48, Z, Z, Z, Z, Z, Z, Z, Z], [], [], 0⟩ ?_ ?_
             ·clear h
              have h := hq
              clear hq
              refine ex_ord [] (l := [0, 1, 2, 3, 4, 5, 6, 7, 8, 9, 10, 11, 12, 13, 14, 15, 16, 17, 18, 19, 20, 21, 22, 23, 24, 25, 26, 27, 28, 29, 30, 31, 32, 33, 34, 35, 36, 37, 38, 39, 40, 41, 42, 43, 44, 45, 46, 47, 48, 49, 50, 51]) rfl ?_
              refine pq 209 rfl (.fieldAddr rfl rfl rfl fl58u_0 rfl) ?_
              refine pq 210 rfl (x_load rfl rfl rfl sz21 un21 ag21 rfl) ?_
              refine pq 211 rfl (.fieldAddr rfl rfl rfl fl58u_0 rfl) ?_
              refine pq 212 rfl (x_load rfl rfl rfl sz21 un21 ag21 rfl) ?_
              refine pif 213 rfl rfl rfl rfl (.bin rfl rfl rfl rfl) ?_ ?_
              ·intro hc
               replace h := iteT h hc
               refine pm 214 ?_
               refine kq 215 ?_
               refine kq 216 ?_
               refine kq 217 ?_
               refine kq 218 ?_
               refine kq 219 ?_
               refine pq 220 rfl (x_pickT rfl rfl rfl rfl) ?_
               refine pm 221 ?_
               refine kq 222 ?_
               refine kq 223 ?_
               refine kq 224 ?_
               refine kq 225 ?_
               refine kq 226 ?_
               refine pq 227 rfl (x_pickT rfl rfl rfl rfl) ?_
               refine pm 228 ?_
               refine kq 229 ?_
               refine kq 230 ?_
               refine kq 231 ?_
               refine kq 232 ?_
               refine kq 233 ?_
               refine pq 234 rfl (x_pickT rfl rfl rfl rfl) ?_
               refine pm 235 ?_
               refine kq 236 ?_
               refine kq 237 ?_
               refine kq 238 ?_
               refine kq 239 ?_
               refine kq 240 ?_
               refine kq 241 ?_
               refine kq 242 ?_
               refine kq 243 ?_
               refine kq 244 ?_
               refine kq 245 ?_
               refine kq 246 ?_
               refine kq 247 ?_
               refine kq 248 ?_
               refine kq 249 ?_
               refine kq 250 ?_
               refine kq 251 ?_
               refine pq 252 rfl (x_pickT rfl rfl rfl rfl) ?_
               refine pm 253 ?_
               refine kq 254 ?_
               refine kq 255 ?_
               refine kq 256 ?_
               refine kq 257 ?_
               refine kq 258 ?_
               refine kq 259 ?_
               refine pq 260 rfl (x_pickT rfl rfl rfl rfl) ?_
               refine we_nil ?_
               cases h
               exact ⟨rfl, _, .re (rl [0, 1, 5, 2, 3, 1, 1, 1, 1, 2, 243, 1, 8]) [] [] rfl (.refl _), rfl⟩
              ·intro hc
               replace h := iteF h hc
               refine pm 214 ?_
               refine pq 215 rfl (.fieldAddr rfl rfl rfl fl58u_2 rfl) ?_
               refine pq 216 rfl (x_load rfl rfl rfl sz9 un9 ag9 rfl) ?_
               refine pq 217 rfl (.fieldAddr rfl rfl rfl fl58u_2 rfl) ?_
               refine pq 218 rfl (x_load rfl rfl rfl sz9 un9 ag9 rfl) ?_
               refine pif 219 rfl rfl rfl rfl (x_neS rfl rfl rfl) ?_ ?_
               ·intro hc
                replace h := iteT h hc
                refine pq 220 rfl (x_pickF rfl rfl rfl rfl) ?_
                refine pm 221 ?_
                refine kq 222 ?_
                refine kq 223 ?_
                refine kq 224 ?_
                refine kq 225 ?_
                refine kq 226 ?_
                refine pq 227 rfl (x_pickT rfl rfl rfl rfl) ?_
                refine pm 228 ?_
                refine kq 229 ?_
                refine kq 230 ?_
                refine kq 231 ?_
                refine kq 232 ?_
                refine kq 233 ?_
                refine pq 234 rfl (x_pickT rfl rfl rfl rfl) ?_
                refine pm 235 ?_
                refine kq 236 ?_
                refine kq 237 ?_
                refine kq 238 ?_
                refine kq 239 ?_
                refine kq 240 ?_
                refine kq 241 ?_
                refine kq 242 ?_
                refine kq 243 ?_
                refine kq 244 ?_
                refine kq 245 ?_
                refine kq 246 ?_
                refine kq 247 ?_
                refine kq 248 ?_
                refine kq 249 ?_
                refine kq 250 ?_
                refine kq 251 ?_
                refine pq 252 rfl (x_pickT rfl rfl rfl rfl) ?_
                refine pm 253 ?_
                refine kq 254 ?_
                refine kq 255 ?_
                refine kq 256 ?_
                refine kq 257 ?_
                refine kq 258 ?_
                refine kq 259 ?_
                refine pq 260 rfl (x_pickT rfl rfl rfl rfl) ?_
                refine we_nil ?_
                cases h
                exact ⟨rfl, _, .re (rl [0, 1, 5, 2, 3, 1, 1, 1, 1, 2, 243, 1, 8]) [] [] rfl (.refl _), rfl⟩
               ·intro hc
                replace h := iteF h hc
                refine pq 220 rfl (x_pickF rfl rfl rfl rfl) ?_
                refine pm 221 ?_
                refine pq 222 rfl (.fieldAddr rfl rfl rfl fl58u_0 rfl) ?_
                refine pq 223 rfl (x_load rfl rfl rfl sz21 un21 ag21 rfl) ?_
                refine pq 224 rfl (.fieldAddr rfl rfl rfl fl58u_0 rfl) ?_
                refine pq 225 rfl (x_load rfl rfl rfl sz21 un21 ag21 rfl) ?_
                refine pif 226 rfl rfl rfl rfl (.bin rfl rfl rfl rfl) ?_ ?_
                ·intro hc
                 replace h := iteT h hc
                 refine pq 227 rfl (x_pickF rfl rfl rfl rfl) ?_
                 refine pm 228 ?_
                 refine kq 229 ?_
                 refine kq 230 ?_
                 refine kq 231 ?_
                 refine kq 232 ?_
                 refine kq 233 ?_
                 refine pq 234 rfl (x_pickT rfl rfl rfl rfl) ?_
                 refine pm 235 ?_
                 refine kq 236 ?_
                 refine kq 237 ?_
                 refine kq 238 ?_
                 refine kq 239 ?_
                 refine kq 240 ?_
                 refine kq 241 ?_
                 refine kq 242 ?_
                 refine kq 243 ?_
                 refine kq 244 ?_
                 refine kq 245 ?_
                 refine kq 246 ?_
                 refine kq 247 ?_
                 refine kq 248 ?_
                 refine kq 249 ?_
                 refine kq 250 ?_
                 refine kq 251 ?_
                 refine pq 252 rfl (x_pickT rfl rfl rfl rfl) ?_
                 refine pm 253 ?_
                 refine kq 254 ?_
                 refine kq 255 ?_
                 refine kq 256 ?_
                 refine kq 257 ?_
                 refine kq 258 ?_
                 refine kq 259 ?_
                 refine pq 260 rfl (x_pickT rfl rfl rfl rfl) ?_
                 refine we_nil ?_
                 cases h
                 exact ⟨rfl, _, .re (rl [0, 1, 5, 2, 3, 1, 1, 1, 1, 2, 243, 1, 8]) [] [] rfl (.refl _), rfl⟩
                ·intro hc
                 replace h := iteF h hc
                 refine pq 227 rfl (x_pickF rfl rfl rfl rfl) ?_
                 refine pm 228 ?_
                 refine pq 229 rfl (.fieldAddr rfl rfl rfl fl58u_1 rfl) ?_
                 refine pq 230 rfl (x_load rfl rfl rfl sz3 un3 ag3 rfl) ?_
                 refine pq 231 rfl (.fieldAddr rfl rfl rfl fl58u_1 rfl) ?_
                 refine pq 232 rfl (x_load rfl rfl rfl sz3 un3 ag3 rfl) ?_
                 refine pif 233 rfl rfl rfl rfl (.bin rfl rfl rfl rfl) ?_ ?_
                 ·intro hc
                  replace h := iteT h hc
                  refine pq 234 rfl (x_pickF rfl rfl rfl rfl) ?_
                  refine pm 235 ?_
                  refine kq 236 ?_
                  refine kq 237 ?_
                  refine kq 238 ?_
                  refine kq 239 ?_
                  refine kq 240 ?_
                  refine kq 241 ?_
                  refine kq 242 ?_
                  refine kq 243 ?_
                  refine kq 244 ?_
                  refine kq 245 ?_
                  refine kq 246 ?_
                  refine kq 247 ?_
                  refine kq 248 ?_
                  refine kq 249 ?_
                  refine kq 250 ?_
                  refine kq 251 ?_
                  refine pq 252 rfl (x_pickT rfl rfl rfl rfl) ?_
                  refine pm 253 ?_
                  refine kq 254 ?_
                  refine kq 255 ?_
                  refine kq 256 ?_
                  refine kq 257 ?_
                  refine kq 258 ?_
                  refine kq 259 ?_
                  refine pq 260 rfl (x_pickT rfl rfl rfl rfl) ?_
                  refine we_nil ?_
                  cases h
                  exact ⟨rfl, _, .re (rl [0, 1, 5, 2, 3, 1, 1, 1, 1, 2, 243, 1, 8]) [] [] rfl (.refl _), rfl⟩
                 ·intro hc
                  replace h := iteF h hc
                  refine pq 234 rfl (x_pickF rfl rfl rfl rfl) ?_
                  refine pm 235 ?_
                  refine pif 236 rfl rfl rfl rfl (.move rfl rfl) ?_ ?_
                  ·intro hc
                   replace h := iteT h hc
                   refine pq 237 rfl (.un rfl rfl rfl) ?_
                   refine pm 238 ?_
                   refine kq 239 ?_
                   refine kq 240 ?_
                   refine kq 241 ?_
                   refine kq 242 ?_
                   refine kq 243 ?_
                   refine kq 244 ?_
                   refine kq 245 ?_
                   refine kq 246 ?_
                   refine kq 247 ?_
                   refine kq 248 ?_
                   refine kq 249 ?_
                   refine kq 250 ?_
                   refine pq 251 rfl (x_pickF rfl rfl rfl rfl) ?_
                   refine pq 252 rfl (x_pickF rfl rfl rfl rfl) ?_
                   refine pm 253 ?_
                   refine pif 254 rfl rfl rfl rfl (.move rfl rfl) ?_ ?_
                   ·intro hc
                    replace h := iteT h hc
                    refine pm 255 ?_
                    refine pq 256 rfl (.fieldAddr rfl rfl rfl fl58u_2 rfl) ?_
                    refine pq 257 rfl (x_load rfl rfl rfl sz9 un9 ag9 rfl) ?_
                    refine pq 258 rfl (x_neS rfl rfl rfl) ?_
                    refine pq 259 rfl (x_pickT rfl rfl rfl rfl) ?_
                    refine pq 260 rfl (x_pickF rfl rfl rfl rfl) ?_
                    refine we_nil ?_
                    cases h
                    exact ⟨rfl, _, .re (rl [0, 1, 5, 2, 3, 1, 1, 1, 1, 2, 243, 1, 8]) [] [] rfl (.refl _), rfl⟩
                   ·intro hc
                    replace h := iteF h hc
                    refine pm 255 ?_
                    refine kq 256 ?_
                    refine kq 257 ?_
                    refine kq 258 ?_
                    refine pq 259 rfl (x_pickF rfl rfl rfl rfl) ?_
                    refine pq 260 rfl (x_pickF rfl rfl rfl rfl) ?_
                    refine we_nil ?_
                    cases h
                    exact ⟨rfl, _, .re (rl [0, 1, 5, 2, 3, 1, 1, 1, 1, 2, 243, 1, 8]) [] [] rfl (.refl _), rfl⟩
                  ·intro hc
                   replace h := iteF h hc
                   refine pq 237 rfl (.un rfl rfl rfl) ?_
                   refine pm 238 ?_
                   refine pq 239 rfl (.fieldAddr rfl rfl rfl fl58u_1 rfl) ?_
                   refine pq 240 rfl (x_load rfl rfl rfl sz3 un3 ag3 rfl) ?_
                   refine pq 241 rfl (.fieldAddr rfl rfl rfl fl58u_1 rfl) ?_
                   refine pq 242 rfl (x_load rfl rfl rfl sz3 un3 ag3 rfl) ?_
                   refine pif 243 rfl rfl rfl rfl (.bin rfl rfl rfl rfl) ?_ ?_
                   ·intro hc
                    replace h := iteT h hc
                    refine pm 244 ?_
                    refine kq 245 ?_
                    refine kq 246 ?_
                    refine kq 247 ?_
                    refine kq 248 ?_
                    refine kq 249 ?_
                    refine pq 250 rfl (x_pickT rfl rfl rfl rfl) ?_
                    refine pq 251 rfl (x_pickT rfl rfl rfl rfl) ?_
                    refine pq 252 rfl (x_pickF rfl rfl rfl rfl) ?_
                    refine pm 253 ?_
                    refine kq 254 ?_
                    refine kq 255 ?_
                    refine kq 256 ?_
                    refine kq 257 ?_
                    refine kq 258 ?_
                    refine kq 259 ?_
                    refine pq 260 rfl (x_pickT rfl rfl rfl rfl) ?_
                    refine we_nil ?_
                    cases h
                    exact ⟨rfl, _, .re (rl [0, 1, 5, 2, 3, 1, 1, 1, 1, 2, 243, 1, 8]) [] [] rfl (.refl _), rfl⟩
                   ·intro hc
                    replace h := iteF h hc
                    refine pm 244 ?_
                    refine pq 245 rfl (.fieldAddr rfl rfl rfl fl58u_2 rfl) ?_
                    refine pq 246 rfl (x_load rfl rfl rfl sz9 un9 ag9 rfl) ?_
                    refine pq 247 rfl (.fieldAddr rfl rfl rfl fl58u_2 rfl) ?_
                    refine pq 248 rfl (x_load rfl rfl rfl sz9 un9 ag9 rfl) ?_
                    refine pif 249 rfl rfl rfl rfl (x_neS rfl rfl rfl) ?_ ?_
                    ·intro hc
                     replace h := iteT h hc
                     refine pq 250 rfl (x_pickF rfl rfl rfl rfl) ?_
                     refine pq 251 rfl (x_pickT rfl rfl rfl rfl) ?_
                     refine pq 252 rfl (x_pickF rfl rfl rfl rfl) ?_
                     refine pm 253 ?_
                     refine kq 254 ?_
                     refine kq 255 ?_
                     refine kq 256 ?_
                     refine kq 257 ?_
                     refine kq 258 ?_
                     refine kq 259 ?_
                     refine pq 260 rfl (x_pickT rfl rfl rfl rfl) ?_
                     refine we_nil ?_
                     cases h
                     exact ⟨rfl, _, .re (rl [0, 1, 5, 2, 3, 1, 1, 1, 1, 2, 243, 1, 8]) [] [] rfl (.refl _), rfl⟩
                    ·intro hc
                     replace h := iteF h hc
                     refine pq 250 rfl (x_pickF rfl rfl rfl rfl) ?_
                     refine pq 251 rfl (x_pickT rfl rfl rfl rfl) ?_
                     refine pq 252 rfl (x_pickF rfl rfl rfl rfl) ?_
                     refine pm 253 ?_
                     refine pif 254 rfl rfl rfl rfl (.move rfl rfl) ?_ ?_
                     ·intro hc
                      replace h := iteT h hc
                      refine pm 255 ?_
                      refine pq 256 rfl (.fieldAddr rfl rfl rfl fl58u_2 rfl) ?_
                      refine pq 257 rfl (x_load rfl rfl rfl sz9 un9 ag9 rfl) ?_
                      refine pq 258 rfl (x_neS rfl rfl rfl) ?_
                      refine pq 259 rfl (x_pickT rfl rfl rfl rfl) ?_
                      refine pq 260 rfl (x_pickF rfl rfl rfl rfl) ?_
                      refine we_nil ?_
                      cases h
                      exact ⟨rfl, _, .re (rl [0, 1, 5, 2, 3, 1, 1, 1, 1, 2, 243, 1, 8]) [] [] rfl (.refl _), rfl⟩
                     ·intro hc
                      replace h := iteF h hc
                      refine pm 255 ?_
                      refine kq 256 ?_
                      refine kq 257 ?_
                      refine kq 258 ?_
                      refine pq 259 rfl (x_pickF rfl rfl rfl rfl) ?_
                      refine pq 260 rfl (x_pickF rfl rfl rfl rfl) ?_
                      refine we_nil ?_
                      cases h
                      exact ⟨rfl, _, .re (rl [0, 1, 5, 2, 3, 1, 1, 1, 1, 2, 243, 1, 8]) [] [] rfl (.refl _), rfl⟩
             ·clear hq
              refine ex_if rfl ?_ ?_
              ·intro hc
               replace h := iteT h hc
               refine ex_seq ?_
               refine ex_ord [] (l := [0]) rfl ?_
               refine pa 10 ?_
               refine we_nil ?_
               refine ex_ret ?_
               exact rnd_out (o := (.inl ())) rfl (fun h => by cases h) h (.re (rl [10, 1, 258]) [] [] rfl (.refl _)) rfl
              ·intro hc
               replace h := iteF h hc
               refine ex_skip ?_
               refine ex_ord [] (l := [0, 1, 2]) rfl ?_
               refine pm 170 ?_
               refine pq 171 rfl (.bin rfl rfl rfl rfl) ?_
               refine pa 16 ?_
               refine we_nil ?_
               exact rnd_on rfl h (.re (rl [0, 1, 5, 2, 3, 1, 1, 1, 1, 2, 252]) [] [] rfl (.refl _)) rfl
          ·intro hc
           replace h := iteF h hc
           refine ex_exit ?_
           exact rnd_out (o := (.inr ())) rfl (fun h => by cases h) h (.re (rl [0, 1, 5, 2, 3, 1, 1, 1, 1, 1, 253]) [] [] rfl (.refl _)) rfl
      ·intro hc
       replace h := iteF h hc
       refine ex_exit ?_
       exact rnd_out (o := (.inr ())) rfl (fun h => by cases h) h (.re (rl [6, 2, 3, 1, 257]) [] [] rfl (.refl _)) rfl
end Go.PM
