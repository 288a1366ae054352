/-
  The walks: each Go function answers what its plain Lean function answers. Printed. Part 2 of 3. No condition but that the plain function answers.
-/
import Derived.Test.YtimlobidpkglkaaDoorQDocStepsW1
set_option linter.unusedVariables false
set_option linter.unusedSimpArgs false
set_option linter.unusedSectionVars false
set_option linter.unnecessarySimpa false
namespace Go.PM
open Go.RowKit Go.Proofs.Tryd
set_option linter.unusedSimpArgs false
set_option linter.unusedVariables false
set_option maxRecDepth 4000
theorem ok_slices_ContainsFunc_apiLine {r : Bool} {p0 : List (T_api_Line)} {p1 : T_api_Line → Option (Bool)} {g1 : FuncId} {cs1 : List DV} (hc1 : Cl prog g1 cs1) (hf1 : ∀ x0 r, p1 x0 = some r → OkB prog g1 ([.agg [.int .i64 x0.f_Quote, .sl false (List.map c_i64 x0.f_Lists), .int .i64 x0.f_Kind, .sl false (List.map c_api_Cell x0.f_Cells)]] ++ cs1) [] [] (.bool r) [] []) (h : slices_ContainsFunc_apiLine p0 p1 = some r) : OkB prog 43 [.sl false (List.map c_api_Line p0), .fn g1 cs1] [] [] (.bool r) [] [] := by
  unfold slices_ContainsFunc_apiLine at h
  refine okB_of_exG func43 rfl rfl (s0 := [.sl false (List.map c_api_Line p0), .fn g1 cs1, .top, .top, .top, .top, .top, .top, .top]) (b0 := []) (r0 := []) rfl rfl rfl ?_
  show Ex _ _ _ ⟨[.sl false (List.map c_api_Line p0), .fn g1 cs1, .top, .top, .top, .top, .top, .top, .top], [], [], 0⟩ _
  refine ex_seq ?_
  refine ex_ord [] (l := [0]) rfl ?_
  refine p_ 4 rfl rfl rfl rfl (.assign rfl rfl) ?_
  refine we_nil ?_
  refine ex_seq ?_
  refine ex_ord [] (l := [0, 1, 2, 3, 4]) rfl ?_
  refine p_ 5 rfl rfl rfl rfl (.move rfl rfl) ?_
  refine p_ 6 rfl rfl rfl rfl (.move rfl rfl) ?_
  obtain ⟨v1, hv1, h⟩ := bindS h
  refine p_ 7 rfl rfl rfl rfl (x_callP rfl rfl en55 (ok_slices_IndexFunc_apiLine hc1 hf1 hv1) rfl rfl rfl rfl rfl) ?_
  refine p_ 8 rfl rfl rfl rfl (.bin rfl rfl rfl rfl) ?_
  refine p_ 4 rfl rfl rfl rfl (.assign rfl rfl) ?_
  refine we_nil ?_
  refine ex_ret ?_
  obtain rfl := Option.some.inj h
  exact finB (by first | exact .inr rfl | exact .inl rfl) (.refl _) [.bool (decide ((v1 : Int) ≥ 0))] [] [] (res_cons (res_tmp rfl) res_nil) rfl rfl rfl rfl rfl rfl rfl
theorem ok_slices_ContainsFunc_int {r : Bool} {p0 : List (Int)} {p1 : Int → Option (Bool)} {g1 : FuncId} {cs1 : List DV} (hc1 : Cl prog g1 cs1) (hf1 : ∀ x0 r, p1 x0 = some r → OkB prog g1 ([.int .i64 x0] ++ cs1) [] [] (.bool r) [] []) (h : slices_ContainsFunc_int p0 p1 = some r) : OkB prog 48 [.sl false (List.map c_i64 p0), .fn g1 cs1] [] [] (.bool r) [] [] := by
  unfold slices_ContainsFunc_int at h
  refine okB_of_exG func48 rfl rfl (s0 := [.sl false (List.map c_i64 p0), .fn g1 cs1, .top, .top, .top, .top, .top, .top, .top]) (b0 := []) (r0 := []) rfl rfl rfl ?_
  show Ex _ _ _ ⟨[.sl false (List.map c_i64 p0), .fn g1 cs1, .top, .top, .top, .top, .top, .top, .top], [], [], 0⟩ _
  refine ex_seq ?_
  refine ex_ord [] (l := [0]) rfl ?_
  refine p_ 4 rfl rfl rfl rfl (.assign rfl rfl) ?_
  refine we_nil ?_
  refine ex_seq ?_
  refine ex_ord [] (l := [0, 1, 2, 3, 4]) rfl ?_
  refine p_ 5 rfl rfl rfl rfl (.move rfl rfl) ?_
  refine p_ 6 rfl rfl rfl rfl (.move rfl rfl) ?_
  obtain ⟨v1, hv1, h⟩ := bindS h
  refine p_ 7 rfl rfl rfl rfl (x_callP rfl rfl en57 (ok_slices_IndexFunc_int hc1 hf1 hv1) rfl rfl rfl rfl rfl) ?_
  refine p_ 8 rfl rfl rfl rfl (.bin rfl rfl rfl rfl) ?_
  refine p_ 4 rfl rfl rfl rfl (.assign rfl rfl) ?_
  refine we_nil ?_
  refine ex_ret ?_
  obtain rfl := Option.some.inj h
  exact finB (by first | exact .inr rfl | exact .inl rfl) (.refl _) [.bool (decide ((v1 : Int) ≥ 0))] [] [] (res_cons (res_tmp rfl) res_nil) rfl rfl rfl rfl rfl rfl rfl
theorem ok_slices_ContainsFunc_apiCell {r : Bool} {p0 : List (T_api_Cell)} {p1 : T_api_Cell → Option (Bool)} {g1 : FuncId} {cs1 : List DV} (hc1 : Cl prog g1 cs1) (hf1 : ∀ x0 r, p1 x0 = some r → OkB prog g1 ([.agg [.int .i32 x0.f_R, .int .i64 x0.f_Bits, .str (bs x0.f_Href)]] ++ cs1) [] [] (.bool r) [] []) (h : slices_ContainsFunc_apiCell p0 p1 = some r) : OkB prog 58 [.sl false (List.map c_api_Cell p0), .fn g1 cs1] [] [] (.bool r) [] [] := by
  unfold slices_ContainsFunc_apiCell at h
  refine okB_of_exG func58 rfl rfl (s0 := [.sl false (List.map c_api_Cell p0), .fn g1 cs1, .top, .top, .top, .top, .top, .top, .top]) (b0 := []) (r0 := []) rfl rfl rfl ?_
  show Ex _ _ _ ⟨[.sl false (List.map c_api_Cell p0), .fn g1 cs1, .top, .top, .top, .top, .top, .top, .top], [], [], 0⟩ _
  refine ex_seq ?_
  refine ex_ord [] (l := [0]) rfl ?_
  refine p_ 4 rfl rfl rfl rfl (.assign rfl rfl) ?_
  refine we_nil ?_
  refine ex_seq ?_
  refine ex_ord [] (l := [0, 1, 2, 3, 4]) rfl ?_
  refine p_ 5 rfl rfl rfl rfl (.move rfl rfl) ?_
  refine p_ 6 rfl rfl rfl rfl (.move rfl rfl) ?_
  obtain ⟨v1, hv1, h⟩ := bindS h
  refine p_ 7 rfl rfl rfl rfl (x_callP rfl rfl en62 (ok_slices_IndexFunc_apiCell hc1 hf1 hv1) rfl rfl rfl rfl rfl) ?_
  refine p_ 8 rfl rfl rfl rfl (.bin rfl rfl rfl rfl) ?_
  refine p_ 4 rfl rfl rfl rfl (.assign rfl rfl) ?_
  refine we_nil ?_
  refine ex_ret ?_
  obtain rfl := Option.some.inj h
  exact finB (by first | exact .inr rfl | exact .inl rfl) (.refl _) [.bool (decide ((v1 : Int) ≥ 0))] [] [] (res_cons (res_tmp rfl) res_nil) rfl rfl rfl rfl rfl rfl rfl
theorem ok_chars_Class {r : Int} {p0 : Int} (h : chars_Class p0 = some r) : OkB prog 63 [.int .i32 p0] [] [] (.int .i64 r) [] [] := by
  unfold chars_Class at h
  refine okB_of_exG func63 rfl rfl (s0 := [.int .i32 p0, .top, .top, .top, .top, .top, .top, .top, .top, .top, .top, .top, .top, .top, .top, .top, .top, .top, .top, .top, .top, .top, .top, .top, .top, .top, .top, .top, .top, .top, .top, .top, .top, .top, .top, .top, .top, .top, .top, .top, .top, .top, .top, .top, .top]) (b0 := []) (r0 := []) rfl rfl rfl ?_
  show Ex _ _ _ ⟨[.int .i32 p0, .top, .top, .top, .top, .top, .top, .top, .top, .top, .top, .top, .top, .top, .top, .top, .top, .top, .top, .top, .top, .top, .top, .top, .top, .top, .top, .top, .top, .top, .top, .top, .top, .top, .top, .top, .top, .top, .top, .top, .top, .top, .top, .top, .top], [], [], 0⟩ _
  refine ex_seq ?_
  refine ex_ord [] (l := [0]) rfl ?_
  refine p_ 2 rfl rfl rfl rfl (.assign rfl rfl) ?_
  refine we_nil ?_
  refine ex_seq ?_
  refine ex_block ?_
  refine ex_seq ?_
  refine ex_block ?_
  refine ex_seq ?_
  refine ex_block ?_
  refine ex_block ?_
  refine ex_block ?_
  refine ex_seq ?_
  refine ex_block ?_
  refine ex_seq ?_
  refine ex_block ?_
  refine ex_seq ?_
  refine ex_block ?_
  refine ex_block ?_
  refine ex_seq ?_
  refine ex_block ?_
  refine ex_seq ?_
  refine ex_seq ?_
  refine ex_seq ?_
  refine ex_ord [] (l := [0, 1, 2, 3]) rfl ?_
  refine p_ 4 rfl rfl rfl rfl (.move rfl rfl) ?_
  obtain ⟨v1, hv1, h⟩ := bindS h
  refine p_ 5 rfl rfl rfl rfl (x_callP rfl rfl en65 (ok_utf8u_ValidRune hv1) rfl rfl rfl rfl rfl) ?_
  refine p_ 6 rfl rfl rfl rfl (.un rfl rfl rfl) ?_
  refine p_ 3 rfl rfl rfl rfl (.assign rfl rfl) ?_
  refine we_nil ?_
  refine ex_if rfl ?_ ?_
  · intro hc
    replace h := iteT h hc
    refine ex_exit ?_
    refine ex_seq ?_
    refine ex_seq ?_
    refine ex_ord [] (l := [0]) rfl ?_
    refine p_ 2 rfl rfl rfl rfl (.assign rfl rfl) ?_
    refine we_nil ?_
    refine ex_ret ?_
    obtain rfl := Option.some.inj h
    exact finB (by first | exact .inr rfl | exact .inl rfl) (.refl _) [.int .i64 0] [] [] (res_cons (res_tmp rfl) res_nil) rfl rfl rfl rfl rfl rfl rfl
  · intro hc
    replace h := iteF h hc
    refine ex_skip ?_
    refine ex_seq ?_
    refine ex_seq ?_
    refine ex_ord [] (l := [0, 1, 2]) rfl ?_
    refine p_ 8 rfl rfl rfl rfl (.move rfl rfl) ?_
    refine p_ 9 rfl rfl rfl rfl (.bin rfl rfl rfl rfl) ?_
    refine p_ 7 rfl rfl rfl rfl (.assign rfl rfl) ?_
    refine we_nil ?_
    refine ex_if rfl ?_ ?_
    · intro hc
      replace h := iteT h hc
      refine ex_exit ?_
      refine ex_seq ?_
      refine ex_seq ?_
      refine ex_ord [] (l := [0]) rfl ?_
      refine p_ 2 rfl rfl rfl rfl (.assign rfl rfl) ?_
      refine we_nil ?_
      refine ex_ret ?_
      obtain rfl := Option.some.inj h
      exact finB (by first | exact .inr rfl | exact .inl rfl) (.refl _) [.int .i64 1] [] [] (res_cons (res_tmp rfl) res_nil) rfl rfl rfl rfl rfl rfl rfl
    · intro hc
      replace h := iteF h hc
      refine ex_skip ?_
      refine ex_seq ?_
      refine ex_seq ?_
      refine ex_ord [] (l := [0, 1, 2]) rfl ?_
      refine p_ 11 rfl rfl rfl rfl (.move rfl rfl) ?_
      refine p_ 12 rfl rfl rfl rfl (.bin rfl rfl rfl rfl) ?_
      refine p_ 10 rfl rfl rfl rfl (.assign rfl rfl) ?_
      refine we_nil ?_
      refine ex_if rfl ?_ ?_
      · intro hc
        replace h := iteT h hc
        refine ex_exit ?_
        refine ex_seq ?_
        refine ex_seq ?_
        refine ex_ord [] (l := [0]) rfl ?_
        refine p_ 2 rfl rfl rfl rfl (.assign rfl rfl) ?_
        refine we_nil ?_
        refine ex_ret ?_
        obtain rfl := Option.some.inj h
        exact finB (by first | exact .inr rfl | exact .inl rfl) (.refl _) [.int .i64 1] [] [] (res_cons (res_tmp rfl) res_nil) rfl rfl rfl rfl rfl rfl rfl
      · intro hc
        replace h := iteF h hc
        refine ex_skip ?_
        refine ex_seq ?_
        refine ex_seq ?_
        refine ex_seq ?_
        refine ex_ord [] (l := [0, 1, 2]) rfl ?_
        refine p_ 14 rfl rfl rfl rfl (.move rfl rfl) ?_
        refine p_ 15 rfl rfl rfl rfl (.bin rfl rfl rfl rfl) ?_
        refine p_ 13 rfl rfl rfl rfl (.assign rfl rfl) ?_
        refine we_nil ?_
        obtain ⟨q2, hq, h⟩ := bindS h
        refine ex_cut ⟨[.int .i32 p0, .top, .top, .top, .top, .top, .top, .top, .top, .top, .top, .top, .top, .bool q2, .top, .top, .top, .top, .top, .top, .top, .top, .top, .top, .top, .top, .top, .top, .top, .top, .top, .top, .top, .top, .top, .top, .top, .top, .top, .top, .top, .top, .top, .top, .top], [], [], 0⟩ ?_ ?_
        · clear h
          have h := hq
          clear hq
          refine ex_if rfl ?_ ?_
          · intro hc
            replace h := iteT h hc
            refine ex_skip ?_
            cases h
            exact ⟨rfl, _, .re [true, false, false, false, false, false, false, false, false, false, false, false, false, true, false, false, false, false, false, false, false, false, false, false, false, false, false, false, false, false, false, false, false, false, false, false, false, false, false, false, false, false, false, false, false] [] [] rfl (.refl _), rfl⟩
          · intro hc
            replace h := iteF h hc
            refine ex_ord [] (l := [0, 1, 2]) rfl ?_
            refine p_ 16 rfl rfl rfl rfl (.move rfl rfl) ?_
            refine p_ 17 rfl rfl rfl rfl (.bin rfl rfl rfl rfl) ?_
            refine p_ 13 rfl rfl rfl rfl (.assign rfl rfl) ?_
            refine we_nil ?_
            cases h
            exact ⟨rfl, _, .re [true, false, false, false, false, false, false, false, false, false, false, false, false, true, false, false, false, false, false, false, false, false, false, false, false, false, false, false, false, false, false, false, false, false, false, false, false, false, false, false, false, false, false, false, false] [] [] rfl (.refl _), rfl⟩
        · clear hq
          refine ex_if rfl ?_ ?_
          · intro hc
            replace h := iteT h hc
            refine ex_exit ?_
            refine ex_seq ?_
            refine ex_seq ?_
            refine ex_ord [] (l := [0]) rfl ?_
            refine p_ 2 rfl rfl rfl rfl (.assign rfl rfl) ?_
            refine we_nil ?_
            refine ex_ret ?_
            obtain rfl := Option.some.inj h
            exact finB (by first | exact .inr rfl | exact .inl rfl) (.refl _) [.int .i64 2] [] [] (res_cons (res_tmp rfl) res_nil) rfl rfl rfl rfl rfl rfl rfl
          · intro hc
            replace h := iteF h hc
            refine ex_skip ?_
            refine ex_seq ?_
            refine ex_seq ?_
            refine ex_ord [] (l := [0, 1, 2]) rfl ?_
            refine p_ 19 rfl rfl rfl rfl (.move rfl rfl) ?_
            refine p_ 20 rfl rfl rfl rfl (.bin rfl rfl rfl rfl) ?_
            refine p_ 18 rfl rfl rfl rfl (.assign rfl rfl) ?_
            refine we_nil ?_
            refine ex_if rfl ?_ ?_
            · intro hc
              replace h := iteT h hc
              refine ex_exit ?_
              refine ex_seq ?_
              refine ex_seq ?_
              refine ex_ord [] (l := [0]) rfl ?_
              refine p_ 2 rfl rfl rfl rfl (.assign rfl rfl) ?_
              refine we_nil ?_
              refine ex_ret ?_
              obtain rfl := Option.some.inj h
              exact finB (by first | exact .inr rfl | exact .inl rfl) (.refl _) [.int .i64 5] [] [] (res_cons (res_tmp rfl) res_nil) rfl rfl rfl rfl rfl rfl rfl
            · intro hc
              replace h := iteF h hc
              refine ex_skip ?_
              refine ex_seq ?_
              refine ex_seq ?_
              obtain ⟨q3, hq, h⟩ := bindS h
              refine ex_cut ⟨[.int .i32 p0, .top, .top, .top, .top, .top, .top, .top, .top, .top, .top, .top, .top, .top, .top, .top, .top, .top, .top, .top, .top, .bool q3, .top, .top, .top, .top, .top, .top, .top, .top, .top, .top, .top, .top, .top, .top, .top, .top, .top, .top, .top, .top, .top, .top, .top], [], [], 0⟩ ?_ ?_
              · clear h
                have h := hq
                clear hq
                refine ex_ord [] (l := [0, 1, 2, 3, 4, 5, 6]) rfl ?_
                refine p_ 22 rfl rfl rfl rfl (.move rfl rfl) ?_
                refine pif 23 rfl rfl rfl rfl (.bin rfl rfl rfl rfl) ?_ ?_
                · intro hc
                  replace h := iteT h hc
                  refine p_ 24 rfl rfl rfl rfl (.move rfl rfl) ?_
                  refine p_ 25 rfl rfl rfl rfl (.move rfl rfl) ?_
                  refine p_ 26 rfl rfl rfl rfl (.bin rfl rfl rfl rfl) ?_
                  refine p_ 27 rfl rfl rfl rfl (x_pickT rfl rfl rfl rfl) ?_
                  refine p_ 21 rfl rfl rfl rfl (.assign rfl rfl) ?_
                  refine we_nil ?_
                  cases h
                  exact ⟨rfl, _, .re [true, false, false, false, false, false, false, false, false, false, false, false, false, false, false, false, false, false, false, false, false, true, false, false, false, false, false, false, false, false, false, false, false, false, false, false, false, false, false, false, false, false, false, false, false] [] [] rfl (.refl _), rfl⟩
                · intro hc
                  replace h := iteF h hc
                  refine p_ 24 rfl rfl rfl rfl (.move rfl rfl) ?_
                  refine k_ 25 rfl rfl rfl ?_
                  refine k_ 26 rfl rfl rfl ?_
                  refine p_ 27 rfl rfl rfl rfl (x_pickF rfl rfl rfl rfl) ?_
                  refine p_ 21 rfl rfl rfl rfl (.assign rfl rfl) ?_
                  refine we_nil ?_
                  cases h
                  exact ⟨rfl, _, .re [true, false, false, false, false, false, false, false, false, false, false, false, false, false, false, false, false, false, false, false, false, true, false, false, false, false, false, false, false, false, false, false, false, false, false, false, false, false, false, false, false, false, false, false, false] [] [] rfl (.refl _), rfl⟩
              · clear hq
                refine ex_if rfl ?_ ?_
                · intro hc
                  replace h := iteT h hc
                  refine ex_exit ?_
                  refine ex_seq ?_
                  refine ex_seq ?_
                  refine ex_ord [] (l := [0]) rfl ?_
                  refine p_ 2 rfl rfl rfl rfl (.assign rfl rfl) ?_
                  refine we_nil ?_
                  refine ex_ret ?_
                  obtain rfl := Option.some.inj h
                  exact finB (by first | exact .inr rfl | exact .inl rfl) (.refl _) [.int .i64 3] [] [] (res_cons (res_tmp rfl) res_nil) rfl rfl rfl rfl rfl rfl rfl
                · intro hc
                  replace h := iteF h hc
                  refine ex_skip ?_
                  refine ex_seq ?_
                  refine ex_seq ?_
                  obtain ⟨q4, hq, h⟩ := bindS h
                  refine ex_cut ⟨[.int .i32 p0, .top, .top, .top, .top, .top, .top, .top, .top, .top, .top, .top, .top, .top, .top, .top, .top, .top, .top, .top, .top, .top, .top, .top, .top, .top, .top, .top, .bool q4, .top, .top, .top, .top, .top, .top, .top, .top, .top, .top, .top, .top, .top, .top, .top, .top], [], [], 0⟩ ?_ ?_
                  · clear h
                    have h := hq
                    clear hq
                    refine ex_ord [] (l := [0, 1, 2, 3, 4, 5, 6]) rfl ?_
                    refine p_ 29 rfl rfl rfl rfl (.move rfl rfl) ?_
                    refine pif 30 rfl rfl rfl rfl (.bin rfl rfl rfl rfl) ?_ ?_
                    · intro hc
                      replace h := iteT h hc
                      refine p_ 31 rfl rfl rfl rfl (.move rfl rfl) ?_
                      refine p_ 32 rfl rfl rfl rfl (.move rfl rfl) ?_
                      refine p_ 33 rfl rfl rfl rfl (.bin rfl rfl rfl rfl) ?_
                      refine p_ 34 rfl rfl rfl rfl (x_pickT rfl rfl rfl rfl) ?_
                      refine p_ 28 rfl rfl rfl rfl (.assign rfl rfl) ?_
                      refine we_nil ?_
                      cases h
                      exact ⟨rfl, _, .re [true, false, false, false, false, false, false, false, false, false, false, false, false, false, false, false, false, false, false, false, false, false, false, false, false, false, false, false, true, false, false, false, false, false, false, false, false, false, false, false, false, false, false, false, false] [] [] rfl (.refl _), rfl⟩
                    · intro hc
                      replace h := iteF h hc
                      refine p_ 31 rfl rfl rfl rfl (.move rfl rfl) ?_
                      refine k_ 32 rfl rfl rfl ?_
                      refine k_ 33 rfl rfl rfl ?_
                      refine p_ 34 rfl rfl rfl rfl (x_pickF rfl rfl rfl rfl) ?_
                      refine p_ 28 rfl rfl rfl rfl (.assign rfl rfl) ?_
                      refine we_nil ?_
                      cases h
                      exact ⟨rfl, _, .re [true, false, false, false, false, false, false, false, false, false, false, false, false, false, false, false, false, false, false, false, false, false, false, false, false, false, false, false, true, false, false, false, false, false, false, false, false, false, false, false, false, false, false, false, false] [] [] rfl (.refl _), rfl⟩
                  · clear hq
                    refine ex_if rfl ?_ ?_
                    · intro hc
                      replace h := iteT h hc
                      refine ex_exit ?_
                      refine ex_seq ?_
                      refine ex_seq ?_
                      refine ex_ord [] (l := [0]) rfl ?_
                      refine p_ 2 rfl rfl rfl rfl (.assign rfl rfl) ?_
                      refine we_nil ?_
                      refine ex_ret ?_
                      obtain rfl := Option.some.inj h
                      exact finB (by first | exact .inr rfl | exact .inl rfl) (.refl _) [.int .i64 3] [] [] (res_cons (res_tmp rfl) res_nil) rfl rfl rfl rfl rfl rfl rfl
                    · intro hc
                      replace h := iteF h hc
                      refine ex_skip ?_
                      refine ex_seq ?_
                      refine ex_seq ?_
                      refine ex_ord [] (l := [0, 1, 2]) rfl ?_
                      refine p_ 36 rfl rfl rfl rfl (.move rfl rfl) ?_
                      refine p_ 37 rfl rfl rfl rfl (.bin rfl rfl rfl rfl) ?_
                      refine p_ 35 rfl rfl rfl rfl (.assign rfl rfl) ?_
                      refine we_nil ?_
                      refine ex_if rfl ?_ ?_
                      · intro hc
                        replace h := iteT h hc
                        refine ex_exit ?_
                        refine ex_seq ?_
                        refine ex_seq ?_
                        refine ex_ord [] (l := [0]) rfl ?_
                        refine p_ 2 rfl rfl rfl rfl (.assign rfl rfl) ?_
                        refine we_nil ?_
                        refine ex_ret ?_
                        obtain rfl := Option.some.inj h
                        exact finB (by first | exact .inr rfl | exact .inl rfl) (.refl _) [.int .i64 3] [] [] (res_cons (res_tmp rfl) res_nil) rfl rfl rfl rfl rfl rfl rfl
                      · intro hc
                        replace h := iteF h hc
                        refine ex_skip ?_
                        refine ex_seq ?_
                        obtain ⟨q5, hq, h⟩ := bindS h
                        refine ex_cut ⟨[.top, .top, .top, .top, .top, .top, .top, .top, .top, .top, .top, .top, .top, .top, .top, .top, .top, .top, .top, .top, .top, .top, .top, .top, .top, .top, .top, .top, .top, .top, .top, .top, .top, .top, .top, .top, .top, .top, .bool q5, .top, .top, .top, .top, .top, .top], [], [], 0⟩ ?_ ?_
                        · clear h
                          have h := hq
                          clear hq
                          refine ex_ord [] (l := [0, 1, 2, 3, 4, 5, 6]) rfl ?_
                          refine p_ 39 rfl rfl rfl rfl (.move rfl rfl) ?_
                          refine pif 40 rfl rfl rfl rfl (.bin rfl rfl rfl rfl) ?_ ?_
                          · intro hc
                            replace h := iteT h hc
                            refine p_ 41 rfl rfl rfl rfl (.move rfl rfl) ?_
                            refine p_ 42 rfl rfl rfl rfl (.move rfl rfl) ?_
                            refine p_ 43 rfl rfl rfl rfl (.bin rfl rfl rfl rfl) ?_
                            refine p_ 44 rfl rfl rfl rfl (x_pickT rfl rfl rfl rfl) ?_
                            refine p_ 38 rfl rfl rfl rfl (.assign rfl rfl) ?_
                            refine we_nil ?_
                            cases h
                            exact ⟨rfl, _, .re [false, false, false, false, false, false, false, false, false, false, false, false, false, false, false, false, false, false, false, false, false, false, false, false, false, false, false, false, false, false, false, false, false, false, false, false, false, false, true, false, false, false, false, false, false] [] [] rfl (.refl _), rfl⟩
                          · intro hc
                            replace h := iteF h hc
                            refine p_ 41 rfl rfl rfl rfl (.move rfl rfl) ?_
                            refine k_ 42 rfl rfl rfl ?_
                            refine k_ 43 rfl rfl rfl ?_
                            refine p_ 44 rfl rfl rfl rfl (x_pickF rfl rfl rfl rfl) ?_
                            refine p_ 38 rfl rfl rfl rfl (.assign rfl rfl) ?_
                            refine we_nil ?_
                            cases h
                            exact ⟨rfl, _, .re [false, false, false, false, false, false, false, false, false, false, false, false, false, false, false, false, false, false, false, false, false, false, false, false, false, false, false, false, false, false, false, false, false, false, false, false, false, false, true, false, false, false, false, false, false] [] [] rfl (.refl _), rfl⟩
                        · clear hq
                          refine ex_if rfl ?_ ?_
                          · intro hc
                            replace h := iteT h hc
                            refine ex_exit ?_
                            refine ex_seq ?_
                            refine ex_seq ?_
                            refine ex_ord [] (l := [0]) rfl ?_
                            refine p_ 2 rfl rfl rfl rfl (.assign rfl rfl) ?_
                            refine we_nil ?_
                            refine ex_ret ?_
                            obtain rfl := Option.some.inj h
                            exact finB (by first | exact .inr rfl | exact .inl rfl) (.refl _) [.int .i64 4] [] [] (res_cons (res_tmp rfl) res_nil) rfl rfl rfl rfl rfl rfl rfl
                          · intro hc
                            replace h := iteF h hc
                            refine ex_skip ?_
                            refine ex_exit ?_
                            refine ex_seq ?_
                            refine ex_ord [] (l := [0]) rfl ?_
                            refine p_ 2 rfl rfl rfl rfl (.assign rfl rfl) ?_
                            refine we_nil ?_
                            refine ex_ret ?_
                            obtain rfl := Option.some.inj h
                            exact finB (by first | exact .inr rfl | exact .inl rfl) (.refl _) [.int .i64 5] [] [] (res_cons (res_tmp rfl) res_nil) rfl rfl rfl rfl rfl rfl rfl
theorem ok_doc_Cmp {r : Int} {p0 : T_api_Pos} {p1 : T_api_Pos} (h : doc_Cmp p0 p1 = some r) : OkB prog 12 [.agg [.int .i64 p0.f_Line, .int .i64 p0.f_At], .agg [.int .i64 p1.f_Line, .int .i64 p1.f_At]] [] [] (.int .i64 r) [] [] := by
  unfold doc_Cmp at h
  refine okB_of_exG func12 rfl rfl (s0 := [.agg [.int .i64 p0.f_Line, .int .i64 p0.f_At], .agg [.int .i64 p1.f_Line, .int .i64 p1.f_At], .top, .top, .top, .top, .top, .top, .top, .top, .top, .top, .top, .top, .top, .top, .top]) (b0 := []) (r0 := []) rfl rfl rfl ?_
  show Ex _ _ _ ⟨[.agg [.int .i64 p0.f_Line, .int .i64 p0.f_At], .agg [.int .i64 p1.f_Line, .int .i64 p1.f_At], .top, .top, .top, .top, .top, .top, .top, .top, .top, .top, .top, .top, .top, .top, .top], [], [], 0⟩ _
  refine ex_seq ?_
  refine ex_ord [0, 1] (l := [0, 1, 2]) rfl ?_
  refine e_ (d := .bx 0 0) 2 rfl rfl rfl rfl rfl (b' := [some [.int .i64 p0.f_Line, .int .i64 p0.f_At]]) (r' := []) (.box rfl rfl rfl) rfl ?_
  refine e_ (d := .bx 1 0) 3 rfl rfl rfl rfl rfl (b' := [some [.int .i64 p0.f_Line, .int .i64 p0.f_At], some [.int .i64 p1.f_Line, .int .i64 p1.f_At]]) (r' := []) (.box rfl rfl rfl) rfl ?_
  refine p_ 4 rfl rfl rfl rfl (.assign rfl rfl) ?_
  refine we_nil ?_
  refine ex_seq ?_
  refine ex_gst ⟨[.agg [.int .i64 p0.f_Line, .int .i64 p0.f_At], .agg [.int .i64 p1.f_Line, .int .i64 p1.f_At], .cp [.int .i64 p0.f_Line, .int .i64 p0.f_At], .bx 1 0, .int .i64 0, .top, .top, .top, .top, .top, .top, .top, .top, .top, .top, .top, .top], [none, some [.int .i64 p1.f_Line, .int .i64 p1.f_At]], [], 0⟩ (.shutB (b := 0) rfl (fun d h => by simpa using List.all_eq_true.1 (rfl : List.all [.int .i64 p0.f_Line, .int .i64 p0.f_At] (fun d => !d.tok) = true) d h) (.refl _)) rfl ?_
  refine ex_gst ⟨[.agg [.int .i64 p0.f_Line, .int .i64 p0.f_At], .agg [.int .i64 p1.f_Line, .int .i64 p1.f_At], .cp [.int .i64 p0.f_Line, .int .i64 p0.f_At], .cp [.int .i64 p1.f_Line, .int .i64 p1.f_At], .int .i64 0, .top, .top, .top, .top, .top, .top, .top, .top, .top, .top, .top, .top], [none, none], [], 0⟩ (.shutB (b := 1) rfl (fun d h => by simpa using List.all_eq_true.1 (rfl : List.all [.int .i64 p1.f_Line, .int .i64 p1.f_At] (fun d => !d.tok) = true) d h) (.refl _)) rfl ?_
  refine ex_drw mo [10, 11, 1000, 1001, 1002, 1003, 1004, 1005, 1006, 1007, 1008, 1009, 3010, 3011] (by kernel_rfl) (l := [0, 1, 2, 3, 4, 5, 6, 7, 8, 9, 10, 11, 12]) rfl ?_
  refine n_ 5 rfl rfl rfl (fun _ _ => .fieldAddr rfl rfl rfl fl29u_0 rfl) ?_
  refine n_ 6 rfl rfl rfl (fun _ _ => x_load rfl rfl rfl sz3 un3 ag3 rfl) ?_
  refine n_ 7 rfl rfl rfl (fun _ _ => .fieldAddr rfl rfl rfl fl29u_0 rfl) ?_
  refine n_ 8 rfl rfl rfl (fun _ _ => x_load rfl rfl rfl sz3 un3 ag3 rfl) ?_
  obtain ⟨v1, hv1, h⟩ := bindS h
  refine n_ 9 rfl rfl rfl (fun _ _ => x_callP rfl rfl en19 (ok_cmp_Compare_int hv1) rfl rfl rfl rfl rfl) ?_
  refine n_ 10 rfl rfl rfl (fun _ _ => .fieldAddr rfl rfl rfl fl29u_1 rfl) ?_
  refine n_ 11 rfl rfl rfl (fun _ _ => x_load rfl rfl rfl sz3 un3 ag3 rfl) ?_
  refine n_ 12 rfl rfl rfl (fun _ _ => .fieldAddr rfl rfl rfl fl29u_1 rfl) ?_
  refine n_ 13 rfl rfl rfl (fun _ _ => x_load rfl rfl rfl sz3 un3 ag3 rfl) ?_
  obtain ⟨v2, hv2, h⟩ := bindS h
  refine n_ 14 rfl rfl rfl (fun _ _ => x_callP rfl rfl en19 (ok_cmp_Compare_int hv2) rfl rfl rfl rfl rfl) ?_
  refine e_ (d := .own 0) 15 rfl rfl rfl rfl rfl (b' := [none, none]) (r' := [some ⟨3, 1, List.map c_i64 [v1, v2]⟩]) (x_lit (f := c_i64) (l := [v1, v2]) rfl el43 rw3 zs3 rfl rfl rfl (by decide) (by decide) fl_i64 rfl) rfl ?_
  obtain ⟨v3, hv3, h⟩ := bindS h
  refine e_ (d := .int .i64 v3) 16 rfl rfl rfl rfl rfl (b' := [none, none]) (r' := [none]) (x_call [] [0] rfl rfl en18 (ok_cmp_Or_int hv3) rfl rfl rfl rfl rfl rfl rfl rfl rfl rfl rfl rfl rfl rfl) rfl ?_
  refine p_ 4 rfl rfl rfl rfl (.assign rfl rfl) ?_
  refine we_nil ?_
  refine ex_ret ?_
  obtain rfl := Option.some.inj h
  exact finB (by first | exact .inr rfl | exact .inl rfl) (.refl _) [.int .i64 v3] [] [] (res_cons (res_tmp rfl) res_nil) rfl rfl rfl rfl rfl rfl rfl
theorem ok_cells_Set {r : (List (T_api_Cell)) × Int} {p0 : List (T_api_Cell)} {p1 : Int} {p2 : Int} {p3 : Int} {p4 : Int} (h : cells_Set p0 p1 p2 p3 p4 = some r) : OkB prog 27 [.sl false (List.map c_api_Cell p0), .int .i64 p1, .int .i64 p2, .int .i64 p3, .int .i64 p4] [] [] (.tup [.own 0, .int .i64 r.2]) [] [⟨41, 3, List.map c_api_Cell r.1⟩] := by
  unfold cells_Set at h
  refine okB_of_exG func27 rfl rfl (s0 := [.sl false (List.map c_api_Cell p0), .int .i64 p1, .int .i64 p2, .int .i64 p3, .int .i64 p4, .top, .top, .top, .top, .top, .top, .top, .top, .top, .top, .top, .top, .top, .top]) (b0 := []) (r0 := []) rfl rfl rfl ?_
  show Ex _ _ _ ⟨[.sl false (List.map c_api_Cell p0), .int .i64 p1, .int .i64 p2, .int .i64 p3, .int .i64 p4, .top, .top, .top, .top, .top, .top, .top, .top, .top, .top, .top, .top, .top, .top], [], [], 0⟩ _
  refine ex_seq ?_
  refine ex_ord [0, 1, 2] (l := [0, 1, 2, 3]) rfl ?_
  refine e_ (d := .bx 0 0) 8 rfl rfl rfl rfl rfl (b' := [some [.int .i64 p3]]) (r' := []) (.box rfl rfl rfl) rfl ?_
  refine e_ (d := .bx 1 0) 9 rfl rfl rfl rfl rfl (b' := [some [.int .i64 p3], some [.int .i64 p4]]) (r' := []) (.box rfl rfl rfl) rfl ?_
  refine e_ (d := .own 0) 10 rfl rfl rfl rfl rfl (b' := [some [.int .i64 p3], some [.int .i64 p4]]) (r' := [some ⟨41, 3, []⟩]) (.nilRow (.inr rfl) rfl 41 3) rfl ?_
  refine p_ 11 rfl rfl rfl rfl (.assign rfl rfl) ?_
  refine we_nil ?_
  refine ex_seq ?_
  refine ex_gst ⟨[.sl false (List.map c_api_Cell p0), .int .i64 p1, .int .i64 p2, .int .i64 p3, .int .i64 p4, .top, .top, .top, .cp [.int .i64 p3], .bx 1 0, .own 0, .int .i64 0, .top, .top, .top, .top, .top, .top, .top], [none, some [.int .i64 p4]], [some ⟨41, 3, []⟩], 0⟩ (.shutB (b := 0) rfl (fun d h => by simpa using List.all_eq_true.1 (rfl : List.all [.int .i64 p3] (fun d => !d.tok) = true) d h) (.refl _)) rfl ?_
  refine ex_gst ⟨[.sl false (List.map c_api_Cell p0), .int .i64 p1, .int .i64 p2, .int .i64 p3, .int .i64 p4, .top, .top, .top, .cp [.int .i64 p3], .cp [.int .i64 p4], .own 0, .int .i64 0, .top, .top, .top, .top, .top, .top, .top], [none, none], [some ⟨41, 3, []⟩], 0⟩ (.shutB (b := 1) rfl (fun d h => by simpa using List.all_eq_true.1 (rfl : List.all [.int .i64 p4] (fun d => !d.tok) = true) d h) (.refl _)) rfl ?_
  refine ex_ord [4] (l := [0, 1, 2, 3, 4, 5, 6, 7, 8]) rfl ?_
  refine p_ 12 rfl rfl rfl rfl (.move rfl rfl) ?_
  refine p_ 13 rfl rfl rfl rfl (.move rfl rfl) ?_
  refine p_ 14 rfl rfl rfl rfl (.move rfl rfl) ?_
  refine p_ 15 rfl rfl rfl rfl (.func rfl rfl rfl) ?_
  obtain ⟨v1, hv1, h⟩ := bindS h
  refine e_ (d := .tup [.own 1, .int .i64 v1.2]) 16 rfl rfl rfl rfl rfl (b' := [none, none]) (r' := [some ⟨41, 3, []⟩, some ⟨41, 3, List.map c_api_Cell v1.1⟩]) (x_call [] [] rfl rfl en40 (ok_cells_each ⟨en41, rfl, rfl⟩ (fun _ _ h => ok_cells_Set_1 h) hv1) rfl rfl rfl rfl rfl rfl rfl rfl rfl rfl rfl rfl rfl rfl) rfl ?_
  refine p_ 17 rfl rfl rfl rfl (.extract rfl rfl rfl rfl) ?_
  refine p_ 18 rfl rfl rfl rfl (.extract rfl rfl rfl rfl) ?_
  refine p_ 10 rfl rfl rfl rfl (.assign rfl rfl) ?_
  refine p_ 11 rfl rfl rfl rfl (.assign rfl rfl) ?_
  refine we_nil ?_
  refine ex_ret ?_
  obtain rfl := Option.some.inj h
  exact finB (by first | exact .inr rfl | exact .inl rfl) (.refl _) [.own 1, .int .i64 v1.2] [1] [] (res_cons (res_tmp rfl) (res_cons (res_tmp rfl) res_nil)) rfl rfl rfl rfl rfl rfl rfl
theorem ok_chars_May {r : Bool} {p0 : Int} (h : chars_May p0 = some r) : OkB prog 60 [.int .i32 p0] [] [] (.bool r) [] [] := by
  unfold chars_May at h
  refine okB_of_exG func60 rfl rfl (s0 := [.int .i32 p0, .top, .top, .top, .top, .top]) (b0 := []) (r0 := []) rfl rfl rfl ?_
  show Ex _ _ _ ⟨[.int .i32 p0, .top, .top, .top, .top, .top], [], [], 0⟩ _
  refine ex_seq ?_
  refine ex_ord [] (l := [0]) rfl ?_
  refine p_ 2 rfl rfl rfl rfl (.assign rfl rfl) ?_
  refine we_nil ?_
  refine ex_seq ?_
  refine ex_ord [] (l := [0, 1, 2, 3]) rfl ?_
  refine p_ 3 rfl rfl rfl rfl (.move rfl rfl) ?_
  obtain ⟨v1, hv1, h⟩ := bindS h
  refine p_ 4 rfl rfl rfl rfl (x_callP rfl rfl en63 (ok_chars_Class hv1) rfl rfl rfl rfl rfl) ?_
  refine p_ 5 rfl rfl rfl rfl (.bin rfl rfl rfl rfl) ?_
  refine p_ 2 rfl rfl rfl rfl (.assign rfl rfl) ?_
  refine we_nil ?_
  refine ex_ret ?_
  obtain rfl := Option.some.inj h
  exact finB (by first | exact .inr rfl | exact .inl rfl) (.refl _) [.bool (decide ((v1 : Int) > 1))] [] [] (res_cons (res_tmp rfl) res_nil) rfl rfl rfl rfl rfl rfl rfl
theorem ok_doc_Set_1 {r : (List (T_api_Cell)) × Int} {p0 : List (T_api_Cell)} {p1 : Int} {p2 : Int} {p3 : Int} {p4 : Int} (h : doc_Set_1 p0 p1 p2 p3 p4 = some r) : OkB prog 26 [.sl false (List.map c_api_Cell p0), .int .i64 p1, .int .i64 p2, .cp [.int .i64 p3], .cp [.int .i64 p4]] [] [] (.tup [.own 0, .int .i64 r.2]) [] [⟨41, 3, List.map c_api_Cell r.1⟩] := by
  unfold doc_Set_1 at h
  refine okB_of_exG func26 rfl rfl (s0 := [.sl false (List.map c_api_Cell p0), .int .i64 p1, .int .i64 p2, .cp [.int .i64 p3], .cp [.int .i64 p4], .top, .top, .top, .top, .top, .top, .top, .top, .top, .top, .top, .top, .top]) (b0 := []) (r0 := []) rfl rfl rfl ?_
  show Ex _ _ _ ⟨[.sl false (List.map c_api_Cell p0), .int .i64 p1, .int .i64 p2, .cp [.int .i64 p3], .cp [.int .i64 p4], .top, .top, .top, .top, .top, .top, .top, .top, .top, .top, .top, .top, .top], [], [], 0⟩ _
  refine ex_seq ?_
  refine ex_ord [0] (l := [0, 1]) rfl ?_
  refine e_ (d := .own 0) 8 rfl rfl rfl rfl rfl (b' := []) (r' := [some ⟨41, 3, []⟩]) (.nilRow (.inr rfl) rfl 41 3) rfl ?_
  refine p_ 9 rfl rfl rfl rfl (.assign rfl rfl) ?_
  refine we_nil ?_
  refine ex_seq ?_
  refine ex_ord [5] (l := [0, 1, 2, 3, 4, 5, 6, 7, 8, 9]) rfl ?_
  refine p_ 10 rfl rfl rfl rfl (.move rfl rfl) ?_
  refine p_ 11 rfl rfl rfl rfl (.move rfl rfl) ?_
  refine p_ 12 rfl rfl rfl rfl (.move rfl rfl) ?_
  refine p_ 13 rfl rfl rfl rfl (x_load rfl rfl rfl sz3 un3 ag3 rfl) ?_
  refine p_ 14 rfl rfl rfl rfl (x_load rfl rfl rfl sz3 un3 ag3 rfl) ?_
  obtain ⟨v1, hv1, h⟩ := bindS h
  refine e_ (d := .tup [.own 1, .int .i64 v1.2]) 15 rfl rfl rfl rfl rfl (b' := []) (r' := [some ⟨41, 3, []⟩, some ⟨41, 3, List.map c_api_Cell v1.1⟩]) (x_call [] [] rfl rfl en27 (ok_cells_Set hv1) rfl rfl rfl rfl rfl rfl rfl rfl rfl rfl rfl rfl rfl rfl) rfl ?_
  refine p_ 16 rfl rfl rfl rfl (.extract rfl rfl rfl rfl) ?_
  refine p_ 17 rfl rfl rfl rfl (.extract rfl rfl rfl rfl) ?_
  refine p_ 8 rfl rfl rfl rfl (.assign rfl rfl) ?_
  refine p_ 9 rfl rfl rfl rfl (.assign rfl rfl) ?_
  refine we_nil ?_
  refine ex_ret ?_
  obtain rfl := Option.some.inj h
  exact finB (by first | exact .inr rfl | exact .inl rfl) (.refl _) [.own 1, .int .i64 v1.2] [1] [] (res_cons (res_tmp rfl) (res_cons (res_tmp rfl) res_nil)) rfl rfl rfl rfl rfl rfl rfl
theorem ok_cells_May_1 {r : Bool} {p0 : T_api_Cell} (h : cells_May_1 p0 = some r) : OkB prog 59 [.agg [.int .i32 p0.f_R, .int .i64 p0.f_Bits, .str (bs p0.f_Href)]] [] [] (.bool r) [] [] := by
  unfold cells_May_1 at h
  refine okB_of_exG func59 rfl rfl (s0 := [.agg [.int .i32 p0.f_R, .int .i64 p0.f_Bits, .str (bs p0.f_Href)], .top, .top, .top, .top, .top, .top, .top, .top, .top, .top, .top, .top, .top, .top, .top, .top, .top, .top, .top, .top, .top, .top, .top, .top, .top, .top, .top]) (b0 := []) (r0 := []) rfl rfl rfl ?_
  show Ex _ _ _ ⟨[.agg [.int .i32 p0.f_R, .int .i64 p0.f_Bits, .str (bs p0.f_Href)], .top, .top, .top, .top, .top, .top, .top, .top, .top, .top, .top, .top, .top, .top, .top, .top, .top, .top, .top, .top, .top, .top, .top, .top, .top, .top, .top], [], [], 0⟩ _
  refine ex_seq ?_
  refine ex_ord [0] (l := [0, 1]) rfl ?_
  refine e_ (d := .bx 0 0) 1 rfl rfl rfl rfl rfl (b' := [some [.int .i32 p0.f_R, .int .i64 p0.f_Bits, .str (bs p0.f_Href)]]) (r' := []) (.box rfl rfl rfl) rfl ?_
  refine p_ 2 rfl rfl rfl rfl (.assign rfl rfl) ?_
  refine we_nil ?_
  refine ex_seq ?_
  refine ex_gst ⟨[.agg [.int .i32 p0.f_R, .int .i64 p0.f_Bits, .str (bs p0.f_Href)], .cp [.int .i32 p0.f_R, .int .i64 p0.f_Bits, .str (bs p0.f_Href)], .bool false, .top, .top, .top, .top, .top, .top, .top, .top, .top, .top, .top, .top, .top, .top, .top, .top, .top, .top, .top, .top, .top, .top, .top, .top, .top], [none], [], 0⟩ (.shutB (b := 0) rfl (fun d h => by simpa using List.all_eq_true.1 (rfl : List.all [.int .i32 p0.f_R, .int .i64 p0.f_Bits, .str (bs p0.f_Href)] (fun d => !d.tok) = true) d h) (.refl _)) rfl ?_
  obtain ⟨q1, hq, h⟩ := bindS h
  refine ex_cut ⟨[.top, .top, .bool q1, .top, .top, .top, .top, .top, .top, .top, .top, .top, .top, .top, .top, .top, .top, .top, .top, .top, .top, .top, .top, .top, .top, .top, .top, .top], [], [], 0⟩ ?_ ?_
  · clear h
    have h := hq
    clear hq
    refine ex_ord [] (l := [0, 1, 2, 3, 4, 5, 6, 7, 8, 9, 10, 11, 12, 13, 14, 15, 16, 17, 18, 19, 20, 21, 22, 23, 24, 25]) rfl ?_
    refine p_ 3 rfl rfl rfl rfl (.fieldAddr rfl rfl rfl fl41u_0 rfl) ?_
    refine p_ 4 rfl rfl rfl rfl (x_load rfl rfl rfl sz21 un21 ag21 rfl) ?_
    obtain ⟨v2, hv2, h⟩ := bindS h
    refine pif 5 rfl rfl rfl rfl (x_callP rfl rfl en60 (ok_chars_May hv2) rfl rfl rfl rfl rfl) ?_ ?_
    · intro hc
      replace h := iteT h hc
      refine p_ 6 rfl rfl rfl rfl (.un rfl rfl rfl) ?_
      refine p_ 7 rfl rfl rfl rfl (.move rfl rfl) ?_
      refine k_ 8 rfl rfl rfl ?_
      refine k_ 9 rfl rfl rfl ?_
      refine k_ 10 rfl rfl rfl ?_
      refine p_ 11 rfl rfl rfl rfl (x_pickF rfl rfl rfl rfl) ?_
      refine p_ 12 rfl rfl rfl rfl (.move rfl rfl) ?_
      refine p_ 13 rfl rfl rfl rfl (.fieldAddr rfl rfl rfl fl41u_1 rfl) ?_
      refine p_ 14 rfl rfl rfl rfl (x_load rfl rfl rfl sz3 un3 ag3 rfl) ?_
      refine pif 15 rfl rfl rfl rfl (.bin rfl rfl rfl rfl) ?_ ?_
      · intro hc
        replace h := iteT h hc
        refine p_ 16 rfl rfl rfl rfl (x_pickF rfl rfl rfl rfl) ?_
        refine p_ 17 rfl rfl rfl rfl (.move rfl rfl) ?_
        refine k_ 18 rfl rfl rfl ?_
        refine k_ 19 rfl rfl rfl ?_
        refine k_ 20 rfl rfl rfl ?_
        refine p_ 21 rfl rfl rfl rfl (x_pickT rfl rfl rfl rfl) ?_
        refine p_ 22 rfl rfl rfl rfl (.move rfl rfl) ?_
        refine k_ 23 rfl rfl rfl ?_
        refine k_ 24 rfl rfl rfl ?_
        refine k_ 25 rfl rfl rfl ?_
        refine k_ 26 rfl rfl rfl ?_
        refine p_ 27 rfl rfl rfl rfl (x_pickT rfl rfl rfl rfl) ?_
        refine p_ 2 rfl rfl rfl rfl (.assign rfl rfl) ?_
        refine we_nil ?_
        cases h
        exact ⟨rfl, _, .re [false, false, true, false, false, false, false, false, false, false, false, false, false, false, false, false, false, false, false, false, false, false, false, false, false, false, false, false] [] [] rfl (.refl _), rfl⟩
      · intro hc
        replace h := iteF h hc
        refine p_ 16 rfl rfl rfl rfl (x_pickF rfl rfl rfl rfl) ?_
        refine p_ 17 rfl rfl rfl rfl (.move rfl rfl) ?_
        refine p_ 18 rfl rfl rfl rfl (.fieldAddr rfl rfl rfl fl41u_1 rfl) ?_
        refine p_ 19 rfl rfl rfl rfl (x_load rfl rfl rfl sz3 un3 ag3 rfl) ?_
        refine pif 20 rfl rfl rfl rfl (.bin rfl rfl rfl rfl) ?_ ?_
        · intro hc
          replace h := iteT h hc
          refine p_ 21 rfl rfl rfl rfl (x_pickF rfl rfl rfl rfl) ?_
          refine p_ 22 rfl rfl rfl rfl (.move rfl rfl) ?_
          refine k_ 23 rfl rfl rfl ?_
          refine k_ 24 rfl rfl rfl ?_
          refine k_ 25 rfl rfl rfl ?_
          refine k_ 26 rfl rfl rfl ?_
          refine p_ 27 rfl rfl rfl rfl (x_pickT rfl rfl rfl rfl) ?_
          refine p_ 2 rfl rfl rfl rfl (.assign rfl rfl) ?_
          refine we_nil ?_
          cases h
          exact ⟨rfl, _, .re [false, false, true, false, false, false, false, false, false, false, false, false, false, false, false, false, false, false, false, false, false, false, false, false, false, false, false, false] [] [] rfl (.refl _), rfl⟩
        · intro hc
          replace h := iteF h hc
          refine p_ 21 rfl rfl rfl rfl (x_pickF rfl rfl rfl rfl) ?_
          refine p_ 22 rfl rfl rfl rfl (.move rfl rfl) ?_
          refine p_ 23 rfl rfl rfl rfl (.fieldAddr rfl rfl rfl fl41u_2 rfl) ?_
          refine p_ 24 rfl rfl rfl rfl (x_load rfl rfl rfl sz9 un9 ag9 rfl) ?_
          obtain ⟨v3, hv3, h⟩ := bindS h
          refine p_ 25 rfl rfl rfl rfl (x_callP rfl rfl en61 (ok_cells_link hv3) rfl rfl rfl rfl rfl) ?_
          refine p_ 26 rfl rfl rfl rfl (.un rfl rfl rfl) ?_
          refine p_ 27 rfl rfl rfl rfl (x_pickF rfl rfl rfl rfl) ?_
          refine p_ 2 rfl rfl rfl rfl (.assign rfl rfl) ?_
          refine we_nil ?_
          cases h
          exact ⟨rfl, _, .re [false, false, true, false, false, false, false, false, false, false, false, false, false, false, false, false, false, false, false, false, false, false, false, false, false, false, false, false] [] [] rfl (.refl _), rfl⟩
    · intro hc
      replace h := iteF h hc
      refine p_ 6 rfl rfl rfl rfl (.un rfl rfl rfl) ?_
      refine p_ 7 rfl rfl rfl rfl (.move rfl rfl) ?_
      refine p_ 8 rfl rfl rfl rfl (.fieldAddr rfl rfl rfl fl41u_0 rfl) ?_
      refine p_ 9 rfl rfl rfl rfl (x_load rfl rfl rfl sz21 un21 ag21 rfl) ?_
      refine pif 10 rfl rfl rfl rfl (.bin rfl rfl rfl rfl) ?_ ?_
      · intro hc
        replace h := iteT h hc
        refine p_ 11 rfl rfl rfl rfl (x_pickT rfl rfl rfl rfl) ?_
        refine p_ 12 rfl rfl rfl rfl (.move rfl rfl) ?_
        refine k_ 13 rfl rfl rfl ?_
        refine k_ 14 rfl rfl rfl ?_
        refine k_ 15 rfl rfl rfl ?_
        refine p_ 16 rfl rfl rfl rfl (x_pickT rfl rfl rfl rfl) ?_
        refine p_ 17 rfl rfl rfl rfl (.move rfl rfl) ?_
        refine k_ 18 rfl rfl rfl ?_
        refine k_ 19 rfl rfl rfl ?_
        refine k_ 20 rfl rfl rfl ?_
        refine p_ 21 rfl rfl rfl rfl (x_pickT rfl rfl rfl rfl) ?_
        refine p_ 22 rfl rfl rfl rfl (.move rfl rfl) ?_
        refine k_ 23 rfl rfl rfl ?_
        refine k_ 24 rfl rfl rfl ?_
        refine k_ 25 rfl rfl rfl ?_
        refine k_ 26 rfl rfl rfl ?_
        refine p_ 27 rfl rfl rfl rfl (x_pickT rfl rfl rfl rfl) ?_
        refine p_ 2 rfl rfl rfl rfl (.assign rfl rfl) ?_
        refine we_nil ?_
        cases h
        exact ⟨rfl, _, .re [false, false, true, false, false, false, false, false, false, false, false, false, false, false, false, false, false, false, false, false, false, false, false, false, false, false, false, false] [] [] rfl (.refl _), rfl⟩
      · intro hc
        replace h := iteF h hc
        refine p_ 11 rfl rfl rfl rfl (x_pickT rfl rfl rfl rfl) ?_
        refine p_ 12 rfl rfl rfl rfl (.move rfl rfl) ?_
        refine p_ 13 rfl rfl rfl rfl (.fieldAddr rfl rfl rfl fl41u_1 rfl) ?_
        refine p_ 14 rfl rfl rfl rfl (x_load rfl rfl rfl sz3 un3 ag3 rfl) ?_
        refine pif 15 rfl rfl rfl rfl (.bin rfl rfl rfl rfl) ?_ ?_
        · intro hc
          replace h := iteT h hc
          refine p_ 16 rfl rfl rfl rfl (x_pickF rfl rfl rfl rfl) ?_
          refine p_ 17 rfl rfl rfl rfl (.move rfl rfl) ?_
          refine k_ 18 rfl rfl rfl ?_
          refine k_ 19 rfl rfl rfl ?_
          refine k_ 20 rfl rfl rfl ?_
          refine p_ 21 rfl rfl rfl rfl (x_pickT rfl rfl rfl rfl) ?_
          refine p_ 22 rfl rfl rfl rfl (.move rfl rfl) ?_
          refine k_ 23 rfl rfl rfl ?_
          refine k_ 24 rfl rfl rfl ?_
          refine k_ 25 rfl rfl rfl ?_
          refine k_ 26 rfl rfl rfl ?_
          refine p_ 27 rfl rfl rfl rfl (x_pickT rfl rfl rfl rfl) ?_
          refine p_ 2 rfl rfl rfl rfl (.assign rfl rfl) ?_
          refine we_nil ?_
          cases h
          exact ⟨rfl, _, .re [false, false, true, false, false, false, false, false, false, false, false, false, false, false, false, false, false, false, false, false, false, false, false, false, false, false, false, false] [] [] rfl (.refl _), rfl⟩
        · intro hc
          replace h := iteF h hc
          refine p_ 16 rfl rfl rfl rfl (x_pickF rfl rfl rfl rfl) ?_
          refine p_ 17 rfl rfl rfl rfl (.move rfl rfl) ?_
          refine p_ 18 rfl rfl rfl rfl (.fieldAddr rfl rfl rfl fl41u_1 rfl) ?_
          refine p_ 19 rfl rfl rfl rfl (x_load rfl rfl rfl sz3 un3 ag3 rfl) ?_
          refine pif 20 rfl rfl rfl rfl (.bin rfl rfl rfl rfl) ?_ ?_
          · intro hc
            replace h := iteT h hc
            refine p_ 21 rfl rfl rfl rfl (x_pickF rfl rfl rfl rfl) ?_
            refine p_ 22 rfl rfl rfl rfl (.move rfl rfl) ?_
            refine k_ 23 rfl rfl rfl ?_
            refine k_ 24 rfl rfl rfl ?_
            refine k_ 25 rfl rfl rfl ?_
            refine k_ 26 rfl rfl rfl ?_
            refine p_ 27 rfl rfl rfl rfl (x_pickT rfl rfl rfl rfl) ?_
            refine p_ 2 rfl rfl rfl rfl (.assign rfl rfl) ?_
            refine we_nil ?_
            cases h
            exact ⟨rfl, _, .re [false, false, true, false, false, false, false, false, false, false, false, false, false, false, false, false, false, false, false, false, false, false, false, false, false, false, false, false] [] [] rfl (.refl _), rfl⟩
          · intro hc
            replace h := iteF h hc
            refine p_ 21 rfl rfl rfl rfl (x_pickF rfl rfl rfl rfl) ?_
            refine p_ 22 rfl rfl rfl rfl (.move rfl rfl) ?_
            refine p_ 23 rfl rfl rfl rfl (.fieldAddr rfl rfl rfl fl41u_2 rfl) ?_
            refine p_ 24 rfl rfl rfl rfl (x_load rfl rfl rfl sz9 un9 ag9 rfl) ?_
            obtain ⟨v4, hv4, h⟩ := bindS h
            refine p_ 25 rfl rfl rfl rfl (x_callP rfl rfl en61 (ok_cells_link hv4) rfl rfl rfl rfl rfl) ?_
            refine p_ 26 rfl rfl rfl rfl (.un rfl rfl rfl) ?_
            refine p_ 27 rfl rfl rfl rfl (x_pickF rfl rfl rfl rfl) ?_
            refine p_ 2 rfl rfl rfl rfl (.assign rfl rfl) ?_
            refine we_nil ?_
            cases h
            exact ⟨rfl, _, .re [false, false, true, false, false, false, false, false, false, false, false, false, false, false, false, false, false, false, false, false, false, false, false, false, false, false, false, false] [] [] rfl (.refl _), rfl⟩
  · clear hq
    refine ex_ret ?_
    obtain rfl := Option.some.inj h
    exact finB (by first | exact .inr rfl | exact .inl rfl) (.refl _) [.bool q1] [] [] (res_cons (res_tmp rfl) res_nil) rfl rfl rfl rfl rfl rfl rfl
theorem ok_cells_May {r : Bool} {p0 : List (T_api_Cell)} (h : cells_May p0 = some r) : OkB prog 50 [.sl false (List.map c_api_Cell p0)] [] [] (.bool r) [] [] := by
  unfold cells_May at h
  refine okB_of_exG func50 rfl rfl (s0 := [.sl false (List.map c_api_Cell p0), .top, .top, .top, .top, .top]) (b0 := []) (r0 := []) rfl rfl rfl ?_
  show Ex _ _ _ ⟨[.sl false (List.map c_api_Cell p0), .top, .top, .top, .top, .top], [], [], 0⟩ _
  refine ex_seq ?_
  refine ex_ord [] (l := [0]) rfl ?_
  refine p_ 2 rfl rfl rfl rfl (.assign rfl rfl) ?_
  refine we_nil ?_
  refine ex_seq ?_
  refine ex_ord [] (l := [0, 1, 2, 3]) rfl ?_
  refine p_ 3 rfl rfl rfl rfl (.move rfl rfl) ?_
  obtain ⟨v1, hv1, h⟩ := bindS h
  refine p_ 4 rfl rfl rfl rfl (x_callP rfl rfl en58 (ok_slices_ContainsFunc_apiCell ⟨en59, rfl, rfl⟩ (fun _ _ h => ok_cells_May_1 h) hv1) rfl rfl rfl rfl rfl) ?_
  refine p_ 5 rfl rfl rfl rfl (.un rfl rfl rfl) ?_
  refine p_ 2 rfl rfl rfl rfl (.assign rfl rfl) ?_
  refine we_nil ?_
  refine ex_ret ?_
  obtain rfl := Option.some.inj h
  exact finB (by first | exact .inr rfl | exact .inl rfl) (.refl _) [.bool (!v1)] [] [] (res_cons (res_tmp rfl) res_nil) rfl rfl rfl rfl rfl rfl rfl
theorem ok_lines_May {r : Bool} {p0 : T_api_Line} (h : lines_May p0 = some r) : OkB prog 36 [.agg [.int .i64 p0.f_Quote, .sl false (List.map c_i64 p0.f_Lists), .int .i64 p0.f_Kind, .sl false (List.map c_api_Cell p0.f_Cells)]] [] [] (.bool r) [] [] := by
  unfold lines_May at h
  refine okB_of_exG func36 rfl rfl (s0 := [.agg [.int .i64 p0.f_Quote, .sl false (List.map c_i64 p0.f_Lists), .int .i64 p0.f_Kind, .sl false (List.map c_api_Cell p0.f_Cells)], .top, .top, .top, .top, .top, .top, .top, .top, .top, .top, .top, .top, .top, .top, .top, .top, .top, .top, .top, .top, .top, .top, .top, .top, .top, .top, .top, .top, .top, .top, .top, .top, .top, .top, .top, .top, .top, .top, .top, .top, .top, .top, .top, .top, .top, .top]) (b0 := []) (r0 := []) rfl rfl rfl ?_
  show Ex _ _ _ ⟨[.agg [.int .i64 p0.f_Quote, .sl false (List.map c_i64 p0.f_Lists), .int .i64 p0.f_Kind, .sl false (List.map c_api_Cell p0.f_Cells)], .top, .top, .top, .top, .top, .top, .top, .top, .top, .top, .top, .top, .top, .top, .top, .top, .top, .top, .top, .top, .top, .top, .top, .top, .top, .top, .top, .top, .top, .top, .top, .top, .top, .top, .top, .top, .top, .top, .top, .top, .top, .top, .top, .top, .top, .top], [], [], 0⟩ _
  refine ex_seq ?_
  refine ex_ord [0] (l := [0, 1]) rfl ?_
  refine e_ (d := .bx 0 0) 1 rfl rfl rfl rfl rfl (b' := [some [.int .i64 p0.f_Quote, .sl false (List.map c_i64 p0.f_Lists), .int .i64 p0.f_Kind, .sl false (List.map c_api_Cell p0.f_Cells)]]) (r' := []) (.box rfl rfl rfl) rfl ?_
  refine p_ 2 rfl rfl rfl rfl (.assign rfl rfl) ?_
  refine we_nil ?_
  refine ex_seq ?_
  refine ex_block ?_
  refine ex_seq ?_
  refine ex_gst ⟨[.agg [.int .i64 p0.f_Quote, .sl false (List.map c_i64 p0.f_Lists), .int .i64 p0.f_Kind, .sl false (List.map c_api_Cell p0.f_Cells)], .cp [.int .i64 p0.f_Quote, .sl false (List.map c_i64 p0.f_Lists), .int .i64 p0.f_Kind, .sl false (List.map c_api_Cell p0.f_Cells)], .bool false, .top, .top, .top, .top, .top, .top, .top, .top, .top, .top, .top, .top, .top, .top, .top, .top, .top, .top, .top, .top, .top, .top, .top, .top, .top, .top, .top, .top, .top, .top, .top, .top, .top, .top, .top, .top, .top, .top, .top, .top, .top, .top, .top, .top], [none], [], 0⟩ (.shutB (b := 0) rfl (fun d h => by simpa using List.all_eq_true.1 (rfl : List.all [.int .i64 p0.f_Quote, .sl false (List.map c_i64 p0.f_Lists), .int .i64 p0.f_Kind, .sl false (List.map c_api_Cell p0.f_Cells)] (fun d => !d.tok) = true) d h) (.refl _)) rfl ?_
  obtain ⟨q1, hq, h⟩ := bindS h
  refine ex_cut ⟨[.top, .cp [.int .i64 p0.f_Quote, .sl false (List.map c_i64 p0.f_Lists), .int .i64 p0.f_Kind, .sl false (List.map c_api_Cell p0.f_Cells)], .top, .bool q1, .top, .top, .top, .top, .top, .top, .top, .top, .top, .top, .top, .top, .top, .top, .top, .top, .top, .top, .top, .top, .top, .top, .top, .top, .top, .top, .top, .top, .top, .top, .top, .top, .top, .top, .top, .top, .top, .top, .top, .top, .top, .top, .top], [], [], 0⟩ ?_ ?_
  · clear h
    have h := hq
    clear hq
    refine ex_ord [] (l := [0, 1, 2, 3, 4, 5, 6, 7, 8, 9, 10, 11, 12, 13, 14, 15, 16, 17, 18, 19, 20, 21, 22, 23, 24]) rfl ?_
    refine p_ 4 rfl rfl rfl rfl (.fieldAddr rfl rfl rfl fl45u_0 rfl) ?_
    refine p_ 5 rfl rfl rfl rfl (x_load rfl rfl rfl sz3 un3 ag3 rfl) ?_
    refine pif 6 rfl rfl rfl rfl (.bin rfl rfl rfl rfl) ?_ ?_
    · intro hc
      replace h := iteT h hc
      refine p_ 7 rfl rfl rfl rfl (.move rfl rfl) ?_
      refine k_ 8 rfl rfl rfl ?_
      refine k_ 9 rfl rfl rfl ?_
      refine k_ 10 rfl rfl rfl ?_
      refine p_ 11 rfl rfl rfl rfl (x_pickT rfl rfl rfl rfl) ?_
      refine p_ 12 rfl rfl rfl rfl (.move rfl rfl) ?_
      refine k_ 13 rfl rfl rfl ?_
      refine k_ 14 rfl rfl rfl ?_
      refine k_ 15 rfl rfl rfl ?_
      refine k_ 16 rfl rfl rfl ?_
      refine p_ 17 rfl rfl rfl rfl (x_pickT rfl rfl rfl rfl) ?_
      refine p_ 18 rfl rfl rfl rfl (.move rfl rfl) ?_
      refine k_ 19 rfl rfl rfl ?_
      refine k_ 20 rfl rfl rfl ?_
      refine k_ 21 rfl rfl rfl ?_
      refine p_ 22 rfl rfl rfl rfl (x_pickT rfl rfl rfl rfl) ?_
      refine p_ 23 rfl rfl rfl rfl (.move rfl rfl) ?_
      refine k_ 24 rfl rfl rfl ?_
      refine k_ 25 rfl rfl rfl ?_
      refine k_ 26 rfl rfl rfl ?_
      refine p_ 27 rfl rfl rfl rfl (x_pickT rfl rfl rfl rfl) ?_
      refine p_ 3 rfl rfl rfl rfl (.assign rfl rfl) ?_
      refine we_nil ?_
      cases h
      exact ⟨rfl, _, .re [false, true, false, true, false, false, false, false, false, false, false, false, false, false, false, false, false, false, false, false, false, false, false, false, false, false, false, false, false, false, false, false, false, false, false, false, false, false, false, false, false, false, false, false, false, false, false] [] [] rfl (.refl _), rfl⟩
    · intro hc
      replace h := iteF h hc
      refine p_ 7 rfl rfl rfl rfl (.move rfl rfl) ?_
      refine p_ 8 rfl rfl rfl rfl (.fieldAddr rfl rfl rfl fl45u_0 rfl) ?_
      refine p_ 9 rfl rfl rfl rfl (x_load rfl rfl rfl sz3 un3 ag3 rfl) ?_
      refine pif 10 rfl rfl rfl rfl (.bin rfl rfl rfl rfl) ?_ ?_
      · intro hc
        replace h := iteT h hc
        refine p_ 11 rfl rfl rfl rfl (x_pickF rfl rfl rfl rfl) ?_
        refine p_ 12 rfl rfl rfl rfl (.move rfl rfl) ?_
        refine k_ 13 rfl rfl rfl ?_
        refine k_ 14 rfl rfl rfl ?_
        refine k_ 15 rfl rfl rfl ?_
        refine k_ 16 rfl rfl rfl ?_
        refine p_ 17 rfl rfl rfl rfl (x_pickT rfl rfl rfl rfl) ?_
        refine p_ 18 rfl rfl rfl rfl (.move rfl rfl) ?_
        refine k_ 19 rfl rfl rfl ?_
        refine k_ 20 rfl rfl rfl ?_
        refine k_ 21 rfl rfl rfl ?_
        refine p_ 22 rfl rfl rfl rfl (x_pickT rfl rfl rfl rfl) ?_
        refine p_ 23 rfl rfl rfl rfl (.move rfl rfl) ?_
        refine k_ 24 rfl rfl rfl ?_
        refine k_ 25 rfl rfl rfl ?_
        refine k_ 26 rfl rfl rfl ?_
        refine p_ 27 rfl rfl rfl rfl (x_pickT rfl rfl rfl rfl) ?_
        refine p_ 3 rfl rfl rfl rfl (.assign rfl rfl) ?_
        refine we_nil ?_
        cases h
        exact ⟨rfl, _, .re [false, true, false, true, false, false, false, false, false, false, false, false, false, false, false, false, false, false, false, false, false, false, false, false, false, false, false, false, false, false, false, false, false, false, false, false, false, false, false, false, false, false, false, false, false, false, false] [] [] rfl (.refl _), rfl⟩
      · intro hc
        replace h := iteF h hc
        refine p_ 11 rfl rfl rfl rfl (x_pickF rfl rfl rfl rfl) ?_
        refine p_ 12 rfl rfl rfl rfl (.move rfl rfl) ?_
        refine p_ 13 rfl rfl rfl rfl (.fieldAddr rfl rfl rfl fl45u_1 rfl) ?_
        refine p_ 14 rfl rfl rfl rfl (x_load rfl rfl rfl sz43 un43 ag43 rfl) ?_
        refine p_ 15 rfl rfl rfl rfl (x_len (f := c_i64) (l := p0.f_Lists) rfl rfl rfl el43) ?_
        refine pif 16 rfl rfl rfl rfl (.bin rfl rfl rfl rfl) ?_ ?_
        · intro hc
          replace h := iteT h hc
          refine p_ 17 rfl rfl rfl rfl (x_pickF rfl rfl rfl rfl) ?_
          refine p_ 18 rfl rfl rfl rfl (.move rfl rfl) ?_
          refine k_ 19 rfl rfl rfl ?_
          refine k_ 20 rfl rfl rfl ?_
          refine k_ 21 rfl rfl rfl ?_
          refine p_ 22 rfl rfl rfl rfl (x_pickT rfl rfl rfl rfl) ?_
          refine p_ 23 rfl rfl rfl rfl (.move rfl rfl) ?_
          refine k_ 24 rfl rfl rfl ?_
          refine k_ 25 rfl rfl rfl ?_
          refine k_ 26 rfl rfl rfl ?_
          refine p_ 27 rfl rfl rfl rfl (x_pickT rfl rfl rfl rfl) ?_
          refine p_ 3 rfl rfl rfl rfl (.assign rfl rfl) ?_
          refine we_nil ?_
          cases h
          exact ⟨rfl, _, .re [false, true, false, true, false, false, false, false, false, false, false, false, false, false, false, false, false, false, false, false, false, false, false, false, false, false, false, false, false, false, false, false, false, false, false, false, false, false, false, false, false, false, false, false, false, false, false] [] [] rfl (.refl _), rfl⟩
        · intro hc
          replace h := iteF h hc
          refine p_ 17 rfl rfl rfl rfl (x_pickF rfl rfl rfl rfl) ?_
          refine p_ 18 rfl rfl rfl rfl (.move rfl rfl) ?_
          refine p_ 19 rfl rfl rfl rfl (.fieldAddr rfl rfl rfl fl45u_2 rfl) ?_
          refine p_ 20 rfl rfl rfl rfl (x_load rfl rfl rfl sz3 un3 ag3 rfl) ?_
          refine pif 21 rfl rfl rfl rfl (.bin rfl rfl rfl rfl) ?_ ?_
          · intro hc
            replace h := iteT h hc
            refine p_ 22 rfl rfl rfl rfl (x_pickF rfl rfl rfl rfl) ?_
            refine p_ 23 rfl rfl rfl rfl (.move rfl rfl) ?_
            refine k_ 24 rfl rfl rfl ?_
            refine k_ 25 rfl rfl rfl ?_
            refine k_ 26 rfl rfl rfl ?_
            refine p_ 27 rfl rfl rfl rfl (x_pickT rfl rfl rfl rfl) ?_
            refine p_ 3 rfl rfl rfl rfl (.assign rfl rfl) ?_
            refine we_nil ?_
            cases h
            exact ⟨rfl, _, .re [false, true, false, true, false, false, false, false, false, false, false, false, false, false, false, false, false, false, false, false, false, false, false, false, false, false, false, false, false, false, false, false, false, false, false, false, false, false, false, false, false, false, false, false, false, false, false] [] [] rfl (.refl _), rfl⟩
          · intro hc
            replace h := iteF h hc
            refine p_ 22 rfl rfl rfl rfl (x_pickF rfl rfl rfl rfl) ?_
            refine p_ 23 rfl rfl rfl rfl (.move rfl rfl) ?_
            refine p_ 24 rfl rfl rfl rfl (.fieldAddr rfl rfl rfl fl45u_2 rfl) ?_
            refine p_ 25 rfl rfl rfl rfl (x_load rfl rfl rfl sz3 un3 ag3 rfl) ?_
            refine p_ 26 rfl rfl rfl rfl (.bin rfl rfl rfl rfl) ?_
            refine p_ 27 rfl rfl rfl rfl (x_pickF rfl rfl rfl rfl) ?_
            refine p_ 3 rfl rfl rfl rfl (.assign rfl rfl) ?_
            refine we_nil ?_
            cases h
            exact ⟨rfl, _, .re [false, true, false, true, false, false, false, false, false, false, false, false, false, false, false, false, false, false, false, false, false, false, false, false, false, false, false, false, false, false, false, false, false, false, false, false, false, false, false, false, false, false, false, false, false, false, false] [] [] rfl (.refl _), rfl⟩
  · clear hq
    refine ex_if rfl ?_ ?_
    · intro hc
      replace h := iteT h hc
      refine ex_seq ?_
      refine ex_ord [] (l := [0]) rfl ?_
      refine p_ 2 rfl rfl rfl rfl (.assign rfl rfl) ?_
      refine we_nil ?_
      refine ex_ret ?_
      obtain rfl := Option.some.inj h
      exact finB (by first | exact .inr rfl | exact .inl rfl) (.refl _) [.bool false] [] [] (res_cons (res_tmp rfl) res_nil) rfl rfl rfl rfl rfl rfl rfl
    · intro hc
      replace h := iteF h hc
      refine ex_seq ?_
      obtain ⟨q2, hq, h⟩ := bindS h
      refine ex_cut ⟨[.top, .cp [.int .i64 p0.f_Quote, .sl false (List.map c_i64 p0.f_Lists), .int .i64 p0.f_Kind, .sl false (List.map c_api_Cell p0.f_Cells)], .top, .top, .top, .top, .top, .top, .top, .top, .top, .top, .top, .top, .top, .top, .top, .top, .top, .top, .top, .top, .top, .top, .top, .top, .top, .top, .bool q2, .top, .top, .top, .top, .top, .top, .top, .top, .top, .top, .top, .top, .top, .top, .top, .top, .top, .top], [], [], 0⟩ ?_ ?_
      · clear h
        have h := hq
        clear hq
        refine ex_ord [] (l := [0, 1, 2, 3, 4, 5, 6, 7, 8, 9]) rfl ?_
        refine p_ 29 rfl rfl rfl rfl (.fieldAddr rfl rfl rfl fl45u_1 rfl) ?_
        refine p_ 30 rfl rfl rfl rfl (x_load rfl rfl rfl sz43 un43 ag43 rfl) ?_
        refine p_ 31 rfl rfl rfl rfl (x_len (f := c_i64) (l := p0.f_Lists) rfl rfl rfl el43) ?_
        refine pif 32 rfl rfl rfl rfl (.bin rfl rfl rfl rfl) ?_ ?_
        · intro hc
          replace h := iteT h hc
          refine p_ 33 rfl rfl rfl rfl (.move rfl rfl) ?_
          refine p_ 34 rfl rfl rfl rfl (.fieldAddr rfl rfl rfl fl45u_2 rfl) ?_
          refine p_ 35 rfl rfl rfl rfl (x_load rfl rfl rfl sz3 un3 ag3 rfl) ?_
          refine p_ 36 rfl rfl rfl rfl (.bin rfl rfl rfl rfl) ?_
          refine p_ 37 rfl rfl rfl rfl (x_pickT rfl rfl rfl rfl) ?_
          refine p_ 28 rfl rfl rfl rfl (.assign rfl rfl) ?_
          refine we_nil ?_
          cases h
          exact ⟨rfl, _, .re [false, true, false, false, false, false, false, false, false, false, false, false, false, false, false, false, false, false, false, false, false, false, false, false, false, false, false, false, true, false, false, false, false, false, false, false, false, false, false, false, false, false, false, false, false, false, false] [] [] rfl (.refl _), rfl⟩
        · intro hc
          replace h := iteF h hc
          refine p_ 33 rfl rfl rfl rfl (.move rfl rfl) ?_
          refine k_ 34 rfl rfl rfl ?_
          refine k_ 35 rfl rfl rfl ?_
          refine k_ 36 rfl rfl rfl ?_
          refine p_ 37 rfl rfl rfl rfl (x_pickF rfl rfl rfl rfl) ?_
          refine p_ 28 rfl rfl rfl rfl (.assign rfl rfl) ?_
          refine we_nil ?_
          cases h
          exact ⟨rfl, _, .re [false, true, false, false, false, false, false, false, false, false, false, false, false, false, false, false, false, false, false, false, false, false, false, false, false, false, false, false, true, false, false, false, false, false, false, false, false, false, false, false, false, false, false, false, false, false, false] [] [] rfl (.refl _), rfl⟩
      · clear hq
        refine ex_if rfl ?_ ?_
        · intro hc
          replace h := iteT h hc
          refine ex_seq ?_
          refine ex_ord [] (l := [0]) rfl ?_
          refine p_ 2 rfl rfl rfl rfl (.assign rfl rfl) ?_
          refine we_nil ?_
          refine ex_ret ?_
          obtain rfl := Option.some.inj h
          exact finB (by first | exact .inr rfl | exact .inl rfl) (.refl _) [.bool false] [] [] (res_cons (res_tmp rfl) res_nil) rfl rfl rfl rfl rfl rfl rfl
        · intro hc
          replace h := iteF h hc
          refine ex_skip ?_
          refine ex_seq ?_
          obtain ⟨q3, hq, h⟩ := bindS h
          refine ex_cut ⟨[.top, .top, .bool q3, .top, .top, .top, .top, .top, .top, .top, .top, .top, .top, .top, .top, .top, .top, .top, .top, .top, .top, .top, .top, .top, .top, .top, .top, .top, .top, .top, .top, .top, .top, .top, .top, .top, .top, .top, .top, .top, .top, .top, .top, .top, .top, .top, .top], [], [], 0⟩ ?_ ?_
          · clear h
            have h := hq
            clear hq
            refine ex_ord [] (l := [0, 1, 2, 3, 4, 5, 6, 7, 8, 9]) rfl ?_
            refine p_ 38 rfl rfl rfl rfl (.fieldAddr rfl rfl rfl fl45u_1 rfl) ?_
            refine p_ 39 rfl rfl rfl rfl (x_load rfl rfl rfl sz43 un43 ag43 rfl) ?_
            obtain ⟨v4, hv4, h⟩ := bindS h
            refine pif 40 rfl rfl rfl rfl (x_callP rfl rfl en48 (ok_slices_ContainsFunc_int ⟨en49, rfl, rfl⟩ (fun _ _ h => ok_lines_May_1 h) hv4) rfl rfl rfl rfl rfl) ?_ ?_
            · intro hc
              replace h := iteT h hc
              refine p_ 41 rfl rfl rfl rfl (.un rfl rfl rfl) ?_
              refine p_ 42 rfl rfl rfl rfl (.move rfl rfl) ?_
              refine k_ 43 rfl rfl rfl ?_
              refine k_ 44 rfl rfl rfl ?_
              refine k_ 45 rfl rfl rfl ?_
              refine p_ 46 rfl rfl rfl rfl (x_pickF rfl rfl rfl rfl) ?_
              refine p_ 2 rfl rfl rfl rfl (.assign rfl rfl) ?_
              refine we_nil ?_
              cases h
              exact ⟨rfl, _, .re [false, false, true, false, false, false, false, false, false, false, false, false, false, false, false, false, false, false, false, false, false, false, false, false, false, false, false, false, false, false, false, false, false, false, false, false, false, false, false, false, false, false, false, false, false, false, false] [] [] rfl (.refl _), rfl⟩
            · intro hc
              replace h := iteF h hc
              refine p_ 41 rfl rfl rfl rfl (.un rfl rfl rfl) ?_
              refine p_ 42 rfl rfl rfl rfl (.move rfl rfl) ?_
              refine p_ 43 rfl rfl rfl rfl (.fieldAddr rfl rfl rfl fl45u_3 rfl) ?_
              refine p_ 44 rfl rfl rfl rfl (x_load rfl rfl rfl sz42 un42 ag42 rfl) ?_
              obtain ⟨v5, hv5, h⟩ := bindS h
              refine p_ 45 rfl rfl rfl rfl (x_callP rfl rfl en50 (ok_cells_May hv5) rfl rfl rfl rfl rfl) ?_
              refine p_ 46 rfl rfl rfl rfl (x_pickT rfl rfl rfl rfl) ?_
              refine p_ 2 rfl rfl rfl rfl (.assign rfl rfl) ?_
              refine we_nil ?_
              cases h
              exact ⟨rfl, _, .re [false, false, true, false, false, false, false, false, false, false, false, false, false, false, false, false, false, false, false, false, false, false, false, false, false, false, false, false, false, false, false, false, false, false, false, false, false, false, false, false, false, false, false, false, false, false, false] [] [] rfl (.refl _), rfl⟩
          · clear hq
            refine ex_ret ?_
            obtain rfl := Option.some.inj h
            exact finB (by first | exact .inr rfl | exact .inl rfl) (.refl _) [.bool q3] [] [] (res_cons (res_tmp rfl) res_nil) rfl rfl rfl rfl rfl rfl rfl
theorem ok_doc_May_1 {r : Bool} {p0 : T_api_Line} (h : doc_May_1 p0 = some r) : OkB prog 44 [.agg [.int .i64 p0.f_Quote, .sl false (List.map c_i64 p0.f_Lists), .int .i64 p0.f_Kind, .sl false (List.map c_api_Cell p0.f_Cells)]] [] [] (.bool r) [] [] := by
  unfold doc_May_1 at h
  refine okB_of_exG func44 rfl rfl (s0 := [.agg [.int .i64 p0.f_Quote, .sl false (List.map c_i64 p0.f_Lists), .int .i64 p0.f_Kind, .sl false (List.map c_api_Cell p0.f_Cells)], .top, .top, .top, .top, .top]) (b0 := []) (r0 := []) rfl rfl rfl ?_
  show Ex _ _ _ ⟨[.agg [.int .i64 p0.f_Quote, .sl false (List.map c_i64 p0.f_Lists), .int .i64 p0.f_Kind, .sl false (List.map c_api_Cell p0.f_Cells)], .top, .top, .top, .top, .top], [], [], 0⟩ _
  refine ex_seq ?_
  refine ex_ord [0] (l := [0, 1]) rfl ?_
  refine e_ (d := .bx 0 0) 1 rfl rfl rfl rfl rfl (b' := [some [.int .i64 p0.f_Quote, .sl false (List.map c_i64 p0.f_Lists), .int .i64 p0.f_Kind, .sl false (List.map c_api_Cell p0.f_Cells)]]) (r' := []) (.box rfl rfl rfl) rfl ?_
  refine p_ 2 rfl rfl rfl rfl (.assign rfl rfl) ?_
  refine we_nil ?_
  refine ex_seq ?_
  refine ex_gst ⟨[.agg [.int .i64 p0.f_Quote, .sl false (List.map c_i64 p0.f_Lists), .int .i64 p0.f_Kind, .sl false (List.map c_api_Cell p0.f_Cells)], .cp [.int .i64 p0.f_Quote, .sl false (List.map c_i64 p0.f_Lists), .int .i64 p0.f_Kind, .sl false (List.map c_api_Cell p0.f_Cells)], .bool false, .top, .top, .top], [none], [], 0⟩ (.shutB (b := 0) rfl (fun d h => by simpa using List.all_eq_true.1 (rfl : List.all [.int .i64 p0.f_Quote, .sl false (List.map c_i64 p0.f_Lists), .int .i64 p0.f_Kind, .sl false (List.map c_api_Cell p0.f_Cells)] (fun d => !d.tok) = true) d h) (.refl _)) rfl ?_
  refine ex_ord [] (l := [0, 1, 2, 3]) rfl ?_
  refine p_ 3 rfl rfl rfl rfl (x_loadA rfl rfl rfl sz45 un45 ag45 rfl) ?_
  obtain ⟨v1, hv1, h⟩ := bindS h
  refine p_ 4 rfl rfl rfl rfl (x_callP rfl rfl en36 (ok_lines_May hv1) rfl rfl rfl rfl rfl) ?_
  refine p_ 5 rfl rfl rfl rfl (.un rfl rfl rfl) ?_
  refine p_ 2 rfl rfl rfl rfl (.assign rfl rfl) ?_
  refine we_nil ?_
  refine ex_ret ?_
  obtain rfl := Option.some.inj h
  exact finB (by first | exact .inr rfl | exact .inl rfl) (.refl _) [.bool (!v1)] [] [] (res_cons (res_tmp rfl) res_nil) rfl rfl rfl rfl rfl rfl rfl
theorem ok_lines_Split {r : T_api_Line × T_api_Line × Int} {p0 : T_api_Line} {p1 : Int} (h : lines_Split p0 p1 = some r) : OkB prog 24 [.agg [.int .i64 p0.f_Quote, .sl false (List.map c_i64 p0.f_Lists), .int .i64 p0.f_Kind, .sl false (List.map c_api_Cell p0.f_Cells)], .int .i64 p1] [] [] (.tup [.agg [.int .i64 r.1.f_Quote, .sl false (List.map c_i64 r.1.f_Lists), .int .i64 r.1.f_Kind, .sl false (List.map c_api_Cell r.1.f_Cells)], .agg [.int .i64 r.2.1.f_Quote, .sl false (List.map c_i64 r.2.1.f_Lists), .int .i64 r.2.1.f_Kind, .sl false (List.map c_api_Cell r.2.1.f_Cells)], .int .i64 r.2.2]) [] [] := by
  unfold lines_Split at h
  refine okB_of_exG func24 rfl rfl (s0 := [.agg [.int .i64 p0.f_Quote, .sl false (List.map c_i64 p0.f_Lists), .int .i64 p0.f_Kind, .sl false (List.map c_api_Cell p0.f_Cells)], .int .i64 p1, .top, .top, .top, .top, .top, .top, .top, .top, .top, .top, .top, .top, .top, .top, .top, .top, .top, .top, .top, .top, .top, .top, .top, .top, .top, .top, .top, .top, .top, .top, .top, .top, .top, .top, .top, .top, .top, .top, .top, .top, .top, .top, .top, .top, .top, .top]) (b0 := []) (r0 := []) rfl rfl rfl ?_
  show Ex _ _ _ ⟨[.agg [.int .i64 p0.f_Quote, .sl false (List.map c_i64 p0.f_Lists), .int .i64 p0.f_Kind, .sl false (List.map c_api_Cell p0.f_Cells)], .int .i64 p1, .top, .top, .top, .top, .top, .top, .top, .top, .top, .top, .top, .top, .top, .top, .top, .top, .top, .top, .top, .top, .top, .top, .top, .top, .top, .top, .top, .top, .top, .top, .top, .top, .top, .top, .top, .top, .top, .top, .top, .top, .top, .top, .top, .top, .top, .top], [], [], 0⟩ _
  refine ex_seq ?_
  refine ex_ord [0, 1, 2] (l := [0, 1, 2, 3]) rfl ?_
  refine e_ (d := .bx 0 0) 2 rfl rfl rfl rfl rfl (b' := [some [.int .i64 p0.f_Quote, .sl false (List.map c_i64 p0.f_Lists), .int .i64 p0.f_Kind, .sl false (List.map c_api_Cell p0.f_Cells)]]) (r' := []) (.box rfl rfl rfl) rfl ?_
  refine e_ (d := .bx 1 0) 4 rfl rfl rfl rfl rfl (b' := [some [.int .i64 p0.f_Quote, .sl false (List.map c_i64 p0.f_Lists), .int .i64 p0.f_Kind, .sl false (List.map c_api_Cell p0.f_Cells)], some [.int .i64 0, .sl false [], .int .i64 0, .sl false []]]) (r' := []) (.alloc rfl ze45) rfl ?_
  refine e_ (d := .bx 2 0) 5 rfl rfl rfl rfl rfl (b' := [some [.int .i64 p0.f_Quote, .sl false (List.map c_i64 p0.f_Lists), .int .i64 p0.f_Kind, .sl false (List.map c_api_Cell p0.f_Cells)], some [.int .i64 0, .sl false [], .int .i64 0, .sl false []], some [.int .i64 0, .sl false [], .int .i64 0, .sl false []]]) (r' := []) (.alloc rfl ze45) rfl ?_
  refine p_ 6 rfl rfl rfl rfl (.assign rfl rfl) ?_
  refine we_nil ?_
  refine ex_seq ?_
  refine ex_seq ?_
  refine ex_gst ⟨[.agg [.int .i64 p0.f_Quote, .sl false (List.map c_i64 p0.f_Lists), .int .i64 p0.f_Kind, .sl false (List.map c_api_Cell p0.f_Cells)], .int .i64 p1, .cp [.int .i64 p0.f_Quote, .sl false (List.map c_i64 p0.f_Lists), .int .i64 p0.f_Kind, .sl false (List.map c_api_Cell p0.f_Cells)], .top, .bx 1 0, .bx 2 0, .int .i64 0, .top, .top, .top, .top, .top, .top, .top, .top, .top, .top, .top, .top, .top, .top, .top, .top, .top, .top, .top, .top, .top, .top, .top, .top, .top, .top, .top, .top, .top, .top, .top, .top, .top, .top, .top, .top, .top, .top, .top, .top, .top], [none, some [.int .i64 0, .sl false [], .int .i64 0, .sl false []], some [.int .i64 0, .sl false [], .int .i64 0, .sl false []]], [], 0⟩ (.shutB (b := 0) rfl (fun d h => by simpa using List.all_eq_true.1 (rfl : List.all [.int .i64 p0.f_Quote, .sl false (List.map c_i64 p0.f_Lists), .int .i64 p0.f_Kind, .sl false (List.map c_api_Cell p0.f_Cells)] (fun d => !d.tok) = true) d h) (.refl _)) rfl ?_
  obtain ⟨q1, hq, h⟩ := bindS h
  refine ex_cut ⟨[.top, .int .i64 p1, .cp [.int .i64 p0.f_Quote, .sl false (List.map c_i64 p0.f_Lists), .int .i64 p0.f_Kind, .sl false (List.map c_api_Cell p0.f_Cells)], .top, .bx 0 0, .bx 1 0, .top, .top, .top, .top, .top, .top, .top, .top, .top, .top, .top, .top, .top, .top, .top, .top, .bool q1, .top, .top, .top, .top, .top, .top, .top, .top, .top, .top, .top, .top, .top, .top, .top, .top, .top, .top, .top, .top, .top, .top, .top, .top, .top], [some [.int .i64 0, .sl false [], .int .i64 0, .sl false []], some [.int .i64 0, .sl false [], .int .i64 0, .sl false []]], [], 0⟩ ?_ ?_
  · clear h
    have h := hq
    clear hq
    refine ex_ord [] (l := [0, 1, 2, 3, 4, 5, 6, 7, 8, 9, 10, 11, 12, 13]) rfl ?_
    refine p_ 9 rfl rfl rfl rfl (x_loadA rfl rfl rfl sz45 un45 ag45 rfl) ?_
    obtain ⟨v2, hv2, h⟩ := bindS h
    refine pif 10 rfl rfl rfl rfl (x_callP rfl rfl en36 (ok_lines_May hv2) rfl rfl rfl rfl rfl) ?_ ?_
    · intro hc
      replace h := iteT h hc
      refine p_ 11 rfl rfl rfl rfl (.un rfl rfl rfl) ?_
      refine p_ 12 rfl rfl rfl rfl (.move rfl rfl) ?_
      refine p_ 13 rfl rfl rfl rfl (.move rfl rfl) ?_
      refine pif 14 rfl rfl rfl rfl (.bin rfl rfl rfl rfl) ?_ ?_
      · intro hc
        replace h := iteT h hc
        refine p_ 15 rfl rfl rfl rfl (x_pickF rfl rfl rfl rfl) ?_
        refine p_ 16 rfl rfl rfl rfl (.move rfl rfl) ?_
        refine k_ 17 rfl rfl rfl ?_
        refine k_ 18 rfl rfl rfl ?_
        refine k_ 19 rfl rfl rfl ?_
        refine k_ 20 rfl rfl rfl ?_
        refine k_ 21 rfl rfl rfl ?_
        refine p_ 22 rfl rfl rfl rfl (x_pickT rfl rfl rfl rfl) ?_
        refine we_nil ?_
        cases h
        exact ⟨rfl, _, .re [false, true, true, false, true, true, false, false, false, false, false, false, false, false, false, false, false, false, false, false, false, false, true, false, false, false, false, false, false, false, false, false, false, false, false, false, false, false, false, false, false, false, false, false, false, false, false, false] [1, 2] [] rfl (.refl _), rfl⟩
      · intro hc
        replace h := iteF h hc
        refine p_ 15 rfl rfl rfl rfl (x_pickF rfl rfl rfl rfl) ?_
        refine p_ 16 rfl rfl rfl rfl (.move rfl rfl) ?_
        refine p_ 17 rfl rfl rfl rfl (.move rfl rfl) ?_
        refine p_ 18 rfl rfl rfl rfl (.fieldAddr rfl rfl rfl fl45u_3 rfl) ?_
        refine p_ 19 rfl rfl rfl rfl (x_load rfl rfl rfl sz42 un42 ag42 rfl) ?_
        refine p_ 20 rfl rfl rfl rfl (x_len (f := c_api_Cell) (l := p0.f_Cells) rfl rfl rfl el42) ?_
        refine p_ 21 rfl rfl rfl rfl (.bin rfl rfl rfl rfl) ?_
        refine p_ 22 rfl rfl rfl rfl (x_pickF rfl rfl rfl rfl) ?_
        refine we_nil ?_
        cases h
        exact ⟨rfl, _, .re [false, true, true, false, true, true, false, false, false, false, false, false, false, false, false, false, false, false, false, false, false, false, true, false, false, false, false, false, false, false, false, false, false, false, false, false, false, false, false, false, false, false, false, false, false, false, false, false] [1, 2] [] rfl (.refl _), rfl⟩
    · intro hc
      replace h := iteF h hc
      refine p_ 11 rfl rfl rfl rfl (.un rfl rfl rfl) ?_
      refine p_ 12 rfl rfl rfl rfl (.move rfl rfl) ?_
      refine k_ 13 rfl rfl rfl ?_
      refine k_ 14 rfl rfl rfl ?_
      refine p_ 15 rfl rfl rfl rfl (x_pickT rfl rfl rfl rfl) ?_
      refine p_ 16 rfl rfl rfl rfl (.move rfl rfl) ?_
      refine k_ 17 rfl rfl rfl ?_
      refine k_ 18 rfl rfl rfl ?_
      refine k_ 19 rfl rfl rfl ?_
      refine k_ 20 rfl rfl rfl ?_
      refine k_ 21 rfl rfl rfl ?_
      refine p_ 22 rfl rfl rfl rfl (x_pickT rfl rfl rfl rfl) ?_
      refine we_nil ?_
      cases h
      exact ⟨rfl, _, .re [false, true, true, false, true, true, false, false, false, false, false, false, false, false, false, false, false, false, false, false, false, false, true, false, false, false, false, false, false, false, false, false, false, false, false, false, false, false, false, false, false, false, false, false, false, false, false, false] [1, 2] [] rfl (.refl _), rfl⟩
  · clear hq
    refine ex_if rfl ?_ ?_
    · intro hc
      replace h := iteT h hc
      refine ex_seq ?_
      refine ex_ord [2, 3] (l := [0, 1, 2, 3, 4]) rfl ?_
      refine p_ 23 rfl rfl rfl rfl (x_build rfl pl45 ze45 rfl rfl rfl rfl) ?_
      refine p_ 24 rfl rfl rfl rfl (x_build rfl pl45 ze45 rfl rfl rfl rfl) ?_
      refine e0 rfl rfl rfl rfl rfl (b' := [some [.int .i64 0, .sl false [], .int .i64 0, .sl false []], some [.int .i64 0, .sl false [], .int .i64 0, .sl false []]]) (r' := []) (.store rfl rfl rfl sz45 rfl rfl rfl) rfl ?_
      refine e0 rfl rfl rfl rfl rfl (b' := [some [.int .i64 0, .sl false [], .int .i64 0, .sl false []], some [.int .i64 0, .sl false [], .int .i64 0, .sl false []]]) (r' := []) (.store rfl rfl rfl sz45 rfl rfl rfl) rfl ?_
      refine p_ 6 rfl rfl rfl rfl (.assign rfl rfl) ?_
      refine we_nil ?_
      refine ex_ret ?_
      obtain rfl := Option.some.inj h
      exact finB (by first | exact .inr rfl | exact .inl rfl) (.refl _) [.agg [.int .i64 0, .sl false [], .int .i64 0, .sl false []], .agg [.int .i64 0, .sl false [], .int .i64 0, .sl false []], .int .i64 1] [] [] (res_cons (res_cell rfl rfl sz45 un45 ag45 rfl) (res_cons (res_cell rfl rfl sz45 un45 ag45 rfl) (res_cons (res_tmp rfl) res_nil))) rfl rfl rfl rfl rfl rfl rfl
    · intro hc
      replace h := iteF h hc
      refine ex_skip ?_
      refine ex_seq ?_
      obtain ⟨⟨q3, q4, q5, q6, q7, q8, q9, q10⟩, hq, h⟩ := bindS h
      refine ex_cut ⟨[.top, .int .i64 p1, .top, .top, .bx 0 0, .bx 1 0, .top, .bx 2 0, .bx 3 0, .top, .top, .top, .top, .top, .top, .top, .top, .top, .top, .top, .top, .top, .top, .top, .top, .top, .top, .top, .top, .top, .top, .top, .top, .top, .top, .top, .top, .top, .top, .top, .top, .top, .top, .top, .top, .top, .top, .top], [some [.int .i64 0, .sl false [], .int .i64 0, .sl false []], some [.int .i64 0, .sl false [], .int .i64 0, .sl false []], some [.int .i64 q3, .sl false (List.map c_i64 q4), .int .i64 q5, .sl false (List.map c_api_Cell q6)], some [.int .i64 q7, .sl false (List.map c_i64 q8), .int .i64 q9, .sl false (List.map c_api_Cell q10)]], [], 0⟩ ?_ ?_
      · clear h
        have h := hq
        clear hq
        refine ex_sh mo [4, 5, 6, 7, 1000, 1001, 1002, 1003] (.pre [0, 1, 2, 3] (.fork 4 5 (.pre [5, 6, 7] .nil) (.pre [4, 6, 7] .nil))) (by kernel_rfl) ?_
        refine sh_pre ?_
        refine n_ 25 rfl rfl rfl (fun _ _ => x_loadA rfl rfl rfl sz45 un45 ag45 rfl) ?_
        obtain ⟨v11, hv11, h⟩ := bindS h
        refine n_ 26 rfl rfl rfl (fun _ _ => x_callP rfl rfl en30 (ok_lines_Own hv11) rfl rfl rfl rfl rfl) ?_
        refine n_ 27 rfl rfl rfl (fun _ _ => x_loadA rfl rfl rfl sz45 un45 ag45 rfl) ?_
        obtain ⟨v12, hv12, h⟩ := bindS h
        refine n_ 28 rfl rfl rfl (fun _ _ => x_callP rfl rfl en37 (ok_lines_Frame hv12) rfl rfl rfl rfl rfl) ?_
        refine we_nil ?_
        refine sh_fork ?_ ?_
        · refine e_ (d := .bx 2 0) 7 rfl rfl rfl rfl rfl (b' := [some [.int .i64 0, .sl false [], .int .i64 0, .sl false []], some [.int .i64 0, .sl false [], .int .i64 0, .sl false []], some [.int .i64 0, .sl false [], .int .i64 0, .sl false []]]) (r' := []) (.alloc rfl ze45) rfl ?_
          refine e_ (d := .bx 3 0) 8 rfl rfl rfl rfl rfl (b' := [some [.int .i64 0, .sl false [], .int .i64 0, .sl false []], some [.int .i64 0, .sl false [], .int .i64 0, .sl false []], some [.int .i64 0, .sl false [], .int .i64 0, .sl false []], some [.int .i64 0, .sl false [], .int .i64 0, .sl false []]]) (r' := []) (.alloc rfl ze45) rfl ?_
          refine e0 rfl rfl rfl rfl rfl (b' := [some [.int .i64 0, .sl false [], .int .i64 0, .sl false []], some [.int .i64 0, .sl false [], .int .i64 0, .sl false []], some [.int .i64 v11.f_Quote, .sl false (List.map c_i64 v11.f_Lists), .int .i64 v11.f_Kind, .sl false (List.map c_api_Cell v11.f_Cells)], some [.int .i64 0, .sl false [], .int .i64 0, .sl false []]]) (r' := []) (.store rfl rfl rfl sz45 rfl rfl rfl) rfl ?_
          refine e0 rfl rfl rfl rfl rfl (b' := [some [.int .i64 0, .sl false [], .int .i64 0, .sl false []], some [.int .i64 0, .sl false [], .int .i64 0, .sl false []], some [.int .i64 v11.f_Quote, .sl false (List.map c_i64 v11.f_Lists), .int .i64 v11.f_Kind, .sl false (List.map c_api_Cell v11.f_Cells)], some [.int .i64 v12.f_Quote, .sl false (List.map c_i64 v12.f_Lists), .int .i64 v12.f_Kind, .sl false (List.map c_api_Cell v12.f_Cells)]]) (r' := []) (.store rfl rfl rfl sz45 rfl rfl rfl) rfl ?_
          refine we_nil ?_
          cases h
          exact ⟨rfl, _, .re [false, true, false, false, true, true, false, true, true, false, false, false, false, false, false, false, false, false, false, false, false, false, false, false, false, false, false, false, false, false, false, false, false, false, false, false, false, false, false, false, false, false, false, false, false, false, false, false] [0, 1, 2, 3] [] rfl (.refl _), rfl⟩
        · refine e_ (d := .bx 2 0) 8 rfl rfl rfl rfl rfl (b' := [some [.int .i64 0, .sl false [], .int .i64 0, .sl false []], some [.int .i64 0, .sl false [], .int .i64 0, .sl false []], some [.int .i64 0, .sl false [], .int .i64 0, .sl false []]]) (r' := []) (.alloc rfl ze45) rfl ?_
          refine e_ (d := .bx 3 0) 7 rfl rfl rfl rfl rfl (b' := [some [.int .i64 0, .sl false [], .int .i64 0, .sl false []], some [.int .i64 0, .sl false [], .int .i64 0, .sl false []], some [.int .i64 0, .sl false [], .int .i64 0, .sl false []], some [.int .i64 0, .sl false [], .int .i64 0, .sl false []]]) (r' := []) (.alloc rfl ze45) rfl ?_
          refine e0 rfl rfl rfl rfl rfl (b' := [some [.int .i64 0, .sl false [], .int .i64 0, .sl false []], some [.int .i64 0, .sl false [], .int .i64 0, .sl false []], some [.int .i64 0, .sl false [], .int .i64 0, .sl false []], some [.int .i64 v11.f_Quote, .sl false (List.map c_i64 v11.f_Lists), .int .i64 v11.f_Kind, .sl false (List.map c_api_Cell v11.f_Cells)]]) (r' := []) (.store rfl rfl rfl sz45 rfl rfl rfl) rfl ?_
          refine e0 rfl rfl rfl rfl rfl (b' := [some [.int .i64 0, .sl false [], .int .i64 0, .sl false []], some [.int .i64 0, .sl false [], .int .i64 0, .sl false []], some [.int .i64 v12.f_Quote, .sl false (List.map c_i64 v12.f_Lists), .int .i64 v12.f_Kind, .sl false (List.map c_api_Cell v12.f_Cells)], some [.int .i64 v11.f_Quote, .sl false (List.map c_i64 v11.f_Lists), .int .i64 v11.f_Kind, .sl false (List.map c_api_Cell v11.f_Cells)]]) (r' := []) (.store rfl rfl rfl sz45 rfl rfl rfl) rfl ?_
          refine we_nil ?_
          cases h
          exact ⟨rfl, _, .re [false, true, false, false, true, true, false, true, true, false, false, false, false, false, false, false, false, false, false, false, false, false, false, false, false, false, false, false, false, false, false, false, false, false, false, false, false, false, false, false, false, false, false, false, false, false, false, false] [0, 1, 3, 2] [] rfl (.refl _), rfl⟩
      · clear hq
        refine ex_seq ?_
        refine ex_ord [5] (l := [0, 1, 2, 3, 4, 5]) rfl ?_
        refine p_ 29 rfl rfl rfl rfl (.fieldAddr rfl rfl rfl fl45u_3 rfl) ?_
        refine p_ 30 rfl rfl rfl rfl (x_load rfl rfl rfl sz42 un42 ag42 rfl) ?_
        refine p_ 31 rfl rfl rfl rfl (.move rfl rfl) ?_
        obtain ⟨v13, hv13, h⟩ := bindS h
        refine p_ 32 rfl rfl rfl rfl (x_cut rfl rfl el42 sz41 ⟨_, rfl⟩ (by simp [hiIs]) hv13 fl_api_Cell) ?_
        refine p_ 33 rfl rfl rfl rfl (.fieldAddr rfl rfl rfl fl45u_3 rfl) ?_
        refine e0 rfl rfl rfl rfl rfl (b' := [some [.int .i64 0, .sl false [], .int .i64 0, .sl false []], some [.int .i64 0, .sl false [], .int .i64 0, .sl false []], some [.int .i64 q3, .sl false (List.map c_i64 q4), .int .i64 q5, .sl false (List.map c_api_Cell q6)], some [.int .i64 q7, .sl false (List.map c_i64 q8), .int .i64 q9, .sl false (List.map c_api_Cell v13)]]) (r' := []) (.store rfl rfl rfl sz42 rfl rfl rfl) rfl ?_
        refine we_nil ?_
        refine ex_seq ?_
        refine ex_ord [6] (l := [0, 1, 2, 3, 4, 5, 6]) rfl ?_
        refine p_ 34 rfl rfl rfl rfl (.fieldAddr rfl rfl rfl fl45u_3 rfl) ?_
        refine p_ 35 rfl rfl rfl rfl (x_load rfl rfl rfl sz42 un42 ag42 rfl) ?_
        refine p_ 36 rfl rfl rfl rfl (.move rfl rfl) ?_
        refine p_ 37 rfl rfl rfl rfl (.move rfl rfl) ?_
        obtain ⟨v14, hv14, h⟩ := bindS h
        refine p_ 38 rfl rfl rfl rfl (x_cut3 rfl rfl rfl rfl el42 sz41 hv14) ?_
        refine p_ 39 rfl rfl rfl rfl (.fieldAddr rfl rfl rfl fl45u_3 rfl) ?_
        refine e0 rfl rfl rfl rfl rfl (b' := [some [.int .i64 0, .sl false [], .int .i64 0, .sl false []], some [.int .i64 0, .sl false [], .int .i64 0, .sl false []], some [.int .i64 q3, .sl false (List.map c_i64 q4), .int .i64 q5, .sl false (List.map c_api_Cell v14)], some [.int .i64 q7, .sl false (List.map c_i64 q8), .int .i64 q9, .sl false (List.map c_api_Cell v13)]]) (r' := []) (.store rfl rfl rfl sz42 rfl rfl rfl) rfl ?_
        refine we_nil ?_
        refine ex_seq ?_
        refine ex_seq ?_
        refine ex_ord [] (l := [0, 1, 2, 3]) rfl ?_
        refine p_ 40 rfl rfl rfl rfl (.fieldAddr rfl rfl rfl fl45u_3 rfl) ?_
        refine p_ 41 rfl rfl rfl rfl (x_load rfl rfl rfl sz42 un42 ag42 rfl) ?_
        refine p_ 42 rfl rfl rfl rfl (x_len (f := c_api_Cell) (l := v13) rfl rfl rfl el42) ?_
        refine p_ 43 rfl rfl rfl rfl (.bin rfl rfl rfl rfl) ?_
        refine we_nil ?_
        obtain ⟨⟨q15, q16⟩, hq, h⟩ := bindS h
        refine ex_cut ⟨[.top, .top, .top, .top, .bx 0 0, .bx 1 0, .top, .bx 2 0, .bx 3 0, .top, .top, .top, .top, .top, .top, .top, .top, .top, .top, .top, .top, .top, .top, .top, .top, .top, .top, .top, .top, .top, .top, .top, .top, .top, .top, .top, .top, .top, .top, .top, .top, .top, .top, .top, .top, .top, .top, .top], [some [.int .i64 0, .sl false [], .int .i64 0, .sl false []], some [.int .i64 0, .sl false [], .int .i64 0, .sl false []], some [.int .i64 q3, .sl false (List.map c_i64 q4), .int .i64 q5, .sl false (List.map c_api_Cell v14)], some [.int .i64 q7, .sl false (List.map c_i64 q8), .int .i64 q15, .sl false (List.map c_api_Cell q16)]], [], 0⟩ ?_ ?_
        · clear h
          have h := hq
          clear hq
          refine ex_if rfl ?_ ?_
          · intro hc
            replace h := iteT h hc
            refine ex_ord [1, 3] (l := [0, 1, 2, 3]) rfl ?_
            refine p_ 44 rfl rfl rfl rfl (.fieldAddr rfl rfl rfl fl45u_2 rfl) ?_
            refine e0 rfl rfl rfl rfl rfl (b' := [some [.int .i64 0, .sl false [], .int .i64 0, .sl false []], some [.int .i64 0, .sl false [], .int .i64 0, .sl false []], some [.int .i64 q3, .sl false (List.map c_i64 q4), .int .i64 q5, .sl false (List.map c_api_Cell v14)], some [.int .i64 q7, .sl false (List.map c_i64 q8), .int .i64 0, .sl false (List.map c_api_Cell v13)]]) (r' := []) (.store rfl rfl rfl sz3 rfl rfl rfl) rfl ?_
            refine p_ 45 rfl rfl rfl rfl (.fieldAddr rfl rfl rfl fl45u_3 rfl) ?_
            refine e0 rfl rfl rfl rfl rfl (b' := [some [.int .i64 0, .sl false [], .int .i64 0, .sl false []], some [.int .i64 0, .sl false [], .int .i64 0, .sl false []], some [.int .i64 q3, .sl false (List.map c_i64 q4), .int .i64 q5, .sl false (List.map c_api_Cell v14)], some [.int .i64 q7, .sl false (List.map c_i64 q8), .int .i64 0, .sl false []]]) (r' := []) (.store rfl rfl rfl sz42 rfl rfl rfl) rfl ?_
            refine we_nil ?_
            cases h
            exact ⟨rfl, _, .re [false, false, false, false, true, true, false, true, true, false, false, false, false, false, false, false, false, false, false, false, false, false, false, false, false, false, false, false, false, false, false, false, false, false, false, false, false, false, false, false, false, false, false, false, false, false, false, false] [0, 1, 2, 3] [] rfl (.refl _), rfl⟩
          · intro hc
            replace h := iteF h hc
            refine ex_skip ?_
            cases h
            exact ⟨rfl, _, .re [false, false, false, false, true, true, false, true, true, false, false, false, false, false, false, false, false, false, false, false, false, false, false, false, false, false, false, false, false, false, false, false, false, false, false, false, false, false, false, false, false, false, false, false, false, false, false, false] [0, 1, 2, 3] [] rfl (.refl _), rfl⟩
        · clear hq
          refine ex_seq ?_
          refine ex_drw mo [2, 3, 2000, 2001, 3002, 3003, 100002, 200003, 300000, 400001] (by kernel_rfl) (l := [0, 1, 2, 3, 4]) rfl ?_
          refine r_ 46 2 rfl rfl rfl rfl rfl rfl (fun _ _ hb => x_loadA rfl rfl (at_bx hb rfl) sz45 un45 ag45 rfl) ?_
          refine r_ 47 3 rfl rfl rfl rfl rfl rfl (fun _ _ hb => x_loadA rfl rfl (at_bx hb rfl) sz45 un45 ag45 rfl) ?_
          refine e0 rfl rfl rfl rfl rfl (b' := [some [.int .i64 q3, .sl false (List.map c_i64 q4), .int .i64 q5, .sl false (List.map c_api_Cell v14)], some [.int .i64 0, .sl false [], .int .i64 0, .sl false []], some [.int .i64 q3, .sl false (List.map c_i64 q4), .int .i64 q5, .sl false (List.map c_api_Cell v14)], some [.int .i64 q7, .sl false (List.map c_i64 q8), .int .i64 q15, .sl false (List.map c_api_Cell q16)]]) (r' := []) (hb := set_out 0 (some [.int .i64 q3, .sl false (List.map c_i64 q4), .int .i64 q5, .sl false (List.map c_api_Cell v14)]) rfl rfl) (.store rfl rfl rfl sz45 rfl rfl rfl) rfl ?_
          refine e0 rfl rfl rfl rfl rfl (b' := [some [.int .i64 q3, .sl false (List.map c_i64 q4), .int .i64 q5, .sl false (List.map c_api_Cell v14)], some [.int .i64 q7, .sl false (List.map c_i64 q8), .int .i64 q15, .sl false (List.map c_api_Cell q16)], some [.int .i64 q3, .sl false (List.map c_i64 q4), .int .i64 q5, .sl false (List.map c_api_Cell v14)], some [.int .i64 q7, .sl false (List.map c_i64 q8), .int .i64 q15, .sl false (List.map c_api_Cell q16)]]) (r' := []) (hb := set_out 1 (some [.int .i64 q7, .sl false (List.map c_i64 q8), .int .i64 q15, .sl false (List.map c_api_Cell q16)]) rfl rfl) (.store rfl rfl rfl sz45 rfl rfl rfl) rfl ?_
          refine p_ 6 rfl rfl rfl rfl (.assign rfl rfl) ?_
          refine we_nil ?_
          refine ex_ret ?_
          obtain rfl := Option.some.inj h
          exact finB (by first | exact .inr rfl | exact .inl rfl) (.refl _) [.agg [.int .i64 q3, .sl false (List.map c_i64 q4), .int .i64 q5, .sl false (List.map c_api_Cell v14)], .agg [.int .i64 q7, .sl false (List.map c_i64 q8), .int .i64 q15, .sl false (List.map c_api_Cell q16)], .int .i64 0] [] [] (res_cons (res_cell rfl rfl sz45 un45 ag45 rfl) (res_cons (res_cell rfl rfl sz45 un45 ag45 rfl) (res_cons (res_tmp rfl) res_nil))) rfl rfl rfl rfl rfl rfl rfl
theorem ok_doc_May {r : Bool} {p0 : List (T_api_Line)} (h : doc_May p0 = some r) : OkB prog 29 [.sl false (List.map c_api_Line p0)] [] [] (.bool r) [] [] := by
  unfold doc_May at h
  refine okB_of_exG func29 rfl rfl (s0 := [.sl false (List.map c_api_Line p0), .top, .top, .top, .top, .top, .top, .top, .top, .top, .top, .top, .top, .top, .top, .top, .top, .top, .top, .top, .top]) (b0 := []) (r0 := []) rfl rfl rfl ?_
  show Ex _ _ _ ⟨[.sl false (List.map c_api_Line p0), .top, .top, .top, .top, .top, .top, .top, .top, .top, .top, .top, .top, .top, .top, .top, .top, .top, .top, .top, .top], [], [], 0⟩ _
  refine ex_seq ?_
  refine ex_ord [] (l := [0]) rfl ?_
  refine p_ 2 rfl rfl rfl rfl (.assign rfl rfl) ?_
  refine we_nil ?_
  refine ex_seq ?_
  obtain ⟨q1, hq, h⟩ := bindS h
  refine ex_cut ⟨[.top, .top, .bool q1, .top, .top, .top, .top, .top, .top, .top, .top, .top, .top, .top, .top, .top, .top, .top, .top, .top, .top], [], [], 0⟩ ?_ ?_
  · clear h
    have h := hq
    clear hq
    refine ex_ord [] (l := [0, 1, 2, 3, 4, 5, 6, 7, 8, 9, 10, 11, 12, 13, 14, 15, 16, 17, 18]) rfl ?_
    refine p_ 3 rfl rfl rfl rfl (.move rfl rfl) ?_
    refine p_ 4 rfl rfl rfl rfl (x_len (f := c_api_Line) (l := p0) rfl rfl rfl el22) ?_
    refine pif 5 rfl rfl rfl rfl (.bin rfl rfl rfl rfl) ?_ ?_
    · intro hc
      replace h := iteT h hc
      refine p_ 6 rfl rfl rfl rfl (.move rfl rfl) ?_
      refine p_ 7 rfl rfl rfl rfl (.move rfl rfl) ?_
      refine p_ 8 rfl rfl rfl rfl (x_len (f := c_api_Line) (l := p0) rfl rfl rfl el22) ?_
      refine pif 9 rfl rfl rfl rfl (.bin rfl rfl rfl rfl) ?_ ?_
      · intro hc
        replace h := iteT h hc
        refine p_ 10 rfl rfl rfl rfl (x_pickT rfl rfl rfl rfl) ?_
        refine p_ 11 rfl rfl rfl rfl (.move rfl rfl) ?_
        refine p_ 12 rfl rfl rfl rfl (.move rfl rfl) ?_
        obtain ⟨v2, hv2, h⟩ := bindS h
        refine p_ 13 rfl rfl rfl rfl (x_callP rfl rfl en8 (ok_doc_Size hv2) rfl rfl rfl rfl rfl) ?_
        refine pif 14 rfl rfl rfl rfl (.bin rfl rfl rfl rfl) ?_ ?_
        · intro hc
          replace h := iteT h hc
          refine p_ 15 rfl rfl rfl rfl (x_pickT rfl rfl rfl rfl) ?_
          refine p_ 16 rfl rfl rfl rfl (.move rfl rfl) ?_
          refine p_ 17 rfl rfl rfl rfl (.move rfl rfl) ?_
          obtain ⟨v3, hv3, h⟩ := bindS h
          refine p_ 18 rfl rfl rfl rfl (x_callP rfl rfl en43 (ok_slices_ContainsFunc_apiLine ⟨en44, rfl, rfl⟩ (fun _ _ h => ok_doc_May_1 h) hv3) rfl rfl rfl rfl rfl) ?_
          refine p_ 19 rfl rfl rfl rfl (.un rfl rfl rfl) ?_
          refine p_ 20 rfl rfl rfl rfl (x_pickT rfl rfl rfl rfl) ?_
          refine p_ 2 rfl rfl rfl rfl (.assign rfl rfl) ?_
          refine we_nil ?_
          cases h
          exact ⟨rfl, _, .re [false, false, true, false, false, false, false, false, false, false, false, false, false, false, false, false, false, false, false, false, false] [] [] rfl (.refl _), rfl⟩
        · intro hc
          replace h := iteF h hc
          refine p_ 15 rfl rfl rfl rfl (x_pickT rfl rfl rfl rfl) ?_
          refine p_ 16 rfl rfl rfl rfl (.move rfl rfl) ?_
          refine k_ 17 rfl rfl rfl ?_
          refine k_ 18 rfl rfl rfl ?_
          refine k_ 19 rfl rfl rfl ?_
          refine p_ 20 rfl rfl rfl rfl (x_pickF rfl rfl rfl rfl) ?_
          refine p_ 2 rfl rfl rfl rfl (.assign rfl rfl) ?_
          refine we_nil ?_
          cases h
          exact ⟨rfl, _, .re [false, false, true, false, false, false, false, false, false, false, false, false, false, false, false, false, false, false, false, false, false] [] [] rfl (.refl _), rfl⟩
      · intro hc
        replace h := iteF h hc
        refine p_ 10 rfl rfl rfl rfl (x_pickT rfl rfl rfl rfl) ?_
        refine p_ 11 rfl rfl rfl rfl (.move rfl rfl) ?_
        refine k_ 12 rfl rfl rfl ?_
        refine k_ 13 rfl rfl rfl ?_
        refine k_ 14 rfl rfl rfl ?_
        refine p_ 15 rfl rfl rfl rfl (x_pickF rfl rfl rfl rfl) ?_
        refine p_ 16 rfl rfl rfl rfl (.move rfl rfl) ?_
        refine k_ 17 rfl rfl rfl ?_
        refine k_ 18 rfl rfl rfl ?_
        refine k_ 19 rfl rfl rfl ?_
        refine p_ 20 rfl rfl rfl rfl (x_pickF rfl rfl rfl rfl) ?_
        refine p_ 2 rfl rfl rfl rfl (.assign rfl rfl) ?_
        refine we_nil ?_
        cases h
        exact ⟨rfl, _, .re [false, false, true, false, false, false, false, false, false, false, false, false, false, false, false, false, false, false, false, false, false] [] [] rfl (.refl _), rfl⟩
    · intro hc
      replace h := iteF h hc
      refine p_ 6 rfl rfl rfl rfl (.move rfl rfl) ?_
      refine k_ 7 rfl rfl rfl ?_
      refine k_ 8 rfl rfl rfl ?_
      refine k_ 9 rfl rfl rfl ?_
      refine p_ 10 rfl rfl rfl rfl (x_pickF rfl rfl rfl rfl) ?_
      refine p_ 11 rfl rfl rfl rfl (.move rfl rfl) ?_
      refine k_ 12 rfl rfl rfl ?_
      refine k_ 13 rfl rfl rfl ?_
      refine k_ 14 rfl rfl rfl ?_
      refine p_ 15 rfl rfl rfl rfl (x_pickF rfl rfl rfl rfl) ?_
      refine p_ 16 rfl rfl rfl rfl (.move rfl rfl) ?_
      refine k_ 17 rfl rfl rfl ?_
      refine k_ 18 rfl rfl rfl ?_
      refine k_ 19 rfl rfl rfl ?_
      refine p_ 20 rfl rfl rfl rfl (x_pickF rfl rfl rfl rfl) ?_
      refine p_ 2 rfl rfl rfl rfl (.assign rfl rfl) ?_
      refine we_nil ?_
      cases h
      exact ⟨rfl, _, .re [false, false, true, false, false, false, false, false, false, false, false, false, false, false, false, false, false, false, false, false, false] [] [] rfl (.refl _), rfl⟩
  · clear hq
    refine ex_ret ?_
    obtain rfl := Option.some.inj h
    exact finB (by first | exact .inr rfl | exact .inl rfl) (.refl _) [.bool q1] [] [] (res_cons (res_tmp rfl) res_nil) rfl rfl rfl rfl rfl rfl rfl
theorem ok_doc_span {r : Bool} {p0 : List (T_api_Line)} {p1 : T_api_Pos} {p2 : T_api_Pos} (h : doc_span p0 p1 p2 = some r) : OkB prog 20 [.sl false (List.map c_api_Line p0), .agg [.int .i64 p1.f_Line, .int .i64 p1.f_At], .agg [.int .i64 p2.f_Line, .int .i64 p2.f_At]] [] [] (.bool r) [] [] := by
  unfold doc_span at h
  refine okB_of_exG func20 rfl rfl (s0 := [.sl false (List.map c_api_Line p0), .agg [.int .i64 p1.f_Line, .int .i64 p1.f_At], .agg [.int .i64 p2.f_Line, .int .i64 p2.f_At], .top, .top, .top, .top, .top, .top, .top, .top, .top, .top, .top, .top, .top, .top, .top, .top, .top, .top, .top, .top, .top, .top]) (b0 := []) (r0 := []) rfl rfl rfl ?_
  show Ex _ _ _ ⟨[.sl false (List.map c_api_Line p0), .agg [.int .i64 p1.f_Line, .int .i64 p1.f_At], .agg [.int .i64 p2.f_Line, .int .i64 p2.f_At], .top, .top, .top, .top, .top, .top, .top, .top, .top, .top, .top, .top, .top, .top, .top, .top, .top, .top, .top, .top, .top, .top], [], [], 0⟩ _
  refine ex_seq ?_
  refine ex_ord [0, 1] (l := [0, 1, 2]) rfl ?_
  refine e_ (d := .bx 0 0) 4 rfl rfl rfl rfl rfl (b' := [some [.int .i64 p1.f_Line, .int .i64 p1.f_At]]) (r' := []) (.box rfl rfl rfl) rfl ?_
  refine e_ (d := .bx 1 0) 5 rfl rfl rfl rfl rfl (b' := [some [.int .i64 p1.f_Line, .int .i64 p1.f_At], some [.int .i64 p2.f_Line, .int .i64 p2.f_At]]) (r' := []) (.box rfl rfl rfl) rfl ?_
  refine p_ 6 rfl rfl rfl rfl (.assign rfl rfl) ?_
  refine we_nil ?_
  refine ex_seq ?_
  refine ex_gst ⟨[.sl false (List.map c_api_Line p0), .agg [.int .i64 p1.f_Line, .int .i64 p1.f_At], .agg [.int .i64 p2.f_Line, .int .i64 p2.f_At], .top, .cp [.int .i64 p1.f_Line, .int .i64 p1.f_At], .bx 1 0, .bool false, .top, .top, .top, .top, .top, .top, .top, .top, .top, .top, .top, .top, .top, .top, .top, .top, .top, .top], [none, some [.int .i64 p2.f_Line, .int .i64 p2.f_At]], [], 0⟩ (.shutB (b := 0) rfl (fun d h => by simpa using List.all_eq_true.1 (rfl : List.all [.int .i64 p1.f_Line, .int .i64 p1.f_At] (fun d => !d.tok) = true) d h) (.refl _)) rfl ?_
  refine ex_gst ⟨[.sl false (List.map c_api_Line p0), .agg [.int .i64 p1.f_Line, .int .i64 p1.f_At], .agg [.int .i64 p2.f_Line, .int .i64 p2.f_At], .top, .cp [.int .i64 p1.f_Line, .int .i64 p1.f_At], .cp [.int .i64 p2.f_Line, .int .i64 p2.f_At], .bool false, .top, .top, .top, .top, .top, .top, .top, .top, .top, .top, .top, .top, .top, .top, .top, .top, .top, .top], [none, none], [], 0⟩ (.shutB (b := 1) rfl (fun d h => by simpa using List.all_eq_true.1 (rfl : List.all [.int .i64 p2.f_Line, .int .i64 p2.f_At] (fun d => !d.tok) = true) d h) (.refl _)) rfl ?_
  obtain ⟨q1, hq, h⟩ := bindS h
  refine ex_cut ⟨[.top, .top, .top, .top, .top, .top, .bool q1, .top, .top, .top, .top, .top, .top, .top, .top, .top, .top, .top, .top, .top, .top, .top, .top, .top, .top], [], [], 0⟩ ?_ ?_
  · clear h
    have h := hq
    clear hq
    refine ex_ord [] (l := [0, 1, 2, 3, 4, 5, 6, 7, 8, 9, 10, 11, 12, 13, 14, 15, 16, 17, 18]) rfl ?_
    refine p_ 7 rfl rfl rfl rfl (.move rfl rfl) ?_
    obtain ⟨v2, hv2, h⟩ := bindS h
    refine pif 8 rfl rfl rfl rfl (x_callP rfl rfl en29 (ok_doc_May hv2) rfl rfl rfl rfl rfl) ?_ ?_
    · intro hc
      replace h := iteT h hc
      refine p_ 9 rfl rfl rfl rfl (.move rfl rfl) ?_
      refine p_ 10 rfl rfl rfl rfl (.move rfl rfl) ?_
      refine p_ 11 rfl rfl rfl rfl (x_loadA rfl rfl rfl sz29 un29 ag29 rfl) ?_
      obtain ⟨v3, hv3, h⟩ := bindS h
      refine pif 12 rfl rfl rfl rfl (x_callP rfl rfl en10 (ok_doc_Is hv3) rfl rfl rfl rfl rfl) ?_ ?_
      · intro hc
        replace h := iteT h hc
        refine p_ 13 rfl rfl rfl rfl (x_pickT rfl rfl rfl rfl) ?_
        refine p_ 14 rfl rfl rfl rfl (.move rfl rfl) ?_
        refine p_ 15 rfl rfl rfl rfl (.move rfl rfl) ?_
        refine p_ 16 rfl rfl rfl rfl (x_loadA rfl rfl rfl sz29 un29 ag29 rfl) ?_
        obtain ⟨v4, hv4, h⟩ := bindS h
        refine pif 17 rfl rfl rfl rfl (x_callP rfl rfl en10 (ok_doc_Is hv4) rfl rfl rfl rfl rfl) ?_ ?_
        · intro hc
          replace h := iteT h hc
          refine p_ 18 rfl rfl rfl rfl (x_pickT rfl rfl rfl rfl) ?_
          refine p_ 19 rfl rfl rfl rfl (.move rfl rfl) ?_
          refine p_ 20 rfl rfl rfl rfl (x_loadA rfl rfl rfl sz29 un29 ag29 rfl) ?_
          refine p_ 21 rfl rfl rfl rfl (x_loadA rfl rfl rfl sz29 un29 ag29 rfl) ?_
          obtain ⟨v5, hv5, h⟩ := bindS h
          refine p_ 22 rfl rfl rfl rfl (x_callP rfl rfl en12 (ok_doc_Cmp hv5) rfl rfl rfl rfl rfl) ?_
          refine p_ 23 rfl rfl rfl rfl (.bin rfl rfl rfl rfl) ?_
          refine p_ 24 rfl rfl rfl rfl (x_pickT rfl rfl rfl rfl) ?_
          refine p_ 6 rfl rfl rfl rfl (.assign rfl rfl) ?_
          refine we_nil ?_
          cases h
          exact ⟨rfl, _, .re [false, false, false, false, false, false, true, false, false, false, false, false, false, false, false, false, false, false, false, false, false, false, false, false, false] [] [] rfl (.refl _), rfl⟩
        · intro hc
          replace h := iteF h hc
          refine p_ 18 rfl rfl rfl rfl (x_pickT rfl rfl rfl rfl) ?_
          refine p_ 19 rfl rfl rfl rfl (.move rfl rfl) ?_
          refine k_ 20 rfl rfl rfl ?_
          refine k_ 21 rfl rfl rfl ?_
          refine k_ 22 rfl rfl rfl ?_
          refine k_ 23 rfl rfl rfl ?_
          refine p_ 24 rfl rfl rfl rfl (x_pickF rfl rfl rfl rfl) ?_
          refine p_ 6 rfl rfl rfl rfl (.assign rfl rfl) ?_
          refine we_nil ?_
          cases h
          exact ⟨rfl, _, .re [false, false, false, false, false, false, true, false, false, false, false, false, false, false, false, false, false, false, false, false, false, false, false, false, false] [] [] rfl (.refl _), rfl⟩
      · intro hc
        replace h := iteF h hc
        refine p_ 13 rfl rfl rfl rfl (x_pickT rfl rfl rfl rfl) ?_
        refine p_ 14 rfl rfl rfl rfl (.move rfl rfl) ?_
        refine k_ 15 rfl rfl rfl ?_
        refine k_ 16 rfl rfl rfl ?_
        refine k_ 17 rfl rfl rfl ?_
        refine p_ 18 rfl rfl rfl rfl (x_pickF rfl rfl rfl rfl) ?_
        refine p_ 19 rfl rfl rfl rfl (.move rfl rfl) ?_
        refine k_ 20 rfl rfl rfl ?_
        refine k_ 21 rfl rfl rfl ?_
        refine k_ 22 rfl rfl rfl ?_
        refine k_ 23 rfl rfl rfl ?_
        refine p_ 24 rfl rfl rfl rfl (x_pickF rfl rfl rfl rfl) ?_
        refine p_ 6 rfl rfl rfl rfl (.assign rfl rfl) ?_
        refine we_nil ?_
        cases h
        exact ⟨rfl, _, .re [false, false, false, false, false, false, true, false, false, false, false, false, false, false, false, false, false, false, false, false, false, false, false, false, false] [] [] rfl (.refl _), rfl⟩
    · intro hc
      replace h := iteF h hc
      refine p_ 9 rfl rfl rfl rfl (.move rfl rfl) ?_
      refine k_ 10 rfl rfl rfl ?_
      refine k_ 11 rfl rfl rfl ?_
      refine k_ 12 rfl rfl rfl ?_
      refine p_ 13 rfl rfl rfl rfl (x_pickF rfl rfl rfl rfl) ?_
      refine p_ 14 rfl rfl rfl rfl (.move rfl rfl) ?_
      refine k_ 15 rfl rfl rfl ?_
      refine k_ 16 rfl rfl rfl ?_
      refine k_ 17 rfl rfl rfl ?_
      refine p_ 18 rfl rfl rfl rfl (x_pickF rfl rfl rfl rfl) ?_
      refine p_ 19 rfl rfl rfl rfl (.move rfl rfl) ?_
      refine k_ 20 rfl rfl rfl ?_
      refine k_ 21 rfl rfl rfl ?_
      refine k_ 22 rfl rfl rfl ?_
      refine k_ 23 rfl rfl rfl ?_
      refine p_ 24 rfl rfl rfl rfl (x_pickF rfl rfl rfl rfl) ?_
      refine p_ 6 rfl rfl rfl rfl (.assign rfl rfl) ?_
      refine we_nil ?_
      cases h
      exact ⟨rfl, _, .re [false, false, false, false, false, false, true, false, false, false, false, false, false, false, false, false, false, false, false, false, false, false, false, false, false] [] [] rfl (.refl _), rfl⟩
  · clear hq
    refine ex_ret ?_
    obtain rfl := Option.some.inj h
    exact finB (by first | exact .inr rfl | exact .inl rfl) (.refl _) [.bool q1] [] [] (res_cons (res_tmp rfl) res_nil) rfl rfl rfl rfl rfl rfl rfl
theorem ok_doc_tells {r : Int × Int} {p0 : List (T_api_Line)} {p1 : T_api_Pos} {p2 : T_api_Pos} {p3 : T_api_Cell → Option (Bool)} {g3 : FuncId} {cs3 : List DV} (hc3 : Cl prog g3 cs3) (hf3 : ∀ x0 r, p3 x0 = some r → OkB prog g3 ([.agg [.int .i32 x0.f_R, .int .i64 x0.f_Bits, .str (bs x0.f_Href)]] ++ cs3) [] [] (.bool r) [] []) (h : doc_tells p0 p1 p2 p3 = some r) : OkB prog 51 [.sl false (List.map c_api_Line p0), .agg [.int .i64 p1.f_Line, .int .i64 p1.f_At], .agg [.int .i64 p2.f_Line, .int .i64 p2.f_At], .fn g3 cs3] [] [] (.tup [.int .i64 r.1, .int .i64 r.2]) [] [] := by
  unfold doc_tells at h
  refine okB_of_exG func51 rfl rfl (s0 := [.sl false (List.map c_api_Line p0), .agg [.int .i64 p1.f_Line, .int .i64 p1.f_At], .agg [.int .i64 p2.f_Line, .int .i64 p2.f_At], .fn g3 cs3, .top, .top, .top, .top, .top, .top, .top, .top, .top, .top, .top, .top, .top, .top, .top, .top, .top, .top, .top, .top, .top, .top, .top, .top, .top, .top, .top, .top, .top, .top, .top, .top, .top, .top, .top, .top, .top, .top, .top, .top, .top, .top, .top, .top, .top, .top]) (b0 := []) (r0 := []) rfl rfl rfl ?_
  show Ex _ _ _ ⟨[.sl false (List.map c_api_Line p0), .agg [.int .i64 p1.f_Line, .int .i64 p1.f_At], .agg [.int .i64 p2.f_Line, .int .i64 p2.f_At], .fn g3 cs3, .top, .top, .top, .top, .top, .top, .top, .top, .top, .top, .top, .top, .top, .top, .top, .top, .top, .top, .top, .top, .top, .top, .top, .top, .top, .top, .top, .top, .top, .top, .top, .top, .top, .top, .top, .top, .top, .top, .top, .top, .top, .top, .top, .top, .top, .top], [], [], 0⟩ _
  refine ex_seq ?_
  refine ex_ord [0, 1, 2, 3, 4, 5] (l := [0, 1, 2, 3, 4, 5]) rfl ?_
  refine e_ (d := .bx 0 0) 4 rfl rfl rfl rfl rfl (b' := [some [.sl false (List.map c_api_Line p0)]]) (r' := []) (.box rfl rfl rfl) rfl ?_
  refine e_ (d := .bx 1 0) 5 rfl rfl rfl rfl rfl (b' := [some [.sl false (List.map c_api_Line p0)], some [.int .i64 p1.f_Line, .int .i64 p1.f_At]]) (r' := []) (.box rfl rfl rfl) rfl ?_
  refine e_ (d := .bx 2 0) 6 rfl rfl rfl rfl rfl (b' := [some [.sl false (List.map c_api_Line p0)], some [.int .i64 p1.f_Line, .int .i64 p1.f_At], some [.int .i64 p2.f_Line, .int .i64 p2.f_At]]) (r' := []) (.box rfl rfl rfl) rfl ?_
  refine e_ (d := .bx 3 0) 7 rfl rfl rfl rfl rfl (b' := [some [.sl false (List.map c_api_Line p0)], some [.int .i64 p1.f_Line, .int .i64 p1.f_At], some [.int .i64 p2.f_Line, .int .i64 p2.f_At], some [.fn g3 cs3]]) (r' := []) (.box rfl rfl rfl) rfl ?_
  refine e_ (d := .bx 4 0) 8 rfl rfl rfl rfl rfl (b' := [some [.sl false (List.map c_api_Line p0)], some [.int .i64 p1.f_Line, .int .i64 p1.f_At], some [.int .i64 p2.f_Line, .int .i64 p2.f_At], some [.fn g3 cs3], some [.int .i64 0]]) (r' := []) (.alloc rfl ze3) rfl ?_
  refine e_ (d := .bx 5 0) 9 rfl rfl rfl rfl rfl (b' := [some [.sl false (List.map c_api_Line p0)], some [.int .i64 p1.f_Line, .int .i64 p1.f_At], some [.int .i64 p2.f_Line, .int .i64 p2.f_At], some [.fn g3 cs3], some [.int .i64 0], some [.int .i64 0]]) (r' := []) (.alloc rfl ze3) rfl ?_
  refine we_nil ?_
  refine ex_seq ?_
  refine ex_seq ?_
  refine ex_gst ⟨[.sl false (List.map c_api_Line p0), .agg [.int .i64 p1.f_Line, .int .i64 p1.f_At], .agg [.int .i64 p2.f_Line, .int .i64 p2.f_At], .fn g3 cs3, .cp [.sl false (List.map c_api_Line p0)], .bx 1 0, .bx 2 0, .bx 3 0, .bx 4 0, .bx 5 0, .top, .top, .top, .top, .top, .top, .top, .top, .top, .top, .top, .top, .top, .top, .top, .top, .top, .top, .top, .top, .top, .top, .top, .top, .top, .top, .top, .top, .top, .top, .top, .top, .top, .top, .top, .top, .top, .top, .top, .top], [none, some [.int .i64 p1.f_Line, .int .i64 p1.f_At], some [.int .i64 p2.f_Line, .int .i64 p2.f_At], some [.fn g3 cs3], some [.int .i64 0], some [.int .i64 0]], [], 0⟩ (.shutB (b := 0) rfl (fun d h => by simpa using List.all_eq_true.1 (rfl : List.all [.sl false (List.map c_api_Line p0)] (fun d => !d.tok) = true) d h) (.refl _)) rfl ?_
  refine ex_gst ⟨[.sl false (List.map c_api_Line p0), .agg [.int .i64 p1.f_Line, .int .i64 p1.f_At], .agg [.int .i64 p2.f_Line, .int .i64 p2.f_At], .fn g3 cs3, .cp [.sl false (List.map c_api_Line p0)], .cp [.int .i64 p1.f_Line, .int .i64 p1.f_At], .bx 2 0, .bx 3 0, .bx 4 0, .bx 5 0, .top, .top, .top, .top, .top, .top, .top, .top, .top, .top, .top, .top, .top, .top, .top, .top, .top, .top, .top, .top, .top, .top, .top, .top, .top, .top, .top, .top, .top, .top, .top, .top, .top, .top, .top, .top, .top, .top, .top, .top], [none, none, some [.int .i64 p2.f_Line, .int .i64 p2.f_At], some [.fn g3 cs3], some [.int .i64 0], some [.int .i64 0]], [], 0⟩ (.shutB (b := 1) rfl (fun d h => by simpa using List.all_eq_true.1 (rfl : List.all [.int .i64 p1.f_Line, .int .i64 p1.f_At] (fun d => !d.tok) = true) d h) (.refl _)) rfl ?_
  refine ex_gst ⟨[.sl false (List.map c_api_Line p0), .agg [.int .i64 p1.f_Line, .int .i64 p1.f_At], .agg [.int .i64 p2.f_Line, .int .i64 p2.f_At], .fn g3 cs3, .cp [.sl false (List.map c_api_Line p0)], .cp [.int .i64 p1.f_Line, .int .i64 p1.f_At], .cp [.int .i64 p2.f_Line, .int .i64 p2.f_At], .bx 3 0, .bx 4 0, .bx 5 0, .top, .top, .top, .top, .top, .top, .top, .top, .top, .top, .top, .top, .top, .top, .top, .top, .top, .top, .top, .top, .top, .top, .top, .top, .top, .top, .top, .top, .top, .top, .top, .top, .top, .top, .top, .top, .top, .top, .top, .top], [none, none, none, some [.fn g3 cs3], some [.int .i64 0], some [.int .i64 0]], [], 0⟩ (.shutB (b := 2) rfl (fun d h => by simpa using List.all_eq_true.1 (rfl : List.all [.int .i64 p2.f_Line, .int .i64 p2.f_At] (fun d => !d.tok) = true) d h) (.refl _)) rfl ?_
  refine ex_gst ⟨[.sl false (List.map c_api_Line p0), .agg [.int .i64 p1.f_Line, .int .i64 p1.f_At], .agg [.int .i64 p2.f_Line, .int .i64 p2.f_At], .fn g3 cs3, .cp [.sl false (List.map c_api_Line p0)], .cp [.int .i64 p1.f_Line, .int .i64 p1.f_At], .cp [.int .i64 p2.f_Line, .int .i64 p2.f_At], .cp [.fn g3 cs3], .bx 4 0, .bx 5 0, .top, .top, .top, .top, .top, .top, .top, .top, .top, .top, .top, .top, .top, .top, .top, .top, .top, .top, .top, .top, .top, .top, .top, .top, .top, .top, .top, .top, .top, .top, .top, .top, .top, .top, .top, .top, .top, .top, .top, .top], [none, none, none, none, some [.int .i64 0], some [.int .i64 0]], [], 0⟩ (.shutB (b := 3) rfl (fun d h => by simpa using List.all_eq_true.1 (rfl : List.all [.fn g3 cs3] (fun d => !d.tok) = true) d h) (.refl _)) rfl ?_
  refine ex_ord [] (l := [0, 1, 2, 3, 4]) rfl ?_
  refine p_ 14 rfl rfl rfl rfl (x_load rfl rfl rfl sz22 un22 ag22 rfl) ?_
  refine p_ 15 rfl rfl rfl rfl (x_loadA rfl rfl rfl sz29 un29 ag29 rfl) ?_
  refine p_ 16 rfl rfl rfl rfl (x_loadA rfl rfl rfl sz29 un29 ag29 rfl) ?_
  obtain ⟨v1, hv1, h⟩ := bindS h
  refine p_ 17 rfl rfl rfl rfl (x_callP rfl rfl en20 (ok_doc_span hv1) rfl rfl rfl rfl rfl) ?_
  refine p_ 18 rfl rfl rfl rfl (.un rfl rfl rfl) ?_
  refine we_nil ?_
  refine ex_if rfl ?_ ?_
  · intro hc
    replace h := iteT h hc
    refine ex_seq ?_
    refine ex_ord [0, 1] (l := [0, 1]) rfl ?_
    refine e0 rfl rfl rfl rfl rfl (b' := [none, none, none, none, some [.int .i64 0], some [.int .i64 0]]) (r' := []) (.store rfl rfl rfl sz3 rfl rfl rfl) rfl ?_
    refine e0 rfl rfl rfl rfl rfl (b' := [none, none, none, none, some [.int .i64 0], some [.int .i64 0]]) (r' := []) (.store rfl rfl rfl sz3 rfl rfl rfl) rfl ?_
    refine we_nil ?_
    refine ex_ret ?_
    obtain rfl := Option.some.inj h
    exact finB (by first | exact .inr rfl | exact .inl rfl) (.refl _) [.int .i64 0, .int .i64 0] [] [] (res_cons (res_cell rfl rfl sz3 un3 ag3 rfl) (res_cons (res_cell rfl rfl sz3 un3 ag3 rfl) res_nil)) rfl rfl rfl rfl rfl rfl rfl
  · intro hc
    replace h := iteF h hc
    refine ex_skip ?_
    refine ex_seq ?_
    refine ex_seq ?_
    refine ex_ord [] (l := [0, 1, 2, 3]) rfl ?_
    refine p_ 19 rfl rfl rfl rfl (x_load rfl rfl rfl sz22 un22 ag22 rfl) ?_
    refine p_ 20 rfl rfl rfl rfl (x_loadA rfl rfl rfl sz29 un29 ag29 rfl) ?_
    refine p_ 21 rfl rfl rfl rfl (x_loadA rfl rfl rfl sz29 un29 ag29 rfl) ?_
    obtain ⟨v2, hv2, h⟩ := bindS h
    refine p_ 22 rfl rfl rfl rfl (x_callP rfl rfl en39 (ok_doc_between hv2) rfl rfl rfl rfl rfl) ?_
    refine we_nil ?_
    refine ex_block ?_
    obtain ⟨b3, hxs, h⟩ := bindS h
    obtain ⟨o18, hl, h⟩ := bindS h
    refine ex_gst ⟨[.top, .top, .top, .top, .cp [.sl false (List.map c_api_Line p0)], .top, .top, .cp [.fn g3 cs3], .bx 0 0, .bx 1 0, .top, .top, .top, .top, .top, .top, .top, .top, .top, .top, .top, .top, .fn 53 [.cp [.int .i64 v2.1.f_Line, .int .i64 v2.1.f_At], .cp [.int .i64 v2.2.1.f_Line, .int .i64 v2.2.1.f_At], .cp [.sl false (List.map c_api_Line v2.2.2)]], .top, .top, .top, .top, .top, .top, .top, .top, .top, .top, .top, .top, .top, .top, .top, .top, .top, .top, .top, .top, .top, .top, .top, .top, .top, .top, .top], [some [.int .i64 0], some [.int .i64 0]], [], 0⟩ (.re [false, false, false, false, true, false, false, true, true, true, false, false, false, false, false, false, false, false, false, false, false, false, true, false, false, false, false, false, false, false, false, false, false, false, false, false, false, false, false, false, false, false, false, false, false, false, false, false, false, false] [4, 5] [] rfl (.refl _)) rfl ?_
    refine ex_rangeX (encs := encs_doc_between_1) (encD := encD_doc_between_1) (step := (fun x s => doc_tells_r4 p0 p3 x s.1 s.2)) (fun s => [some [.int .i64 s.1], some [.int .i64 s.2]]) (fun s => []) (s0 := (0, 0)) hl rfl en53 (ok_doc_between_1 hxs) henc_doc_between_1 rfl rfl rfl ?_ ?_
    · clear hl hxs
      obtain ⟨k19, k20⟩ := o18
      refine ex_seq ?_
      refine ex_drw mo [2, 3, 2000, 2001, 3002, 3003, 100000, 200001, 300000, 400001] (by kernel_rfl) (l := [0, 1, 2, 3]) rfl ?_
      refine r_ 48 0 rfl rfl rfl rfl rfl rfl (fun _ _ hb => x_load rfl rfl (at_bx hb rfl) sz3 un3 ag3 rfl) ?_
      refine r_ 49 1 rfl rfl rfl rfl rfl rfl (fun _ _ hb => x_load rfl rfl (at_bx hb rfl) sz3 un3 ag3 rfl) ?_
      refine e0 rfl rfl rfl rfl rfl (b' := [some [.int .i64 k19], some [.int .i64 k20]]) (r' := []) (hb := set_out 0 (some [.int .i64 k19]) rfl rfl) (.store rfl rfl rfl sz3 rfl rfl rfl) rfl ?_
      refine e0 rfl rfl rfl rfl rfl (b' := [some [.int .i64 k19], some [.int .i64 k20]]) (r' := []) (hb := set_out 1 (some [.int .i64 k20]) rfl rfl) (.store rfl rfl rfl sz3 rfl rfl rfl) rfl ?_
      refine we_nil ?_
      refine ex_ret ?_
      obtain rfl := Option.some.inj h
      exact finB (by first | exact .inr rfl | exact .inl rfl) (.refl _) [.int .i64 k19, .int .i64 k20] [] [] (res_cons (res_cell rfl rfl sz3 un3 ag3 rfl) (res_cons (res_cell rfl rfl sz3 un3 ag3 rfl) res_nil)) rfl rfl rfl rfl rfl rfl rfl
    · clear hl hxs h
      rintro b4 ⟨n5, n6⟩ t h
      replace h : doc_tells_r4 p0 p3 b4 n5 n6 = some t := h
      unfold doc_tells_r4 at h
      show Ex _ _ _ ⟨[.top, .top, .top, .top, .cp [.sl false (List.map c_api_Line p0)], .top, .top, .cp [.fn g3 cs3], .bx 0 0, .bx 1 0, .top, .top, .top, .top, .top, .top, .top, .top, .top, .top, .top, .top, .fn 53 [.cp [.int .i64 v2.1.f_Line, .int .i64 v2.1.f_At], .cp [.int .i64 v2.2.1.f_Line, .int .i64 v2.2.1.f_At], .cp [.sl false (List.map c_api_Line v2.2.2)]], .int .i64 b4.1, .agg [.int .i64 b4.2.1, .int .i64 b4.2.2], .top, .top, .top, .top, .top, .top, .top, .top, .top, .top, .top, .top, .top, .top, .top, .top, .top, .top, .top, .top, .top, .top, .top, .top, .top], [some [.int .i64 n5], some [.int .i64 n6]], [], 0⟩ _
      refine ex_seq ?_
      refine ex_ord [] (l := [0]) rfl ?_
      refine p_ 10 rfl rfl rfl rfl (.assign rfl rfl) ?_
      refine we_nil ?_
      refine ex_ord [0, 1] (l := [0, 1]) rfl ?_
      refine e_ (d := .bx 2 0) 11 rfl rfl rfl rfl rfl (b' := [some [.int .i64 n5], some [.int .i64 n6], some [.int .i64 0, .int .i64 0]]) (r' := []) (.alloc rfl ze76) rfl ?_
      refine e0 rfl rfl rfl rfl rfl (b' := [some [.int .i64 n5], some [.int .i64 n6], some [.int .i64 b4.2.1, .int .i64 b4.2.2]]) (r' := []) (.store rfl rfl rfl sz76 rfl rfl rfl) rfl ?_
      refine we_nil ?_
      refine ex_block ?_
      refine ex_seq ?_
      refine ex_gst ⟨[.top, .top, .top, .top, .cp [.sl false (List.map c_api_Line p0)], .top, .top, .cp [.fn g3 cs3], .bx 0 0, .bx 1 0, .int .i64 b4.1, .cp [.int .i64 b4.2.1, .int .i64 b4.2.2], .top, .top, .top, .top, .top, .top, .top, .top, .top, .top, .fn 53 [.cp [.int .i64 v2.1.f_Line, .int .i64 v2.1.f_At], .cp [.int .i64 v2.2.1.f_Line, .int .i64 v2.2.1.f_At], .cp [.sl false (List.map c_api_Line v2.2.2)]], .int .i64 b4.1, .agg [.int .i64 b4.2.1, .int .i64 b4.2.2], .top, .top, .top, .top, .top, .top, .top, .top, .top, .top, .top, .top, .top, .top, .top, .top, .top, .top, .top, .top, .top, .top, .top, .top, .top], [some [.int .i64 n5], some [.int .i64 n6], none], [], 0⟩ (.shutB (b := 2) rfl (fun d h => by simpa using List.all_eq_true.1 (rfl : List.all [.int .i64 b4.2.1, .int .i64 b4.2.2] (fun d => !d.tok) = true) d h) (.refl _)) rfl ?_
      refine ex_drw mo [1000, 1002, 1003, 1004, 1005, 1006, 1007, 1008, 1009, 1010] (by kernel_rfl) (l := [0, 1, 2, 3, 4, 5, 6, 7, 8, 9, 10, 11]) rfl ?_
      refine n_ 25 rfl rfl rfl (fun _ _ => x_load rfl rfl rfl sz22 un22 ag22 rfl) ?_
      refine p_ 26 rfl rfl rfl rfl (.move rfl rfl) ?_
      obtain ⟨v7, hv7, h⟩ := bindS h
      refine n_ 27 rfl rfl rfl (fun _ _ => x_idx (f := c_api_Line) (cs := [.int .i64 v7.f_Quote, .sl false (List.map c_i64 v7.f_Lists), .int .i64 v7.f_Kind, .sl false (List.map c_api_Cell v7.f_Cells)]) rfl rfl rfl el22 sz45 hv7 rfl rfl) ?_
      refine n_ 28 rfl rfl rfl (fun _ _ => .fieldAddr rfl rfl rfl fl45u_3 rfl) ?_
      refine n_ 29 rfl rfl rfl (fun _ _ => x_load rfl rfl rfl sz42 un42 ag42 rfl) ?_
      refine n_ 30 rfl rfl rfl (fun _ _ => .idxA (k := .i64) (i := 0) rfl rfl rfl rfl ar76 sz3 (by decide) (by decide) rfl) ?_
      refine n_ 31 rfl rfl rfl (fun _ _ => x_load rfl rfl rfl sz3 un3 ag3 rfl) ?_
      refine n_ 32 rfl rfl rfl (fun _ _ => .idxA (k := .i64) (i := 1) rfl rfl rfl rfl ar76 sz3 (by decide) (by decide) rfl) ?_
      refine n_ 33 rfl rfl rfl (fun _ _ => x_load rfl rfl rfl sz3 un3 ag3 rfl) ?_
      obtain ⟨v8, hv8, h⟩ := bindS h
      refine n_ 34 rfl rfl rfl (fun _ _ => x_cut rfl rfl el42 sz41 ⟨_, rfl⟩ ⟨_, rfl⟩ hv8 fl_api_Cell) ?_
      refine n_ 35 rfl rfl rfl (fun _ _ => x_len (f := c_api_Cell) (l := v8) rfl rfl rfl el42) ?_
      refine p_ 36 rfl rfl rfl rfl (.move rfl rfl) ?_
      refine we_nil ?_
      refine ex_block ?_
      obtain ⟨o17, hl, h⟩ := bindS h
      refine ex_gst ⟨[.top, .top, .top, .top, .cp [.sl false (List.map c_api_Line p0)], .top, .top, .cp [.fn g3 cs3], .bx 0 0, .bx 1 0, .top, .top, .top, .top, .top, .top, .top, .top, .top, .top, .top, .top, .fn 53 [.cp [.int .i64 v2.1.f_Line, .int .i64 v2.1.f_At], .cp [.int .i64 v2.2.1.f_Line, .int .i64 v2.2.1.f_At], .cp [.sl false (List.map c_api_Line v2.2.2)]], .top, .top, .top, .top, .top, .top, .top, .top, .top, .top, .top, .sl false (List.map c_api_Cell v8), .int .i64 (v8.length : Int), .int .i64 0, .top, .top, .top, .top, .top, .top, .top, .top, .top, .top, .top, .top, .top], [some [.int .i64 n5], some [.int .i64 n6]], [], 0⟩ (.re [false, false, false, false, true, false, false, true, true, true, false, false, false, false, false, false, false, false, false, false, false, false, true, false, false, false, false, false, false, false, false, false, false, false, true, true, true, false, false, false, false, false, false, false, false, false, false, false, false, false] [0, 1] [] rfl (.refl _)) rfl ?_
      refine ex_iterX (fun _ => .exit 2) (fun s => ⟨[.top, .top, .top, .top, .cp [.sl false (List.map c_api_Line p0)], .top, .top, .cp [.fn g3 cs3], .bx 0 0, .bx 1 0, .top, .top, .top, .top, .top, .top, .top, .top, .top, .top, .top, .top, .fn 53 [.cp [.int .i64 v2.1.f_Line, .int .i64 v2.1.f_At], .cp [.int .i64 v2.2.1.f_Line, .int .i64 v2.2.1.f_At], .cp [.sl false (List.map c_api_Line v2.2.2)]], .top, .top, .top, .top, .top, .top, .top, .top, .top, .top, .top, .sl false (List.map c_api_Cell v8), .int .i64 (v8.length : Int), .int .i64 s.2.2, .top, .top, .top, .top, .top, .top, .top, .top, .top, .top, .top, .top, .top], [some [.int .i64 s.1], some [.int .i64 s.2.1]], [], 0⟩) (fun o => ⟨[.top, .top, .top, .top, .cp [.sl false (List.map c_api_Line p0)], .top, .top, .cp [.fn g3 cs3], .bx 0 0, .bx 1 0, .top, .top, .top, .top, .top, .top, .top, .top, .top, .top, .top, .top, .fn 53 [.cp [.int .i64 v2.1.f_Line, .int .i64 v2.1.f_At], .cp [.int .i64 v2.2.1.f_Line, .int .i64 v2.2.1.f_At], .cp [.sl false (List.map c_api_Line v2.2.2)]], .top, .top, .top, .top, .top, .top, .top, .top, .top, .top, .top, .top, .top, .top, .top, .top, .top, .top, .top, .top, .top, .top, .top, .top, .top, .top, .top], [some [.int .i64 o.1], some [.int .i64 o.2]], [], 0⟩) hl rfl ?_ ?_
      · clear hl
        obtain ⟨k12, k13⟩ := o17
        cases h
        exact ⟨rfl, _, .re [false, false, false, false, true, false, false, true, true, true, false, false, false, false, false, false, false, false, false, false, false, false, true, false, false, false, false, false, false, false, false, false, false, false, false, false, false, false, false, false, false, false, false, false, false, false, false, false, false, false] [0, 1] [] rfl (.refl _), rfl⟩
      · clear hl h
        rintro ⟨n9, n10, n11⟩ y h
        replace h : doc_tells_l3 p3 v8 n9 n10 n11 = some y := h
        unfold doc_tells_l3 at h
        show Ex _ _ _ ⟨[.top, .top, .top, .top, .cp [.sl false (List.map c_api_Line p0)], .top, .top, .cp [.fn g3 cs3], .bx 0 0, .bx 1 0, .top, .top, .top, .top, .top, .top, .top, .top, .top, .top, .top, .top, .fn 53 [.cp [.int .i64 v2.1.f_Line, .int .i64 v2.1.f_At], .cp [.int .i64 v2.2.1.f_Line, .int .i64 v2.2.1.f_At], .cp [.sl false (List.map c_api_Line v2.2.2)]], .top, .top, .top, .top, .top, .top, .top, .top, .top, .top, .top, .sl false (List.map c_api_Cell v8), .int .i64 (v8.length : Int), .int .i64 n11, .top, .top, .top, .top, .top, .top, .top, .top, .top, .top, .top, .top, .top], [some [.int .i64 n9], some [.int .i64 n10]], [], 0⟩ _
        refine ex_seq ?_
        refine ex_ord [] (l := [0]) rfl ?_
        refine p_ 37 rfl rfl rfl rfl (.bin rfl rfl rfl rfl) ?_
        refine we_nil ?_
        refine ex_seq ?_
        refine ex_if rfl ?_ ?_
        · intro hc
          replace h := iteT h hc
          refine ex_skip ?_
          refine ex_seq ?_
          refine ex_block ?_
          refine ex_seq ?_
          refine ex_ord [2, 3] (l := [0, 1, 2, 3]) rfl ?_
          obtain ⟨v14, hv14, h⟩ := bindS h
          refine p_ 38 rfl rfl rfl rfl (x_idx (f := c_api_Cell) (cs := [.int .i32 v14.f_R, .int .i64 v14.f_Bits, .str (bs v14.f_Href)]) rfl rfl rfl el42 sz41 hv14 rfl rfl) ?_
          refine p_ 39 rfl rfl rfl rfl (x_loadA rfl rfl rfl sz41 un41 ag41 rfl) ?_
          refine e_ (d := .bx 2 0) 13 rfl rfl rfl rfl rfl (b' := [some [.int .i64 n9], some [.int .i64 n10], some [.int .i32 0, .int .i64 0, .str (bs [])]]) (r' := []) (.alloc rfl ze41) rfl ?_
          refine e0 rfl rfl rfl rfl rfl (b' := [some [.int .i64 n9], some [.int .i64 n10], some [.int .i32 v14.f_R, .int .i64 v14.f_Bits, .str (bs v14.f_Href)]]) (r' := []) (.store rfl rfl rfl sz41 rfl rfl rfl) rfl ?_
          refine we_nil ?_
          refine ex_seq ?_
          refine ex_gst ⟨[.top, .top, .top, .top, .cp [.sl false (List.map c_api_Line p0)], .top, .top, .cp [.fn g3 cs3], .bx 0 0, .bx 1 0, .top, .top, .top, .cp [.int .i32 v14.f_R, .int .i64 v14.f_Bits, .str (bs v14.f_Href)], .top, .top, .top, .top, .top, .top, .top, .top, .fn 53 [.cp [.int .i64 v2.1.f_Line, .int .i64 v2.1.f_At], .cp [.int .i64 v2.2.1.f_Line, .int .i64 v2.2.1.f_At], .cp [.sl false (List.map c_api_Line v2.2.2)]], .top, .top, .top, .top, .top, .top, .top, .top, .top, .top, .top, .sl false (List.map c_api_Cell v8), .int .i64 (v8.length : Int), .int .i64 n11, .bool (decide ((n11 : Int) < (v8.length : Int))), .cp [.int .i32 v14.f_R, .int .i64 v14.f_Bits, .str (bs v14.f_Href)], .agg [.int .i32 v14.f_R, .int .i64 v14.f_Bits, .str (bs v14.f_Href)], .top, .top, .top, .top, .top, .top, .top, .top, .top, .top], [some [.int .i64 n9], some [.int .i64 n10], none], [], 0⟩ (.shutB (b := 2) rfl (fun d h => by simpa using List.all_eq_true.1 (rfl : List.all [.int .i32 v14.f_R, .int .i64 v14.f_Bits, .str (bs v14.f_Href)] (fun d => !d.tok) = true) d h) (.refl _)) rfl ?_
          refine ex_ord [2] (l := [0, 1, 2]) rfl ?_
          refine p_ 40 rfl rfl rfl rfl (x_load rfl rfl rfl sz3 un3 ag3 rfl) ?_
          refine p_ 41 rfl rfl rfl rfl (.bin rfl rfl rfl rfl) ?_
          refine e0 rfl rfl rfl rfl rfl (b' := [some [.int .i64 (IntKind.wrap .i64 (n9 + 1))], some [.int .i64 n10], none]) (r' := []) (.store rfl rfl rfl sz3 rfl rfl rfl) rfl ?_
          refine we_nil ?_
          refine ex_seq ?_
          refine ex_ord [] (l := [0, 1, 2]) rfl ?_
          refine p_ 42 rfl rfl rfl rfl (x_load rfl rfl rfl sz89 un89 ag89 rfl) ?_
          refine p_ 43 rfl rfl rfl rfl (x_loadA rfl rfl rfl sz41 un41 ag41 rfl) ?_
          obtain ⟨v15, hv15, h⟩ := bindS h
          refine p_ 44 rfl rfl rfl rfl (x_callP rfl rfl hc3.en (hf3 _ _ hv15) rfl rfl (all_app rfl hc3.ok) hc3.nt rfl) ?_
          refine we_nil ?_
          obtain ⟨q16, hq, h⟩ := bindS h
          refine ex_cut ⟨[.top, .top, .top, .top, .cp [.sl false (List.map c_api_Line p0)], .top, .top, .cp [.fn g3 cs3], .bx 0 0, .bx 1 0, .top, .top, .top, .top, .top, .top, .top, .top, .top, .top, .top, .top, .fn 53 [.cp [.int .i64 v2.1.f_Line, .int .i64 v2.1.f_At], .cp [.int .i64 v2.2.1.f_Line, .int .i64 v2.2.1.f_At], .cp [.sl false (List.map c_api_Line v2.2.2)]], .top, .top, .top, .top, .top, .top, .top, .top, .top, .top, .top, .sl false (List.map c_api_Cell v8), .int .i64 (v8.length : Int), .int .i64 n11, .top, .top, .top, .top, .top, .top, .top, .top, .top, .top, .top, .top, .top], [some [.int .i64 (IntKind.wrap .i64 (n9 + 1))], some [.int .i64 q16]], [], 0⟩ ?_ ?_
          · clear h
            have h := hq
            clear hq
            refine ex_if rfl ?_ ?_
            · intro hc
              replace h := iteT h hc
              refine ex_ord [2] (l := [0, 1, 2]) rfl ?_
              refine p_ 45 rfl rfl rfl rfl (x_load rfl rfl rfl sz3 un3 ag3 rfl) ?_
              refine p_ 46 rfl rfl rfl rfl (.bin rfl rfl rfl rfl) ?_
              refine e0 rfl rfl rfl rfl rfl (b' := [some [.int .i64 (IntKind.wrap .i64 (n9 + 1))], some [.int .i64 (IntKind.wrap .i64 (n10 + 1))], none]) (r' := []) (.store rfl rfl rfl sz3 rfl rfl rfl) rfl ?_
              refine we_nil ?_
              cases h
              exact ⟨rfl, _, .re [false, false, false, false, true, false, false, true, true, true, false, false, false, false, false, false, false, false, false, false, false, false, true, false, false, false, false, false, false, false, false, false, false, false, true, true, true, false, false, false, false, false, false, false, false, false, false, false, false, false] [0, 1] [] rfl (.refl _), rfl⟩
            · intro hc
              replace h := iteF h hc
              refine ex_skip ?_
              cases h
              exact ⟨rfl, _, .re [false, false, false, false, true, false, false, true, true, true, false, false, false, false, false, false, false, false, false, false, false, false, true, false, false, false, false, false, false, false, false, false, false, false, true, true, true, false, false, false, false, false, false, false, false, false, false, false, false, false] [0, 1] [] rfl (.refl _), rfl⟩
          · clear hq
            refine ex_ord [] (l := [0, 1]) rfl ?_
            refine p_ 47 rfl rfl rfl rfl (.bin rfl rfl rfl rfl) ?_
            refine p_ 36 rfl rfl rfl rfl (.move rfl rfl) ?_
            refine we_nil ?_
            exact rnd_on rfl h (.re [false, false, false, false, true, false, false, true, true, true, false, false, false, false, false, false, false, false, false, false, false, false, true, false, false, false, false, false, false, false, false, false, false, false, true, true, true, false, false, false, false, false, false, false, false, false, false, false, false, false] [0, 1] [] rfl (.refl _)) rfl
        · intro hc
          replace h := iteF h hc
          refine ex_exit ?_
          exact rnd_out (o := (n9, n10)) rfl (fun h => by cases h) h (.re [false, false, false, false, true, false, false, true, true, true, false, false, false, false, false, false, false, false, false, false, false, false, true, false, false, false, false, false, false, false, false, false, false, false, false, false, false, false, false, false, false, false, false, false, false, false, false, false, false, false] [0, 1] [] rfl (.refl _)) rfl
theorem ok_doc_Delete {r : (List (T_api_Line)) × Int} {p0 : List (T_api_Line)} {p1 : T_api_Pos} {p2 : T_api_Pos} (h : doc_Delete p0 p1 p2 = some r) : OkB prog 15 [.sl false (List.map c_api_Line p0), .agg [.int .i64 p1.f_Line, .int .i64 p1.f_At], .agg [.int .i64 p2.f_Line, .int .i64 p2.f_At]] [] [] (.tup [.own 0, .int .i64 r.2]) [] [⟨45, 4, List.map c_api_Line r.1⟩] := by
  unfold doc_Delete at h
  refine okB_of_exG func15 rfl rfl (s0 := [.sl false (List.map c_api_Line p0), .agg [.int .i64 p1.f_Line, .int .i64 p1.f_At], .agg [.int .i64 p2.f_Line, .int .i64 p2.f_At], .top, .top, .top, .top, .top, .top, .top, .top, .top, .top, .top, .top, .top, .top, .top, .top, .top, .top, .top, .top, .top, .top, .top, .top, .top, .top, .top, .top, .top, .top, .top, .top, .top, .top, .top, .top, .top, .top, .top, .top, .top, .top, .top, .top, .top, .top, .top, .top, .top]) (b0 := []) (r0 := []) rfl rfl rfl ?_
  show Ex _ _ _ ⟨[.sl false (List.map c_api_Line p0), .agg [.int .i64 p1.f_Line, .int .i64 p1.f_At], .agg [.int .i64 p2.f_Line, .int .i64 p2.f_At], .top, .top, .top, .top, .top, .top, .top, .top, .top, .top, .top, .top, .top, .top, .top, .top, .top, .top, .top, .top, .top, .top, .top, .top, .top, .top, .top, .top, .top, .top, .top, .top, .top, .top, .top, .top, .top, .top, .top, .top, .top, .top, .top, .top, .top, .top, .top, .top, .top], [], [], 0⟩ _
  refine ex_seq ?_
  refine ex_ord [0, 1, 2] (l := [0, 1, 2, 3]) rfl ?_
  refine e_ (d := .bx 0 0) 4 rfl rfl rfl rfl rfl (b' := [some [.int .i64 p1.f_Line, .int .i64 p1.f_At]]) (r' := []) (.box rfl rfl rfl) rfl ?_
  refine e_ (d := .bx 1 0) 5 rfl rfl rfl rfl rfl (b' := [some [.int .i64 p1.f_Line, .int .i64 p1.f_At], some [.int .i64 p2.f_Line, .int .i64 p2.f_At]]) (r' := []) (.box rfl rfl rfl) rfl ?_
  refine e_ (d := .own 0) 6 rfl rfl rfl rfl rfl (b' := [some [.int .i64 p1.f_Line, .int .i64 p1.f_At], some [.int .i64 p2.f_Line, .int .i64 p2.f_At]]) (r' := [some ⟨45, 4, []⟩]) (.nilRow (.inr rfl) rfl 45 4) rfl ?_
  refine p_ 7 rfl rfl rfl rfl (.assign rfl rfl) ?_
  refine we_nil ?_
  refine ex_seq ?_
  refine ex_seq ?_
  refine ex_gst ⟨[.sl false (List.map c_api_Line p0), .agg [.int .i64 p1.f_Line, .int .i64 p1.f_At], .agg [.int .i64 p2.f_Line, .int .i64 p2.f_At], .top, .cp [.int .i64 p1.f_Line, .int .i64 p1.f_At], .bx 1 0, .own 0, .int .i64 0, .top, .top, .top, .top, .top, .top, .top, .top, .top, .top, .top, .top, .top, .top, .top, .top, .top, .top, .top, .top, .top, .top, .top, .top, .top, .top, .top, .top, .top, .top, .top, .top, .top, .top, .top, .top, .top, .top, .top, .top, .top, .top, .top, .top], [none, some [.int .i64 p2.f_Line, .int .i64 p2.f_At]], [some ⟨45, 4, []⟩], 0⟩ (.shutB (b := 0) rfl (fun d h => by simpa using List.all_eq_true.1 (rfl : List.all [.int .i64 p1.f_Line, .int .i64 p1.f_At] (fun d => !d.tok) = true) d h) (.refl _)) rfl ?_
  refine ex_gst ⟨[.sl false (List.map c_api_Line p0), .agg [.int .i64 p1.f_Line, .int .i64 p1.f_At], .agg [.int .i64 p2.f_Line, .int .i64 p2.f_At], .top, .cp [.int .i64 p1.f_Line, .int .i64 p1.f_At], .cp [.int .i64 p2.f_Line, .int .i64 p2.f_At], .own 0, .int .i64 0, .top, .top, .top, .top, .top, .top, .top, .top, .top, .top, .top, .top, .top, .top, .top, .top, .top, .top, .top, .top, .top, .top, .top, .top, .top, .top, .top, .top, .top, .top, .top, .top, .top, .top, .top, .top, .top, .top, .top, .top, .top, .top, .top, .top], [none, none], [some ⟨45, 4, []⟩], 0⟩ (.shutB (b := 1) rfl (fun d h => by simpa using List.all_eq_true.1 (rfl : List.all [.int .i64 p2.f_Line, .int .i64 p2.f_At] (fun d => !d.tok) = true) d h) (.refl _)) rfl ?_
  refine ex_ord [] (l := [0, 1, 2, 3, 4]) rfl ?_
  refine p_ 10 rfl rfl rfl rfl (.move rfl rfl) ?_
  refine p_ 11 rfl rfl rfl rfl (x_loadA rfl rfl rfl sz29 un29 ag29 rfl) ?_
  refine p_ 12 rfl rfl rfl rfl (x_loadA rfl rfl rfl sz29 un29 ag29 rfl) ?_
  obtain ⟨v1, hv1, h⟩ := bindS h
  refine p_ 13 rfl rfl rfl rfl (x_callP rfl rfl en20 (ok_doc_span hv1) rfl rfl rfl rfl rfl) ?_
  refine p_ 14 rfl rfl rfl rfl (.un rfl rfl rfl) ?_
  refine we_nil ?_
  refine ex_if rfl ?_ ?_
  · intro hc
    replace h := iteT h hc
    refine ex_seq ?_
    refine ex_ord [0] (l := [0, 1]) rfl ?_
    refine e_ (d := .own 1) 6 rfl rfl rfl rfl rfl (b' := [none, none]) (r' := [some ⟨45, 4, []⟩, some ⟨45, 4, []⟩]) (.nilRow (.inr rfl) rfl 45 4) rfl ?_
    refine p_ 7 rfl rfl rfl rfl (.assign rfl rfl) ?_
    refine we_nil ?_
    refine ex_ret ?_
    obtain rfl := Option.some.inj h
    exact finB (by first | exact .inr rfl | exact .inl rfl) (.refl _) [.own 1, .int .i64 1] [1] [] (res_cons (res_tmp rfl) (res_cons (res_tmp rfl) res_nil)) rfl rfl rfl rfl rfl rfl rfl
  · intro hc
    replace h := iteF h hc
    refine ex_skip ?_
    refine ex_seq ?_
    refine ex_ord [1] (l := [0, 1, 2]) rfl ?_
    refine p_ 15 rfl rfl rfl rfl (.move rfl rfl) ?_
    obtain ⟨v2, hv2, h⟩ := bindS h
    refine e_ (d := .own 1) 16 rfl rfl rfl rfl rfl (b' := [none, none]) (r' := [some ⟨45, 4, []⟩, some ⟨45, 4, List.map c_api_Line v2⟩]) (x_call [] [] rfl rfl en21 (ok_doc_Own hv2) rfl rfl rfl rfl rfl rfl rfl rfl rfl rfl rfl rfl rfl rfl) rfl ?_
    refine p_ 8 rfl rfl rfl rfl (.assign rfl rfl) ?_
    refine we_nil ?_
    refine ex_seq ?_
    refine ex_ord [5, 6] (l := [0, 1, 2, 3, 4, 5, 6]) rfl ?_
    refine p_ 17 rfl rfl rfl rfl (.move rfl rfl) ?_
    refine p_ 18 rfl rfl rfl rfl (.fieldAddr rfl rfl rfl fl29u_0 rfl) ?_
    refine p_ 19 rfl rfl rfl rfl (x_load rfl rfl rfl sz3 un3 ag3 rfl) ?_
    obtain ⟨v3, hv3, h⟩ := bindS h
    refine p_ 20 rfl rfl rfl rfl (x_idxO (f := c_api_Line) (l := v2) rfl rfl rfl rfl rfl el22 sz45 hv3 rfl) ?_
    obtain ⟨v4, hv4, h⟩ := bindS h
    refine p_ 21 rfl rfl rfl rfl (x_loadA rfl rfl (at_ex (f := c_api_Line) (xs := v2) (c := [.int .i64 v4.f_Quote, .sl false (List.map c_i64 v4.f_Lists), .int .i64 v4.f_Kind, .sl false (List.map c_api_Cell v4.f_Cells)]) rfl rfl (getI_some hv4).2 rfl (Nat.le_of_ble_eq_true rfl)) sz45 un45 ag45 rfl) ?_
    refine e_ (d := .bx 2 0) 9 rfl rfl rfl rfl rfl (b' := [none, none, some [.int .i64 0, .sl false [], .int .i64 0, .sl false []]]) (r' := [some ⟨45, 4, []⟩, some ⟨45, 4, List.map c_api_Line v2⟩]) (.alloc rfl ze45) rfl ?_
    refine e0 rfl rfl rfl rfl rfl (b' := [none, none, some [.int .i64 v4.f_Quote, .sl false (List.map c_i64 v4.f_Lists), .int .i64 v4.f_Kind, .sl false (List.map c_api_Cell v4.f_Cells)]]) (r' := [some ⟨45, 4, []⟩, some ⟨45, 4, List.map c_api_Line v2⟩]) (.store rfl rfl rfl sz45 rfl rfl rfl) rfl ?_
    refine we_nil ?_
    refine ex_seq ?_
    refine ex_drw mo [18, 19, 21, 1001, 1002, 1003, 1004, 1005, 1006, 1007, 1008, 1010, 1011, 1012, 1013, 1014, 1015, 1016, 1017, 2020, 3018, 3019, 3021, 2100002, 2200002] (by kernel_rfl) (l := [0, 1, 2, 3, 4, 5, 6, 7, 8, 9, 10, 11, 12, 13, 14, 15, 16, 17, 18, 19, 20, 21]) rfl ?_
    refine p_ 22 rfl rfl rfl rfl (.move rfl rfl) ?_
    refine n_ 23 rfl rfl rfl (fun _ _ => .fieldAddr rfl rfl rfl fl29u_0 rfl) ?_
    refine n_ 24 rfl rfl rfl (fun _ _ => x_load rfl rfl rfl sz3 un3 ag3 rfl) ?_
    obtain ⟨v5, hv5, h⟩ := bindS h
    refine n_ 25 rfl rfl rfl (fun _ _ => x_idx (f := c_api_Line) (cs := [.int .i64 v5.f_Quote, .sl false (List.map c_i64 v5.f_Lists), .int .i64 v5.f_Kind, .sl false (List.map c_api_Cell v5.f_Cells)]) rfl rfl rfl el22 sz45 hv5 rfl rfl) ?_
    refine n_ 26 rfl rfl rfl (fun _ _ => .fieldAddr rfl rfl rfl fl45u_3 rfl) ?_
    refine n_ 27 rfl rfl rfl (fun _ _ => x_load rfl rfl rfl sz42 un42 ag42 rfl) ?_
    refine n_ 28 rfl rfl rfl (fun _ _ => .fieldAddr rfl rfl rfl fl29u_1 rfl) ?_
    refine n_ 29 rfl rfl rfl (fun _ _ => x_load rfl rfl rfl sz3 un3 ag3 rfl) ?_
    obtain ⟨v6, hv6, h⟩ := bindS h
    refine n_ 30 rfl rfl rfl (fun _ _ => x_cut rfl rfl el42 sz41 rfl ⟨_, rfl⟩ hv6 fl_api_Cell) ?_
    refine p_ 31 rfl rfl rfl rfl (.move rfl rfl) ?_
    refine n_ 32 rfl rfl rfl (fun _ _ => .fieldAddr rfl rfl rfl fl29u_0 rfl) ?_
    refine n_ 33 rfl rfl rfl (fun _ _ => x_load rfl rfl rfl sz3 un3 ag3 rfl) ?_
    obtain ⟨v7, hv7, h⟩ := bindS h
    refine n_ 34 rfl rfl rfl (fun _ _ => x_idx (f := c_api_Line) (cs := [.int .i64 v7.f_Quote, .sl false (List.map c_i64 v7.f_Lists), .int .i64 v7.f_Kind, .sl false (List.map c_api_Cell v7.f_Cells)]) rfl rfl rfl el22 sz45 hv7 rfl rfl) ?_
    refine n_ 35 rfl rfl rfl (fun _ _ => .fieldAddr rfl rfl rfl fl45u_3 rfl) ?_
    refine n_ 36 rfl rfl rfl (fun _ _ => x_load rfl rfl rfl sz42 un42 ag42 rfl) ?_
    refine n_ 37 rfl rfl rfl (fun _ _ => .fieldAddr rfl rfl rfl fl29u_1 rfl) ?_
    refine n_ 38 rfl rfl rfl (fun _ _ => x_load rfl rfl rfl sz3 un3 ag3 rfl) ?_
    obtain ⟨v8, hv8, h⟩ := bindS h
    refine n_ 39 rfl rfl rfl (fun _ _ => x_cut rfl rfl el42 sz41 ⟨_, rfl⟩ (by simp [hiIs]) hv8 fl_api_Cell) ?_
    refine e_ (d := .own 2) 40 rfl rfl rfl rfl rfl (b' := [none, none, some [.int .i64 v4.f_Quote, .sl false (List.map c_i64 v4.f_Lists), .int .i64 v4.f_Kind, .sl false (List.map c_api_Cell v4.f_Cells)]]) (r' := [some ⟨45, 4, []⟩, some ⟨45, 4, List.map c_api_Line v2⟩, some ⟨42, 1, List.map c_Lapi_Cell [v6, v8]⟩]) (x_lit (f := c_Lapi_Cell) (l := [v6, v8]) rfl el65 rw42 zs42 rfl rfl rfl (by decide) (by decide) fl_Lapi_Cell rfl) rfl ?_
    obtain ⟨v9, hv9, h⟩ := bindS h
    refine e_ (d := .own 3) 41 rfl rfl rfl rfl rfl (b' := [none, none, some [.int .i64 v4.f_Quote, .sl false (List.map c_i64 v4.f_Lists), .int .i64 v4.f_Kind, .sl false (List.map c_api_Cell v4.f_Cells)]]) (r' := [some ⟨45, 4, []⟩, some ⟨45, 4, List.map c_api_Line v2⟩, none, some ⟨41, 3, List.map c_api_Cell v9⟩]) (x_call [] [2] rfl rfl en22 (ok_slices_Concat_apiCell hv9) rfl rfl rfl rfl rfl rfl rfl rfl rfl rfl rfl rfl rfl rfl) rfl ?_
    refine r_ 42 2 rfl rfl rfl rfl rfl rfl (fun _ _ hb => .fieldAddr rfl rfl (live_bx hb) fl45u_3 rfl) ?_
    refine e0 rfl rfl rfl rfl rfl (b' := [none, none, some [.int .i64 v4.f_Quote, .sl false (List.map c_i64 v4.f_Lists), .int .i64 v4.f_Kind, .own 3]]) (r' := [some ⟨45, 4, []⟩, some ⟨45, 4, List.map c_api_Line v2⟩, none, some ⟨41, 3, List.map c_api_Cell v9⟩]) (hb := set_out 2 (some [.int .i64 v4.f_Quote, .sl false (List.map c_i64 v4.f_Lists), .int .i64 v4.f_Kind, .own 3]) rfl rfl) (.store rfl rfl rfl sz42 rfl rfl rfl) rfl ?_
    refine we_nil ?_
    refine ex_seq ?_
    refine ex_gst ⟨[.sl false (List.map c_api_Line p0), .agg [.int .i64 p1.f_Line, .int .i64 p1.f_At], .agg [.int .i64 p2.f_Line, .int .i64 p2.f_At], .top, .cp [.int .i64 p1.f_Line, .int .i64 p1.f_At], .cp [.int .i64 p2.f_Line, .int .i64 p2.f_At], .own 0, .int .i64 0, .own 1, .bx 2 0, .sl false (List.map c_api_Line p0), .agg [.int .i64 p1.f_Line, .int .i64 p1.f_At], .agg [.int .i64 p2.f_Line, .int .i64 p2.f_At], .bool v1, .bool (!v1), .sl false (List.map c_api_Line p0), .own 1, .own 1, .cp [.int .i64 p1.f_Line, .int .i64 p1.f_At], .int .i64 p1.f_Line, .ex 1 (Int.toNat p1.f_Line) 0, .agg [.int .i64 v4.f_Quote, .sl false (List.map c_i64 v4.f_Lists), .int .i64 v4.f_Kind, .sl false (List.map c_api_Cell v4.f_Cells)], .sl false (List.map c_api_Line p0), .cp [.int .i64 p1.f_Line, .int .i64 p1.f_At], .int .i64 p1.f_Line, .cp [.int .i64 v5.f_Quote, .sl false (List.map c_i64 v5.f_Lists), .int .i64 v5.f_Kind, .sl false (List.map c_api_Cell v5.f_Cells)], .cp [.sl false (List.map c_api_Cell v5.f_Cells)], .sl false (List.map c_api_Cell v5.f_Cells), .cp [.int .i64 p1.f_At], .int .i64 p1.f_At, .sl false (List.map c_api_Cell v6), .sl false (List.map c_api_Line p0), .cp [.int .i64 p2.f_Line, .int .i64 p2.f_At], .int .i64 p2.f_Line, .cp [.int .i64 v7.f_Quote, .sl false (List.map c_i64 v7.f_Lists), .int .i64 v7.f_Kind, .sl false (List.map c_api_Cell v7.f_Cells)], .cp [.sl false (List.map c_api_Cell v7.f_Cells)], .sl false (List.map c_api_Cell v7.f_Cells), .cp [.int .i64 p2.f_At], .int .i64 p2.f_At, .sl false (List.map c_api_Cell v8), .own 2, .sl false (List.map c_api_Cell v9), .bx 2 3, .top, .top, .top, .top, .top, .top, .top, .top, .top], [none, none, some [.int .i64 v4.f_Quote, .sl false (List.map c_i64 v4.f_Lists), .int .i64 v4.f_Kind, .sl false (List.map c_api_Cell v9)]], [some ⟨45, 4, []⟩, some ⟨45, 4, List.map c_api_Line v2⟩, none, none], 0⟩ (.shutR false (t := 3) rfl (.refl _)) rfl ?_
    refine ex_ord [7, 8] (l := [0, 1, 2, 3, 4, 5, 6, 7, 8, 9, 10]) rfl ?_
    refine p_ 43 rfl rfl rfl rfl (.move rfl rfl) ?_
    refine p_ 44 rfl rfl rfl rfl (.fieldAddr rfl rfl rfl fl29u_0 rfl) ?_
    refine p_ 45 rfl rfl rfl rfl (x_load rfl rfl rfl sz3 un3 ag3 rfl) ?_
    refine p_ 46 rfl rfl rfl rfl (.fieldAddr rfl rfl rfl fl29u_0 rfl) ?_
    refine p_ 47 rfl rfl rfl rfl (x_load rfl rfl rfl sz3 un3 ag3 rfl) ?_
    refine p_ 48 rfl rfl rfl rfl (.bin rfl rfl rfl rfl) ?_
    refine p_ 49 rfl rfl rfl rfl (x_loadA rfl rfl rfl sz45 un45 ag45 rfl) ?_
    refine e_ (d := .sl false (List.map c_api_Line [(T_api_Line.mk (v4.f_Quote) (v4.f_Lists) (v4.f_Kind) (v9) : T_api_Line)])) 50 rfl rfl rfl rfl rfl (b' := [none, none, some [.int .i64 v4.f_Quote, .sl false (List.map c_i64 v4.f_Lists), .int .i64 v4.f_Kind, .sl false (List.map c_api_Cell v9)]]) (r' := [some ⟨45, 4, []⟩, some ⟨45, 4, List.map c_api_Line v2⟩, none, none, none]) (x_litF (f := c_api_Line) (l := [(T_api_Line.mk (v4.f_Quote) (v4.f_Lists) (v4.f_Kind) (v9) : T_api_Line)]) rfl el22 rw45 zs45 rfl rfl rfl (by decide) (by decide) fl_api_Line rfl) rfl ?_
    obtain ⟨v10, hv10, h⟩ := bindS h
    refine e_ (d := .own 5) 51 rfl rfl rfl rfl rfl (b' := [none, none, some [.int .i64 v4.f_Quote, .sl false (List.map c_i64 v4.f_Lists), .int .i64 v4.f_Kind, .sl false (List.map c_api_Cell v9)]]) (r' := [some ⟨45, 4, []⟩, none, none, none, none, some ⟨45, 4, List.map c_api_Line v10⟩]) (x_call [] [1] rfl rfl en23 (ok_slices_Replace_apiLine hv10) rfl rfl rfl rfl rfl rfl rfl rfl rfl rfl rfl rfl rfl rfl) rfl ?_
    refine p_ 6 rfl rfl rfl rfl (.assign rfl rfl) ?_
    refine p_ 7 rfl rfl rfl rfl (.assign rfl rfl) ?_
    refine we_nil ?_
    refine ex_ret ?_
    obtain rfl := Option.some.inj h
    exact finB (by first | exact .inr rfl | exact .inl rfl) (.refl _) [.own 5, .int .i64 0] [5] [] (res_cons (res_tmp rfl) (res_cons (res_tmp rfl) res_nil)) rfl rfl rfl rfl rfl rfl rfl
theorem ok_doc_Split {r : (List (T_api_Line)) × T_api_Pos × Int} {p0 : List (T_api_Line)} {p1 : T_api_Pos} (h : doc_Split p0 p1 = some r) : OkB prog 16 [.sl false (List.map c_api_Line p0), .agg [.int .i64 p1.f_Line, .int .i64 p1.f_At]] [] [] (.tup [.own 0, .agg [.int .i64 r.2.1.f_Line, .int .i64 r.2.1.f_At], .int .i64 r.2.2]) [] [⟨45, 4, List.map c_api_Line r.1⟩] := by
  unfold doc_Split at h
  refine okB_of_exG func16 rfl rfl (s0 := [.sl false (List.map c_api_Line p0), .agg [.int .i64 p1.f_Line, .int .i64 p1.f_At], .top, .top, .top, .top, .top, .top, .top, .top, .top, .top, .top, .top, .top, .top, .top, .top, .top, .top, .top, .top, .top, .top, .top, .top, .top, .top, .top, .top, .top, .top, .top, .top, .top, .top, .top, .top, .top, .top, .top, .top, .top, .top, .top, .top, .top, .top, .top]) (b0 := []) (r0 := []) rfl rfl rfl ?_
  show Ex _ _ _ ⟨[.sl false (List.map c_api_Line p0), .agg [.int .i64 p1.f_Line, .int .i64 p1.f_At], .top, .top, .top, .top, .top, .top, .top, .top, .top, .top, .top, .top, .top, .top, .top, .top, .top, .top, .top, .top, .top, .top, .top, .top, .top, .top, .top, .top, .top, .top, .top, .top, .top, .top, .top, .top, .top, .top, .top, .top, .top, .top, .top, .top, .top, .top, .top], [], [], 0⟩ _
  refine ex_seq ?_
  refine ex_ord [0, 1, 2] (l := [0, 1, 2, 3]) rfl ?_
  refine e_ (d := .bx 0 0) 3 rfl rfl rfl rfl rfl (b' := [some [.int .i64 p1.f_Line, .int .i64 p1.f_At]]) (r' := []) (.box rfl rfl rfl) rfl ?_
  refine e_ (d := .own 0) 4 rfl rfl rfl rfl rfl (b' := [some [.int .i64 p1.f_Line, .int .i64 p1.f_At]]) (r' := [some ⟨45, 4, []⟩]) (.nilRow (.inr rfl) rfl 45 4) rfl ?_
  refine e_ (d := .bx 1 0) 5 rfl rfl rfl rfl rfl (b' := [some [.int .i64 p1.f_Line, .int .i64 p1.f_At], some [.int .i64 0, .int .i64 0]]) (r' := [some ⟨45, 4, []⟩]) (.alloc rfl ze29) rfl ?_
  refine p_ 6 rfl rfl rfl rfl (.assign rfl rfl) ?_
  refine we_nil ?_
  refine ex_seq ?_
  refine ex_block ?_
  refine ex_seq ?_
  refine ex_gst ⟨[.sl false (List.map c_api_Line p0), .agg [.int .i64 p1.f_Line, .int .i64 p1.f_At], .top, .cp [.int .i64 p1.f_Line, .int .i64 p1.f_At], .own 0, .bx 1 0, .int .i64 0, .top, .top, .top, .top, .top, .top, .top, .top, .top, .top, .top, .top, .top, .top, .top, .top, .top, .top, .top, .top, .top, .top, .top, .top, .top, .top, .top, .top, .top, .top, .top, .top, .top, .top, .top, .top, .top, .top, .top, .top, .top, .top], [none, some [.int .i64 0, .int .i64 0]], [some ⟨45, 4, []⟩], 0⟩ (.shutB (b := 0) rfl (fun d h => by simpa using List.all_eq_true.1 (rfl : List.all [.int .i64 p1.f_Line, .int .i64 p1.f_At] (fun d => !d.tok) = true) d h) (.refl _)) rfl ?_
  refine ex_ord [] (l := [0, 1, 2, 3, 4, 5]) rfl ?_
  refine p_ 11 rfl rfl rfl rfl (.move rfl rfl) ?_
  refine p_ 12 rfl rfl rfl rfl (x_loadA rfl rfl rfl sz29 un29 ag29 rfl) ?_
  refine p_ 13 rfl rfl rfl rfl (x_loadA rfl rfl rfl sz29 un29 ag29 rfl) ?_
  obtain ⟨v1, hv1, h⟩ := bindS h
  refine p_ 14 rfl rfl rfl rfl (x_callP rfl rfl en20 (ok_doc_span hv1) rfl rfl rfl rfl rfl) ?_
  refine p_ 15 rfl rfl rfl rfl (.un rfl rfl rfl) ?_
  refine p_ 10 rfl rfl rfl rfl (.assign rfl rfl) ?_
  refine we_nil ?_
  refine ex_if rfl ?_ ?_
  · intro hc
    replace h := iteT h hc
    refine ex_seq ?_
    refine ex_ord [1, 2] (l := [0, 1, 2, 3]) rfl ?_
    refine p_ 16 rfl rfl rfl rfl (x_build rfl pl29 ze29 rfl rfl rfl rfl) ?_
    refine e_ (d := .own 1) 4 rfl rfl rfl rfl rfl (b' := [none, some [.int .i64 0, .int .i64 0]]) (r' := [some ⟨45, 4, []⟩, some ⟨45, 4, []⟩]) (.nilRow (.inr rfl) rfl 45 4) rfl ?_
    refine e0 rfl rfl rfl rfl rfl (b' := [none, some [.int .i64 0, .int .i64 0]]) (r' := [some ⟨45, 4, []⟩, some ⟨45, 4, []⟩]) (.store rfl rfl rfl sz29 rfl rfl rfl) rfl ?_
    refine p_ 6 rfl rfl rfl rfl (.assign rfl rfl) ?_
    refine we_nil ?_
    refine ex_ret ?_
    obtain rfl := Option.some.inj h
    exact finB (by first | exact .inr rfl | exact .inl rfl) (.refl _) [.own 1, .agg [.int .i64 0, .int .i64 0], .int .i64 1] [1] [] (res_cons (res_tmp rfl) (res_cons (res_cell rfl rfl sz29 un29 ag29 rfl) (res_cons (res_tmp rfl) res_nil))) rfl rfl rfl rfl rfl rfl rfl
  · intro hc
    replace h := iteF h hc
    refine ex_seq ?_
    refine ex_ord [] (l := [0, 1, 2, 3]) rfl ?_
    refine p_ 18 rfl rfl rfl rfl (.move rfl rfl) ?_
    refine p_ 19 rfl rfl rfl rfl (x_len (f := c_api_Line) (l := p0) rfl rfl rfl el22) ?_
    refine p_ 20 rfl rfl rfl rfl (.bin rfl rfl rfl rfl) ?_
    refine p_ 17 rfl rfl rfl rfl (.assign rfl rfl) ?_
    refine we_nil ?_
    refine ex_if rfl ?_ ?_
    · intro hc
      replace h := iteT h hc
      refine ex_seq ?_
      refine ex_ord [1, 2] (l := [0, 1, 2, 3]) rfl ?_
      refine p_ 21 rfl rfl rfl rfl (x_build rfl pl29 ze29 rfl rfl rfl rfl) ?_
      refine e_ (d := .own 1) 4 rfl rfl rfl rfl rfl (b' := [none, some [.int .i64 0, .int .i64 0]]) (r' := [some ⟨45, 4, []⟩, some ⟨45, 4, []⟩]) (.nilRow (.inr rfl) rfl 45 4) rfl ?_
      refine e0 rfl rfl rfl rfl rfl (b' := [none, some [.int .i64 0, .int .i64 0]]) (r' := [some ⟨45, 4, []⟩, some ⟨45, 4, []⟩]) (.store rfl rfl rfl sz29 rfl rfl rfl) rfl ?_
      refine p_ 6 rfl rfl rfl rfl (.assign rfl rfl) ?_
      refine we_nil ?_
      refine ex_ret ?_
      obtain rfl := Option.some.inj h
      exact finB (by first | exact .inr rfl | exact .inl rfl) (.refl _) [.own 1, .agg [.int .i64 0, .int .i64 0], .int .i64 10] [1] [] (res_cons (res_tmp rfl) (res_cons (res_cell rfl rfl sz29 un29 ag29 rfl) (res_cons (res_tmp rfl) res_nil))) rfl rfl rfl rfl rfl rfl rfl
    · intro hc
      replace h := iteF h hc
      refine ex_skip ?_
      refine ex_seq ?_
      obtain ⟨⟨q2, q3, q4, q5, q6, q7, q8, q9⟩, hq, h⟩ := bindS h
      refine ex_cut ⟨[.sl false (List.map c_api_Line p0), .top, .top, .cp [.int .i64 p1.f_Line, .int .i64 p1.f_At], .top, .bx 0 0, .top, .bx 1 0, .bx 2 0, .top, .top, .top, .top, .top, .top, .top, .top, .top, .top, .top, .top, .top, .top, .top, .top, .top, .top, .top, .top, .top, .top, .top, .top, .top, .top, .top, .top, .top, .top, .top, .top, .top, .top, .top, .top, .top, .top, .top, .top], [some [.int .i64 0, .int .i64 0], some [.int .i64 q2, .sl false (List.map c_i64 q3), .int .i64 q4, .sl false (List.map c_api_Cell q5)], some [.int .i64 q6, .sl false (List.map c_i64 q7), .int .i64 q8, .sl false (List.map c_api_Cell q9)]], [], 0⟩ ?_ ?_
      · clear h
        have h := hq
        clear hq
        refine ex_sh mo [12, 13, 14, 15, 1001, 1002, 1003, 1004, 1005, 1006, 1007] (.pre [0, 1, 2, 3, 4, 5, 6, 7, 8, 9, 10, 11] (.fork 12 13 (.pre [13, 14, 15, 16] .nil) (.pre [12, 14, 15, 16] .nil))) (by kernel_rfl) ?_
        refine sh_pre ?_
        refine p_ 23 rfl rfl rfl rfl (.move rfl rfl) ?_
        refine n_ 24 rfl rfl rfl (fun _ _ => .fieldAddr rfl rfl rfl fl29u_0 rfl) ?_
        refine n_ 25 rfl rfl rfl (fun _ _ => x_load rfl rfl rfl sz3 un3 ag3 rfl) ?_
        obtain ⟨v10, hv10, h⟩ := bindS h
        refine n_ 26 rfl rfl rfl (fun _ _ => x_idx (f := c_api_Line) (cs := [.int .i64 v10.f_Quote, .sl false (List.map c_i64 v10.f_Lists), .int .i64 v10.f_Kind, .sl false (List.map c_api_Cell v10.f_Cells)]) rfl rfl rfl el22 sz45 hv10 rfl rfl) ?_
        refine n_ 27 rfl rfl rfl (fun _ _ => x_loadA rfl rfl rfl sz45 un45 ag45 rfl) ?_
        refine n_ 28 rfl rfl rfl (fun _ _ => .fieldAddr rfl rfl rfl fl29u_1 rfl) ?_
        refine n_ 29 rfl rfl rfl (fun _ _ => x_load rfl rfl rfl sz3 un3 ag3 rfl) ?_
        obtain ⟨v11, hv11, h⟩ := bindS h
        refine n_ 30 rfl rfl rfl (fun _ _ => x_callP rfl rfl en24 (ok_lines_Split hv11) rfl rfl rfl rfl rfl) ?_
        refine p_ 22 rfl rfl rfl rfl (.move rfl rfl) ?_
        refine p_ 31 rfl rfl rfl rfl (.extract rfl rfl rfl rfl) ?_
        refine p_ 32 rfl rfl rfl rfl (.extract rfl rfl rfl rfl) ?_
        refine p_ 33 rfl rfl rfl rfl (.extract rfl rfl rfl rfl) ?_
        refine we_nil ?_
        refine sh_fork ?_ ?_
        · refine e_ (d := .bx 2 0) 7 rfl rfl rfl rfl rfl (b' := [none, some [.int .i64 0, .int .i64 0], some [.int .i64 0, .sl false [], .int .i64 0, .sl false []]]) (r' := [some ⟨45, 4, []⟩]) (.alloc rfl ze45) rfl ?_
          refine e_ (d := .bx 3 0) 8 rfl rfl rfl rfl rfl (b' := [none, some [.int .i64 0, .int .i64 0], some [.int .i64 0, .sl false [], .int .i64 0, .sl false []], some [.int .i64 0, .sl false [], .int .i64 0, .sl false []]]) (r' := [some ⟨45, 4, []⟩]) (.alloc rfl ze45) rfl ?_
          refine e0 rfl rfl rfl rfl rfl (b' := [none, some [.int .i64 0, .int .i64 0], some [.int .i64 v11.1.f_Quote, .sl false (List.map c_i64 v11.1.f_Lists), .int .i64 v11.1.f_Kind, .sl false (List.map c_api_Cell v11.1.f_Cells)], some [.int .i64 0, .sl false [], .int .i64 0, .sl false []]]) (r' := [some ⟨45, 4, []⟩]) (.store rfl rfl rfl sz45 rfl rfl rfl) rfl ?_
          refine e0 rfl rfl rfl rfl rfl (b' := [none, some [.int .i64 0, .int .i64 0], some [.int .i64 v11.1.f_Quote, .sl false (List.map c_i64 v11.1.f_Lists), .int .i64 v11.1.f_Kind, .sl false (List.map c_api_Cell v11.1.f_Cells)], some [.int .i64 v11.2.1.f_Quote, .sl false (List.map c_i64 v11.2.1.f_Lists), .int .i64 v11.2.1.f_Kind, .sl false (List.map c_api_Cell v11.2.1.f_Cells)]]) (r' := [some ⟨45, 4, []⟩]) (.store rfl rfl rfl sz45 rfl rfl rfl) rfl ?_
          refine p_ 9 rfl rfl rfl rfl (.assign rfl rfl) ?_
          refine we_nil ?_
          cases h
          exact ⟨rfl, _, .re [true, false, false, true, false, true, false, true, true, false, false, false, false, false, false, false, false, false, false, false, false, false, false, false, false, false, false, false, false, false, false, false, false, false, false, false, false, false, false, false, false, false, false, false, false, false, false, false, false] [1, 2, 3] [] rfl (.refl _), rfl⟩
        · refine e_ (d := .bx 2 0) 8 rfl rfl rfl rfl rfl (b' := [none, some [.int .i64 0, .int .i64 0], some [.int .i64 0, .sl false [], .int .i64 0, .sl false []]]) (r' := [some ⟨45, 4, []⟩]) (.alloc rfl ze45) rfl ?_
          refine e_ (d := .bx 3 0) 7 rfl rfl rfl rfl rfl (b' := [none, some [.int .i64 0, .int .i64 0], some [.int .i64 0, .sl false [], .int .i64 0, .sl false []], some [.int .i64 0, .sl false [], .int .i64 0, .sl false []]]) (r' := [some ⟨45, 4, []⟩]) (.alloc rfl ze45) rfl ?_
          refine e0 rfl rfl rfl rfl rfl (b' := [none, some [.int .i64 0, .int .i64 0], some [.int .i64 0, .sl false [], .int .i64 0, .sl false []], some [.int .i64 v11.1.f_Quote, .sl false (List.map c_i64 v11.1.f_Lists), .int .i64 v11.1.f_Kind, .sl false (List.map c_api_Cell v11.1.f_Cells)]]) (r' := [some ⟨45, 4, []⟩]) (.store rfl rfl rfl sz45 rfl rfl rfl) rfl ?_
          refine e0 rfl rfl rfl rfl rfl (b' := [none, some [.int .i64 0, .int .i64 0], some [.int .i64 v11.2.1.f_Quote, .sl false (List.map c_i64 v11.2.1.f_Lists), .int .i64 v11.2.1.f_Kind, .sl false (List.map c_api_Cell v11.2.1.f_Cells)], some [.int .i64 v11.1.f_Quote, .sl false (List.map c_i64 v11.1.f_Lists), .int .i64 v11.1.f_Kind, .sl false (List.map c_api_Cell v11.1.f_Cells)]]) (r' := [some ⟨45, 4, []⟩]) (.store rfl rfl rfl sz45 rfl rfl rfl) rfl ?_
          refine p_ 9 rfl rfl rfl rfl (.assign rfl rfl) ?_
          refine we_nil ?_
          cases h
          exact ⟨rfl, _, .re [true, false, false, true, false, true, false, true, true, false, false, false, false, false, false, false, false, false, false, false, false, false, false, false, false, false, false, false, false, false, false, false, false, false, false, false, false, false, false, false, false, false, false, false, false, false, false, false, false] [1, 3, 2] [] rfl (.refl _), rfl⟩
      · clear hq
        refine ex_seq ?_
        refine ex_gst ⟨[.sl false (List.map c_api_Line p0), .top, .top, .cp [.int .i64 p1.f_Line, .int .i64 p1.f_At], .top, .bx 0 0, .top, .cp [.int .i64 q2, .sl false (List.map c_i64 q3), .int .i64 q4, .sl false (List.map c_api_Cell q5)], .bx 2 0, .top, .top, .top, .top, .top, .top, .top, .top, .top, .top, .top, .top, .top, .top, .top, .top, .top, .top, .top, .top, .top, .top, .top, .top, .top, .top, .top, .top, .top, .top, .top, .top, .top, .top, .top, .top, .top, .top, .top, .top], [some [.int .i64 0, .int .i64 0], none, some [.int .i64 q6, .sl false (List.map c_i64 q7), .int .i64 q8, .sl false (List.map c_api_Cell q9)]], [], 0⟩ (.shutB (b := 1) rfl (fun d h => by simpa using List.all_eq_true.1 (rfl : List.all [.int .i64 q2, .sl false (List.map c_i64 q3), .int .i64 q4, .sl false (List.map c_api_Cell q5)] (fun d => !d.tok) = true) d h) (.refl _)) rfl ?_
        refine ex_gst ⟨[.sl false (List.map c_api_Line p0), .top, .top, .cp [.int .i64 p1.f_Line, .int .i64 p1.f_At], .top, .bx 0 0, .top, .cp [.int .i64 q2, .sl false (List.map c_i64 q3), .int .i64 q4, .sl false (List.map c_api_Cell q5)], .cp [.int .i64 q6, .sl false (List.map c_i64 q7), .int .i64 q8, .sl false (List.map c_api_Cell q9)], .top, .top, .top, .top, .top, .top, .top, .top, .top, .top, .top, .top, .top, .top, .top, .top, .top, .top, .top, .top, .top, .top, .top, .top, .top, .top, .top, .top, .top, .top, .top, .top, .top, .top, .top, .top, .top, .top, .top, .top], [some [.int .i64 0, .int .i64 0], none, none], [], 0⟩ (.shutB (b := 2) rfl (fun d h => by simpa using List.all_eq_true.1 (rfl : List.all [.int .i64 q6, .sl false (List.map c_i64 q7), .int .i64 q8, .sl false (List.map c_api_Cell q9)] (fun d => !d.tok) = true) d h) (.refl _)) rfl ?_
        obtain ⟨q12, hq, h⟩ := bindS h
        refine ex_cut ⟨[.top, .top, .top, .top, .own 0, .bx 0 0, .int .i64 0, .top, .top, .top, .top, .top, .top, .top, .top, .top, .top, .top, .top, .top, .top, .top, .top, .top, .top, .top, .top, .top, .top, .top, .top, .top, .top, .top, .top, .top, .top, .top, .top, .top, .top, .top, .top, .top, .top, .top, .top, .top, .top], [some [.int .i64 (IntKind.wrap .i64 (p1.f_Line + 1)), .int .i64 0]], [some ⟨45, 4, List.map c_api_Line q12⟩], 0⟩ ?_ ?_
        · clear h
          have h := hq
          clear hq
          refine ex_sh mo [1, 9, 10, 16, 1002, 1003, 1004, 1005, 1007, 1008, 1011, 1012, 1014, 3001, 3009, 3010, 3016, 1700000] (.pre [0, 2, 3, 4, 5, 6, 7, 8, 11, 12, 13, 14] (.fork 1 9 (.pre [9, 10, 15, 16, 17] .nil) (.pre [1, 10, 15, 16, 17] .nil))) (by kernel_rfl) ?_
          refine sh_pre ?_
          refine p_ 34 rfl rfl rfl rfl (.move rfl rfl) ?_
          refine n_ 36 rfl rfl rfl (fun _ _ => .fieldAddr rfl rfl rfl fl29u_0 rfl) ?_
          refine n_ 37 rfl rfl rfl (fun _ _ => x_load rfl rfl rfl sz3 un3 ag3 rfl) ?_
          refine n_ 38 rfl rfl rfl (fun _ _ => .fieldAddr rfl rfl rfl fl29u_0 rfl) ?_
          refine n_ 39 rfl rfl rfl (fun _ _ => x_load rfl rfl rfl sz3 un3 ag3 rfl) ?_
          refine p_ 40 rfl rfl rfl rfl (.bin rfl rfl rfl rfl) ?_
          refine n_ 41 rfl rfl rfl (fun _ _ => x_loadA rfl rfl rfl sz45 un45 ag45 rfl) ?_
          refine n_ 42 rfl rfl rfl (fun _ _ => x_loadA rfl rfl rfl sz45 un45 ag45 rfl) ?_
          refine n_ 45 rfl rfl rfl (fun _ _ => .fieldAddr rfl rfl rfl fl29u_0 rfl) ?_
          refine n_ 46 rfl rfl rfl (fun _ _ => x_load rfl rfl rfl sz3 un3 ag3 rfl) ?_
          refine p_ 47 rfl rfl rfl rfl (.bin rfl rfl rfl rfl) ?_
          refine n_ 48 rfl rfl rfl (fun _ _ => x_build rfl pl29 ze29 rfl rfl rfl rfl) ?_
          refine we_nil ?_
          refine sh_fork ?_ ?_
          · obtain ⟨v13, hv13, h⟩ := bindS h
            refine e_ (d := .own 0) 35 rfl rfl rfl rfl rfl (b' := [some [.int .i64 0, .int .i64 0], none, none]) (r' := [some ⟨45, 4, List.map c_api_Line v13⟩]) (x_call [] [] rfl rfl en21 (ok_doc_Own hv13) rfl rfl rfl rfl rfl rfl rfl rfl rfl rfl rfl rfl rfl rfl) rfl ?_
            refine e_ (d := .sl false (List.map c_api_Line [(T_api_Line.mk (q2) (q3) (q4) (q5) : T_api_Line), (T_api_Line.mk (q6) (q7) (q8) (q9) : T_api_Line)])) 43 rfl rfl rfl rfl rfl (b' := [some [.int .i64 0, .int .i64 0], none, none]) (r' := [some ⟨45, 4, List.map c_api_Line v13⟩, none]) (x_litF (f := c_api_Line) (l := [(T_api_Line.mk (q2) (q3) (q4) (q5) : T_api_Line), (T_api_Line.mk (q6) (q7) (q8) (q9) : T_api_Line)]) rfl el22 rw45 zs45 rfl rfl rfl (by decide) (by decide) fl_api_Line rfl) rfl ?_
            obtain ⟨v14, hv14, h⟩ := bindS h
            refine e_ (d := .own 2) 44 rfl rfl rfl rfl rfl (b' := [some [.int .i64 0, .int .i64 0], none, none]) (r' := [none, none, some ⟨45, 4, List.map c_api_Line v14⟩]) (x_call [] [0] rfl rfl en23 (ok_slices_Replace_apiLine hv14) rfl rfl rfl rfl rfl rfl rfl rfl rfl rfl rfl rfl rfl rfl) rfl ?_
            refine p_ 4 rfl rfl rfl rfl (.assign rfl rfl) ?_
            refine e0 rfl rfl rfl rfl rfl (b' := [some [.int .i64 (IntKind.wrap .i64 (p1.f_Line + 1)), .int .i64 0], none, none]) (r' := [none, none, some ⟨45, 4, List.map c_api_Line v14⟩]) (hb := set_out 0 (some [.int .i64 (IntKind.wrap .i64 (p1.f_Line + 1)), .int .i64 0]) rfl rfl) (.store rfl rfl rfl sz29 rfl rfl rfl) rfl ?_
            refine p_ 6 rfl rfl rfl rfl (.assign rfl rfl) ?_
            refine we_nil ?_
            cases h
            exact ⟨rfl, _, .re [false, false, false, false, true, true, true, false, false, false, false, false, false, false, false, false, false, false, false, false, false, false, false, false, false, false, false, false, false, false, false, false, false, false, false, false, false, false, false, false, false, false, false, false, false, false, false, false, false] [0] [2] rfl (.refl _), rfl⟩
          · obtain ⟨v13, hv13, h⟩ := bindS h
            refine e_ (d := .sl false (List.map c_api_Line [(T_api_Line.mk (q2) (q3) (q4) (q5) : T_api_Line), (T_api_Line.mk (q6) (q7) (q8) (q9) : T_api_Line)])) 43 rfl rfl rfl rfl rfl (b' := [some [.int .i64 0, .int .i64 0], none, none]) (r' := [none]) (x_litF (f := c_api_Line) (l := [(T_api_Line.mk (q2) (q3) (q4) (q5) : T_api_Line), (T_api_Line.mk (q6) (q7) (q8) (q9) : T_api_Line)]) rfl el22 rw45 zs45 rfl rfl rfl (by decide) (by decide) fl_api_Line rfl) rfl ?_
            refine e_ (d := .own 1) 35 rfl rfl rfl rfl rfl (b' := [some [.int .i64 0, .int .i64 0], none, none]) (r' := [none, some ⟨45, 4, List.map c_api_Line v13⟩]) (x_call [] [] rfl rfl en21 (ok_doc_Own hv13) rfl rfl rfl rfl rfl rfl rfl rfl rfl rfl rfl rfl rfl rfl) rfl ?_
            obtain ⟨v14, hv14, h⟩ := bindS h
            refine e_ (d := .own 2) 44 rfl rfl rfl rfl rfl (b' := [some [.int .i64 0, .int .i64 0], none, none]) (r' := [none, none, some ⟨45, 4, List.map c_api_Line v14⟩]) (x_call [] [1] rfl rfl en23 (ok_slices_Replace_apiLine hv14) rfl rfl rfl rfl rfl rfl rfl rfl rfl rfl rfl rfl rfl rfl) rfl ?_
            refine p_ 4 rfl rfl rfl rfl (.assign rfl rfl) ?_
            refine e0 rfl rfl rfl rfl rfl (b' := [some [.int .i64 (IntKind.wrap .i64 (p1.f_Line + 1)), .int .i64 0], none, none]) (r' := [none, none, some ⟨45, 4, List.map c_api_Line v14⟩]) (hb := set_out 0 (some [.int .i64 (IntKind.wrap .i64 (p1.f_Line + 1)), .int .i64 0]) rfl rfl) (.store rfl rfl rfl sz29 rfl rfl rfl) rfl ?_
            refine p_ 6 rfl rfl rfl rfl (.assign rfl rfl) ?_
            refine we_nil ?_
            cases h
            exact ⟨rfl, _, .re [false, false, false, false, true, true, true, false, false, false, false, false, false, false, false, false, false, false, false, false, false, false, false, false, false, false, false, false, false, false, false, false, false, false, false, false, false, false, false, false, false, false, false, false, false, false, false, false, false] [0] [2] rfl (.refl _), rfl⟩
        · clear hq
          refine ex_ret ?_
          obtain rfl := Option.some.inj h
          exact finB (by first | exact .inr rfl | exact .inl rfl) (.refl _) [.own 0, .agg [.int .i64 (IntKind.wrap .i64 (p1.f_Line + 1)), .int .i64 0], .int .i64 0] [0] [] (res_cons (res_tmp rfl) (res_cons (res_cell rfl rfl sz29 un29 ag29 rfl) (res_cons (res_tmp rfl) res_nil))) rfl rfl rfl rfl rfl rfl rfl
theorem ok_doc_Count {r : Int} {p0 : List (T_api_Line)} {p1 : T_api_Pos} {p2 : T_api_Pos} (h : doc_Count p0 p1 p2 = some r) : OkB prog 38 [.sl false (List.map c_api_Line p0), .agg [.int .i64 p1.f_Line, .int .i64 p1.f_At], .agg [.int .i64 p2.f_Line, .int .i64 p2.f_At]] [] [] (.int .i64 r) [] [] := by
  unfold doc_Count at h
  refine okB_of_exG func38 rfl rfl (s0 := [.sl false (List.map c_api_Line p0), .agg [.int .i64 p1.f_Line, .int .i64 p1.f_At], .agg [.int .i64 p2.f_Line, .int .i64 p2.f_At], .top, .top, .top, .top, .top, .top, .top, .top, .top, .top, .top, .top, .top, .top]) (b0 := []) (r0 := []) rfl rfl rfl ?_
  show Ex _ _ _ ⟨[.sl false (List.map c_api_Line p0), .agg [.int .i64 p1.f_Line, .int .i64 p1.f_At], .agg [.int .i64 p2.f_Line, .int .i64 p2.f_At], .top, .top, .top, .top, .top, .top, .top, .top, .top, .top, .top, .top, .top, .top], [], [], 0⟩ _
  refine ex_seq ?_
  refine ex_ord [0, 1] (l := [0, 1, 2]) rfl ?_
  refine e_ (d := .bx 0 0) 4 rfl rfl rfl rfl rfl (b' := [some [.int .i64 p1.f_Line, .int .i64 p1.f_At]]) (r' := []) (.box rfl rfl rfl) rfl ?_
  refine e_ (d := .bx 1 0) 5 rfl rfl rfl rfl rfl (b' := [some [.int .i64 p1.f_Line, .int .i64 p1.f_At], some [.int .i64 p2.f_Line, .int .i64 p2.f_At]]) (r' := []) (.box rfl rfl rfl) rfl ?_
  refine p_ 6 rfl rfl rfl rfl (.assign rfl rfl) ?_
  refine we_nil ?_
  refine ex_seq ?_
  refine ex_gst ⟨[.sl false (List.map c_api_Line p0), .agg [.int .i64 p1.f_Line, .int .i64 p1.f_At], .agg [.int .i64 p2.f_Line, .int .i64 p2.f_At], .top, .cp [.int .i64 p1.f_Line, .int .i64 p1.f_At], .bx 1 0, .int .i64 0, .top, .top, .top, .top, .top, .top, .top, .top, .top, .top], [none, some [.int .i64 p2.f_Line, .int .i64 p2.f_At]], [], 0⟩ (.shutB (b := 0) rfl (fun d h => by simpa using List.all_eq_true.1 (rfl : List.all [.int .i64 p1.f_Line, .int .i64 p1.f_At] (fun d => !d.tok) = true) d h) (.refl _)) rfl ?_
  refine ex_gst ⟨[.sl false (List.map c_api_Line p0), .agg [.int .i64 p1.f_Line, .int .i64 p1.f_At], .agg [.int .i64 p2.f_Line, .int .i64 p2.f_At], .top, .cp [.int .i64 p1.f_Line, .int .i64 p1.f_At], .cp [.int .i64 p2.f_Line, .int .i64 p2.f_At], .int .i64 0, .top, .top, .top, .top, .top, .top, .top, .top, .top, .top], [none, none], [], 0⟩ (.shutB (b := 1) rfl (fun d h => by simpa using List.all_eq_true.1 (rfl : List.all [.int .i64 p2.f_Line, .int .i64 p2.f_At] (fun d => !d.tok) = true) d h) (.refl _)) rfl ?_
  refine ex_ord [] (l := [0, 1, 2, 3, 4, 5, 6, 7, 8]) rfl ?_
  refine p_ 10 rfl rfl rfl rfl (.move rfl rfl) ?_
  refine p_ 11 rfl rfl rfl rfl (x_loadA rfl rfl rfl sz29 un29 ag29 rfl) ?_
  refine p_ 12 rfl rfl rfl rfl (x_loadA rfl rfl rfl sz29 un29 ag29 rfl) ?_
  obtain ⟨v1, hv1, h⟩ := bindS h
  refine p_ 13 rfl rfl rfl rfl (x_callP rfl rfl en51 (ok_doc_tells ⟨en52, rfl, rfl⟩ (fun _ _ h => ok_doc_Count_1 h) hv1) rfl rfl rfl rfl rfl) ?_
  refine p_ 9 rfl rfl rfl rfl (.move rfl rfl) ?_
  refine p_ 14 rfl rfl rfl rfl (.extract rfl rfl rfl rfl) ?_
  refine p_ 15 rfl rfl rfl rfl (.extract rfl rfl rfl rfl) ?_
  refine p_ 7 rfl rfl rfl rfl (.assign rfl rfl) ?_
  refine p_ 8 rfl rfl rfl rfl (.assign rfl rfl) ?_
  refine we_nil ?_
  refine ex_seq ?_
  refine ex_ord [] (l := [0, 1]) rfl ?_
  refine p_ 16 rfl rfl rfl rfl (.move rfl rfl) ?_
  refine p_ 6 rfl rfl rfl rfl (.assign rfl rfl) ?_
  refine we_nil ?_
  refine ex_ret ?_
  obtain rfl := Option.some.inj h
  exact finB (by first | exact .inr rfl | exact .inl rfl) (.refl _) [.int .i64 v1.1] [] [] (res_cons (res_tmp rfl) res_nil) rfl rfl rfl rfl rfl rfl rfl
theorem ok_doc_each {r : (List (T_api_Line)) × Int} {p0 : List (T_api_Line)} {p1 : T_api_Pos} {p2 : T_api_Pos} {p3 : (List (T_api_Cell)) → Int → Int → Option ((List (T_api_Cell)) × Int)} {g3 : FuncId} {cs3 : List DV} (hc3 : Cl prog g3 cs3) (hf3 : ∀ x0 x1 x2 r, p3 x0 x1 x2 = some r → OkB prog g3 ([.sl false (List.map c_api_Cell x0), .int .i64 x1, .int .i64 x2] ++ cs3) [] [] (.tup [.sl false (List.map c_api_Cell r.1), .int .i64 r.2]) [] []) (h : doc_each p0 p1 p2 p3 = some r) : OkB prog 25 [.sl false (List.map c_api_Line p0), .agg [.int .i64 p1.f_Line, .int .i64 p1.f_At], .agg [.int .i64 p2.f_Line, .int .i64 p2.f_At], .fn g3 cs3] [] [] (.tup [.own 0, .int .i64 r.2]) [] [⟨45, 4, List.map c_api_Line r.1⟩] := by
  unfold doc_each at h
  refine okB_of_exG func25 rfl rfl (s0 := [.sl false (List.map c_api_Line p0), .agg [.int .i64 p1.f_Line, .int .i64 p1.f_At], .agg [.int .i64 p2.f_Line, .int .i64 p2.f_At], .fn g3 cs3, .top, .top, .top, .top, .top, .top, .top, .top, .top, .top, .top, .top, .top, .top, .top, .top, .top, .top, .top, .top, .top, .top, .top, .top, .top, .top, .top, .top, .top, .top, .top, .top, .top, .top, .top, .top, .top, .top, .top, .top, .top, .top, .top, .top, .top, .top, .top, .top]) (b0 := []) (r0 := []) rfl rfl rfl ?_
  show Ex _ _ _ ⟨[.sl false (List.map c_api_Line p0), .agg [.int .i64 p1.f_Line, .int .i64 p1.f_At], .agg [.int .i64 p2.f_Line, .int .i64 p2.f_At], .fn g3 cs3, .top, .top, .top, .top, .top, .top, .top, .top, .top, .top, .top, .top, .top, .top, .top, .top, .top, .top, .top, .top, .top, .top, .top, .top, .top, .top, .top, .top, .top, .top, .top, .top, .top, .top, .top, .top, .top, .top, .top, .top, .top, .top, .top, .top, .top, .top, .top, .top], [], [], 0⟩ _
  refine ex_seq ?_
  refine ex_ord [0, 1, 2, 3] (l := [0, 1, 2, 3, 4]) rfl ?_
  refine e_ (d := .bx 0 0) 5 rfl rfl rfl rfl rfl (b' := [some [.int .i64 p1.f_Line, .int .i64 p1.f_At]]) (r' := []) (.box rfl rfl rfl) rfl ?_
  refine e_ (d := .bx 1 0) 6 rfl rfl rfl rfl rfl (b' := [some [.int .i64 p1.f_Line, .int .i64 p1.f_At], some [.int .i64 p2.f_Line, .int .i64 p2.f_At]]) (r' := []) (.box rfl rfl rfl) rfl ?_
  refine e_ (d := .bx 2 0) 7 rfl rfl rfl rfl rfl (b' := [some [.int .i64 p1.f_Line, .int .i64 p1.f_At], some [.int .i64 p2.f_Line, .int .i64 p2.f_At], some [.fn g3 cs3]]) (r' := []) (.box rfl rfl rfl) rfl ?_
  refine e_ (d := .own 0) 8 rfl rfl rfl rfl rfl (b' := [some [.int .i64 p1.f_Line, .int .i64 p1.f_At], some [.int .i64 p2.f_Line, .int .i64 p2.f_At], some [.fn g3 cs3]]) (r' := [some ⟨45, 4, []⟩]) (.nilRow (.inr rfl) rfl 45 4) rfl ?_
  refine p_ 9 rfl rfl rfl rfl (.assign rfl rfl) ?_
  refine we_nil ?_
  refine ex_seq ?_
  refine ex_block ?_
  refine ex_seq ?_
  refine ex_gst ⟨[.sl false (List.map c_api_Line p0), .agg [.int .i64 p1.f_Line, .int .i64 p1.f_At], .agg [.int .i64 p2.f_Line, .int .i64 p2.f_At], .fn g3 cs3, .top, .cp [.int .i64 p1.f_Line, .int .i64 p1.f_At], .bx 1 0, .bx 2 0, .own 0, .int .i64 0, .top, .top, .top, .top, .top, .top, .top, .top, .top, .top, .top, .top, .top, .top, .top, .top, .top, .top, .top, .top, .top, .top, .top, .top, .top, .top, .top, .top, .top, .top, .top, .top, .top, .top, .top, .top, .top, .top, .top, .top, .top, .top], [none, some [.int .i64 p2.f_Line, .int .i64 p2.f_At], some [.fn g3 cs3]], [some ⟨45, 4, []⟩], 0⟩ (.shutB (b := 0) rfl (fun d h => by simpa using List.all_eq_true.1 (rfl : List.all [.int .i64 p1.f_Line, .int .i64 p1.f_At] (fun d => !d.tok) = true) d h) (.refl _)) rfl ?_
  refine ex_gst ⟨[.sl false (List.map c_api_Line p0), .agg [.int .i64 p1.f_Line, .int .i64 p1.f_At], .agg [.int .i64 p2.f_Line, .int .i64 p2.f_At], .fn g3 cs3, .top, .cp [.int .i64 p1.f_Line, .int .i64 p1.f_At], .cp [.int .i64 p2.f_Line, .int .i64 p2.f_At], .bx 2 0, .own 0, .int .i64 0, .top, .top, .top, .top, .top, .top, .top, .top, .top, .top, .top, .top, .top, .top, .top, .top, .top, .top, .top, .top, .top, .top, .top, .top, .top, .top, .top, .top, .top, .top, .top, .top, .top, .top, .top, .top, .top, .top, .top, .top, .top, .top], [none, none, some [.fn g3 cs3]], [some ⟨45, 4, []⟩], 0⟩ (.shutB (b := 1) rfl (fun d h => by simpa using List.all_eq_true.1 (rfl : List.all [.int .i64 p2.f_Line, .int .i64 p2.f_At] (fun d => !d.tok) = true) d h) (.refl _)) rfl ?_
  refine ex_gst ⟨[.sl false (List.map c_api_Line p0), .agg [.int .i64 p1.f_Line, .int .i64 p1.f_At], .agg [.int .i64 p2.f_Line, .int .i64 p2.f_At], .fn g3 cs3, .top, .cp [.int .i64 p1.f_Line, .int .i64 p1.f_At], .cp [.int .i64 p2.f_Line, .int .i64 p2.f_At], .cp [.fn g3 cs3], .own 0, .int .i64 0, .top, .top, .top, .top, .top, .top, .top, .top, .top, .top, .top, .top, .top, .top, .top, .top, .top, .top, .top, .top, .top, .top, .top, .top, .top, .top, .top, .top, .top, .top, .top, .top, .top, .top, .top, .top, .top, .top, .top, .top, .top, .top], [none, none, none], [some ⟨45, 4, []⟩], 0⟩ (.shutB (b := 2) rfl (fun d h => by simpa using List.all_eq_true.1 (rfl : List.all [.fn g3 cs3] (fun d => !d.tok) = true) d h) (.refl _)) rfl ?_
  refine ex_ord [] (l := [0, 1, 2, 3, 4, 5]) rfl ?_
  refine p_ 14 rfl rfl rfl rfl (.move rfl rfl) ?_
  refine p_ 15 rfl rfl rfl rfl (x_loadA rfl rfl rfl sz29 un29 ag29 rfl) ?_
  refine p_ 16 rfl rfl rfl rfl (x_loadA rfl rfl rfl sz29 un29 ag29 rfl) ?_
  obtain ⟨v1, hv1, h⟩ := bindS h
  refine p_ 17 rfl rfl rfl rfl (x_callP rfl rfl en20 (ok_doc_span hv1) rfl rfl rfl rfl rfl) ?_
  refine p_ 18 rfl rfl rfl rfl (.un rfl rfl rfl) ?_
  refine p_ 13 rfl rfl rfl rfl (.assign rfl rfl) ?_
  refine we_nil ?_
  refine ex_if rfl ?_ ?_
  · intro hc
    replace h := iteT h hc
    refine ex_seq ?_
    refine ex_ord [0] (l := [0, 1]) rfl ?_
    refine e_ (d := .own 1) 8 rfl rfl rfl rfl rfl (b' := [none, none, none]) (r' := [some ⟨45, 4, []⟩, some ⟨45, 4, []⟩]) (.nilRow (.inr rfl) rfl 45 4) rfl ?_
    refine p_ 9 rfl rfl rfl rfl (.assign rfl rfl) ?_
    refine we_nil ?_
    refine ex_ret ?_
    obtain rfl := Option.some.inj h
    exact finB (by first | exact .inr rfl | exact .inl rfl) (.refl _) [.own 1, .int .i64 1] [1] [] (res_cons (res_tmp rfl) (res_cons (res_tmp rfl) res_nil)) rfl rfl rfl rfl rfl rfl rfl
  · intro hc
    replace h := iteF h hc
    refine ex_seq ?_
    refine ex_ord [] (l := [0, 1, 2, 3, 4, 5]) rfl ?_
    refine p_ 20 rfl rfl rfl rfl (.move rfl rfl) ?_
    refine p_ 21 rfl rfl rfl rfl (x_loadA rfl rfl rfl sz29 un29 ag29 rfl) ?_
    refine p_ 22 rfl rfl rfl rfl (x_loadA rfl rfl rfl sz29 un29 ag29 rfl) ?_
    obtain ⟨v2, hv2, h⟩ := bindS h
    refine p_ 23 rfl rfl rfl rfl (x_callP rfl rfl en38 (ok_doc_Count hv2) rfl rfl rfl rfl rfl) ?_
    refine p_ 24 rfl rfl rfl rfl (.bin rfl rfl rfl rfl) ?_
    refine p_ 19 rfl rfl rfl rfl (.assign rfl rfl) ?_
    refine we_nil ?_
    refine ex_if rfl ?_ ?_
    · intro hc
      replace h := iteT h hc
      refine ex_seq ?_
      refine ex_ord [0] (l := [0, 1]) rfl ?_
      refine e_ (d := .own 1) 8 rfl rfl rfl rfl rfl (b' := [none, none, none]) (r' := [some ⟨45, 4, []⟩, some ⟨45, 4, []⟩]) (.nilRow (.inr rfl) rfl 45 4) rfl ?_
      refine p_ 9 rfl rfl rfl rfl (.assign rfl rfl) ?_
      refine we_nil ?_
      refine ex_ret ?_
      obtain rfl := Option.some.inj h
      exact finB (by first | exact .inr rfl | exact .inl rfl) (.refl _) [.own 1, .int .i64 7] [1] [] (res_cons (res_tmp rfl) (res_cons (res_tmp rfl) res_nil)) rfl rfl rfl rfl rfl rfl rfl
    · intro hc
      replace h := iteF h hc
      refine ex_skip ?_
      refine ex_seq ?_
      refine ex_ord [1, 2, 3] (l := [0, 1, 2, 3]) rfl ?_
      refine p_ 25 rfl rfl rfl rfl (.move rfl rfl) ?_
      obtain ⟨v3, hv3, h⟩ := bindS h
      refine e_ (d := .own 1) 26 rfl rfl rfl rfl rfl (b' := [none, none, none]) (r' := [some ⟨45, 4, []⟩, some ⟨45, 4, List.map c_api_Line v3⟩]) (x_call [] [] rfl rfl en21 (ok_doc_Own hv3) rfl rfl rfl rfl rfl rfl rfl rfl rfl rfl rfl rfl rfl rfl) rfl ?_
      refine e_ (d := .bx 3 0) 10 rfl rfl rfl rfl rfl (b' := [none, none, none, some [.own 2]]) (r' := [some ⟨45, 4, []⟩, some ⟨45, 4, List.map c_api_Line v3⟩, some ⟨45, 4, []⟩]) (.allocN (e := 45) (n := 4) rfl zn22) rfl ?_
      refine e0 rfl rfl rfl rfl rfl (b' := [none, none, none, some [.own 1]]) (r' := [some ⟨45, 4, []⟩, some ⟨45, 4, List.map c_api_Line v3⟩, some ⟨45, 4, []⟩]) (.store rfl rfl rfl sz22 rfl rfl rfl) rfl ?_
      refine we_nil ?_
      refine ex_seq ?_
      refine ex_seq ?_
      refine ex_ord [] (l := [0, 1, 2, 3]) rfl ?_
      refine p_ 27 rfl rfl rfl rfl (.move rfl rfl) ?_
      refine p_ 28 rfl rfl rfl rfl (x_loadA rfl rfl rfl sz29 un29 ag29 rfl) ?_
      refine p_ 29 rfl rfl rfl rfl (x_loadA rfl rfl rfl sz29 un29 ag29 rfl) ?_
      obtain ⟨v4, hv4, h⟩ := bindS h
      refine p_ 30 rfl rfl rfl rfl (x_callP rfl rfl en39 (ok_doc_between hv4) rfl rfl rfl rfl rfl) ?_
      refine we_nil ?_
      refine ex_block ?_
      obtain ⟨b5, hxs, h⟩ := bindS h
      obtain ⟨k14, hl, h⟩ := bindS h
      refine ex_gst ⟨[.top, .top, .top, .top, .top, .top, .top, .cp [.fn g3 cs3], .top, .top, .bx 0 0, .top, .top, .top, .top, .top, .top, .top, .top, .top, .top, .top, .top, .top, .top, .top, .top, .top, .top, .top, .fn 53 [.cp [.int .i64 v4.1.f_Line, .int .i64 v4.1.f_At], .cp [.int .i64 v4.2.1.f_Line, .int .i64 v4.2.1.f_At], .cp [.sl false (List.map c_api_Line v4.2.2)]], .top, .top, .top, .top, .top, .top, .top, .top, .top, .top, .top, .top, .top, .top, .top, .top, .top, .top, .top, .top, .top], [some [.own 0]], [some ⟨45, 4, List.map c_api_Line v3⟩], 0⟩ (.re [false, false, false, false, false, false, false, true, false, false, true, false, false, false, false, false, false, false, false, false, false, false, false, false, false, false, false, false, false, false, true, false, false, false, false, false, false, false, false, false, false, false, false, false, false, false, false, false, false, false, false, false] [3] [1] rfl (.refl _)) rfl ?_
      refine ex_rangeX (encs := encs_doc_between_1) (encD := encD_doc_between_1) (step := (fun x s => doc_each_r1 p3 x s)) (fun s => [some [.own 0]]) (fun s => [some ⟨45, 4, List.map c_api_Line s⟩]) (s0 := v3) hl rfl en53 (ok_doc_between_1 hxs) henc_doc_between_1 rfl rfl rfl ?_ ?_
      · clear hl hxs
        refine ex_seq ?_
        refine ex_ord [] (l := [0, 1, 2]) rfl ?_
        refine p_ 51 rfl rfl rfl rfl (x_load rfl rfl rfl sz22 un22 ag22 rfl) ?_
        refine p_ 8 rfl rfl rfl rfl (.assign rfl rfl) ?_
        refine p_ 9 rfl rfl rfl rfl (.assign rfl rfl) ?_
        refine we_nil ?_
        refine ex_ret ?_
        obtain rfl := Option.some.inj h
        exact finB (by first | exact .inr rfl | exact .inl rfl) (.refl _) [.own 0, .int .i64 0] [0] [] (res_cons (res_tmp rfl) (res_cons (res_tmp rfl) res_nil)) rfl rfl rfl rfl rfl rfl rfl
      · clear hl hxs h
        rintro b6 n7 t h
        replace h : doc_each_r1 p3 b6 n7 = some t := h
        unfold doc_each_r1 at h
        show Ex _ _ _ ⟨[.top, .top, .top, .top, .top, .top, .top, .cp [.fn g3 cs3], .top, .top, .bx 0 0, .top, .top, .top, .top, .top, .top, .top, .top, .top, .top, .top, .top, .top, .top, .top, .top, .top, .top, .top, .fn 53 [.cp [.int .i64 v4.1.f_Line, .int .i64 v4.1.f_At], .cp [.int .i64 v4.2.1.f_Line, .int .i64 v4.2.1.f_At], .cp [.sl false (List.map c_api_Line v4.2.2)]], .int .i64 b6.1, .agg [.int .i64 b6.2.1, .int .i64 b6.2.2], .top, .top, .top, .top, .top, .top, .top, .top, .top, .top, .top, .top, .top, .top, .top, .top, .top, .top, .top], [some [.own 0]], [some ⟨45, 4, List.map c_api_Line n7⟩], 0⟩ _
        refine ex_seq ?_
        refine ex_ord [] (l := [0]) rfl ?_
        refine p_ 11 rfl rfl rfl rfl (.assign rfl rfl) ?_
        refine we_nil ?_
        refine ex_ord [0, 1] (l := [0, 1]) rfl ?_
        refine e_ (d := .bx 1 0) 12 rfl rfl rfl rfl rfl (b' := [some [.own 0], some [.int .i64 0, .int .i64 0]]) (r' := [some ⟨45, 4, List.map c_api_Line n7⟩]) (.alloc rfl ze76) rfl ?_
        refine e0 rfl rfl rfl rfl rfl (b' := [some [.own 0], some [.int .i64 b6.2.1, .int .i64 b6.2.2]]) (r' := [some ⟨45, 4, List.map c_api_Line n7⟩]) (.store rfl rfl rfl sz76 rfl rfl rfl) rfl ?_
        refine we_nil ?_
        refine ex_block ?_
        refine ex_gst ⟨[.top, .top, .top, .top, .top, .top, .top, .cp [.fn g3 cs3], .top, .top, .bx 0 0, .int .i64 b6.1, .cp [.int .i64 b6.2.1, .int .i64 b6.2.2], .top, .top, .top, .top, .top, .top, .top, .top, .top, .top, .top, .top, .top, .top, .top, .top, .top, .fn 53 [.cp [.int .i64 v4.1.f_Line, .int .i64 v4.1.f_At], .cp [.int .i64 v4.2.1.f_Line, .int .i64 v4.2.1.f_At], .cp [.sl false (List.map c_api_Line v4.2.2)]], .int .i64 b6.1, .agg [.int .i64 b6.2.1, .int .i64 b6.2.2], .top, .top, .top, .top, .top, .top, .top, .top, .top, .top, .top, .top, .top, .top, .top, .top, .top, .top, .top], [some [.own 0], none], [some ⟨45, 4, List.map c_api_Line n7⟩], 0⟩ (.shutB (b := 1) rfl (fun d h => by simpa using List.all_eq_true.1 (rfl : List.all [.int .i64 b6.2.1, .int .i64 b6.2.2] (fun d => !d.tok) = true) d h) (.refl _)) rfl ?_
        refine ex_drw mo [18, 1002, 1008, 1009, 1010, 1011, 1012, 2000, 2003, 3018, 100000, 400000] (by kernel_rfl) (l := [0, 1, 2, 3, 4, 5, 6, 7, 8, 9, 10, 11, 12, 13, 14, 15, 16, 17, 18]) rfl ?_
        refine r_ 34 0 rfl rfl rfl rfl rfl rfl (fun _ _ hb => x_load rfl rfl (at_bx hb rfl) sz22 un22 ag22 rfl) ?_
        refine p_ 35 rfl rfl rfl rfl (.move rfl rfl) ?_
        refine n_ 36 rfl rfl rfl (fun _ _ => x_load rfl rfl rfl sz62 un62 ag62 rfl) ?_
        refine r_ 37 0 rfl rfl rfl rfl rfl rfl (fun _ _ hb => x_load rfl rfl (at_bx hb rfl) sz22 un22 ag22 rfl) ?_
        refine p_ 38 rfl rfl rfl rfl (.move rfl rfl) ?_
        obtain ⟨v8, hv8, h⟩ := bindS h
        refine p_ 39 rfl rfl rfl rfl (x_idxO (f := c_api_Line) (l := n7) rfl rfl rfl rfl rfl el22 sz45 hv8 rfl) ?_
        refine p_ 40 rfl rfl rfl rfl (.fieldAddr rfl rfl rfl fl45u_3 rfl) ?_
        obtain ⟨v9, hv9, h⟩ := bindS h
        refine p_ 41 rfl rfl rfl rfl (x_load rfl rfl (at_ex (f := c_api_Line) (xs := n7) (c := [.int .i64 v9.f_Quote, .sl false (List.map c_i64 v9.f_Lists), .int .i64 v9.f_Kind, .sl false (List.map c_api_Cell v9.f_Cells)]) rfl rfl (getI_some hv9).2 rfl (Nat.le_of_ble_eq_true rfl)) sz42 un42 ag42 rfl) ?_
        refine n_ 42 rfl rfl rfl (fun _ _ => .idxA (k := .i64) (i := 0) rfl rfl rfl rfl ar76 sz3 (by decide) (by decide) rfl) ?_
        refine n_ 43 rfl rfl rfl (fun _ _ => x_load rfl rfl rfl sz3 un3 ag3 rfl) ?_
        refine n_ 44 rfl rfl rfl (fun _ _ => .idxA (k := .i64) (i := 1) rfl rfl rfl rfl ar76 sz3 (by decide) (by decide) rfl) ?_
        refine n_ 45 rfl rfl rfl (fun _ _ => x_load rfl rfl rfl sz3 un3 ag3 rfl) ?_
        obtain ⟨v10, hv10, h⟩ := bindS h
        refine n_ 46 rfl rfl rfl (fun _ _ => x_callP rfl rfl hc3.en (hf3 _ _ _ _ hv10) rfl rfl (all_app rfl hc3.ok) hc3.nt rfl) ?_
        refine p_ 33 rfl rfl rfl rfl (.move rfl rfl) ?_
        refine p_ 47 rfl rfl rfl rfl (.extract rfl rfl rfl rfl) ?_
        refine p_ 48 rfl rfl rfl rfl (.extract rfl rfl rfl rfl) ?_
        obtain ⟨v11, hv11, h⟩ := bindS h
        refine p_ 49 rfl rfl rfl rfl (x_idxO (f := c_api_Line) (l := n7) rfl rfl rfl rfl rfl el22 sz45 hv11 rfl) ?_
        refine p_ 50 rfl rfl rfl rfl (.fieldAddr rfl rfl rfl fl45u_3 rfl) ?_
        obtain ⟨v12, hv12, h⟩ := bindS h
        refine e0 rfl rfl rfl rfl rfl (b' := [some [.own 0], none]) (r' := [some ⟨45, 4, List.map c_api_Line (setI n7 b6.1 (T_api_Line.mk (v12.f_Quote) (v12.f_Lists) (v12.f_Kind) (v10.1) : T_api_Line))⟩]) (x_stE (f := c_api_Line) (xs := n7) (c := v12) (c' := (T_api_Line.mk (v12.f_Quote) (v12.f_Lists) (v12.f_Kind) (v10.1) : T_api_Line)) rfl rfl rfl sz42 rfl rfl rfl rfl (getI_some hv12).2 (Nat.le_of_ble_eq_true rfl) rfl rfl) rfl ?_
        refine we_nil ?_
        cases h
        exact ⟨rfl, _, .re [false, false, false, false, false, false, false, true, false, false, true, false, false, false, false, false, false, false, false, false, false, false, false, false, false, false, false, false, false, false, true, false, false, false, false, false, false, false, false, false, false, false, false, false, false, false, false, false, false, false, false, false] [0] [0] rfl (.refl _), rfl⟩
theorem ok_doc_Set {r : (List (T_api_Line)) × Int} {p0 : List (T_api_Line)} {p1 : T_api_Pos} {p2 : T_api_Pos} {p3 : Int} {p4 : Int} (h : doc_Set p0 p1 p2 p3 p4 = some r) : OkB prog 17 [.sl false (List.map c_api_Line p0), .agg [.int .i64 p1.f_Line, .int .i64 p1.f_At], .agg [.int .i64 p2.f_Line, .int .i64 p2.f_At], .int .i64 p3, .int .i64 p4] [] [] (.tup [.own 0, .int .i64 r.2]) [] [⟨45, 4, List.map c_api_Line r.1⟩] := by
  unfold doc_Set at h
  refine okB_of_exG func17 rfl rfl (s0 := [.sl false (List.map c_api_Line p0), .agg [.int .i64 p1.f_Line, .int .i64 p1.f_At], .agg [.int .i64 p2.f_Line, .int .i64 p2.f_At], .int .i64 p3, .int .i64 p4, .top, .top, .top, .top, .top, .top, .top, .top, .top, .top, .top, .top, .top, .top]) (b0 := []) (r0 := []) rfl rfl rfl ?_
  show Ex _ _ _ ⟨[.sl false (List.map c_api_Line p0), .agg [.int .i64 p1.f_Line, .int .i64 p1.f_At], .agg [.int .i64 p2.f_Line, .int .i64 p2.f_At], .int .i64 p3, .int .i64 p4, .top, .top, .top, .top, .top, .top, .top, .top, .top, .top, .top, .top, .top, .top], [], [], 0⟩ _
  refine ex_seq ?_
  refine ex_ord [0, 1, 2, 3, 4] (l := [0, 1, 2, 3, 4, 5]) rfl ?_
  refine e_ (d := .bx 0 0) 6 rfl rfl rfl rfl rfl (b' := [some [.int .i64 p1.f_Line, .int .i64 p1.f_At]]) (r' := []) (.box rfl rfl rfl) rfl ?_
  refine e_ (d := .bx 1 0) 7 rfl rfl rfl rfl rfl (b' := [some [.int .i64 p1.f_Line, .int .i64 p1.f_At], some [.int .i64 p2.f_Line, .int .i64 p2.f_At]]) (r' := []) (.box rfl rfl rfl) rfl ?_
  refine e_ (d := .bx 2 0) 8 rfl rfl rfl rfl rfl (b' := [some [.int .i64 p1.f_Line, .int .i64 p1.f_At], some [.int .i64 p2.f_Line, .int .i64 p2.f_At], some [.int .i64 p3]]) (r' := []) (.box rfl rfl rfl) rfl ?_
  refine e_ (d := .bx 3 0) 9 rfl rfl rfl rfl rfl (b' := [some [.int .i64 p1.f_Line, .int .i64 p1.f_At], some [.int .i64 p2.f_Line, .int .i64 p2.f_At], some [.int .i64 p3], some [.int .i64 p4]]) (r' := []) (.box rfl rfl rfl) rfl ?_
  refine e_ (d := .own 0) 10 rfl rfl rfl rfl rfl (b' := [some [.int .i64 p1.f_Line, .int .i64 p1.f_At], some [.int .i64 p2.f_Line, .int .i64 p2.f_At], some [.int .i64 p3], some [.int .i64 p4]]) (r' := [some ⟨45, 4, []⟩]) (.nilRow (.inr rfl) rfl 45 4) rfl ?_
  refine p_ 11 rfl rfl rfl rfl (.assign rfl rfl) ?_
  refine we_nil ?_
  refine ex_seq ?_
  refine ex_gst ⟨[.sl false (List.map c_api_Line p0), .agg [.int .i64 p1.f_Line, .int .i64 p1.f_At], .agg [.int .i64 p2.f_Line, .int .i64 p2.f_At], .int .i64 p3, .int .i64 p4, .top, .cp [.int .i64 p1.f_Line, .int .i64 p1.f_At], .bx 1 0, .bx 2 0, .bx 3 0, .own 0, .int .i64 0, .top, .top, .top, .top, .top, .top, .top], [none, some [.int .i64 p2.f_Line, .int .i64 p2.f_At], some [.int .i64 p3], some [.int .i64 p4]], [some ⟨45, 4, []⟩], 0⟩ (.shutB (b := 0) rfl (fun d h => by simpa using List.all_eq_true.1 (rfl : List.all [.int .i64 p1.f_Line, .int .i64 p1.f_At] (fun d => !d.tok) = true) d h) (.refl _)) rfl ?_
  refine ex_gst ⟨[.sl false (List.map c_api_Line p0), .agg [.int .i64 p1.f_Line, .int .i64 p1.f_At], .agg [.int .i64 p2.f_Line, .int .i64 p2.f_At], .int .i64 p3, .int .i64 p4, .top, .cp [.int .i64 p1.f_Line, .int .i64 p1.f_At], .cp [.int .i64 p2.f_Line, .int .i64 p2.f_At], .bx 2 0, .bx 3 0, .own 0, .int .i64 0, .top, .top, .top, .top, .top, .top, .top], [none, none, some [.int .i64 p3], some [.int .i64 p4]], [some ⟨45, 4, []⟩], 0⟩ (.shutB (b := 1) rfl (fun d h => by simpa using List.all_eq_true.1 (rfl : List.all [.int .i64 p2.f_Line, .int .i64 p2.f_At] (fun d => !d.tok) = true) d h) (.refl _)) rfl ?_
  refine ex_gst ⟨[.sl false (List.map c_api_Line p0), .agg [.int .i64 p1.f_Line, .int .i64 p1.f_At], .agg [.int .i64 p2.f_Line, .int .i64 p2.f_At], .int .i64 p3, .int .i64 p4, .top, .cp [.int .i64 p1.f_Line, .int .i64 p1.f_At], .cp [.int .i64 p2.f_Line, .int .i64 p2.f_At], .cp [.int .i64 p3], .bx 3 0, .own 0, .int .i64 0, .top, .top, .top, .top, .top, .top, .top], [none, none, none, some [.int .i64 p4]], [some ⟨45, 4, []⟩], 0⟩ (.shutB (b := 2) rfl (fun d h => by simpa using List.all_eq_true.1 (rfl : List.all [.int .i64 p3] (fun d => !d.tok) = true) d h) (.refl _)) rfl ?_
  refine ex_gst ⟨[.sl false (List.map c_api_Line p0), .agg [.int .i64 p1.f_Line, .int .i64 p1.f_At], .agg [.int .i64 p2.f_Line, .int .i64 p2.f_At], .int .i64 p3, .int .i64 p4, .top, .cp [.int .i64 p1.f_Line, .int .i64 p1.f_At], .cp [.int .i64 p2.f_Line, .int .i64 p2.f_At], .cp [.int .i64 p3], .cp [.int .i64 p4], .own 0, .int .i64 0, .top, .top, .top, .top, .top, .top, .top], [none, none, none, none], [some ⟨45, 4, []⟩], 0⟩ (.shutB (b := 3) rfl (fun d h => by simpa using List.all_eq_true.1 (rfl : List.all [.int .i64 p4] (fun d => !d.tok) = true) d h) (.refl _)) rfl ?_
  refine ex_ord [4] (l := [0, 1, 2, 3, 4, 5, 6, 7, 8]) rfl ?_
  refine p_ 12 rfl rfl rfl rfl (.move rfl rfl) ?_
  refine p_ 13 rfl rfl rfl rfl (x_loadA rfl rfl rfl sz29 un29 ag29 rfl) ?_
  refine p_ 14 rfl rfl rfl rfl (x_loadA rfl rfl rfl sz29 un29 ag29 rfl) ?_
  refine p_ 15 rfl rfl rfl rfl (.func rfl rfl rfl) ?_
  obtain ⟨v1, hv1, h⟩ := bindS h
  refine e_ (d := .tup [.own 1, .int .i64 v1.2]) 16 rfl rfl rfl rfl rfl (b' := [none, none, none, none]) (r' := [some ⟨45, 4, []⟩, some ⟨45, 4, List.map c_api_Line v1.1⟩]) (x_call [] [] rfl rfl en25 (ok_doc_each ⟨en26, rfl, rfl⟩ (fun _ _ _ _ h => OkB.shut (ok_doc_Set_1 h) rfl) hv1) rfl rfl rfl rfl rfl rfl rfl rfl rfl rfl rfl rfl rfl rfl) rfl ?_
  refine p_ 17 rfl rfl rfl rfl (.extract rfl rfl rfl rfl) ?_
  refine p_ 18 rfl rfl rfl rfl (.extract rfl rfl rfl rfl) ?_
  refine p_ 10 rfl rfl rfl rfl (.assign rfl rfl) ?_
  refine p_ 11 rfl rfl rfl rfl (.assign rfl rfl) ?_
  refine we_nil ?_
  refine ex_ret ?_
  obtain rfl := Option.some.inj h
  exact finB (by first | exact .inr rfl | exact .inl rfl) (.refl _) [.own 1, .int .i64 v1.2] [1] [] (res_cons (res_tmp rfl) (res_cons (res_tmp rfl) res_nil)) rfl rfl rfl rfl rfl rfl rfl
end Go.PM
