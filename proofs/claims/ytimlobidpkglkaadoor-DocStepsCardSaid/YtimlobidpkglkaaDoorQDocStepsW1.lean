/-
  The walks: each Go function answers what its plain Lean function answers. Printed. Part 1 of 3. No condition but that the plain function answers.
-/
import Derived.Test.YtimlobidpkglkaaDoorQDocStepsF
set_option linter.unusedVariables false
set_option linter.unusedSimpArgs false
set_option linter.unusedSectionVars false
set_option linter.unnecessarySimpa false
namespace Go.PM
open Go.RowKit Go.Proofs.Tryd
set_option linter.unusedSimpArgs false
set_option linter.unusedVariables false
set_option maxRecDepth 4000
set_option maxHeartbeats 1000000 in
theorem ok_slices_Replace_apiLine {r : (List (T_api_Line))} {p0 : List (T_api_Line)} {p1 : Int} {p2 : Int} {p3 : List (T_api_Line)} (h : slices_Replace_apiLine p0 p1 p2 p3 = some r) : OkB prog 23 [.own 0, .int .i64 p1, .int .i64 p2, .sl false (List.map c_api_Line p3)] [] [⟨45, 4, List.map c_api_Line p0⟩] (.own 0) [] [⟨45, 4, List.map c_api_Line r⟩] := by
  unfold slices_Replace_apiLine at h
  split at h
  case isFalse => cases h
  rename_i hc
  obtain ⟨h0, h1, h2⟩ := hc
  obtain ⟨hr, hlim⟩ := capO_some h
  subst hr; clear h
  obtain ⟨n, rfl⟩ := Int.eq_ofNat_of_zero_le h0
  subst h2
  have hL : (List.map c_api_Line p0).length = p0.length := by simp
  have hL2 : ((p0.length : Int) == ((List.map c_api_Line p0).length : Nat)) = true := by rw [hL]; exact beq_self_eq_true _
  have hM : (List.map c_api_Line p3).length = p3.length := by simp
  have hn1 : n < p0.length := by omega
  have hn2 : (n : Int).toNat = n := by simp
  simp only [hn2] at hlim ⊢
  have hlim : (n + p3.length) * 65 ≤ 140737488355328 := by simpa [List.length_take, Nat.min_eq_left (Nat.le_of_lt hn1)] using hlim
  have hRL : (List.map c_api_Line (p0.take n ++ p3)).length = n + (List.map c_api_Line p3).length := by simp; omega
  refine okB_view (args := [.int .i64 (n : Int), .int .i64 (p0.length : Int), .sl false (List.map c_api_Line p3)]) (e := 45) (sz := 4) (xs := List.map c_api_Line p0) (ys := List.map c_api_Line (p0.take n ++ p3)) (by intro e; rw [List.map_eq_nil_iff] at e; subst e; simp at hn1) (by decide) rfl (fun x hx => (fl_api_Line.ok p0 x hx).1) (fl_api_Line.ok _) ?_
  intro c hc1 hc2
  have hcl : ((List.map c_api_Line p0).flatten ++ List.replicate ((c - (List.map c_api_Line p0).length) * 4) DV.top).length = c * 4 := by simp only [List.length_append, flat_len (fun x hx => (fl_api_Line.ok p0 x hx).1), List.length_replicate]; omega
  have hds : (((List.map c_api_Line p3).take (List.map c_api_Line p3).length).flatten).length = p3.length * 4 := by rw [List.take_length, flat_len (fun x hx => (fl_api_Line.ok p3 x hx).1), hM]
  have hntC : NT ((List.map c_api_Line p0).flatten ++ List.replicate ((c - (List.map c_api_Line p0).length) * 4) DV.top) := .app (.flat (fl_api_Line.ok p0)) (.rep _)
  have hntZ1 : NT (splice ((List.map c_api_Line p0).flatten ++ List.replicate ((c - (List.map c_api_Line p0).length) * 4) DV.top) (0 + n * 4) ((List.map c_api_Line p3).take (List.map c_api_Line p3).length).flatten) := .splice hntC (by rw [List.take_length]; exact .flat (fl_api_Line.ok p3))
  have hntZ2 : NT (splice (splice ((List.map c_api_Line p0).flatten ++ List.replicate ((c - (List.map c_api_Line p0).length) * 4) DV.top) (0 + n * 4) ((List.map c_api_Line p3).take (List.map c_api_Line p3).length).flatten) (0 + (n + (List.map c_api_Line p3).length) * 4) (List.replicate ((List.map c_api_Line p0).length - (n + (List.map c_api_Line p3).length)) ([.int .i64 0, .sl false [], .int .i64 0, .sl false []] : List DV)).flatten) := .splice hntZ1 (.flat (flatOk_rep rfl rfl : flatOk 4 _))
  have hz1 : n + p3.length ≤ c → (splice ((List.map c_api_Line p0).flatten ++ List.replicate ((c - (List.map c_api_Line p0).length) * 4) DV.top) (0 + n * 4) ((List.map c_api_Line p3).take (List.map c_api_Line p3).length).flatten).length = c * 4 := fun hh => by rw [splice_length (by rw [hds, hcl]; omega), hcl]
  by_cases hfit : n + p3.length ≤ c
  · replace hz1 := hz1 hfit
    have hk1 : (splice ((List.map c_api_Line p0).flatten ++ List.replicate ((c - (List.map c_api_Line p0).length) * 4) DV.top) (0 + n * 4) ((List.map c_api_Line p3).take (List.map c_api_Line p3).length).flatten).take ((n + (List.map c_api_Line p3).length) * 4) = (List.map c_api_Line (p0.take n ++ p3)).flatten := by
      have e1 : (n + (List.map c_api_Line p3).length) * 4 = (0 + n * 4) + (((List.map c_api_Line p3).take (List.map c_api_Line p3).length).flatten).length := by rw [hds, hM]; omega
      rw [e1, splice_take_hi (by rw [hcl]; omega), Nat.zero_add, flat_take (fun x hx => (fl_api_Line.ok p0 x hx).1) (by omega), List.take_length, List.map_append, List.flatten_append, List.map_take]
    by_cases hclr : n + p3.length < p0.length
    · refine ⟨.vw 0 0 (n + (List.map c_api_Line p3).length) c, splice (splice ((List.map c_api_Line p0).flatten ++ List.replicate ((c - (List.map c_api_Line p0).length) * 4) DV.top) (0 + n * 4) ((List.map c_api_Line p3).take (List.map c_api_Line p3).length).flatten) (0 + (n + (List.map c_api_Line p3).length) * 4) (List.replicate ((List.map c_api_Line p0).length - (n + (List.map c_api_Line p3).length)) ([.int .i64 0, .sl false [], .int .i64 0, .sl false []] : List DV)).flatten, [], ?_, .inl ⟨(splice (splice ((List.map c_api_Line p0).flatten ++ List.replicate ((c - (List.map c_api_Line p0).length) * 4) DV.top) (0 + n * 4) ((List.map c_api_Line p3).take (List.map c_api_Line p3).length).flatten) (0 + (n + (List.map c_api_Line p3).length) * 4) (List.replicate ((List.map c_api_Line p0).length - (n + (List.map c_api_Line p3).length)) ([.int .i64 0, .sl false [], .int .i64 0, .sl false []] : List DV)).flatten).drop ((n + (List.map c_api_Line p3).length) * 4), by rw [hRL], ?_, by rw [hRL]; omega, rfl⟩⟩
      · refine okB_of_exG func23 rfl rfl (s0 := [.vw 0 0 (List.map c_api_Line p0).length c, .int .i64 (n : Int), .int .i64 (p0.length : Int), .sl false (List.map c_api_Line p3), .top, .top, .top, .top, .top, .top, .top, .top, .top, .top, .top, .top, .top, .top, .top, .top, .top, .top, .top, .top, .top, .top, .top, .top, .top, .top, .top, .top, .top, .top, .top, .top, .top, .top, .top, .top, .top, .top, .top, .top, .top, .top, .top, .top, .top, .top, .top, .top, .top, .top, .top, .top, .top, .top, .top, .top, .top, .top, .top, .top, .top, .top, .top, .top, .top, .top, .top, .top, .top, .top, .top, .top, .top, .top, .top, .top, .top, .top, .top, .top, .top, .top, .top, .top, .top, .top, .top, .top, .top, .top, .top, .top, .top, .top, .top, .top, .top, .top, .top, .top, .top, .top, .top, .top, .top, .top, .top, .top, .top, .top, .top, .top, .top, .top, .top, .top, .top, .top, .top, .top, .top, .top, .top, .top, .top, .top, .top, .top, .top, .top, .top, .top, .top, .top, .top, .top, .top, .top, .top, .top, .top, .top, .top, .top, .top, .top, .top, .top, .top, .top, .top, .top, .top, .top, .top, .top, .top, .top, .top, .top, .top, .top, .top, .top, .top, .top, .top, .top, .top, .top, .top, .top, .top, .top, .top, .top, .top, .top, .top, .top, .top, .top, .top, .top, .top, .top, .top, .top, .top, .top, .top, .top, .top, .top, .top, .top, .top, .top, .top, .top, .top, .top, .top, .top, .top, .top, .top, .top, .top, .top, .top, .top, .top, .top, .top, .top, .top, .top, .top, .top]) (b0 := [some ((List.map c_api_Line p0).flatten ++ List.replicate ((c - (List.map c_api_Line p0).length) * 4) DV.top)]) (r0 := []) rfl rfl rfl ?_
        show Ex _ _ _ ⟨[.vw 0 0 (List.map c_api_Line p0).length c, .int .i64 (n : Int), .int .i64 (p0.length : Int), .sl false (List.map c_api_Line p3), .top, .top, .top, .top, .top, .top, .top, .top, .top, .top, .top, .top, .top, .top, .top, .top, .top, .top, .top, .top, .top, .top, .top, .top, .top, .top, .top, .top, .top, .top, .top, .top, .top, .top, .top, .top, .top, .top, .top, .top, .top, .top, .top, .top, .top, .top, .top, .top, .top, .top, .top, .top, .top, .top, .top, .top, .top, .top, .top, .top, .top, .top, .top, .top, .top, .top, .top, .top, .top, .top, .top, .top, .top, .top, .top, .top, .top, .top, .top, .top, .top, .top, .top, .top, .top, .top, .top, .top, .top, .top, .top, .top, .top, .top, .top, .top, .top, .top, .top, .top, .top, .top, .top, .top, .top, .top, .top, .top, .top, .top, .top, .top, .top, .top, .top, .top, .top, .top, .top, .top, .top, .top, .top, .top, .top, .top, .top, .top, .top, .top, .top, .top, .top, .top, .top, .top, .top, .top, .top, .top, .top, .top, .top, .top, .top, .top, .top, .top, .top, .top, .top, .top, .top, .top, .top, .top, .top, .top, .top, .top, .top, .top, .top, .top, .top, .top, .top, .top, .top, .top, .top, .top, .top, .top, .top, .top, .top, .top, .top, .top, .top, .top, .top, .top, .top, .top, .top, .top, .top, .top, .top, .top, .top, .top, .top, .top, .top, .top, .top, .top, .top, .top, .top, .top, .top, .top, .top, .top, .top, .top, .top, .top, .top, .top, .top, .top, .top, .top, .top, .top], [some ((List.map c_api_Line p0).flatten ++ List.replicate ((c - (List.map c_api_Line p0).length) * 4) DV.top)], [], 1⟩ _
        refine ex_seq ?_
        refine ex_ord [] (l := [0]) rfl ?_
        refine p_ 8 rfl rfl rfl rfl (.assign rfl rfl) ?_
        refine we_nil ?_
        refine ex_seq ?_
        refine ex_ord [] (l := [0, 1, 2, 3]) rfl ?_
        refine p_ 15 rfl rfl rfl rfl (.move rfl rfl) ?_
        refine p_ 16 rfl rfl rfl rfl (.move rfl rfl) ?_
        refine p_ 17 rfl rfl rfl rfl (.move rfl rfl) ?_
        refine p_ 18 rfl rfl rfl rfl (.sliceV rfl rfl rfl el22 sz45 ⟨_, rfl⟩ ⟨_, rfl⟩ h0 (by omega) (by omega)) ?_
        refine we_nil ?_
        refine ex_seq ?_
        refine ex_seq ?_
        refine ex_ord [] (l := [0, 1, 2]) rfl ?_
        refine p_ 19 rfl rfl rfl rfl (.move rfl rfl) ?_
        refine p_ 20 rfl rfl rfl rfl (.move rfl rfl) ?_
        refine p_ 21 rfl rfl rfl rfl (.bin rfl rfl rfl rfl) ?_
        refine we_nil ?_
        refine ex_if rfl (fun hq => absurd (beq_iff_eq.1 hq) (by omega)) (fun _ => ?_)
        refine ex_skip ?_
        refine ex_seq ?_
        refine ex_seq ?_
        refine ex_ord [] (l := [0, 1, 2, 3]) rfl ?_
        refine p_ 26 rfl rfl rfl rfl (.move rfl rfl) ?_
        refine p_ 27 rfl rfl rfl rfl (.move rfl rfl) ?_
        refine p_ 28 rfl rfl rfl rfl (.lenV rfl rfl rfl el22) ?_
        refine p_ 29 rfl rfl rfl rfl (.bin rfl rfl rfl rfl) ?_
        refine we_nil ?_
        refine ex_if rfl (fun _ => ?_) (fun hq => Bool.noConfusion (hL2.symm.trans hq))
        refine ex_seq ?_
        refine ex_ord [4] (l := [0, 1, 2, 3, 4, 5]) rfl ?_
        refine p_ 30 rfl rfl rfl rfl (.move rfl rfl) ?_
        refine p_ 31 rfl rfl rfl rfl (.move rfl rfl) ?_
        refine p_ (d := .vw 0 0 n c) 32 rfl rfl rfl rfl (x_sliceV 0 n c rfl rfl rfl el22 sz45 rfl ⟨_, rfl⟩ (Int.le_refl 0) h0 (by omega) (by simp) (by simp) (by simp)) ?_
        refine p_ 33 rfl rfl rfl rfl (.move rfl rfl) ?_
        refine e_ (d := .vw 0 0 (n + (List.map c_api_Line p3).length) c) 34 rfl rfl rfl rfl rfl (b' := [some (splice ((List.map c_api_Line p0).flatten ++ List.replicate ((c - (List.map c_api_Line p0).length) * 4) DV.top) (0 + n * 4) ((List.map c_api_Line p3).take (List.map c_api_Line p3).length).flatten)]) (r' := []) (.appV rfl rfl rfl el22 sz45 (.sl (by decide) rfl rfl (fl_api_Line.ok p3) (Nat.le_refl _)) (by omega) (by rw [hds, hcl]; omega)) rfl ?_
        refine p_ 9 rfl rfl rfl rfl (.assign rfl rfl) ?_
        refine we_nil ?_
        refine ex_seq ?_
        refine ex_seq ?_
        refine ex_ord [] (l := [0, 1, 2, 3, 4]) rfl ?_
        refine p_ 35 rfl rfl rfl rfl (.move rfl rfl) ?_
        refine p_ 36 rfl rfl rfl rfl (.lenV rfl rfl rfl el22) ?_
        refine p_ 37 rfl rfl rfl rfl (.move rfl rfl) ?_
        refine p_ 38 rfl rfl rfl rfl (.lenV rfl rfl rfl el22) ?_
        refine p_ 39 rfl rfl rfl rfl (.bin rfl rfl rfl rfl) ?_
        refine we_nil ?_
        refine ex_if rfl (fun _ => ?_) (fun hq => Bool.noConfusion ((decide_eq_true (show ((n + (List.map c_api_Line p3).length : Nat) : Int) < ((List.map c_api_Line p0).length : Nat) by omega)).symm.trans hq))
        refine ex_ord [4] (l := [0, 1, 2, 3, 4]) rfl ?_
        refine p_ 40 rfl rfl rfl rfl (.move rfl rfl) ?_
        refine p_ 41 rfl rfl rfl rfl (.move rfl rfl) ?_
        refine p_ 42 rfl rfl rfl rfl (.lenV rfl rfl rfl el22) ?_
        refine p_ (d := .vw 0 (0 + (n + (List.map c_api_Line p3).length) * 4) ((List.map c_api_Line p0).length - (n + (List.map c_api_Line p3).length)) (c - (n + (List.map c_api_Line p3).length))) 43 rfl rfl rfl rfl (x_sliceV _ _ _ rfl rfl rfl el22 sz45 ⟨_, rfl⟩ rfl (by omega) (by omega) (by omega) (by rw [if_neg (by omega)]; simp; omega) (by simp; omega) (by simp; omega)) ?_
        refine e0 rfl rfl rfl rfl rfl (b' := [some (splice (splice ((List.map c_api_Line p0).flatten ++ List.replicate ((c - (List.map c_api_Line p0).length) * 4) DV.top) (0 + n * 4) ((List.map c_api_Line p3).take (List.map c_api_Line p3).length).flatten) (0 + (n + (List.map c_api_Line p3).length) * 4) (List.replicate ((List.map c_api_Line p0).length - (n + (List.map c_api_Line p3).length)) ([.int .i64 0, .sl false [], .int .i64 0, .sl false []] : List DV)).flatten)]) (r' := []) (.clearV rfl rfl rfl el22 ze45 (by decide) (by rw [hz1]; show 0 + (n + (List.map c_api_Line p3).length) * 4 + ((List.map c_api_Line p0).length - (n + (List.map c_api_Line p3).length)) * 4 ≤ c * 4; omega)) rfl ?_
        refine we_nil ?_
        refine ex_seq ?_
        refine ex_ord [] (l := [0, 1]) rfl ?_
        refine p_ 44 rfl rfl rfl rfl (.move rfl rfl) ?_
        refine p_ 8 rfl rfl rfl rfl (.assign rfl rfl) ?_
        refine we_nil ?_
        refine ex_ret ?_
        exact finBV (.inr rfl) (.refl _) [.vw 0 0 (n + (List.map c_api_Line p3).length) c] [] [splice (splice ((List.map c_api_Line p0).flatten ++ List.replicate ((c - (List.map c_api_Line p0).length) * 4) DV.top) (0 + n * 4) ((List.map c_api_Line p3).take (List.map c_api_Line p3).length).flatten) (0 + (n + (List.map c_api_Line p3).length) * 4) (List.replicate ((List.map c_api_Line p0).length - (n + (List.map c_api_Line p3).length)) ([.int .i64 0, .sl false [], .int .i64 0, .sl false []] : List DV)).flatten] (res_cons (res_tmp rfl) res_nil) rfl rfl rfl rfl rfl (NT.res hntZ2) (NT.ren hntZ2)
      · rw [← hk1, ← splice_take_lo (l := splice ((List.map c_api_Line p0).flatten ++ List.replicate ((c - (List.map c_api_Line p0).length) * 4) DV.top) (0 + n * 4) ((List.map c_api_Line p3).take (List.map c_api_Line p3).length).flatten) (k := (n + (List.map c_api_Line p3).length) * 4) (m := (List.replicate ((List.map c_api_Line p0).length - (n + (List.map c_api_Line p3).length)) ([.int .i64 0, .sl false [], .int .i64 0, .sl false []] : List DV)).flatten) (off := 0 + (n + (List.map c_api_Line p3).length) * 4) (by omega) (by rw [hz1]; omega)]
        exact (List.take_append_drop _ _).symm
    · refine ⟨.vw 0 0 (n + (List.map c_api_Line p3).length) c, splice ((List.map c_api_Line p0).flatten ++ List.replicate ((c - (List.map c_api_Line p0).length) * 4) DV.top) (0 + n * 4) ((List.map c_api_Line p3).take (List.map c_api_Line p3).length).flatten, [], ?_, .inl ⟨(splice ((List.map c_api_Line p0).flatten ++ List.replicate ((c - (List.map c_api_Line p0).length) * 4) DV.top) (0 + n * 4) ((List.map c_api_Line p3).take (List.map c_api_Line p3).length).flatten).drop ((n + (List.map c_api_Line p3).length) * 4), by rw [hRL], ?_, by rw [hRL]; omega, rfl⟩⟩
      · refine okB_of_exG func23 rfl rfl (s0 := [.vw 0 0 (List.map c_api_Line p0).length c, .int .i64 (n : Int), .int .i64 (p0.length : Int), .sl false (List.map c_api_Line p3), .top, .top, .top, .top, .top, .top, .top, .top, .top, .top, .top, .top, .top, .top, .top, .top, .top, .top, .top, .top, .top, .top, .top, .top, .top, .top, .top, .top, .top, .top, .top, .top, .top, .top, .top, .top, .top, .top, .top, .top, .top, .top, .top, .top, .top, .top, .top, .top, .top, .top, .top, .top, .top, .top, .top, .top, .top, .top, .top, .top, .top, .top, .top, .top, .top, .top, .top, .top, .top, .top, .top, .top, .top, .top, .top, .top, .top, .top, .top, .top, .top, .top, .top, .top, .top, .top, .top, .top, .top, .top, .top, .top, .top, .top, .top, .top, .top, .top, .top, .top, .top, .top, .top, .top, .top, .top, .top, .top, .top, .top, .top, .top, .top, .top, .top, .top, .top, .top, .top, .top, .top, .top, .top, .top, .top, .top, .top, .top, .top, .top, .top, .top, .top, .top, .top, .top, .top, .top, .top, .top, .top, .top, .top, .top, .top, .top, .top, .top, .top, .top, .top, .top, .top, .top, .top, .top, .top, .top, .top, .top, .top, .top, .top, .top, .top, .top, .top, .top, .top, .top, .top, .top, .top, .top, .top, .top, .top, .top, .top, .top, .top, .top, .top, .top, .top, .top, .top, .top, .top, .top, .top, .top, .top, .top, .top, .top, .top, .top, .top, .top, .top, .top, .top, .top, .top, .top, .top, .top, .top, .top, .top, .top, .top, .top, .top, .top, .top, .top, .top, .top]) (b0 := [some ((List.map c_api_Line p0).flatten ++ List.replicate ((c - (List.map c_api_Line p0).length) * 4) DV.top)]) (r0 := []) rfl rfl rfl ?_
        show Ex _ _ _ ⟨[.vw 0 0 (List.map c_api_Line p0).length c, .int .i64 (n : Int), .int .i64 (p0.length : Int), .sl false (List.map c_api_Line p3), .top, .top, .top, .top, .top, .top, .top, .top, .top, .top, .top, .top, .top, .top, .top, .top, .top, .top, .top, .top, .top, .top, .top, .top, .top, .top, .top, .top, .top, .top, .top, .top, .top, .top, .top, .top, .top, .top, .top, .top, .top, .top, .top, .top, .top, .top, .top, .top, .top, .top, .top, .top, .top, .top, .top, .top, .top, .top, .top, .top, .top, .top, .top, .top, .top, .top, .top, .top, .top, .top, .top, .top, .top, .top, .top, .top, .top, .top, .top, .top, .top, .top, .top, .top, .top, .top, .top, .top, .top, .top, .top, .top, .top, .top, .top, .top, .top, .top, .top, .top, .top, .top, .top, .top, .top, .top, .top, .top, .top, .top, .top, .top, .top, .top, .top, .top, .top, .top, .top, .top, .top, .top, .top, .top, .top, .top, .top, .top, .top, .top, .top, .top, .top, .top, .top, .top, .top, .top, .top, .top, .top, .top, .top, .top, .top, .top, .top, .top, .top, .top, .top, .top, .top, .top, .top, .top, .top, .top, .top, .top, .top, .top, .top, .top, .top, .top, .top, .top, .top, .top, .top, .top, .top, .top, .top, .top, .top, .top, .top, .top, .top, .top, .top, .top, .top, .top, .top, .top, .top, .top, .top, .top, .top, .top, .top, .top, .top, .top, .top, .top, .top, .top, .top, .top, .top, .top, .top, .top, .top, .top, .top, .top, .top, .top, .top, .top, .top, .top, .top, .top], [some ((List.map c_api_Line p0).flatten ++ List.replicate ((c - (List.map c_api_Line p0).length) * 4) DV.top)], [], 1⟩ _
        refine ex_seq ?_
        refine ex_ord [] (l := [0]) rfl ?_
        refine p_ 8 rfl rfl rfl rfl (.assign rfl rfl) ?_
        refine we_nil ?_
        refine ex_seq ?_
        refine ex_ord [] (l := [0, 1, 2, 3]) rfl ?_
        refine p_ 15 rfl rfl rfl rfl (.move rfl rfl) ?_
        refine p_ 16 rfl rfl rfl rfl (.move rfl rfl) ?_
        refine p_ 17 rfl rfl rfl rfl (.move rfl rfl) ?_
        refine p_ 18 rfl rfl rfl rfl (.sliceV rfl rfl rfl el22 sz45 ⟨_, rfl⟩ ⟨_, rfl⟩ h0 (by omega) (by omega)) ?_
        refine we_nil ?_
        refine ex_seq ?_
        refine ex_seq ?_
        refine ex_ord [] (l := [0, 1, 2]) rfl ?_
        refine p_ 19 rfl rfl rfl rfl (.move rfl rfl) ?_
        refine p_ 20 rfl rfl rfl rfl (.move rfl rfl) ?_
        refine p_ 21 rfl rfl rfl rfl (.bin rfl rfl rfl rfl) ?_
        refine we_nil ?_
        refine ex_if rfl (fun hq => absurd (beq_iff_eq.1 hq) (by omega)) (fun _ => ?_)
        refine ex_skip ?_
        refine ex_seq ?_
        refine ex_seq ?_
        refine ex_ord [] (l := [0, 1, 2, 3]) rfl ?_
        refine p_ 26 rfl rfl rfl rfl (.move rfl rfl) ?_
        refine p_ 27 rfl rfl rfl rfl (.move rfl rfl) ?_
        refine p_ 28 rfl rfl rfl rfl (.lenV rfl rfl rfl el22) ?_
        refine p_ 29 rfl rfl rfl rfl (.bin rfl rfl rfl rfl) ?_
        refine we_nil ?_
        refine ex_if rfl (fun _ => ?_) (fun hq => Bool.noConfusion (hL2.symm.trans hq))
        refine ex_seq ?_
        refine ex_ord [4] (l := [0, 1, 2, 3, 4, 5]) rfl ?_
        refine p_ 30 rfl rfl rfl rfl (.move rfl rfl) ?_
        refine p_ 31 rfl rfl rfl rfl (.move rfl rfl) ?_
        refine p_ (d := .vw 0 0 n c) 32 rfl rfl rfl rfl (x_sliceV 0 n c rfl rfl rfl el22 sz45 rfl ⟨_, rfl⟩ (Int.le_refl 0) h0 (by omega) (by simp) (by simp) (by simp)) ?_
        refine p_ 33 rfl rfl rfl rfl (.move rfl rfl) ?_
        refine e_ (d := .vw 0 0 (n + (List.map c_api_Line p3).length) c) 34 rfl rfl rfl rfl rfl (b' := [some (splice ((List.map c_api_Line p0).flatten ++ List.replicate ((c - (List.map c_api_Line p0).length) * 4) DV.top) (0 + n * 4) ((List.map c_api_Line p3).take (List.map c_api_Line p3).length).flatten)]) (r' := []) (.appV rfl rfl rfl el22 sz45 (.sl (by decide) rfl rfl (fl_api_Line.ok p3) (Nat.le_refl _)) (by omega) (by rw [hds, hcl]; omega)) rfl ?_
        refine p_ 9 rfl rfl rfl rfl (.assign rfl rfl) ?_
        refine we_nil ?_
        refine ex_seq ?_
        refine ex_seq ?_
        refine ex_ord [] (l := [0, 1, 2, 3, 4]) rfl ?_
        refine p_ 35 rfl rfl rfl rfl (.move rfl rfl) ?_
        refine p_ 36 rfl rfl rfl rfl (.lenV rfl rfl rfl el22) ?_
        refine p_ 37 rfl rfl rfl rfl (.move rfl rfl) ?_
        refine p_ 38 rfl rfl rfl rfl (.lenV rfl rfl rfl el22) ?_
        refine p_ 39 rfl rfl rfl rfl (.bin rfl rfl rfl rfl) ?_
        refine we_nil ?_
        refine ex_if rfl (fun hq => absurd (of_decide_eq_true hq) (by omega)) (fun _ => ?_)
        refine ex_skip ?_
        refine ex_seq ?_
        refine ex_ord [] (l := [0, 1]) rfl ?_
        refine p_ 44 rfl rfl rfl rfl (.move rfl rfl) ?_
        refine p_ 8 rfl rfl rfl rfl (.assign rfl rfl) ?_
        refine we_nil ?_
        refine ex_ret ?_
        exact finBV (.inr rfl) (.refl _) [.vw 0 0 (n + (List.map c_api_Line p3).length) c] [] [splice ((List.map c_api_Line p0).flatten ++ List.replicate ((c - (List.map c_api_Line p0).length) * 4) DV.top) (0 + n * 4) ((List.map c_api_Line p3).take (List.map c_api_Line p3).length).flatten] (res_cons (res_tmp rfl) res_nil) rfl rfl rfl rfl rfl (NT.res hntZ1) (NT.ren hntZ1)
      · rw [← hk1]
        exact (List.take_append_drop _ _).symm
  · refine ⟨.own 0, (List.map c_api_Line p0).flatten ++ List.replicate ((c - (List.map c_api_Line p0).length) * 4) DV.top, _, ?_, .inr ⟨rfl, rfl⟩⟩
    refine okB_of_exG func23 rfl rfl (s0 := [.vw 0 0 (List.map c_api_Line p0).length c, .int .i64 (n : Int), .int .i64 (p0.length : Int), .sl false (List.map c_api_Line p3), .top, .top, .top, .top, .top, .top, .top, .top, .top, .top, .top, .top, .top, .top, .top, .top, .top, .top, .top, .top, .top, .top, .top, .top, .top, .top, .top, .top, .top, .top, .top, .top, .top, .top, .top, .top, .top, .top, .top, .top, .top, .top, .top, .top, .top, .top, .top, .top, .top, .top, .top, .top, .top, .top, .top, .top, .top, .top, .top, .top, .top, .top, .top, .top, .top, .top, .top, .top, .top, .top, .top, .top, .top, .top, .top, .top, .top, .top, .top, .top, .top, .top, .top, .top, .top, .top, .top, .top, .top, .top, .top, .top, .top, .top, .top, .top, .top, .top, .top, .top, .top, .top, .top, .top, .top, .top, .top, .top, .top, .top, .top, .top, .top, .top, .top, .top, .top, .top, .top, .top, .top, .top, .top, .top, .top, .top, .top, .top, .top, .top, .top, .top, .top, .top, .top, .top, .top, .top, .top, .top, .top, .top, .top, .top, .top, .top, .top, .top, .top, .top, .top, .top, .top, .top, .top, .top, .top, .top, .top, .top, .top, .top, .top, .top, .top, .top, .top, .top, .top, .top, .top, .top, .top, .top, .top, .top, .top, .top, .top, .top, .top, .top, .top, .top, .top, .top, .top, .top, .top, .top, .top, .top, .top, .top, .top, .top, .top, .top, .top, .top, .top, .top, .top, .top, .top, .top, .top, .top, .top, .top, .top, .top, .top, .top, .top, .top, .top, .top, .top, .top]) (b0 := [some ((List.map c_api_Line p0).flatten ++ List.replicate ((c - (List.map c_api_Line p0).length) * 4) DV.top)]) (r0 := []) rfl rfl rfl ?_
    show Ex _ _ _ ⟨[.vw 0 0 (List.map c_api_Line p0).length c, .int .i64 (n : Int), .int .i64 (p0.length : Int), .sl false (List.map c_api_Line p3), .top, .top, .top, .top, .top, .top, .top, .top, .top, .top, .top, .top, .top, .top, .top, .top, .top, .top, .top, .top, .top, .top, .top, .top, .top, .top, .top, .top, .top, .top, .top, .top, .top, .top, .top, .top, .top, .top, .top, .top, .top, .top, .top, .top, .top, .top, .top, .top, .top, .top, .top, .top, .top, .top, .top, .top, .top, .top, .top, .top, .top, .top, .top, .top, .top, .top, .top, .top, .top, .top, .top, .top, .top, .top, .top, .top, .top, .top, .top, .top, .top, .top, .top, .top, .top, .top, .top, .top, .top, .top, .top, .top, .top, .top, .top, .top, .top, .top, .top, .top, .top, .top, .top, .top, .top, .top, .top, .top, .top, .top, .top, .top, .top, .top, .top, .top, .top, .top, .top, .top, .top, .top, .top, .top, .top, .top, .top, .top, .top, .top, .top, .top, .top, .top, .top, .top, .top, .top, .top, .top, .top, .top, .top, .top, .top, .top, .top, .top, .top, .top, .top, .top, .top, .top, .top, .top, .top, .top, .top, .top, .top, .top, .top, .top, .top, .top, .top, .top, .top, .top, .top, .top, .top, .top, .top, .top, .top, .top, .top, .top, .top, .top, .top, .top, .top, .top, .top, .top, .top, .top, .top, .top, .top, .top, .top, .top, .top, .top, .top, .top, .top, .top, .top, .top, .top, .top, .top, .top, .top, .top, .top, .top, .top, .top, .top, .top, .top, .top, .top, .top], [some ((List.map c_api_Line p0).flatten ++ List.replicate ((c - (List.map c_api_Line p0).length) * 4) DV.top)], [], 1⟩ _
    refine ex_seq ?_
    refine ex_ord [] (l := [0]) rfl ?_
    refine p_ 8 rfl rfl rfl rfl (.assign rfl rfl) ?_
    refine we_nil ?_
    refine ex_seq ?_
    refine ex_ord [] (l := [0, 1, 2, 3]) rfl ?_
    refine p_ 15 rfl rfl rfl rfl (.move rfl rfl) ?_
    refine p_ 16 rfl rfl rfl rfl (.move rfl rfl) ?_
    refine p_ 17 rfl rfl rfl rfl (.move rfl rfl) ?_
    refine p_ 18 rfl rfl rfl rfl (.sliceV rfl rfl rfl el22 sz45 ⟨_, rfl⟩ ⟨_, rfl⟩ h0 (by omega) (by omega)) ?_
    refine we_nil ?_
    refine ex_seq ?_
    refine ex_seq ?_
    refine ex_ord [] (l := [0, 1, 2]) rfl ?_
    refine p_ 19 rfl rfl rfl rfl (.move rfl rfl) ?_
    refine p_ 20 rfl rfl rfl rfl (.move rfl rfl) ?_
    refine p_ 21 rfl rfl rfl rfl (.bin rfl rfl rfl rfl) ?_
    refine we_nil ?_
    refine ex_if rfl (fun hq => absurd (beq_iff_eq.1 hq) (by omega)) (fun _ => ?_)
    refine ex_skip ?_
    refine ex_seq ?_
    refine ex_seq ?_
    refine ex_ord [] (l := [0, 1, 2, 3]) rfl ?_
    refine p_ 26 rfl rfl rfl rfl (.move rfl rfl) ?_
    refine p_ 27 rfl rfl rfl rfl (.move rfl rfl) ?_
    refine p_ 28 rfl rfl rfl rfl (.lenV rfl rfl rfl el22) ?_
    refine p_ 29 rfl rfl rfl rfl (.bin rfl rfl rfl rfl) ?_
    refine we_nil ?_
    refine ex_if rfl (fun _ => ?_) (fun hq => Bool.noConfusion (hL2.symm.trans hq))
    refine ex_seq ?_
    refine ex_ord [4] (l := [0, 1, 2, 3, 4, 5]) rfl ?_
    refine p_ 30 rfl rfl rfl rfl (.move rfl rfl) ?_
    refine p_ 31 rfl rfl rfl rfl (.move rfl rfl) ?_
    refine p_ (d := .vw 0 0 n c) 32 rfl rfl rfl rfl (x_sliceV 0 n c rfl rfl rfl el22 sz45 rfl ⟨_, rfl⟩ (Int.le_refl 0) h0 (by omega) (by simp) (by simp) (by simp)) ?_
    refine p_ 33 rfl rfl rfl rfl (.move rfl rfl) ?_
    refine e_ (d := .own 0) 34 rfl rfl rfl rfl rfl (b' := [some ((List.map c_api_Line p0).flatten ++ List.replicate ((c - (List.map c_api_Line p0).length) * 4) DV.top)]) (r' := [some ⟨45, 4, (List.map c_api_Line p0).take n ++ List.map c_api_Line p3⟩]) (.appVG rfl rfl rfl el22 rw45 (xs := (List.map c_api_Line p0).take n) (ys := List.map c_api_Line p3) (len := (List.map c_api_Line p3).length) (.all (by decide) rfl rfl (fl_api_Line.ok p3)) rfl (fl_api_Line.ok p3) (by simp; omega) (fun x hx => fl_api_Line.ok p0 x (List.mem_of_mem_take hx)) (by rw [hcl]; omega) (by rw [List.drop_zero]; exact flat_take (fun x hx => (fl_api_Line.ok p0 x hx).1) (by omega)) (by omega) (by omega) (by omega)) rfl ?_
    refine p_ 9 rfl rfl rfl rfl (.assign rfl rfl) ?_
    refine we_nil ?_
    refine ex_seq ?_
    refine ex_seq ?_
    refine ex_ord [] (l := [0, 1, 2, 3, 4]) rfl ?_
    refine p_ 35 rfl rfl rfl rfl (.move rfl rfl) ?_
    refine p_ 36 rfl rfl rfl rfl (.lenSl rfl rfl rfl el22) ?_
    refine p_ 37 rfl rfl rfl rfl (.move rfl rfl) ?_
    refine p_ 38 rfl rfl rfl rfl (.lenV rfl rfl rfl el22) ?_
    refine p_ 39 rfl rfl rfl rfl (.bin rfl rfl rfl rfl) ?_
    refine we_nil ?_
    refine ex_if rfl (fun hq => absurd (of_decide_eq_true hq) (by simp; omega)) (fun _ => ?_)
    refine ex_skip ?_
    refine ex_seq ?_
    refine ex_ord [] (l := [0, 1]) rfl ?_
    refine p_ 44 rfl rfl rfl rfl (.move rfl rfl) ?_
    refine p_ 8 rfl rfl rfl rfl (.assign rfl rfl) ?_
    refine we_nil ?_
    refine ex_ret ?_
    exact finBV (.inr rfl) (.refl _) [.own 0] [0] [(List.map c_api_Line p0).flatten ++ List.replicate ((c - (List.map c_api_Line p0).length) * 4) DV.top] (res_cons (res_tmp rfl) res_nil) rfl (by rw [List.map_append, List.map_take]; rfl) rfl rfl rfl (NT.res hntC) (NT.ren hntC)
theorem ok_slices_Clone_int {r : (List (Int))} {p0 : List (Int)} (h : slices_Clone_int p0 = some r) : OkB prog 45 [.sl false (List.map c_i64 p0)] [] [] (.own 0) [] [⟨3, 1, List.map c_i64 r⟩] := by
  have h0 := (capO_some h).1
  subst h0
  cases r with
  | nil =>
    refine OkB.split (i := 0) rfl ?_
    intro nl
    cases nl with
    | true =>
      show OkB prog 45 [.em true] [] [] _ [] _
      refine okB_of_exG func45 rfl rfl (s0 := [.em true, .top, .top, .top, .top, .top, .top, .top]) (b0 := []) (r0 := []) rfl rfl rfl ?_
      show Ex _ _ _ ⟨[.em true, .top, .top, .top, .top, .top, .top, .top], [], [], 0⟩ _
      refine ex_seq ?_
      refine ex_ord [0] (l := [0]) rfl ?_
      refine e_ (d := .own 0) 2 rfl rfl rfl rfl rfl (b' := []) (r' := [some ⟨3, 1, []⟩]) (.nilRow (.inr rfl) rfl 3 1) rfl ?_
      refine we_nil ?_
      refine ex_seq ?_
      refine ex_seq ?_
      refine ex_ord [] (l := [0, 1]) rfl ?_
      refine p_ 3 rfl rfl rfl rfl (.move rfl rfl) ?_
      refine p_ 4 rfl rfl rfl rfl (.eqNil (ne := false) rfl rfl rfl rfl el43) ?_
      refine we_nil ?_
      refine ex_cond (t := true) rfl ?_
      refine ex_seq ?_
      refine ex_ord [0] (l := [0]) rfl ?_
      refine e_ (d := .own 1) 2 rfl rfl rfl rfl rfl (b' := []) (r' := [some ⟨3, 1, []⟩, some ⟨3, 1, []⟩]) (.nilRow (.inr rfl) rfl 3 1) rfl ?_
      refine we_nil ?_
      refine ex_ret ?_
      exact finB (.inr rfl) (.refl _) [.own 1] [1] [] (res_cons (res_tmp rfl) res_nil) rfl rfl rfl rfl rfl rfl rfl
    | false =>
      show OkB prog 45 [.em false] [] [] _ [] _
      refine okB_of_exG func45 rfl rfl (s0 := [.em false, .top, .top, .top, .top, .top, .top, .top]) (b0 := []) (r0 := []) rfl rfl rfl ?_
      show Ex _ _ _ ⟨[.em false, .top, .top, .top, .top, .top, .top, .top], [], [], 0⟩ _
      refine ex_seq ?_
      refine ex_ord [0] (l := [0]) rfl ?_
      refine e_ (d := .own 0) 2 rfl rfl rfl rfl rfl (b' := []) (r' := [some ⟨3, 1, []⟩]) (.nilRow (.inr rfl) rfl 3 1) rfl ?_
      refine we_nil ?_
      refine ex_seq ?_
      refine ex_seq ?_
      refine ex_ord [] (l := [0, 1]) rfl ?_
      refine p_ 3 rfl rfl rfl rfl (.move rfl rfl) ?_
      refine p_ 4 rfl rfl rfl rfl (.eqNil (ne := false) rfl rfl rfl rfl el43) ?_
      refine we_nil ?_
      refine ex_cond (t := false) rfl ?_
      refine ex_skip ?_
      refine ex_seq ?_
      refine ex_ord [0, 2] (l := [0, 1, 2, 3]) rfl ?_
      refine e_ (d := .own 1) 5 rfl rfl rfl rfl rfl (b' := []) (r' := [some ⟨3, 1, []⟩, some ⟨3, 1, List.map c_i64 []⟩]) (x_lit (f := c_i64) (l := []) rfl el43 rw3 zs3 rfl rfl rfl (by decide) (by decide) fl_i64 rfl) rfl ?_
      refine p_ 6 rfl rfl rfl rfl (.move rfl rfl) ?_
      refine e_ (d := .own 2) 7 rfl rfl rfl rfl rfl (b' := []) (r' := [some ⟨3, 1, []⟩, none, some ⟨3, 1, List.map c_i64 []⟩]) (x_app (f := c_i64) (xs := []) (ys := []) rfl rfl rfl el43 rw3 rfl rfl rfl fl_i64 h) rfl ?_
      refine p_ 2 rfl rfl rfl rfl (.assign rfl rfl) ?_
      refine we_nil ?_
      refine ex_ret ?_
      exact finB (.inr rfl) (.refl _) [.own 2] [2] [] (res_cons (res_tmp rfl) res_nil) rfl rfl rfl rfl rfl rfl rfl
  | cons a l =>
    refine okB_of_exG func45 rfl rfl (s0 := [.sl false (List.map c_i64 (a :: l)), .top, .top, .top, .top, .top, .top, .top]) (b0 := []) (r0 := []) rfl rfl rfl ?_
    show Ex _ _ _ ⟨[.sl false (List.map c_i64 (a :: l)), .top, .top, .top, .top, .top, .top, .top], [], [], 0⟩ _
    refine ex_seq ?_
    refine ex_ord [0] (l := [0]) rfl ?_
    refine e_ (d := .own 0) 2 rfl rfl rfl rfl rfl (b' := []) (r' := [some ⟨3, 1, []⟩]) (.nilRow (.inr rfl) rfl 3 1) rfl ?_
    refine we_nil ?_
    refine ex_seq ?_
    refine ex_seq ?_
    refine ex_ord [] (l := [0, 1]) rfl ?_
    refine p_ 3 rfl rfl rfl rfl (.move rfl rfl) ?_
    refine p_ 4 rfl rfl rfl rfl (.eqNil (ne := false) rfl rfl rfl rfl el43) ?_
    refine we_nil ?_
    refine ex_cond (t := false) rfl ?_
    refine ex_skip ?_
    refine ex_seq ?_
    refine ex_ord [0, 2] (l := [0, 1, 2, 3]) rfl ?_
    refine e_ (d := .own 1) 5 rfl rfl rfl rfl rfl (b' := []) (r' := [some ⟨3, 1, []⟩, some ⟨3, 1, List.map c_i64 []⟩]) (x_lit (f := c_i64) (l := []) rfl el43 rw3 zs3 rfl rfl rfl (by decide) (by decide) fl_i64 rfl) rfl ?_
    refine p_ 6 rfl rfl rfl rfl (.move rfl rfl) ?_
    refine e_ (d := .own 2) 7 rfl rfl rfl rfl rfl (b' := []) (r' := [some ⟨3, 1, []⟩, none, some ⟨3, 1, List.map c_i64 (a :: l)⟩]) (x_app (f := c_i64) (xs := []) (ys := (a :: l)) rfl rfl rfl el43 rw3 rfl rfl rfl fl_i64 h) rfl ?_
    refine p_ 2 rfl rfl rfl rfl (.assign rfl rfl) ?_
    refine we_nil ?_
    refine ex_ret ?_
    exact finB (.inr rfl) (.refl _) [.own 2] [2] [] (res_cons (res_tmp rfl) res_nil) rfl rfl rfl rfl rfl rfl rfl
theorem ok_slices_Clone_apiCell {r : (List (T_api_Cell))} {p0 : List (T_api_Cell)} (h : slices_Clone_apiCell p0 = some r) : OkB prog 46 [.sl false (List.map c_api_Cell p0)] [] [] (.own 0) [] [⟨41, 3, List.map c_api_Cell r⟩] := by
  have h0 := (capO_some h).1
  subst h0
  cases r with
  | nil =>
    refine OkB.split (i := 0) rfl ?_
    intro nl
    cases nl with
    | true =>
      show OkB prog 46 [.em true] [] [] _ [] _
      refine okB_of_exG func46 rfl rfl (s0 := [.em true, .top, .top, .top, .top, .top, .top, .top]) (b0 := []) (r0 := []) rfl rfl rfl ?_
      show Ex _ _ _ ⟨[.em true, .top, .top, .top, .top, .top, .top, .top], [], [], 0⟩ _
      refine ex_seq ?_
      refine ex_ord [0] (l := [0]) rfl ?_
      refine e_ (d := .own 0) 2 rfl rfl rfl rfl rfl (b' := []) (r' := [some ⟨41, 3, []⟩]) (.nilRow (.inr rfl) rfl 41 3) rfl ?_
      refine we_nil ?_
      refine ex_seq ?_
      refine ex_seq ?_
      refine ex_ord [] (l := [0, 1]) rfl ?_
      refine p_ 3 rfl rfl rfl rfl (.move rfl rfl) ?_
      refine p_ 4 rfl rfl rfl rfl (.eqNil (ne := false) rfl rfl rfl rfl el42) ?_
      refine we_nil ?_
      refine ex_cond (t := true) rfl ?_
      refine ex_seq ?_
      refine ex_ord [0] (l := [0]) rfl ?_
      refine e_ (d := .own 1) 2 rfl rfl rfl rfl rfl (b' := []) (r' := [some ⟨41, 3, []⟩, some ⟨41, 3, []⟩]) (.nilRow (.inr rfl) rfl 41 3) rfl ?_
      refine we_nil ?_
      refine ex_ret ?_
      exact finB (.inr rfl) (.refl _) [.own 1] [1] [] (res_cons (res_tmp rfl) res_nil) rfl rfl rfl rfl rfl rfl rfl
    | false =>
      show OkB prog 46 [.em false] [] [] _ [] _
      refine okB_of_exG func46 rfl rfl (s0 := [.em false, .top, .top, .top, .top, .top, .top, .top]) (b0 := []) (r0 := []) rfl rfl rfl ?_
      show Ex _ _ _ ⟨[.em false, .top, .top, .top, .top, .top, .top, .top], [], [], 0⟩ _
      refine ex_seq ?_
      refine ex_ord [0] (l := [0]) rfl ?_
      refine e_ (d := .own 0) 2 rfl rfl rfl rfl rfl (b' := []) (r' := [some ⟨41, 3, []⟩]) (.nilRow (.inr rfl) rfl 41 3) rfl ?_
      refine we_nil ?_
      refine ex_seq ?_
      refine ex_seq ?_
      refine ex_ord [] (l := [0, 1]) rfl ?_
      refine p_ 3 rfl rfl rfl rfl (.move rfl rfl) ?_
      refine p_ 4 rfl rfl rfl rfl (.eqNil (ne := false) rfl rfl rfl rfl el42) ?_
      refine we_nil ?_
      refine ex_cond (t := false) rfl ?_
      refine ex_skip ?_
      refine ex_seq ?_
      refine ex_ord [0, 2] (l := [0, 1, 2, 3]) rfl ?_
      refine e_ (d := .own 1) 5 rfl rfl rfl rfl rfl (b' := []) (r' := [some ⟨41, 3, []⟩, some ⟨41, 3, List.map c_api_Cell []⟩]) (x_lit (f := c_api_Cell) (l := []) rfl el42 rw41 zs41 rfl rfl rfl (by decide) (by decide) fl_api_Cell rfl) rfl ?_
      refine p_ 6 rfl rfl rfl rfl (.move rfl rfl) ?_
      refine e_ (d := .own 2) 7 rfl rfl rfl rfl rfl (b' := []) (r' := [some ⟨41, 3, []⟩, none, some ⟨41, 3, List.map c_api_Cell []⟩]) (x_app (f := c_api_Cell) (xs := []) (ys := []) rfl rfl rfl el42 rw41 rfl rfl rfl fl_api_Cell h) rfl ?_
      refine p_ 2 rfl rfl rfl rfl (.assign rfl rfl) ?_
      refine we_nil ?_
      refine ex_ret ?_
      exact finB (.inr rfl) (.refl _) [.own 2] [2] [] (res_cons (res_tmp rfl) res_nil) rfl rfl rfl rfl rfl rfl rfl
  | cons a l =>
    refine okB_of_exG func46 rfl rfl (s0 := [.sl false (List.map c_api_Cell (a :: l)), .top, .top, .top, .top, .top, .top, .top]) (b0 := []) (r0 := []) rfl rfl rfl ?_
    show Ex _ _ _ ⟨[.sl false (List.map c_api_Cell (a :: l)), .top, .top, .top, .top, .top, .top, .top], [], [], 0⟩ _
    refine ex_seq ?_
    refine ex_ord [0] (l := [0]) rfl ?_
    refine e_ (d := .own 0) 2 rfl rfl rfl rfl rfl (b' := []) (r' := [some ⟨41, 3, []⟩]) (.nilRow (.inr rfl) rfl 41 3) rfl ?_
    refine we_nil ?_
    refine ex_seq ?_
    refine ex_seq ?_
    refine ex_ord [] (l := [0, 1]) rfl ?_
    refine p_ 3 rfl rfl rfl rfl (.move rfl rfl) ?_
    refine p_ 4 rfl rfl rfl rfl (.eqNil (ne := false) rfl rfl rfl rfl el42) ?_
    refine we_nil ?_
    refine ex_cond (t := false) rfl ?_
    refine ex_skip ?_
    refine ex_seq ?_
    refine ex_ord [0, 2] (l := [0, 1, 2, 3]) rfl ?_
    refine e_ (d := .own 1) 5 rfl rfl rfl rfl rfl (b' := []) (r' := [some ⟨41, 3, []⟩, some ⟨41, 3, List.map c_api_Cell []⟩]) (x_lit (f := c_api_Cell) (l := []) rfl el42 rw41 zs41 rfl rfl rfl (by decide) (by decide) fl_api_Cell rfl) rfl ?_
    refine p_ 6 rfl rfl rfl rfl (.move rfl rfl) ?_
    refine e_ (d := .own 2) 7 rfl rfl rfl rfl rfl (b' := []) (r' := [some ⟨41, 3, []⟩, none, some ⟨41, 3, List.map c_api_Cell (a :: l)⟩]) (x_app (f := c_api_Cell) (xs := []) (ys := (a :: l)) rfl rfl rfl el42 rw41 rfl rfl rfl fl_api_Cell h) rfl ?_
    refine p_ 2 rfl rfl rfl rfl (.assign rfl rfl) ?_
    refine we_nil ?_
    refine ex_ret ?_
    exact finB (.inr rfl) (.refl _) [.own 2] [2] [] (res_cons (res_tmp rfl) res_nil) rfl rfl rfl rfl rfl rfl rfl
def encs_doc_between_1 (x : Int × ((Int) × (Int))) : Array Value := #[.int .i64 x.1, .agg #[.int .i64 x.2.1, .int .i64 x.2.2]]
def encD_doc_between_1 (x : Int × ((Int) × (Int))) : List DV := [.int .i64 x.1, .agg [.int .i64 x.2.1, .int .i64 x.2.2]]
theorem henc_doc_between_1 : ∀ x, (encs_doc_between_1 x).size = 2 ∧ (encD_doc_between_1 x).length = 2 ∧ ∀ (w : World) (N ok : Nat → Prop) (j : Nat) (d : DV), (encD_doc_between_1 x)[j]? = some d → VR w N ok d ((encs_doc_between_1 x).getD j undef) := fun x => ⟨rfl, rfl, fun w N ok j d h => encV_vr (vs := [.sc (.int .i64 x.1), .agg [.int .i64 x.2.1, .int .i64 x.2.2]]) rfl rfl h⟩
theorem hex_doc_between_1 : ∀ (x : Int × ((Int) × (Int))) (W : World) (N ok : Nat → Prop) (vs : Array Value), vs.size = (encD_doc_between_1 x).length → (∀ j d, (encD_doc_between_1 x)[j]? = some d → VR W N ok d (vs.getD j undef)) → vs = encs_doc_between_1 x := fun x W N ok vs h1 h2 => encV_ex (ys := [.sc (.int .i64 x.1), .agg [.int .i64 x.2.1, .int .i64 x.2.2]]) rfl rfl h1 h2
theorem ok_doc_between_1 {p1 : T_api_Pos} {p2 : T_api_Pos} {p3 : List (T_api_Line)} {xs : List (Int × ((Int) × (Int)))} (h : doc_between_1 p1 p2 p3 = some xs) : SeqOk prog 53 [.cp [.int .i64 p1.f_Line, .int .i64 p1.f_At], .cp [.int .i64 p2.f_Line, .int .i64 p2.f_At], .cp [.sl false (List.map c_api_Line p3)]] encs_doc_between_1 xs := by
  unfold doc_between_1 at h
  refine seqok_of func53 rfl rfl ?_
  intro l lb J Jx hJ hJx hcap hcapx hy
  show ExG _ _ _ (⟨[.yl l, .cp [.int .i64 p1.f_Line, .int .i64 p1.f_At], .cp [.int .i64 p2.f_Line, .int .i64 p2.f_At], .cp [.sl false (List.map c_api_Line p3)], .top, .top, .top, .top, .top, .top, .top, .top, .top, .top, .top, .top, .top, .top, .top, .top, .top, .top, .top, .top, .top, .top, .top, .top, .top, .top, .top, .top, .top, .top, .top, .top, .top, .top, .top, .top, .top], 0, true⟩ : YS) _
  refine exg_seq ?_
  refine exg_piece hJ hJx [.yl l, .cp [.int .i64 p1.f_Line, .int .i64 p1.f_At], .cp [.int .i64 p2.f_Line, .int .i64 p2.f_At], .cp [.sl false (List.map c_api_Line p3)], .top, .int .i64 p1.f_Line, .top, .top, .top, .top, .top, .top, .top, .top, .top, .top, .top, .top, .top, .top, .top, .top, .top, .top, .top, .top, .top, .top, .top, .top, .top, .top, .top, .top, .top, .top, .top, .top, .top, .top, .top] rfl ?_ rfl ?_
  · clear h
    refine ex_ord [] (l := [0, 1, 2]) rfl ?_
    refine p_ 8 rfl rfl rfl rfl (.fieldAddr rfl rfl rfl fl29u_0 rfl) ?_
    refine p_ 9 rfl rfl rfl rfl (x_load rfl rfl rfl sz3 un3 ag3 rfl) ?_
    refine p_ 5 rfl rfl rfl rfl (.assign rfl rfl) ?_
    refine we_nil ?_
    exact ⟨rfl, _, .re [true, true, true, true, false, true, false, false, false, false, false, false, false, false, false, false, false, false, false, false, false, false, false, false, false, false, false, false, false, false, false, false, false, false, false, false, false, false, false, false, false] [] [] rfl (.refl _), rfl⟩
  · refine exg_block ?_
    refine exg_iter (step := (fun s => doc_between_1u_l1 p1 p2 p3 s)) (fun s => [.yl l, .cp [.int .i64 p1.f_Line, .int .i64 p1.f_At], .cp [.int .i64 p2.f_Line, .int .i64 p2.f_At], .cp [.sl false (List.map c_api_Line p3)], .top, .int .i64 s, .top, .top, .top, .top, .top, .top, .top, .top, .top, .top, .top, .top, .top, .top, .top, .top, .top, .top, .top, .top, .top, .top, .top, .top, .top, .top, .top, .top, .top, .top, .top, .top, .top, .top, .top]) 0 (by rw [List.drop_zero]; exact h) (Nat.zero_le _) ?_ ?_ ?_
    · intro S h1 h2
      exact And.intro (.inl rfl) (.inl ⟨h1, h2⟩)
    · intro S h1 h2
      exact And.intro (.inr rfl) (.inr ⟨h1, h2⟩)
    · clear h
      rintro n1 k y h hx
      replace h : doc_between_1u_l1 p1 p2 p3 n1 = some y := h
      unfold doc_between_1u_l1 at h
      show ExG _ _ _ (⟨[.yl l, .cp [.int .i64 p1.f_Line, .int .i64 p1.f_At], .cp [.int .i64 p2.f_Line, .int .i64 p2.f_At], .cp [.sl false (List.map c_api_Line p3)], .top, .int .i64 n1, .top, .top, .top, .top, .top, .top, .top, .top, .top, .top, .top, .top, .top, .top, .top, .top, .top, .top, .top, .top, .top, .top, .top, .top, .top, .top, .top, .top, .top, .top, .top, .top, .top, .top, .top], k, true⟩ : YS) _
      refine exg_seq ?_
      refine exg_seq ?_
      refine exg_piece hJ hJx [.yl l, .cp [.int .i64 p1.f_Line, .int .i64 p1.f_At], .cp [.int .i64 p2.f_Line, .int .i64 p2.f_At], .cp [.sl false (List.map c_api_Line p3)], .top, .int .i64 n1, .top, .top, .top, .top, .top, .top, .top, .bool (decide ((n1 : Int) ≤ p2.f_Line)), .top, .top, .top, .top, .top, .top, .top, .top, .top, .top, .top, .top, .top, .top, .top, .top, .top, .top, .top, .top, .top, .top, .top, .top, .top, .top, .top] rfl ?_ rfl ?_
      · clear h
        refine ex_ord [] (l := [0, 1, 2, 3]) rfl ?_
        refine p_ 10 rfl rfl rfl rfl (.move rfl rfl) ?_
        refine p_ 11 rfl rfl rfl rfl (.fieldAddr rfl rfl rfl fl29u_0 rfl) ?_
        refine p_ 12 rfl rfl rfl rfl (x_load rfl rfl rfl sz3 un3 ag3 rfl) ?_
        refine p_ 13 rfl rfl rfl rfl (.bin rfl rfl rfl rfl) ?_
        refine we_nil ?_
        exact ⟨rfl, _, .re [true, true, true, true, false, true, false, false, false, false, false, false, false, true, false, false, false, false, false, false, false, false, false, false, false, false, false, false, false, false, false, false, false, false, false, false, false, false, false, false, false] [] [] rfl (.refl _), rfl⟩
      · refine exg_if rfl ?_ ?_
        · intro hc
          replace h := iteT h hc
          refine exg_skip ?_
          refine exg_seq ?_
          refine exg_block ?_
          refine exg_seq ?_
          obtain ⟨q2, hq, h⟩ := bindS h
          refine exg_piece hJ hJx [.yl l, .cp [.int .i64 p1.f_Line, .int .i64 p1.f_At], .cp [.int .i64 p2.f_Line, .int .i64 p2.f_At], .cp [.sl false (List.map c_api_Line p3)], .top, .int .i64 n1, .int .i64 0, .int .i64 q2, .top, .top, .top, .top, .top, .top, .top, .top, .top, .top, .top, .top, .top, .top, .top, .top, .top, .top, .top, .top, .top, .top, .top, .top, .top, .top, .top, .top, .top, .top, .top, .top, .top] rfl ?_ rfl ?_
          · clear h
            have h := hq
            clear hq
            refine ex_drw mo [1000, 1002, 1003, 1004, 1005] (by kernel_rfl) (l := [0, 1, 2, 3, 4, 5, 6, 7]) rfl ?_
            refine n_ 16 rfl rfl rfl (fun _ _ => x_load rfl rfl rfl sz22 un22 ag22 rfl) ?_
            refine p_ 17 rfl rfl rfl rfl (.move rfl rfl) ?_
            obtain ⟨v3, hv3, h⟩ := bindS h
            refine n_ 18 rfl rfl rfl (fun _ _ => x_idx (f := c_api_Line) (cs := [.int .i64 v3.f_Quote, .sl false (List.map c_i64 v3.f_Lists), .int .i64 v3.f_Kind, .sl false (List.map c_api_Cell v3.f_Cells)]) rfl rfl rfl el22 sz45 hv3 rfl rfl) ?_
            refine n_ 19 rfl rfl rfl (fun _ _ => .fieldAddr rfl rfl rfl fl45u_3 rfl) ?_
            refine n_ 20 rfl rfl rfl (fun _ _ => x_load rfl rfl rfl sz42 un42 ag42 rfl) ?_
            refine n_ 21 rfl rfl rfl (fun _ _ => x_len (f := c_api_Cell) (l := v3.f_Cells) rfl rfl rfl el42) ?_
            refine p_ 6 rfl rfl rfl rfl (.assign rfl rfl) ?_
            refine p_ 7 rfl rfl rfl rfl (.assign rfl rfl) ?_
            refine we_nil ?_
            cases h
            exact ⟨rfl, _, .re [true, true, true, true, false, true, true, true, false, false, false, false, false, false, false, false, false, false, false, false, false, false, false, false, false, false, false, false, false, false, false, false, false, false, false, false, false, false, false, false, false] [] [] rfl (.refl _), rfl⟩
          · clear hq
            refine exg_seq ?_
            obtain ⟨q4, hq, h⟩ := bindS h
            refine exg_piece hJ hJx [.yl l, .cp [.int .i64 p1.f_Line, .int .i64 p1.f_At], .cp [.int .i64 p2.f_Line, .int .i64 p2.f_At], .cp [.sl false (List.map c_api_Line p3)], .top, .int .i64 n1, .int .i64 q4, .int .i64 q2, .top, .top, .top, .top, .top, .top, .top, .top, .top, .top, .top, .top, .top, .top, .top, .top, .top, .top, .top, .top, .top, .top, .top, .top, .top, .top, .top, .top, .top, .top, .top, .top, .top] rfl ?_ rfl ?_
            · clear h
              have h := hq
              clear hq
              refine ex_seq ?_
              refine ex_ord [] (l := [0, 1, 2, 3]) rfl ?_
              refine p_ 22 rfl rfl rfl rfl (.move rfl rfl) ?_
              refine p_ 23 rfl rfl rfl rfl (.fieldAddr rfl rfl rfl fl29u_0 rfl) ?_
              refine p_ 24 rfl rfl rfl rfl (x_load rfl rfl rfl sz3 un3 ag3 rfl) ?_
              refine p_ 25 rfl rfl rfl rfl (.bin rfl rfl rfl rfl) ?_
              refine we_nil ?_
              refine ex_if rfl ?_ ?_
              · intro hc
                replace h := iteT h hc
                refine ex_ord [] (l := [0, 1, 2]) rfl ?_
                refine p_ 26 rfl rfl rfl rfl (.fieldAddr rfl rfl rfl fl29u_1 rfl) ?_
                refine p_ 27 rfl rfl rfl rfl (x_load rfl rfl rfl sz3 un3 ag3 rfl) ?_
                refine p_ 6 rfl rfl rfl rfl (.assign rfl rfl) ?_
                refine we_nil ?_
                cases h
                exact ⟨rfl, _, .re [true, true, true, true, false, true, true, true, false, false, false, false, false, false, false, false, false, false, false, false, false, false, false, false, false, false, false, false, false, false, false, false, false, false, false, false, false, false, false, false, false] [] [] rfl (.refl _), rfl⟩
              · intro hc
                replace h := iteF h hc
                refine ex_skip ?_
                cases h
                exact ⟨rfl, _, .re [true, true, true, true, false, true, true, true, false, false, false, false, false, false, false, false, false, false, false, false, false, false, false, false, false, false, false, false, false, false, false, false, false, false, false, false, false, false, false, false, false] [] [] rfl (.refl _), rfl⟩
            · clear hq
              refine exg_seq ?_
              obtain ⟨q5, hq, h⟩ := bindS h
              refine exg_piece hJ hJx [.yl l, .cp [.int .i64 p1.f_Line, .int .i64 p1.f_At], .cp [.int .i64 p2.f_Line, .int .i64 p2.f_At], .cp [.sl false (List.map c_api_Line p3)], .top, .int .i64 n1, .int .i64 q4, .int .i64 q5, .top, .top, .top, .top, .top, .top, .top, .top, .top, .top, .top, .top, .top, .top, .top, .top, .top, .top, .top, .top, .top, .top, .top, .top, .top, .top, .top, .top, .top, .top, .top, .top, .top] rfl ?_ rfl ?_
              · clear h
                have h := hq
                clear hq
                refine ex_seq ?_
                refine ex_ord [] (l := [0, 1, 2, 3]) rfl ?_
                refine p_ 28 rfl rfl rfl rfl (.move rfl rfl) ?_
                refine p_ 29 rfl rfl rfl rfl (.fieldAddr rfl rfl rfl fl29u_0 rfl) ?_
                refine p_ 30 rfl rfl rfl rfl (x_load rfl rfl rfl sz3 un3 ag3 rfl) ?_
                refine p_ 31 rfl rfl rfl rfl (.bin rfl rfl rfl rfl) ?_
                refine we_nil ?_
                refine ex_if rfl ?_ ?_
                · intro hc
                  replace h := iteT h hc
                  refine ex_ord [] (l := [0, 1, 2]) rfl ?_
                  refine p_ 32 rfl rfl rfl rfl (.fieldAddr rfl rfl rfl fl29u_1 rfl) ?_
                  refine p_ 33 rfl rfl rfl rfl (x_load rfl rfl rfl sz3 un3 ag3 rfl) ?_
                  refine p_ 7 rfl rfl rfl rfl (.assign rfl rfl) ?_
                  refine we_nil ?_
                  cases h
                  exact ⟨rfl, _, .re [true, true, true, true, false, true, true, true, false, false, false, false, false, false, false, false, false, false, false, false, false, false, false, false, false, false, false, false, false, false, false, false, false, false, false, false, false, false, false, false, false] [] [] rfl (.refl _), rfl⟩
                · intro hc
                  replace h := iteF h hc
                  refine ex_skip ?_
                  cases h
                  exact ⟨rfl, _, .re [true, true, true, true, false, true, true, true, false, false, false, false, false, false, false, false, false, false, false, false, false, false, false, false, false, false, false, false, false, false, false, false, false, false, false, false, false, false, false, false, false] [] [] rfl (.refl _), rfl⟩
              · clear hq
                have h := Option.some.inj h
                subst h
                have hx := hx _ _ rfl
                refine exg_seq ?_
                refine exg_yieldW (l1 := [0, 1, 2, 3, 4]) (i := 5) (l2 := [6]) (encs := encs_doc_between_1) (encD := encD_doc_between_1) (x := (n1, (q4, q5))) (s1 := [.yl l, .cp [.int .i64 p1.f_Line, .int .i64 p1.f_At], .cp [.int .i64 p2.f_Line, .int .i64 p2.f_At], .cp [.sl false (List.map c_api_Line p3)], .top, .int .i64 n1, .int .i64 q4, .int .i64 q5, .top, .top, .top, .top, .top, .top, .top, .top, .top, .top, .top, .top, .top, .top, .top, .top, .top, .top, .top, .top, .top, .top, .top, .top, .top, .top, .yl l, .int .i64 n1, .int .i64 q4, .int .i64 q5, .agg [.int .i64 q4, .int .i64 q5], .top, .top]) (t := 39) hJ hJx hcap hcapx hy hex_doc_between_1 rfl (fun b => [.yl l, .cp [.int .i64 p1.f_Line, .int .i64 p1.f_At], .cp [.int .i64 p2.f_Line, .int .i64 p2.f_At], .cp [.sl false (List.map c_api_Line p3)], .top, .int .i64 n1, .int .i64 q4, .int .i64 q5, .top, .top, .top, .top, .top, .top, .top, .top, .top, .top, .top, .top, .top, .top, .top, .top, .top, .top, .top, .top, .top, .top, .top, .top, .top, .top, .yl l, .int .i64 n1, .int .i64 q4, .int .i64 q5, .top, .bool b, .top]) (fun b => [.yl l, .cp [.int .i64 p1.f_Line, .int .i64 p1.f_At], .cp [.int .i64 p2.f_Line, .int .i64 p2.f_At], .cp [.sl false (List.map c_api_Line p3)], .top, .int .i64 n1, .int .i64 q4, .int .i64 q5, .top, .top, .top, .top, .top, .top, .top, .top, .top, .top, .top, .top, .top, .top, .top, .top, .top, .top, .top, .top, .top, .top, .top, .top, .top, .top, .yl l, .int .i64 n1, .int .i64 q4, .int .i64 q5, .top, .bool b, .bool (!b)]) (Nat.le_of_ble_eq_true rfl) rfl ?_ rfl rfl rfl rfl rfl rfl rfl ?_ rfl ?_ ?_ ?_ ?_
                · refine p_ 34 rfl rfl rfl rfl (.move rfl rfl) ?_
                  refine p_ 35 rfl rfl rfl rfl (.move rfl rfl) ?_
                  refine p_ 36 rfl rfl rfl rfl (.move rfl rfl) ?_
                  refine p_ 37 rfl rfl rfl rfl (.move rfl rfl) ?_
                  refine p_ 38 rfl rfl rfl rfl (x_buildA rfl ar76 sz3 ze76 rfl rfl rfl rfl) ?_
                  refine we_nil ?_
                  exact rfl
                · exact hx
                · intro b; rfl
                · intro b
                  refine p_ 40 rfl rfl rfl rfl (.un rfl rfl rfl) ?_
                  refine we_nil ?_
                  exact rfl
                · intro b; rfl
                · intro b
                  refine exg_if (t := !b) rfl ?_ ?_
                  · intro hb
                    refine exg_ret ?_
                    exact .inr (.inr ⟨rfl, by simpa using hb, rfl, _, rfl⟩)
                  · intro hb
                    obtain rfl : b = true := by simpa using hb
                    refine exg_skip ?_
                    have h := True.intro
                    refine exg_piece hJ hJx [.yl l, .cp [.int .i64 p1.f_Line, .int .i64 p1.f_At], .cp [.int .i64 p2.f_Line, .int .i64 p2.f_At], .cp [.sl false (List.map c_api_Line p3)], .top, .int .i64 (IntKind.wrap .i64 (n1 + 1)), .top, .top, .top, .top, .top, .top, .top, .top, .top, .top, .top, .top, .top, .top, .top, .top, .top, .top, .top, .top, .top, .top, .top, .top, .top, .top, .top, .top, .top, .top, .top, .top, .top, .top, .top] rfl ?_ rfl ?_
                    · clear h
                      refine ex_ord [] (l := [0, 1, 2]) rfl ?_
                      refine p_ 14 rfl rfl rfl rfl (.move rfl rfl) ?_
                      refine p_ 15 rfl rfl rfl rfl (.bin rfl rfl rfl rfl) ?_
                      refine p_ 5 rfl rfl rfl rfl (.assign rfl rfl) ?_
                      refine we_nil ?_
                      exact ⟨rfl, _, .re [true, true, true, true, false, true, false, false, false, false, false, false, false, false, false, false, false, false, false, false, false, false, false, false, false, false, false, false, false, false, false, false, false, false, false, false, false, false, false, false, false] [] [] rfl (.refl _), rfl⟩
                    · exact .inl ⟨rfl, _, _, rfl, rfl⟩
        · intro hc
          replace h := iteF h hc
          have h := Option.some.inj h
          subst h
          refine exg_exit ?_
          exact .inr (.inl ⟨rfl, rfl, rfl, rfl⟩)
theorem ok_attrs_Target {r : Bool} {p0 : List UInt8} (h : attrs_Target p0 = some r) : OkB prog 64 [.str (bs p0)] [] [] (.bool r) [] [] := by
  cases h
theorem ok_doc_End {r : T_api_Pos} {p0 : List (T_api_Line)} (h : doc_End p0 = some r) : OkB prog 7 [.sl false (List.map c_api_Line p0)] [] [] (.agg [.int .i64 r.f_Line, .int .i64 r.f_At]) [] [] := by
  unfold doc_End at h
  refine okB_of_exG func7 rfl rfl (s0 := [.sl false (List.map c_api_Line p0), .top, .top, .top, .top, .top, .top, .top, .top, .top, .top, .top, .top, .top, .top, .top, .top, .top, .top]) (b0 := []) (r0 := []) rfl rfl rfl ?_
  show Ex _ _ _ ⟨[.sl false (List.map c_api_Line p0), .top, .top, .top, .top, .top, .top, .top, .top, .top, .top, .top, .top, .top, .top, .top, .top, .top, .top], [], [], 0⟩ _
  refine ex_seq ?_
  refine ex_ord [0] (l := [0]) rfl ?_
  refine e_ (d := .bx 0 0) 2 rfl rfl rfl rfl rfl (b' := [some [.int .i64 0, .int .i64 0]]) (r' := []) (.alloc rfl ze29) rfl ?_
  refine we_nil ?_
  refine ex_seq ?_
  refine ex_seq ?_
  refine ex_ord [] (l := [0, 1, 2]) rfl ?_
  refine p_ 3 rfl rfl rfl rfl (.move rfl rfl) ?_
  refine p_ 4 rfl rfl rfl rfl (x_len (f := c_api_Line) (l := p0) rfl rfl rfl el22) ?_
  refine p_ 5 rfl rfl rfl rfl (.bin rfl rfl rfl rfl) ?_
  refine we_nil ?_
  refine ex_if rfl ?_ ?_
  · intro hc
    replace h := iteT h hc
    refine ex_seq ?_
    refine ex_ord [1] (l := [0, 1]) rfl ?_
    refine p_ 6 rfl rfl rfl rfl (x_build rfl pl29 ze29 rfl rfl rfl rfl) ?_
    refine e0 rfl rfl rfl rfl rfl (b' := [some [.int .i64 0, .int .i64 0]]) (r' := []) (.store rfl rfl rfl sz29 rfl rfl rfl) rfl ?_
    refine we_nil ?_
    refine ex_ret ?_
    obtain rfl := Option.some.inj h
    exact finB (by first | exact .inr rfl | exact .inl rfl) (.refl _) [.agg [.int .i64 0, .int .i64 0]] [] [] (res_cons (res_cell rfl rfl sz29 un29 ag29 rfl) res_nil) rfl rfl rfl rfl rfl rfl rfl
  · intro hc
    replace h := iteF h hc
    refine ex_skip ?_
    refine ex_seq ?_
    refine ex_ord [12] (l := [0, 1, 2, 3, 4, 5, 6, 7, 8, 9, 10, 11, 12]) rfl ?_
    refine p_ 7 rfl rfl rfl rfl (.move rfl rfl) ?_
    refine p_ 8 rfl rfl rfl rfl (x_len (f := c_api_Line) (l := p0) rfl rfl rfl el22) ?_
    refine p_ 9 rfl rfl rfl rfl (.bin rfl rfl rfl rfl) ?_
    refine p_ 10 rfl rfl rfl rfl (.move rfl rfl) ?_
    refine p_ 11 rfl rfl rfl rfl (.move rfl rfl) ?_
    refine p_ 12 rfl rfl rfl rfl (x_len (f := c_api_Line) (l := p0) rfl rfl rfl el22) ?_
    refine p_ 13 rfl rfl rfl rfl (.bin rfl rfl rfl rfl) ?_
    obtain ⟨v1, hv1, h⟩ := bindS h
    refine p_ 14 rfl rfl rfl rfl (x_idx (f := c_api_Line) (cs := [.int .i64 v1.f_Quote, .sl false (List.map c_i64 v1.f_Lists), .int .i64 v1.f_Kind, .sl false (List.map c_api_Cell v1.f_Cells)]) rfl rfl rfl el22 sz45 hv1 rfl rfl) ?_
    refine p_ 15 rfl rfl rfl rfl (.fieldAddr rfl rfl rfl fl45u_3 rfl) ?_
    refine p_ 16 rfl rfl rfl rfl (x_load rfl rfl rfl sz42 un42 ag42 rfl) ?_
    refine p_ 17 rfl rfl rfl rfl (x_len (f := c_api_Cell) (l := v1.f_Cells) rfl rfl rfl el42) ?_
    refine p_ 18 rfl rfl rfl rfl (x_build rfl pl29 ze29 rfl rfl rfl rfl) ?_
    refine e0 rfl rfl rfl rfl rfl (b' := [some [.int .i64 (IntKind.wrap .i64 ((p0.length : Int) - 1)), .int .i64 (v1.f_Cells.length : Int)]]) (r' := []) (.store rfl rfl rfl sz29 rfl rfl rfl) rfl ?_
    refine we_nil ?_
    refine ex_ret ?_
    obtain rfl := Option.some.inj h
    exact finB (by first | exact .inr rfl | exact .inl rfl) (.refl _) [.agg [.int .i64 (IntKind.wrap .i64 ((p0.length : Int) - 1)), .int .i64 (v1.f_Cells.length : Int)]] [] [] (res_cons (res_cell rfl rfl sz29 un29 ag29 rfl) res_nil) rfl rfl rfl rfl rfl rfl rfl
theorem ok_doc_Size {r : Int} {p0 : List (T_api_Line)} (h : doc_Size p0 = some r) : OkB prog 8 [.sl false (List.map c_api_Line p0)] [] [] (.int .i64 r) [] [] := by
  unfold doc_Size at h
  refine okB_of_exG func8 rfl rfl (s0 := [.sl false (List.map c_api_Line p0), .top, .top, .top, .top, .top, .top, .top, .top, .top, .top, .top, .top, .top, .top, .top, .top, .top, .top]) (b0 := []) (r0 := []) rfl rfl rfl ?_
  show Ex _ _ _ ⟨[.sl false (List.map c_api_Line p0), .top, .top, .top, .top, .top, .top, .top, .top, .top, .top, .top, .top, .top, .top, .top, .top, .top, .top], [], [], 0⟩ _
  refine ex_seq ?_
  refine ex_ord [] (l := [0]) rfl ?_
  refine p_ 2 rfl rfl rfl rfl (.assign rfl rfl) ?_
  refine we_nil ?_
  refine ex_seq ?_
  refine ex_ord [] (l := [0]) rfl ?_
  refine p_ 3 rfl rfl rfl rfl (.assign rfl rfl) ?_
  refine we_nil ?_
  refine ex_seq ?_
  refine ex_seq ?_
  refine ex_ord [] (l := [0, 1, 2]) rfl ?_
  refine p_ 6 rfl rfl rfl rfl (.move rfl rfl) ?_
  refine p_ 7 rfl rfl rfl rfl (x_len (f := c_api_Line) (l := p0) rfl rfl rfl el22) ?_
  refine p_ 8 rfl rfl rfl rfl (.move rfl rfl) ?_
  refine we_nil ?_
  refine ex_block ?_
  obtain ⟨k3, hl, h⟩ := bindS h
  refine ex_gst ⟨[.top, .top, .top, .int .i64 0, .top, .top, .sl false (List.map c_api_Line p0), .int .i64 (p0.length : Int), .int .i64 0, .top, .top, .top, .top, .top, .top, .top, .top, .top, .top], [], [], 0⟩ (.re [false, false, false, true, false, false, true, true, true, false, false, false, false, false, false, false, false, false, false] [] [] rfl (.refl _)) rfl ?_
  refine ex_iterX (fun _ => .exit 0) (fun s => ⟨[.top, .top, .top, .int .i64 s.1, .top, .top, .sl false (List.map c_api_Line p0), .int .i64 (p0.length : Int), .int .i64 s.2, .top, .top, .top, .top, .top, .top, .top, .top, .top, .top], [], [], 0⟩) (fun o => ⟨[.top, .top, .top, .int .i64 o, .top, .top, .top, .top, .top, .top, .top, .top, .top, .top, .top, .top, .top, .top, .top], [], [], 0⟩) hl rfl ?_ ?_
  · clear hl
    refine ex_seq ?_
    refine ex_ord [] (l := [0, 1]) rfl ?_
    refine p_ 18 rfl rfl rfl rfl (.move rfl rfl) ?_
    refine p_ 2 rfl rfl rfl rfl (.assign rfl rfl) ?_
    refine we_nil ?_
    refine ex_ret ?_
    obtain rfl := Option.some.inj h
    exact finB (by first | exact .inr rfl | exact .inl rfl) (.refl _) [.int .i64 k3] [] [] (res_cons (res_tmp rfl) res_nil) rfl rfl rfl rfl rfl rfl rfl
  · clear hl h
    rintro ⟨n1, n2⟩ y h
    replace h : doc_Size_l1 p0 n1 n2 = some y := h
    unfold doc_Size_l1 at h
    show Ex _ _ _ ⟨[.top, .top, .top, .int .i64 n1, .top, .top, .sl false (List.map c_api_Line p0), .int .i64 (p0.length : Int), .int .i64 n2, .top, .top, .top, .top, .top, .top, .top, .top, .top, .top], [], [], 0⟩ _
    refine ex_seq ?_
    refine ex_ord [] (l := [0]) rfl ?_
    refine p_ 9 rfl rfl rfl rfl (.bin rfl rfl rfl rfl) ?_
    refine we_nil ?_
    refine ex_seq ?_
    refine ex_if rfl ?_ ?_
    · intro hc
      replace h := iteT h hc
      refine ex_skip ?_
      refine ex_seq ?_
      refine ex_block ?_
      refine ex_seq ?_
      refine ex_ord [2, 3] (l := [0, 1, 2, 3]) rfl ?_
      obtain ⟨v4, hv4, h⟩ := bindS h
      refine p_ 10 rfl rfl rfl rfl (x_idx (f := c_api_Line) (cs := [.int .i64 v4.f_Quote, .sl false (List.map c_i64 v4.f_Lists), .int .i64 v4.f_Kind, .sl false (List.map c_api_Cell v4.f_Cells)]) rfl rfl rfl el22 sz45 hv4 rfl rfl) ?_
      refine p_ 11 rfl rfl rfl rfl (x_loadA rfl rfl rfl sz45 un45 ag45 rfl) ?_
      refine e_ (d := .bx 0 0) 5 rfl rfl rfl rfl rfl (b' := [some [.int .i64 0, .sl false [], .int .i64 0, .sl false []]]) (r' := []) (.alloc rfl ze45) rfl ?_
      refine e0 rfl rfl rfl rfl rfl (b' := [some [.int .i64 v4.f_Quote, .sl false (List.map c_i64 v4.f_Lists), .int .i64 v4.f_Kind, .sl false (List.map c_api_Cell v4.f_Cells)]]) (r' := []) (.store rfl rfl rfl sz45 rfl rfl rfl) rfl ?_
      refine we_nil ?_
      refine ex_gst ⟨[.top, .top, .top, .int .i64 n1, .top, .cp [.int .i64 v4.f_Quote, .sl false (List.map c_i64 v4.f_Lists), .int .i64 v4.f_Kind, .sl false (List.map c_api_Cell v4.f_Cells)], .sl false (List.map c_api_Line p0), .int .i64 (p0.length : Int), .int .i64 n2, .bool (decide ((n2 : Int) < (p0.length : Int))), .cp [.int .i64 v4.f_Quote, .sl false (List.map c_i64 v4.f_Lists), .int .i64 v4.f_Kind, .sl false (List.map c_api_Cell v4.f_Cells)], .agg [.int .i64 v4.f_Quote, .sl false (List.map c_i64 v4.f_Lists), .int .i64 v4.f_Kind, .sl false (List.map c_api_Cell v4.f_Cells)], .top, .top, .top, .top, .top, .top, .top], [none], [], 0⟩ (.shutB (b := 0) rfl (fun d h => by simpa using List.all_eq_true.1 (rfl : List.all [.int .i64 v4.f_Quote, .sl false (List.map c_i64 v4.f_Lists), .int .i64 v4.f_Kind, .sl false (List.map c_api_Cell v4.f_Cells)] (fun d => !d.tok) = true) d h) (.refl _)) rfl ?_
      refine ex_ord [] (l := [0, 1, 2, 3, 4, 5]) rfl ?_
      refine p_ 12 rfl rfl rfl rfl (.move rfl rfl) ?_
      refine p_ 13 rfl rfl rfl rfl (.fieldAddr rfl rfl rfl fl45u_3 rfl) ?_
      refine p_ 14 rfl rfl rfl rfl (x_load rfl rfl rfl sz42 un42 ag42 rfl) ?_
      refine p_ 15 rfl rfl rfl rfl (x_len (f := c_api_Cell) (l := v4.f_Cells) rfl rfl rfl el42) ?_
      refine p_ 16 rfl rfl rfl rfl (.bin rfl rfl rfl rfl) ?_
      refine p_ 3 rfl rfl rfl rfl (.assign rfl rfl) ?_
      refine we_nil ?_
      refine ex_ord [] (l := [0, 1]) rfl ?_
      refine p_ 17 rfl rfl rfl rfl (.bin rfl rfl rfl rfl) ?_
      refine p_ 8 rfl rfl rfl rfl (.move rfl rfl) ?_
      refine we_nil ?_
      exact rnd_on rfl h (.re [false, false, false, true, false, false, true, true, true, false, false, false, false, false, false, false, false, false, false] [] [] rfl (.refl _)) rfl
    · intro hc
      replace h := iteF h hc
      refine ex_exit ?_
      exact rnd_out (o := n1) rfl (fun h => by cases h) h (.re [false, false, false, true, false, false, false, false, false, false, false, false, false, false, false, false, false, false, false] [] [] rfl (.refl _)) rfl
theorem ok_doc_At {r : T_api_Pos × Int} {p0 : List (T_api_Line)} {p1 : Int} (h : doc_At p0 p1 = some r) : OkB prog 9 [.sl false (List.map c_api_Line p0), .int .i64 p1] [] [] (.tup [.agg [.int .i64 r.1.f_Line, .int .i64 r.1.f_At], .int .i64 r.2]) [] [] := by
  unfold doc_At at h
  refine okB_of_exG func9 rfl rfl (s0 := [.sl false (List.map c_api_Line p0), .int .i64 p1, .top, .top, .top, .top, .top, .top, .top, .top, .top, .top, .top, .top, .top, .top, .top, .top, .top, .top, .top, .top, .top, .top, .top, .top, .top, .top, .top, .top, .top, .top, .top]) (b0 := []) (r0 := []) rfl rfl rfl ?_
  show Ex _ _ _ ⟨[.sl false (List.map c_api_Line p0), .int .i64 p1, .top, .top, .top, .top, .top, .top, .top, .top, .top, .top, .top, .top, .top, .top, .top, .top, .top, .top, .top, .top, .top, .top, .top, .top, .top, .top, .top, .top, .top, .top, .top], [], [], 0⟩ _
  refine ex_seq ?_
  refine ex_ord [0] (l := [0, 1]) rfl ?_
  refine e_ (d := .bx 0 0) 4 rfl rfl rfl rfl rfl (b' := [some [.int .i64 0, .int .i64 0]]) (r' := []) (.alloc rfl ze29) rfl ?_
  refine p_ 5 rfl rfl rfl rfl (.assign rfl rfl) ?_
  refine we_nil ?_
  refine ex_seq ?_
  refine ex_seq ?_
  refine ex_ord [] (l := [0, 1, 2]) rfl ?_
  refine p_ 8 rfl rfl rfl rfl (.move rfl rfl) ?_
  refine p_ 9 rfl rfl rfl rfl (x_len (f := c_api_Line) (l := p0) rfl rfl rfl el22) ?_
  refine p_ 10 rfl rfl rfl rfl (.move rfl rfl) ?_
  refine we_nil ?_
  refine ex_block ?_
  obtain ⟨o6, hl, h⟩ := bindS h
  refine ex_gst ⟨[.top, .int .i64 p1, .top, .top, .bx 0 0, .top, .top, .top, .sl false (List.map c_api_Line p0), .int .i64 (p0.length : Int), .int .i64 0, .top, .top, .top, .top, .top, .top, .top, .top, .top, .top, .top, .top, .top, .top, .top, .top, .top, .top, .top, .top, .top, .top], [some [.int .i64 0, .int .i64 0]], [], 0⟩ (.re [false, true, false, false, true, false, false, false, true, true, true, false, false, false, false, false, false, false, false, false, false, false, false, false, false, false, false, false, false, false, false, false, false] [0] [] rfl (.refl _)) rfl ?_
  refine ex_iterX (fun o => match o with | .inl _ => .exit 0 | .inr _ => .ret) (fun s => ⟨[.top, .int .i64 s.1, .top, .top, .bx 0 0, .top, .top, .top, .sl false (List.map c_api_Line p0), .int .i64 (p0.length : Int), .int .i64 s.2, .top, .top, .top, .top, .top, .top, .top, .top, .top, .top, .top, .top, .top, .top, .top, .top, .top, .top, .top, .top, .top, .top], [some [.int .i64 0, .int .i64 0]], [], 0⟩) (fun o => match o with | .inl o => ⟨[.top, .top, .top, .top, .bx 0 0, .top, .top, .top, .top, .top, .top, .top, .top, .top, .top, .top, .top, .top, .top, .top, .top, .top, .top, .top, .top, .top, .top, .top, .top, .top, .top, .top, .top], [some [.int .i64 0, .int .i64 0]], [], 0⟩ | .inr o => ⟨[.top, .top, .top, .top, .bx 0 0, .int .i64 0, .top, .top, .top, .top, .top, .top, .top, .top, .top, .top, .top, .top, .top, .top, .top, .top, .top, .top, .top, .top, .top, .top, .top, .top, .top, .top, .top], [some [.int .i64 o.1, .int .i64 o.2]], [], 0⟩) hl rfl ?_ ?_
  · clear hl
    rcases o6 with _ | ⟨k3, k4⟩
    · refine ex_seq ?_
      refine ex_ord [1] (l := [0, 1, 2]) rfl ?_
      refine p_ 32 rfl rfl rfl rfl (x_build rfl pl29 ze29 rfl rfl rfl rfl) ?_
      refine e0 rfl rfl rfl rfl rfl (b' := [some [.int .i64 0, .int .i64 0]]) (r' := []) (.store rfl rfl rfl sz29 rfl rfl rfl) rfl ?_
      refine p_ 5 rfl rfl rfl rfl (.assign rfl rfl) ?_
      refine we_nil ?_
      refine ex_ret ?_
      obtain rfl := Option.some.inj h
      exact finB (by first | exact .inr rfl | exact .inl rfl) (.refl _) [.agg [.int .i64 0, .int .i64 0], .int .i64 1] [] [] (res_cons (res_cell rfl rfl sz29 un29 ag29 rfl) (res_cons (res_tmp rfl) res_nil)) rfl rfl rfl rfl rfl rfl rfl
    · obtain rfl := Option.some.inj h
      exact finB (by first | exact .inr rfl | exact .inl rfl) (.refl _) [.agg [.int .i64 k3, .int .i64 k4], .int .i64 0] [] [] (res_cons (res_cell rfl rfl sz29 un29 ag29 rfl) (res_cons (res_tmp rfl) res_nil)) rfl rfl rfl rfl rfl rfl rfl
  · clear hl h
    rintro ⟨n1, n2⟩ y h
    replace h : doc_At_l1 p0 n1 n2 = some y := h
    unfold doc_At_l1 at h
    show Ex _ _ _ ⟨[.top, .int .i64 n1, .top, .top, .bx 0 0, .top, .top, .top, .sl false (List.map c_api_Line p0), .int .i64 (p0.length : Int), .int .i64 n2, .top, .top, .top, .top, .top, .top, .top, .top, .top, .top, .top, .top, .top, .top, .top, .top, .top, .top, .top, .top, .top, .top], [some [.int .i64 0, .int .i64 0]], [], 0⟩ _
    refine ex_seq ?_
    refine ex_ord [] (l := [0]) rfl ?_
    refine p_ 11 rfl rfl rfl rfl (.bin rfl rfl rfl rfl) ?_
    refine we_nil ?_
    refine ex_seq ?_
    refine ex_if rfl ?_ ?_
    · intro hc
      replace h := iteT h hc
      refine ex_skip ?_
      refine ex_seq ?_
      refine ex_block ?_
      refine ex_seq ?_
      refine ex_ord [3, 5] (l := [0, 1, 2, 3, 4, 5]) rfl ?_
      refine p_ 12 rfl rfl rfl rfl (.move rfl rfl) ?_
      obtain ⟨v5, hv5, h⟩ := bindS h
      refine p_ 13 rfl rfl rfl rfl (x_idx (f := c_api_Line) (cs := [.int .i64 v5.f_Quote, .sl false (List.map c_i64 v5.f_Lists), .int .i64 v5.f_Kind, .sl false (List.map c_api_Cell v5.f_Cells)]) rfl rfl rfl el22 sz45 hv5 rfl rfl) ?_
      refine p_ 14 rfl rfl rfl rfl (x_loadA rfl rfl rfl sz45 un45 ag45 rfl) ?_
      refine e_ (d := .bx 1 0) 7 rfl rfl rfl rfl rfl (b' := [some [.int .i64 0, .int .i64 0], some [.int .i64 0, .sl false [], .int .i64 0, .sl false []]]) (r' := []) (.alloc rfl ze45) rfl ?_
      refine p_ 6 rfl rfl rfl rfl (.assign rfl rfl) ?_
      refine e0 rfl rfl rfl rfl rfl (b' := [some [.int .i64 0, .int .i64 0], some [.int .i64 v5.f_Quote, .sl false (List.map c_i64 v5.f_Lists), .int .i64 v5.f_Kind, .sl false (List.map c_api_Cell v5.f_Cells)]]) (r' := []) (.store rfl rfl rfl sz45 rfl rfl rfl) rfl ?_
      refine we_nil ?_
      refine ex_seq ?_
      refine ex_seq ?_
      refine ex_gst ⟨[.top, .int .i64 n1, .top, .top, .bx 0 0, .top, .int .i64 n2, .cp [.int .i64 v5.f_Quote, .sl false (List.map c_i64 v5.f_Lists), .int .i64 v5.f_Kind, .sl false (List.map c_api_Cell v5.f_Cells)], .sl false (List.map c_api_Line p0), .int .i64 (p0.length : Int), .int .i64 n2, .bool (decide ((n2 : Int) < (p0.length : Int))), .int .i64 n2, .cp [.int .i64 v5.f_Quote, .sl false (List.map c_i64 v5.f_Lists), .int .i64 v5.f_Kind, .sl false (List.map c_api_Cell v5.f_Cells)], .agg [.int .i64 v5.f_Quote, .sl false (List.map c_i64 v5.f_Lists), .int .i64 v5.f_Kind, .sl false (List.map c_api_Cell v5.f_Cells)], .top, .top, .top, .top, .top, .top, .top, .top, .top, .top, .top, .top, .top, .top, .top, .top, .top, .top], [some [.int .i64 0, .int .i64 0], none], [], 0⟩ (.shutB (b := 1) rfl (fun d h => by simpa using List.all_eq_true.1 (rfl : List.all [.int .i64 v5.f_Quote, .sl false (List.map c_i64 v5.f_Lists), .int .i64 v5.f_Kind, .sl false (List.map c_api_Cell v5.f_Cells)] (fun d => !d.tok) = true) d h) (.refl _)) rfl ?_
      refine ex_ord [] (l := [0, 1]) rfl ?_
      refine p_ 15 rfl rfl rfl rfl (.move rfl rfl) ?_
      refine p_ 16 rfl rfl rfl rfl (.bin rfl rfl rfl rfl) ?_
      refine we_nil ?_
      refine ex_if rfl ?_ ?_
      · intro hc
        replace h := iteT h hc
        refine ex_exit ?_
        exact rnd_out (o := (.inl ())) rfl (fun h => by cases h) h (.re [false, false, false, false, true, false, false, false, false, false, false, false, false, false, false, false, false, false, false, false, false, false, false, false, false, false, false, false, false, false, false, false, false] [0] [] rfl (.refl _)) rfl
      · intro hc
        replace h := iteF h hc
        refine ex_skip ?_
        refine ex_seq ?_
        refine ex_seq ?_
        refine ex_ord [] (l := [0, 1, 2, 3, 4]) rfl ?_
        refine p_ 17 rfl rfl rfl rfl (.move rfl rfl) ?_
        refine p_ 18 rfl rfl rfl rfl (.fieldAddr rfl rfl rfl fl45u_3 rfl) ?_
        refine p_ 19 rfl rfl rfl rfl (x_load rfl rfl rfl sz42 un42 ag42 rfl) ?_
        refine p_ 20 rfl rfl rfl rfl (x_len (f := c_api_Cell) (l := v5.f_Cells) rfl rfl rfl el42) ?_
        refine p_ 21 rfl rfl rfl rfl (.bin rfl rfl rfl rfl) ?_
        refine we_nil ?_
        refine ex_if rfl ?_ ?_
        · intro hc
          replace h := iteT h hc
          refine ex_seq ?_
          refine ex_ord [3] (l := [0, 1, 2, 3, 4]) rfl ?_
          refine p_ 22 rfl rfl rfl rfl (.move rfl rfl) ?_
          refine p_ 23 rfl rfl rfl rfl (.move rfl rfl) ?_
          refine p_ 24 rfl rfl rfl rfl (x_build rfl pl29 ze29 rfl rfl rfl rfl) ?_
          refine e0 rfl rfl rfl rfl rfl (b' := [some [.int .i64 n2, .int .i64 n1], none]) (r' := []) (.store rfl rfl rfl sz29 rfl rfl rfl) rfl ?_
          refine p_ 5 rfl rfl rfl rfl (.assign rfl rfl) ?_
          refine we_nil ?_
          refine ex_ret ?_
          exact rnd_out (o := (.inr (n2, n1))) rfl (fun h => by cases h) h (.re [false, false, false, false, true, true, false, false, false, false, false, false, false, false, false, false, false, false, false, false, false, false, false, false, false, false, false, false, false, false, false, false, false] [0] [] rfl (.refl _)) rfl
        · intro hc
          replace h := iteF h hc
          refine ex_skip ?_
          refine ex_ord [] (l := [0, 1, 2, 3, 4, 5, 6]) rfl ?_
          refine p_ 25 rfl rfl rfl rfl (.move rfl rfl) ?_
          refine p_ 26 rfl rfl rfl rfl (.fieldAddr rfl rfl rfl fl45u_3 rfl) ?_
          refine p_ 27 rfl rfl rfl rfl (x_load rfl rfl rfl sz42 un42 ag42 rfl) ?_
          refine p_ 28 rfl rfl rfl rfl (x_len (f := c_api_Cell) (l := v5.f_Cells) rfl rfl rfl el42) ?_
          refine p_ 29 rfl rfl rfl rfl (.bin rfl rfl rfl rfl) ?_
          refine p_ 30 rfl rfl rfl rfl (.bin rfl rfl rfl rfl) ?_
          refine p_ 1 rfl rfl rfl rfl (.assign rfl rfl) ?_
          refine we_nil ?_
          refine ex_ord [] (l := [0, 1]) rfl ?_
          refine p_ 31 rfl rfl rfl rfl (.bin rfl rfl rfl rfl) ?_
          refine p_ 10 rfl rfl rfl rfl (.move rfl rfl) ?_
          refine we_nil ?_
          exact rnd_on rfl h (.re [false, true, false, false, true, false, false, false, true, true, true, false, false, false, false, false, false, false, false, false, false, false, false, false, false, false, false, false, false, false, false, false, false] [0] [] rfl (.refl _)) rfl
    · intro hc
      replace h := iteF h hc
      refine ex_exit ?_
      exact rnd_out (o := (.inl ())) rfl (fun h => by cases h) h (.re [false, false, false, false, true, false, false, false, false, false, false, false, false, false, false, false, false, false, false, false, false, false, false, false, false, false, false, false, false, false, false, false, false] [0] [] rfl (.refl _)) rfl
theorem ok_doc_Is {r : Bool} {p0 : List (T_api_Line)} {p1 : T_api_Pos} (h : doc_Is p0 p1 = some r) : OkB prog 10 [.sl false (List.map c_api_Line p0), .agg [.int .i64 p1.f_Line, .int .i64 p1.f_At]] [] [] (.bool r) [] [] := by
  unfold doc_Is at h
  refine okB_of_exG func10 rfl rfl (s0 := [.sl false (List.map c_api_Line p0), .agg [.int .i64 p1.f_Line, .int .i64 p1.f_At], .top, .top, .top, .top, .top, .top, .top, .top, .top, .top, .top, .top, .top, .top, .top, .top, .top, .top, .top, .top, .top, .top, .top, .top, .top, .top, .top, .top, .top, .top]) (b0 := []) (r0 := []) rfl rfl rfl ?_
  show Ex _ _ _ ⟨[.sl false (List.map c_api_Line p0), .agg [.int .i64 p1.f_Line, .int .i64 p1.f_At], .top, .top, .top, .top, .top, .top, .top, .top, .top, .top, .top, .top, .top, .top, .top, .top, .top, .top, .top, .top, .top, .top, .top, .top, .top, .top, .top, .top, .top, .top], [], [], 0⟩ _
  refine ex_seq ?_
  refine ex_ord [0] (l := [0, 1]) rfl ?_
  refine e_ (d := .bx 0 0) 3 rfl rfl rfl rfl rfl (b' := [some [.int .i64 p1.f_Line, .int .i64 p1.f_At]]) (r' := []) (.box rfl rfl rfl) rfl ?_
  refine p_ 4 rfl rfl rfl rfl (.assign rfl rfl) ?_
  refine we_nil ?_
  refine ex_seq ?_
  refine ex_gst ⟨[.sl false (List.map c_api_Line p0), .agg [.int .i64 p1.f_Line, .int .i64 p1.f_At], .top, .cp [.int .i64 p1.f_Line, .int .i64 p1.f_At], .bool false, .top, .top, .top, .top, .top, .top, .top, .top, .top, .top, .top, .top, .top, .top, .top, .top, .top, .top, .top, .top, .top, .top, .top, .top, .top, .top, .top], [none], [], 0⟩ (.shutB (b := 0) rfl (fun d h => by simpa using List.all_eq_true.1 (rfl : List.all [.int .i64 p1.f_Line, .int .i64 p1.f_At] (fun d => !d.tok) = true) d h) (.refl _)) rfl ?_
  obtain ⟨q1, hq, h⟩ := bindS h
  refine ex_cut ⟨[.top, .top, .top, .top, .bool q1, .top, .top, .top, .top, .top, .top, .top, .top, .top, .top, .top, .top, .top, .top, .top, .top, .top, .top, .top, .top, .top, .top, .top, .top, .top, .top, .top], [], [], 0⟩ ?_ ?_
  · clear h
    have h := hq
    clear hq
    refine ex_drw mo [1000, 1001, 1004, 1005, 1007, 1011, 1012, 1016, 1017, 1019, 1020, 1021, 1022, 1023, 1024] (by kernel_rfl) (l := [0, 1, 2, 3, 4, 5, 6, 7, 8, 9, 10, 11, 12, 13, 14, 15, 16, 17, 18, 19, 20, 21, 22, 23, 24, 25, 26, 27]) rfl ?_
    refine n_ 5 rfl rfl rfl (fun _ _ => .fieldAddr rfl rfl rfl fl29u_0 rfl) ?_
    refine n_ 6 rfl rfl rfl (fun _ _ => x_load rfl rfl rfl sz3 un3 ag3 rfl) ?_
    refine pif 7 rfl rfl rfl rfl (.bin rfl rfl rfl rfl) ?_ ?_
    · intro hc
      replace h := iteT h hc
      refine p_ 8 rfl rfl rfl rfl (.move rfl rfl) ?_
      refine n_ 9 rfl rfl rfl (fun _ _ => .fieldAddr rfl rfl rfl fl29u_0 rfl) ?_
      refine n_ 10 rfl rfl rfl (fun _ _ => x_load rfl rfl rfl sz3 un3 ag3 rfl) ?_
      refine p_ 11 rfl rfl rfl rfl (.move rfl rfl) ?_
      refine n_ 12 rfl rfl rfl (fun _ _ => x_len (f := c_api_Line) (l := p0) rfl rfl rfl el22) ?_
      refine pif 13 rfl rfl rfl rfl (.bin rfl rfl rfl rfl) ?_ ?_
      · intro hc
        replace h := iteT h hc
        refine p_ 14 rfl rfl rfl rfl (x_pickT rfl rfl rfl rfl) ?_
        refine p_ 15 rfl rfl rfl rfl (.move rfl rfl) ?_
        refine n_ 16 rfl rfl rfl (fun _ _ => .fieldAddr rfl rfl rfl fl29u_1 rfl) ?_
        refine n_ 17 rfl rfl rfl (fun _ _ => x_load rfl rfl rfl sz3 un3 ag3 rfl) ?_
        refine pif 18 rfl rfl rfl rfl (.bin rfl rfl rfl rfl) ?_ ?_
        · intro hc
          replace h := iteT h hc
          refine p_ 19 rfl rfl rfl rfl (x_pickT rfl rfl rfl rfl) ?_
          refine p_ 20 rfl rfl rfl rfl (.move rfl rfl) ?_
          refine n_ 21 rfl rfl rfl (fun _ _ => .fieldAddr rfl rfl rfl fl29u_1 rfl) ?_
          refine n_ 22 rfl rfl rfl (fun _ _ => x_load rfl rfl rfl sz3 un3 ag3 rfl) ?_
          refine p_ 23 rfl rfl rfl rfl (.move rfl rfl) ?_
          refine n_ 24 rfl rfl rfl (fun _ _ => .fieldAddr rfl rfl rfl fl29u_0 rfl) ?_
          refine n_ 25 rfl rfl rfl (fun _ _ => x_load rfl rfl rfl sz3 un3 ag3 rfl) ?_
          obtain ⟨v2, hv2, h⟩ := bindS h
          refine n_ 26 rfl rfl rfl (fun _ _ => x_idx (f := c_api_Line) (cs := [.int .i64 v2.f_Quote, .sl false (List.map c_i64 v2.f_Lists), .int .i64 v2.f_Kind, .sl false (List.map c_api_Cell v2.f_Cells)]) rfl rfl rfl el22 sz45 hv2 rfl rfl) ?_
          refine n_ 27 rfl rfl rfl (fun _ _ => .fieldAddr rfl rfl rfl fl45u_3 rfl) ?_
          refine n_ 28 rfl rfl rfl (fun _ _ => x_load rfl rfl rfl sz42 un42 ag42 rfl) ?_
          refine n_ 29 rfl rfl rfl (fun _ _ => x_len (f := c_api_Cell) (l := v2.f_Cells) rfl rfl rfl el42) ?_
          refine p_ 30 rfl rfl rfl rfl (.bin rfl rfl rfl rfl) ?_
          refine p_ 31 rfl rfl rfl rfl (x_pickT rfl rfl rfl rfl) ?_
          refine p_ 4 rfl rfl rfl rfl (.assign rfl rfl) ?_
          refine we_nil ?_
          cases h
          exact ⟨rfl, _, .re [false, false, false, false, true, false, false, false, false, false, false, false, false, false, false, false, false, false, false, false, false, false, false, false, false, false, false, false, false, false, false, false] [] [] rfl (.refl _), rfl⟩
        · intro hc
          replace h := iteF h hc
          refine p_ 19 rfl rfl rfl rfl (x_pickT rfl rfl rfl rfl) ?_
          refine p_ 20 rfl rfl rfl rfl (.move rfl rfl) ?_
          refine k_ 21 rfl rfl rfl ?_
          refine k_ 22 rfl rfl rfl ?_
          refine k_ 23 rfl rfl rfl ?_
          refine k_ 24 rfl rfl rfl ?_
          refine k_ 25 rfl rfl rfl ?_
          refine k_ 26 rfl rfl rfl ?_
          refine k_ 27 rfl rfl rfl ?_
          refine k_ 28 rfl rfl rfl ?_
          refine k_ 29 rfl rfl rfl ?_
          refine k_ 30 rfl rfl rfl ?_
          refine p_ 31 rfl rfl rfl rfl (x_pickF rfl rfl rfl rfl) ?_
          refine p_ 4 rfl rfl rfl rfl (.assign rfl rfl) ?_
          refine we_nil ?_
          cases h
          exact ⟨rfl, _, .re [false, false, false, false, true, false, false, false, false, false, false, false, false, false, false, false, false, false, false, false, false, false, false, false, false, false, false, false, false, false, false, false] [] [] rfl (.refl _), rfl⟩
      · intro hc
        replace h := iteF h hc
        refine p_ 14 rfl rfl rfl rfl (x_pickT rfl rfl rfl rfl) ?_
        refine p_ 15 rfl rfl rfl rfl (.move rfl rfl) ?_
        refine k_ 16 rfl rfl rfl ?_
        refine k_ 17 rfl rfl rfl ?_
        refine k_ 18 rfl rfl rfl ?_
        refine p_ 19 rfl rfl rfl rfl (x_pickF rfl rfl rfl rfl) ?_
        refine p_ 20 rfl rfl rfl rfl (.move rfl rfl) ?_
        refine k_ 21 rfl rfl rfl ?_
        refine k_ 22 rfl rfl rfl ?_
        refine k_ 23 rfl rfl rfl ?_
        refine k_ 24 rfl rfl rfl ?_
        refine k_ 25 rfl rfl rfl ?_
        refine k_ 26 rfl rfl rfl ?_
        refine k_ 27 rfl rfl rfl ?_
        refine k_ 28 rfl rfl rfl ?_
        refine k_ 29 rfl rfl rfl ?_
        refine k_ 30 rfl rfl rfl ?_
        refine p_ 31 rfl rfl rfl rfl (x_pickF rfl rfl rfl rfl) ?_
        refine p_ 4 rfl rfl rfl rfl (.assign rfl rfl) ?_
        refine we_nil ?_
        cases h
        exact ⟨rfl, _, .re [false, false, false, false, true, false, false, false, false, false, false, false, false, false, false, false, false, false, false, false, false, false, false, false, false, false, false, false, false, false, false, false] [] [] rfl (.refl _), rfl⟩
    · intro hc
      replace h := iteF h hc
      refine p_ 8 rfl rfl rfl rfl (.move rfl rfl) ?_
      refine k_ 9 rfl rfl rfl ?_
      refine k_ 10 rfl rfl rfl ?_
      refine k_ 11 rfl rfl rfl ?_
      refine k_ 12 rfl rfl rfl ?_
      refine k_ 13 rfl rfl rfl ?_
      refine p_ 14 rfl rfl rfl rfl (x_pickF rfl rfl rfl rfl) ?_
      refine p_ 15 rfl rfl rfl rfl (.move rfl rfl) ?_
      refine k_ 16 rfl rfl rfl ?_
      refine k_ 17 rfl rfl rfl ?_
      refine k_ 18 rfl rfl rfl ?_
      refine p_ 19 rfl rfl rfl rfl (x_pickF rfl rfl rfl rfl) ?_
      refine p_ 20 rfl rfl rfl rfl (.move rfl rfl) ?_
      refine k_ 21 rfl rfl rfl ?_
      refine k_ 22 rfl rfl rfl ?_
      refine k_ 23 rfl rfl rfl ?_
      refine k_ 24 rfl rfl rfl ?_
      refine k_ 25 rfl rfl rfl ?_
      refine k_ 26 rfl rfl rfl ?_
      refine k_ 27 rfl rfl rfl ?_
      refine k_ 28 rfl rfl rfl ?_
      refine k_ 29 rfl rfl rfl ?_
      refine k_ 30 rfl rfl rfl ?_
      refine p_ 31 rfl rfl rfl rfl (x_pickF rfl rfl rfl rfl) ?_
      refine p_ 4 rfl rfl rfl rfl (.assign rfl rfl) ?_
      refine we_nil ?_
      cases h
      exact ⟨rfl, _, .re [false, false, false, false, true, false, false, false, false, false, false, false, false, false, false, false, false, false, false, false, false, false, false, false, false, false, false, false, false, false, false, false] [] [] rfl (.refl _), rfl⟩
  · clear hq
    refine ex_ret ?_
    obtain rfl := Option.some.inj h
    exact finB (by first | exact .inr rfl | exact .inl rfl) (.refl _) [.bool q1] [] [] (res_cons (res_tmp rfl) res_nil) rfl rfl rfl rfl rfl rfl rfl
theorem ok_doc_Clamp {r : T_api_Pos} {p0 : List (T_api_Line)} {p1 : T_api_Pos} (h : doc_Clamp p0 p1 = some r) : OkB prog 11 [.sl false (List.map c_api_Line p0), .agg [.int .i64 p1.f_Line, .int .i64 p1.f_At]] [] [] (.agg [.int .i64 r.f_Line, .int .i64 r.f_At]) [] [] := by
  unfold doc_Clamp at h
  refine okB_of_exG func11 rfl rfl (s0 := [.sl false (List.map c_api_Line p0), .agg [.int .i64 p1.f_Line, .int .i64 p1.f_At], .top, .top, .top, .top, .top, .top, .top, .top, .top, .top, .top, .top, .top, .top, .top, .top, .top, .top, .top, .top, .top, .top, .top, .top, .top, .top, .top, .top, .top, .top, .top, .top, .top, .top, .top]) (b0 := []) (r0 := []) rfl rfl rfl ?_
  show Ex _ _ _ ⟨[.sl false (List.map c_api_Line p0), .agg [.int .i64 p1.f_Line, .int .i64 p1.f_At], .top, .top, .top, .top, .top, .top, .top, .top, .top, .top, .top, .top, .top, .top, .top, .top, .top, .top, .top, .top, .top, .top, .top, .top, .top, .top, .top, .top, .top, .top, .top, .top, .top, .top, .top], [], [], 0⟩ _
  refine ex_seq ?_
  refine ex_ord [0, 1] (l := [0, 1]) rfl ?_
  refine e_ (d := .bx 0 0) 3 rfl rfl rfl rfl rfl (b' := [some [.int .i64 p1.f_Line, .int .i64 p1.f_At]]) (r' := []) (.box rfl rfl rfl) rfl ?_
  refine e_ (d := .bx 1 0) 4 rfl rfl rfl rfl rfl (b' := [some [.int .i64 p1.f_Line, .int .i64 p1.f_At], some [.int .i64 0, .int .i64 0]]) (r' := []) (.alloc rfl ze29) rfl ?_
  refine we_nil ?_
  refine ex_seq ?_
  refine ex_block ?_
  refine ex_seq ?_
  refine ex_gst ⟨[.sl false (List.map c_api_Line p0), .agg [.int .i64 p1.f_Line, .int .i64 p1.f_At], .top, .cp [.int .i64 p1.f_Line, .int .i64 p1.f_At], .bx 1 0, .top, .top, .top, .top, .top, .top, .top, .top, .top, .top, .top, .top, .top, .top, .top, .top, .top, .top, .top, .top, .top, .top, .top, .top, .top, .top, .top, .top, .top, .top, .top, .top], [none, some [.int .i64 0, .int .i64 0]], [], 0⟩ (.shutB (b := 0) rfl (fun d h => by simpa using List.all_eq_true.1 (rfl : List.all [.int .i64 p1.f_Line, .int .i64 p1.f_At] (fun d => !d.tok) = true) d h) (.refl _)) rfl ?_
  obtain ⟨q1, hq, h⟩ := bindS h
  refine ex_cut ⟨[.sl false (List.map c_api_Line p0), .top, .top, .cp [.int .i64 p1.f_Line, .int .i64 p1.f_At], .bx 0 0, .bool q1, .top, .top, .top, .top, .top, .top, .top, .top, .top, .top, .top, .top, .top, .top, .top, .top, .top, .top, .top, .top, .top, .top, .top, .top, .top, .top, .top, .top, .top, .top, .top], [some [.int .i64 0, .int .i64 0]], [], 0⟩ ?_ ?_
  · clear h
    have h := hq
    clear hq
    refine ex_ord [] (l := [0, 1, 2, 3, 4, 5, 6, 7, 8]) rfl ?_
    refine p_ 6 rfl rfl rfl rfl (.move rfl rfl) ?_
    refine p_ 7 rfl rfl rfl rfl (x_len (f := c_api_Line) (l := p0) rfl rfl rfl el22) ?_
    refine pif 8 rfl rfl rfl rfl (.bin rfl rfl rfl rfl) ?_ ?_
    · intro hc
      replace h := iteT h hc
      refine p_ 9 rfl rfl rfl rfl (.move rfl rfl) ?_
      refine k_ 10 rfl rfl rfl ?_
      refine k_ 11 rfl rfl rfl ?_
      refine k_ 12 rfl rfl rfl ?_
      refine p_ 13 rfl rfl rfl rfl (x_pickT rfl rfl rfl rfl) ?_
      refine p_ 5 rfl rfl rfl rfl (.assign rfl rfl) ?_
      refine we_nil ?_
      cases h
      exact ⟨rfl, _, .re [true, false, false, true, true, true, false, false, false, false, false, false, false, false, false, false, false, false, false, false, false, false, false, false, false, false, false, false, false, false, false, false, false, false, false, false, false] [1] [] rfl (.refl _), rfl⟩
    · intro hc
      replace h := iteF h hc
      refine p_ 9 rfl rfl rfl rfl (.move rfl rfl) ?_
      refine p_ 10 rfl rfl rfl rfl (.fieldAddr rfl rfl rfl fl29u_0 rfl) ?_
      refine p_ 11 rfl rfl rfl rfl (x_load rfl rfl rfl sz3 un3 ag3 rfl) ?_
      refine p_ 12 rfl rfl rfl rfl (.bin rfl rfl rfl rfl) ?_
      refine p_ 13 rfl rfl rfl rfl (x_pickF rfl rfl rfl rfl) ?_
      refine p_ 5 rfl rfl rfl rfl (.assign rfl rfl) ?_
      refine we_nil ?_
      cases h
      exact ⟨rfl, _, .re [true, false, false, true, true, true, false, false, false, false, false, false, false, false, false, false, false, false, false, false, false, false, false, false, false, false, false, false, false, false, false, false, false, false, false, false, false] [1] [] rfl (.refl _), rfl⟩
  · clear hq
    refine ex_if rfl ?_ ?_
    · intro hc
      replace h := iteT h hc
      refine ex_seq ?_
      refine ex_ord [1] (l := [0, 1]) rfl ?_
      refine p_ 14 rfl rfl rfl rfl (x_build rfl pl29 ze29 rfl rfl rfl rfl) ?_
      refine e0 rfl rfl rfl rfl rfl (b' := [some [.int .i64 0, .int .i64 0]]) (r' := []) (.store rfl rfl rfl sz29 rfl rfl rfl) rfl ?_
      refine we_nil ?_
      refine ex_ret ?_
      obtain rfl := Option.some.inj h
      exact finB (by first | exact .inr rfl | exact .inl rfl) (.refl _) [.agg [.int .i64 0, .int .i64 0]] [] [] (res_cons (res_cell rfl rfl sz29 un29 ag29 rfl) res_nil) rfl rfl rfl rfl rfl rfl rfl
    · intro hc
      replace h := iteF h hc
      refine ex_seq ?_
      refine ex_ord [] (l := [0, 1, 2, 3, 4, 5]) rfl ?_
      refine p_ 16 rfl rfl rfl rfl (.fieldAddr rfl rfl rfl fl29u_0 rfl) ?_
      refine p_ 17 rfl rfl rfl rfl (x_load rfl rfl rfl sz3 un3 ag3 rfl) ?_
      refine p_ 18 rfl rfl rfl rfl (.move rfl rfl) ?_
      refine p_ 19 rfl rfl rfl rfl (x_len (f := c_api_Line) (l := p0) rfl rfl rfl el22) ?_
      refine p_ 20 rfl rfl rfl rfl (.bin rfl rfl rfl rfl) ?_
      refine p_ 15 rfl rfl rfl rfl (.assign rfl rfl) ?_
      refine we_nil ?_
      refine ex_if rfl ?_ ?_
      · intro hc
        replace h := iteT h hc
        refine ex_seq ?_
        refine ex_ord [2] (l := [0, 1, 2]) rfl ?_
        refine p_ 21 rfl rfl rfl rfl (.move rfl rfl) ?_
        obtain ⟨v2, hv2, h⟩ := bindS h
        refine p_ 22 rfl rfl rfl rfl (x_callP rfl rfl en7 (ok_doc_End hv2) rfl rfl rfl rfl rfl) ?_
        refine e0 rfl rfl rfl rfl rfl (b' := [some [.int .i64 v2.f_Line, .int .i64 v2.f_At]]) (r' := []) (.store rfl rfl rfl sz29 rfl rfl rfl) rfl ?_
        refine we_nil ?_
        refine ex_ret ?_
        obtain rfl := Option.some.inj h
        exact finB (by first | exact .inr rfl | exact .inl rfl) (.refl _) [.agg [.int .i64 v2.f_Line, .int .i64 v2.f_At]] [] [] (res_cons (res_cell rfl rfl sz29 un29 ag29 rfl) res_nil) rfl rfl rfl rfl rfl rfl rfl
      · intro hc
        replace h := iteF h hc
        refine ex_skip ?_
        refine ex_seq ?_
        refine ex_drw mo [14, 1000, 1001, 1002, 1003, 1004, 1006, 1007, 1008, 1009, 1010, 1011, 1012, 1013, 3014, 1500000] (by kernel_rfl) (l := [0, 1, 2, 3, 4, 5, 6, 7, 8, 9, 10, 11, 12, 13, 14]) rfl ?_
        refine n_ 23 rfl rfl rfl (fun _ _ => .fieldAddr rfl rfl rfl fl29u_0 rfl) ?_
        refine n_ 24 rfl rfl rfl (fun _ _ => x_load rfl rfl rfl sz3 un3 ag3 rfl) ?_
        refine n_ 25 rfl rfl rfl (fun _ _ => .fieldAddr rfl rfl rfl fl29u_1 rfl) ?_
        refine n_ 26 rfl rfl rfl (fun _ _ => x_load rfl rfl rfl sz3 un3 ag3 rfl) ?_
        refine n_ 27 rfl rfl rfl (fun _ _ => .minmax (mx := true) rfl rfl rfl) ?_
        refine p_ 28 rfl rfl rfl rfl (.move rfl rfl) ?_
        refine n_ 29 rfl rfl rfl (fun _ _ => .fieldAddr rfl rfl rfl fl29u_0 rfl) ?_
        refine n_ 30 rfl rfl rfl (fun _ _ => x_load rfl rfl rfl sz3 un3 ag3 rfl) ?_
        obtain ⟨v3, hv3, h⟩ := bindS h
        refine n_ 31 rfl rfl rfl (fun _ _ => x_idx (f := c_api_Line) (cs := [.int .i64 v3.f_Quote, .sl false (List.map c_i64 v3.f_Lists), .int .i64 v3.f_Kind, .sl false (List.map c_api_Cell v3.f_Cells)]) rfl rfl rfl el22 sz45 hv3 rfl rfl) ?_
        refine n_ 32 rfl rfl rfl (fun _ _ => .fieldAddr rfl rfl rfl fl45u_3 rfl) ?_
        refine n_ 33 rfl rfl rfl (fun _ _ => x_load rfl rfl rfl sz42 un42 ag42 rfl) ?_
        refine n_ 34 rfl rfl rfl (fun _ _ => x_len (f := c_api_Cell) (l := v3.f_Cells) rfl rfl rfl el42) ?_
        refine n_ 35 rfl rfl rfl (fun _ _ => .minmax (mx := false) rfl rfl rfl) ?_
        refine n_ 36 rfl rfl rfl (fun _ _ => x_build rfl pl29 ze29 rfl rfl rfl rfl) ?_
        refine e0 rfl rfl rfl rfl rfl (b' := [some [.int .i64 p1.f_Line, .int .i64 (if (v3.f_Cells.length : Int) < (if 0 > p1.f_At then 0 else p1.f_At) then (v3.f_Cells.length : Int) else if 0 > p1.f_At then 0 else p1.f_At)]]) (r' := []) (hb := set_out 0 (some [.int .i64 p1.f_Line, .int .i64 (if (v3.f_Cells.length : Int) < (if 0 > p1.f_At then 0 else p1.f_At) then (v3.f_Cells.length : Int) else if 0 > p1.f_At then 0 else p1.f_At)]) rfl rfl) (.store rfl rfl rfl sz29 rfl rfl rfl) rfl ?_
        refine we_nil ?_
        refine ex_ret ?_
        obtain rfl := Option.some.inj h
        exact finB (by first | exact .inr rfl | exact .inl rfl) (.refl _) [.agg [.int .i64 p1.f_Line, .int .i64 (if (v3.f_Cells.length : Int) < (if 0 > p1.f_At then 0 else p1.f_At) then (v3.f_Cells.length : Int) else if 0 > p1.f_At then 0 else p1.f_At)]] [] [] (res_cons (res_cell rfl rfl sz29 un29 ag29 rfl) res_nil) rfl rfl rfl rfl rfl rfl rfl
theorem ok_quillworkref07u_Long {r : Bool} {p0 : List (T_api_Line)} (h : quillworkref07u_Long p0 = some r) : OkB prog 14 [.sl false (List.map c_api_Line p0)] [] [] (.bool r) [] [] := by
  unfold quillworkref07u_Long at h
  refine okB_of_exG func14 rfl rfl (s0 := [.sl false (List.map c_api_Line p0), .top, .top, .top, .top, .top, .top, .top, .top, .top, .top, .top, .top, .top, .top, .top, .top, .top, .top, .top, .top, .top, .top, .top, .top, .top, .top, .top, .top, .top, .top, .top, .top, .top, .top, .top, .top, .top, .top, .top, .top, .top, .top, .top, .top, .top, .top, .top, .top, .top, .top, .top, .top, .top, .top, .top, .top, .top, .top]) (b0 := []) (r0 := []) rfl rfl rfl ?_
  show Ex _ _ _ ⟨[.sl false (List.map c_api_Line p0), .top, .top, .top, .top, .top, .top, .top, .top, .top, .top, .top, .top, .top, .top, .top, .top, .top, .top, .top, .top, .top, .top, .top, .top, .top, .top, .top, .top, .top, .top, .top, .top, .top, .top, .top, .top, .top, .top, .top, .top, .top, .top, .top, .top, .top, .top, .top, .top, .top, .top, .top, .top, .top, .top, .top, .top, .top, .top], [], [], 0⟩ _
  refine ex_seq ?_
  refine ex_ord [] (l := [0]) rfl ?_
  refine p_ 2 rfl rfl rfl rfl (.assign rfl rfl) ?_
  refine we_nil ?_
  refine ex_seq ?_
  refine ex_seq ?_
  refine ex_ord [] (l := [0, 1, 2]) rfl ?_
  refine p_ 6 rfl rfl rfl rfl (.move rfl rfl) ?_
  refine p_ 7 rfl rfl rfl rfl (x_len (f := c_api_Line) (l := p0) rfl rfl rfl el22) ?_
  refine p_ 8 rfl rfl rfl rfl (.bin rfl rfl rfl rfl) ?_
  refine we_nil ?_
  refine ex_if rfl ?_ ?_
  · intro hc
    replace h := iteT h hc
    refine ex_seq ?_
    refine ex_ord [] (l := [0]) rfl ?_
    refine p_ 2 rfl rfl rfl rfl (.assign rfl rfl) ?_
    refine we_nil ?_
    refine ex_ret ?_
    obtain rfl := Option.some.inj h
    exact finB (by first | exact .inr rfl | exact .inl rfl) (.refl _) [.bool true] [] [] (res_cons (res_tmp rfl) res_nil) rfl rfl rfl rfl rfl rfl rfl
  · intro hc
    replace h := iteF h hc
    refine ex_skip ?_
    refine ex_seq ?_
    refine ex_ord [] (l := [0]) rfl ?_
    refine p_ 3 rfl rfl rfl rfl (.assign rfl rfl) ?_
    refine we_nil ?_
    refine ex_seq ?_
    refine ex_seq ?_
    refine ex_ord [] (l := [0]) rfl ?_
    refine p_ 4 rfl rfl rfl rfl (.assign rfl rfl) ?_
    refine we_nil ?_
    refine ex_block ?_
    obtain ⟨o14, hl, h⟩ := bindS h
    refine ex_gst ⟨[.sl false (List.map c_api_Line p0), .top, .top, .int .i64 0, .int .i64 0, .top, .top, .top, .top, .top, .top, .top, .top, .top, .top, .top, .top, .top, .top, .top, .top, .top, .top, .top, .top, .top, .top, .top, .top, .top, .top, .top, .top, .top, .top, .top, .top, .top, .top, .top, .top, .top, .top, .top, .top, .top, .top, .top, .top, .top, .top, .top, .top, .top, .top, .top, .top, .top, .top], [], [], 0⟩ (.re [true, false, false, true, true, false, false, false, false, false, false, false, false, false, false, false, false, false, false, false, false, false, false, false, false, false, false, false, false, false, false, false, false, false, false, false, false, false, false, false, false, false, false, false, false, false, false, false, false, false, false, false, false, false, false, false, false, false, false] [] [] rfl (.refl _)) rfl ?_
    refine ex_iterX (fun o => match o with | .inl _ => .ret | .inr _ => .exit 0) (fun s => ⟨[.sl false (List.map c_api_Line p0), .top, .top, .int .i64 s.1, .int .i64 s.2, .top, .top, .top, .top, .top, .top, .top, .top, .top, .top, .top, .top, .top, .top, .top, .top, .top, .top, .top, .top, .top, .top, .top, .top, .top, .top, .top, .top, .top, .top, .top, .top, .top, .top, .top, .top, .top, .top, .top, .top, .top, .top, .top, .top, .top, .top, .top, .top, .top, .top, .top, .top, .top, .top], [], [], 0⟩) (fun o => match o with | .inl o => ⟨[.top, .top, .bool true, .top, .top, .top, .top, .top, .top, .top, .top, .top, .top, .top, .top, .top, .top, .top, .top, .top, .top, .top, .top, .top, .top, .top, .top, .top, .top, .top, .top, .top, .top, .top, .top, .top, .top, .top, .top, .top, .top, .top, .top, .top, .top, .top, .top, .top, .top, .top, .top, .top, .top, .top, .top, .top, .top, .top, .top], [], [], 0⟩ | .inr o => ⟨[.top, .top, .top, .top, .top, .top, .top, .top, .top, .top, .top, .top, .top, .top, .top, .top, .top, .top, .top, .top, .top, .top, .top, .top, .top, .top, .top, .top, .top, .top, .top, .top, .top, .top, .top, .top, .top, .top, .top, .top, .top, .top, .top, .top, .top, .top, .top, .top, .top, .top, .top, .top, .top, .top, .top, .top, .top, .top, .top], [], [], 0⟩) hl rfl ?_ ?_
    · clear hl
      rcases o14 with _ | _
      · obtain rfl := Option.some.inj h
        exact finB (by first | exact .inr rfl | exact .inl rfl) (.refl _) [.bool true] [] [] (res_cons (res_tmp rfl) res_nil) rfl rfl rfl rfl rfl rfl rfl
      · refine ex_seq ?_
        refine ex_ord [] (l := [0]) rfl ?_
        refine p_ 2 rfl rfl rfl rfl (.assign rfl rfl) ?_
        refine we_nil ?_
        refine ex_ret ?_
        obtain rfl := Option.some.inj h
        exact finB (by first | exact .inr rfl | exact .inl rfl) (.refl _) [.bool false] [] [] (res_cons (res_tmp rfl) res_nil) rfl rfl rfl rfl rfl rfl rfl
    · clear hl h
      rintro ⟨n1, n2⟩ y h
      replace h : quillworkref07u_Long_l3 p0 n1 n2 = some y := h
      unfold quillworkref07u_Long_l3 at h
      show Ex _ _ _ ⟨[.sl false (List.map c_api_Line p0), .top, .top, .int .i64 n1, .int .i64 n2, .top, .top, .top, .top, .top, .top, .top, .top, .top, .top, .top, .top, .top, .top, .top, .top, .top, .top, .top, .top, .top, .top, .top, .top, .top, .top, .top, .top, .top, .top, .top, .top, .top, .top, .top, .top, .top, .top, .top, .top, .top, .top, .top, .top, .top, .top, .top, .top, .top, .top, .top, .top, .top, .top], [], [], 0⟩ _
      refine ex_seq ?_
      refine ex_seq ?_
      refine ex_ord [] (l := [0, 1, 2, 3]) rfl ?_
      refine p_ 9 rfl rfl rfl rfl (.move rfl rfl) ?_
      refine p_ 10 rfl rfl rfl rfl (.move rfl rfl) ?_
      refine p_ 11 rfl rfl rfl rfl (x_len (f := c_api_Line) (l := p0) rfl rfl rfl el22) ?_
      refine p_ 12 rfl rfl rfl rfl (.bin rfl rfl rfl rfl) ?_
      refine we_nil ?_
      refine ex_if rfl ?_ ?_
      · intro hc
        replace h := iteT h hc
        refine ex_skip ?_
        refine ex_seq ?_
        refine ex_block ?_
        refine ex_seq ?_
        refine ex_drw mo [1003, 1004, 1005, 1006, 1009, 1010, 1011, 1012] (by kernel_rfl) (l := [0, 1, 2, 3, 4, 5, 6, 7, 8, 9, 10, 11, 12, 13, 14, 15]) rfl ?_
        refine p_ 15 rfl rfl rfl rfl (.move rfl rfl) ?_
        refine p_ 16 rfl rfl rfl rfl (.move rfl rfl) ?_
        refine p_ 17 rfl rfl rfl rfl (.move rfl rfl) ?_
        obtain ⟨v3, hv3, h⟩ := bindS h
        refine n_ 18 rfl rfl rfl (fun _ _ => x_idx (f := c_api_Line) (cs := [.int .i64 v3.f_Quote, .sl false (List.map c_i64 v3.f_Lists), .int .i64 v3.f_Kind, .sl false (List.map c_api_Cell v3.f_Cells)]) rfl rfl rfl el22 sz45 hv3 rfl rfl) ?_
        refine n_ 19 rfl rfl rfl (fun _ _ => .fieldAddr rfl rfl rfl fl45u_3 rfl) ?_
        refine n_ 20 rfl rfl rfl (fun _ _ => x_load rfl rfl rfl sz42 un42 ag42 rfl) ?_
        refine n_ 21 rfl rfl rfl (fun _ _ => x_len (f := c_api_Cell) (l := v3.f_Cells) rfl rfl rfl el42) ?_
        refine p_ 22 rfl rfl rfl rfl (.move rfl rfl) ?_
        refine p_ 23 rfl rfl rfl rfl (.move rfl rfl) ?_
        obtain ⟨v4, hv4, h⟩ := bindS h
        refine n_ 24 rfl rfl rfl (fun _ _ => x_idx (f := c_api_Line) (cs := [.int .i64 v4.f_Quote, .sl false (List.map c_i64 v4.f_Lists), .int .i64 v4.f_Kind, .sl false (List.map c_api_Cell v4.f_Cells)]) rfl rfl rfl el22 sz45 hv4 rfl rfl) ?_
        refine n_ 25 rfl rfl rfl (fun _ _ => .fieldAddr rfl rfl rfl fl45u_1 rfl) ?_
        refine n_ 26 rfl rfl rfl (fun _ _ => x_load rfl rfl rfl sz43 un43 ag43 rfl) ?_
        refine n_ 27 rfl rfl rfl (fun _ _ => x_len (f := c_i64) (l := v4.f_Lists) rfl rfl rfl el43) ?_
        refine p_ 28 rfl rfl rfl rfl (.bin rfl rfl rfl rfl) ?_
        refine p_ 29 rfl rfl rfl rfl (.bin rfl rfl rfl rfl) ?_
        refine p_ 3 rfl rfl rfl rfl (.assign rfl rfl) ?_
        refine we_nil ?_
        refine ex_seq ?_
        refine ex_seq ?_
        refine ex_ord [] (l := [0]) rfl ?_
        refine p_ 5 rfl rfl rfl rfl (.assign rfl rfl) ?_
        refine we_nil ?_
        refine ex_block ?_
        obtain ⟨k7, hl, h⟩ := bindS h
        refine ex_gst ⟨[.sl false (List.map c_api_Line p0), .top, .top, .int .i64 (IntKind.wrap .i64 (n1 + (IntKind.wrap .i64 ((v3.f_Cells.length : Int) + (v4.f_Lists.length : Int))))), .int .i64 n2, .int .i64 0, .top, .top, .top, .top, .top, .top, .top, .top, .top, .top, .top, .top, .top, .top, .top, .top, .top, .top, .top, .top, .top, .top, .top, .top, .top, .top, .top, .top, .top, .top, .top, .top, .top, .top, .top, .top, .top, .top, .top, .top, .top, .top, .top, .top, .top, .top, .top, .top, .top, .top, .top, .top, .top], [], [], 0⟩ (.re [true, false, false, true, true, true, false, false, false, false, false, false, false, false, false, false, false, false, false, false, false, false, false, false, false, false, false, false, false, false, false, false, false, false, false, false, false, false, false, false, false, false, false, false, false, false, false, false, false, false, false, false, false, false, false, false, false, false, false] [] [] rfl (.refl _)) rfl ?_
        refine ex_iterX (fun _ => .exit 2) (fun s => ⟨[.sl false (List.map c_api_Line p0), .top, .top, .int .i64 s.1, .int .i64 n2, .int .i64 s.2, .top, .top, .top, .top, .top, .top, .top, .top, .top, .top, .top, .top, .top, .top, .top, .top, .top, .top, .top, .top, .top, .top, .top, .top, .top, .top, .top, .top, .top, .top, .top, .top, .top, .top, .top, .top, .top, .top, .top, .top, .top, .top, .top, .top, .top, .top, .top, .top, .top, .top, .top, .top, .top], [], [], 0⟩) (fun o => ⟨[.sl false (List.map c_api_Line p0), .top, .top, .int .i64 o, .int .i64 n2, .top, .top, .top, .top, .top, .top, .top, .top, .top, .top, .top, .top, .top, .top, .top, .top, .top, .top, .top, .top, .top, .top, .top, .top, .top, .top, .top, .top, .top, .top, .top, .top, .top, .top, .top, .top, .top, .top, .top, .top, .top, .top, .top, .top, .top, .top, .top, .top, .top, .top, .top, .top, .top, .top], [], [], 0⟩) hl rfl ?_ ?_
        · clear hl
          refine ex_seq ?_
          refine ex_ord [] (l := [0, 1]) rfl ?_
          refine p_ 57 rfl rfl rfl rfl (.move rfl rfl) ?_
          refine p_ 58 rfl rfl rfl rfl (.bin rfl rfl rfl rfl) ?_
          refine we_nil ?_
          refine ex_if rfl ?_ ?_
          · intro hc
            replace h := iteT h hc
            refine ex_seq ?_
            refine ex_ord [] (l := [0]) rfl ?_
            refine p_ 2 rfl rfl rfl rfl (.assign rfl rfl) ?_
            refine we_nil ?_
            refine ex_ret ?_
            exact rnd_out (o := (.inl ())) rfl (fun h => by cases h) h (.re [false, false, true, false, false, false, false, false, false, false, false, false, false, false, false, false, false, false, false, false, false, false, false, false, false, false, false, false, false, false, false, false, false, false, false, false, false, false, false, false, false, false, false, false, false, false, false, false, false, false, false, false, false, false, false, false, false, false, false] [] [] rfl (.refl _)) rfl
          · intro hc
            replace h := iteF h hc
            refine ex_skip ?_
            refine ex_ord [] (l := [0, 1, 2]) rfl ?_
            refine p_ 13 rfl rfl rfl rfl (.move rfl rfl) ?_
            refine p_ 14 rfl rfl rfl rfl (.bin rfl rfl rfl rfl) ?_
            refine p_ 4 rfl rfl rfl rfl (.assign rfl rfl) ?_
            refine we_nil ?_
            exact rnd_on rfl h (.re [true, false, false, true, true, false, false, false, false, false, false, false, false, false, false, false, false, false, false, false, false, false, false, false, false, false, false, false, false, false, false, false, false, false, false, false, false, false, false, false, false, false, false, false, false, false, false, false, false, false, false, false, false, false, false, false, false, false, false] [] [] rfl (.refl _)) rfl
        · clear hl h
          rintro ⟨n5, n6⟩ y h
          replace h : quillworkref07u_Long_l4 p0 n2 n5 n6 = some y := h
          unfold quillworkref07u_Long_l4 at h
          show Ex _ _ _ ⟨[.sl false (List.map c_api_Line p0), .top, .top, .int .i64 n5, .int .i64 n2, .int .i64 n6, .top, .top, .top, .top, .top, .top, .top, .top, .top, .top, .top, .top, .top, .top, .top, .top, .top, .top, .top, .top, .top, .top, .top, .top, .top, .top, .top, .top, .top, .top, .top, .top, .top, .top, .top, .top, .top, .top, .top, .top, .top, .top, .top, .top, .top, .top, .top, .top, .top, .top, .top, .top, .top], [], [], 0⟩ _
          refine ex_seq ?_
          refine ex_seq ?_
          obtain ⟨q8, hq, h⟩ := bindS h
          refine ex_cut ⟨[.sl false (List.map c_api_Line p0), .top, .top, .int .i64 n5, .int .i64 n2, .int .i64 n6, .top, .top, .top, .top, .top, .top, .top, .top, .top, .top, .top, .top, .top, .top, .top, .top, .top, .top, .top, .top, .top, .top, .top, .top, .top, .top, .top, .top, .top, .top, .top, .top, .top, .top, .top, .bool q8, .top, .top, .top, .top, .top, .top, .top, .top, .top, .top, .top, .top, .top, .top, .top, .top, .top], [], [], 0⟩ ?_ ?_
          · clear h
            have h := hq
            clear hq
            refine ex_ord [] (l := [0, 1, 2, 3, 4, 5, 6, 7, 8, 9, 10, 11]) rfl ?_
            refine p_ 30 rfl rfl rfl rfl (.move rfl rfl) ?_
            refine p_ 31 rfl rfl rfl rfl (.move rfl rfl) ?_
            refine p_ 32 rfl rfl rfl rfl (.move rfl rfl) ?_
            obtain ⟨v9, hv9, h⟩ := bindS h
            refine p_ 33 rfl rfl rfl rfl (x_idx (f := c_api_Line) (cs := [.int .i64 v9.f_Quote, .sl false (List.map c_i64 v9.f_Lists), .int .i64 v9.f_Kind, .sl false (List.map c_api_Cell v9.f_Cells)]) rfl rfl rfl el22 sz45 hv9 rfl rfl) ?_
            refine p_ 34 rfl rfl rfl rfl (.fieldAddr rfl rfl rfl fl45u_3 rfl) ?_
            refine p_ 35 rfl rfl rfl rfl (x_load rfl rfl rfl sz42 un42 ag42 rfl) ?_
            refine p_ 36 rfl rfl rfl rfl (x_len (f := c_api_Cell) (l := v9.f_Cells) rfl rfl rfl el42) ?_
            refine pif 37 rfl rfl rfl rfl (.bin rfl rfl rfl rfl) ?_ ?_
            · intro hc
              replace h := iteT h hc
              refine p_ 38 rfl rfl rfl rfl (.move rfl rfl) ?_
              refine p_ 39 rfl rfl rfl rfl (.move rfl rfl) ?_
              refine p_ 40 rfl rfl rfl rfl (.bin rfl rfl rfl rfl) ?_
              refine p_ 41 rfl rfl rfl rfl (x_pickT rfl rfl rfl rfl) ?_
              refine we_nil ?_
              cases h
              exact ⟨rfl, _, .re [true, false, false, true, true, true, false, false, false, false, false, false, false, false, false, false, false, false, false, false, false, false, false, false, false, false, false, false, false, false, false, false, false, false, false, false, false, false, false, false, false, true, false, false, false, false, false, false, false, false, false, false, false, false, false, false, false, false, false] [] [] rfl (.refl _), rfl⟩
            · intro hc
              replace h := iteF h hc
              refine p_ 38 rfl rfl rfl rfl (.move rfl rfl) ?_
              refine k_ 39 rfl rfl rfl ?_
              refine k_ 40 rfl rfl rfl ?_
              refine p_ 41 rfl rfl rfl rfl (x_pickF rfl rfl rfl rfl) ?_
              refine we_nil ?_
              cases h
              exact ⟨rfl, _, .re [true, false, false, true, true, true, false, false, false, false, false, false, false, false, false, false, false, false, false, false, false, false, false, false, false, false, false, false, false, false, false, false, false, false, false, false, false, false, false, false, false, true, false, false, false, false, false, false, false, false, false, false, false, false, false, false, false, false, false] [] [] rfl (.refl _), rfl⟩
          · clear hq
            refine ex_if rfl ?_ ?_
            · intro hc
              replace h := iteT h hc
              refine ex_skip ?_
              refine ex_seq ?_
              refine ex_block ?_
              refine ex_ord [] (l := [0, 1, 2, 3, 4, 5, 6, 7, 8, 9, 10, 11, 12, 13]) rfl ?_
              refine p_ 44 rfl rfl rfl rfl (.move rfl rfl) ?_
              refine p_ 45 rfl rfl rfl rfl (.move rfl rfl) ?_
              refine p_ 46 rfl rfl rfl rfl (.move rfl rfl) ?_
              obtain ⟨v10, hv10, h⟩ := bindS h
              refine p_ 47 rfl rfl rfl rfl (x_idx (f := c_api_Line) (cs := [.int .i64 v10.f_Quote, .sl false (List.map c_i64 v10.f_Lists), .int .i64 v10.f_Kind, .sl false (List.map c_api_Cell v10.f_Cells)]) rfl rfl rfl el22 sz45 hv10 rfl rfl) ?_
              refine p_ 48 rfl rfl rfl rfl (.fieldAddr rfl rfl rfl fl45u_3 rfl) ?_
              refine p_ 49 rfl rfl rfl rfl (x_load rfl rfl rfl sz42 un42 ag42 rfl) ?_
              refine p_ 50 rfl rfl rfl rfl (.move rfl rfl) ?_
              obtain ⟨v11, hv11, h⟩ := bindS h
              refine p_ 51 rfl rfl rfl rfl (x_idx (f := c_api_Cell) (cs := [.int .i32 v11.f_R, .int .i64 v11.f_Bits, .str (bs v11.f_Href)]) rfl rfl rfl el42 sz41 hv11 rfl rfl) ?_
              refine p_ 52 rfl rfl rfl rfl (.fieldAddr rfl rfl rfl fl41u_2 rfl) ?_
              refine p_ 53 rfl rfl rfl rfl (x_load rfl rfl rfl sz9 un9 ag9 rfl) ?_
              refine p_ 54 rfl rfl rfl rfl (x_lenS rfl rfl us9) ?_
              obtain ⟨v12, hv12, h⟩ := bindS h
              refine p_ 55 rfl rfl rfl rfl (x_quo rfl rfl rfl hv12) ?_
              refine p_ 56 rfl rfl rfl rfl (.bin rfl rfl rfl rfl) ?_
              refine p_ 3 rfl rfl rfl rfl (.assign rfl rfl) ?_
              refine we_nil ?_
              refine ex_ord [] (l := [0, 1, 2]) rfl ?_
              refine p_ 42 rfl rfl rfl rfl (.move rfl rfl) ?_
              refine p_ 43 rfl rfl rfl rfl (.bin rfl rfl rfl rfl) ?_
              refine p_ 5 rfl rfl rfl rfl (.assign rfl rfl) ?_
              refine we_nil ?_
              exact rnd_on rfl h (.re [true, false, false, true, true, true, false, false, false, false, false, false, false, false, false, false, false, false, false, false, false, false, false, false, false, false, false, false, false, false, false, false, false, false, false, false, false, false, false, false, false, false, false, false, false, false, false, false, false, false, false, false, false, false, false, false, false, false, false] [] [] rfl (.refl _)) rfl
            · intro hc
              replace h := iteF h hc
              refine ex_exit ?_
              exact rnd_out (o := n5) rfl (fun h => by cases h) h (.re [true, false, false, true, true, false, false, false, false, false, false, false, false, false, false, false, false, false, false, false, false, false, false, false, false, false, false, false, false, false, false, false, false, false, false, false, false, false, false, false, false, false, false, false, false, false, false, false, false, false, false, false, false, false, false, false, false, false, false] [] [] rfl (.refl _)) rfl
      · intro hc
        replace h := iteF h hc
        refine ex_exit ?_
        exact rnd_out (o := (.inr ())) rfl (fun h => by cases h) h (.re [false, false, false, false, false, false, false, false, false, false, false, false, false, false, false, false, false, false, false, false, false, false, false, false, false, false, false, false, false, false, false, false, false, false, false, false, false, false, false, false, false, false, false, false, false, false, false, false, false, false, false, false, false, false, false, false, false, false, false] [] [] rfl (.refl _)) rfl
theorem ok_cmp_Or_int {r : Int} {p0 : List (Int)} (h : cmp_Or_int p0 = some r) : OkB prog 18 [.own 0] [] [⟨3, 1, List.map c_i64 p0⟩] (.int .i64 r) [] [] := by
  unfold cmp_Or_int at h
  refine okB_of_exG func18 rfl rfl (s0 := [.own 0, .top, .top, .top, .top, .top, .top, .top, .top, .top, .top, .top, .top, .top, .top, .top, .top, .top]) (b0 := []) (r0 := [some ⟨3, 1, List.map c_i64 p0⟩]) rfl rfl rfl ?_
  show Ex _ _ _ ⟨[.own 0, .top, .top, .top, .top, .top, .top, .top, .top, .top, .top, .top, .top, .top, .top, .top, .top, .top], [], [some ⟨3, 1, List.map c_i64 p0⟩], 0⟩ _
  refine ex_seq ?_
  refine ex_ord [] (l := [0]) rfl ?_
  refine p_ 2 rfl rfl rfl rfl (.assign rfl rfl) ?_
  refine we_nil ?_
  refine ex_seq ?_
  refine ex_ord [] (l := [0]) rfl ?_
  refine p_ 3 rfl rfl rfl rfl (.assign rfl rfl) ?_
  refine we_nil ?_
  refine ex_seq ?_
  refine ex_seq ?_
  refine ex_ord [] (l := [0, 1, 2]) rfl ?_
  refine p_ 6 rfl rfl rfl rfl (.move rfl rfl) ?_
  refine p_ 7 rfl rfl rfl rfl (x_len (f := c_i64) (l := p0) rfl rfl rfl el43) ?_
  refine p_ 8 rfl rfl rfl rfl (.move rfl rfl) ?_
  refine we_nil ?_
  refine ex_block ?_
  obtain ⟨o5, hl, h⟩ := bindS h
  refine ex_gst ⟨[.top, .top, .top, .int .i64 0, .top, .top, .own 0, .int .i64 (p0.length : Int), .int .i64 0, .top, .top, .top, .top, .top, .top, .top, .top, .top], [], [some ⟨3, 1, List.map c_i64 p0⟩], 0⟩ (.re [false, false, false, true, false, false, true, true, true, false, false, false, false, false, false, false, false, false] [] [0] rfl (.refl _)) rfl ?_
  refine ex_iterX (fun o => match o with | .inl _ => .ret | .inr _ => .exit 0) (fun s => ⟨[.top, .top, .top, .int .i64 0, .top, .top, .own 0, .int .i64 (p0.length : Int), .int .i64 s, .top, .top, .top, .top, .top, .top, .top, .top, .top], [], [some ⟨3, 1, List.map c_i64 p0⟩], 0⟩) (fun o => match o with | .inl o => ⟨[.top, .top, .int .i64 o, .top, .top, .top, .top, .top, .top, .top, .top, .top, .top, .top, .top, .top, .top, .top], [], [], 0⟩ | .inr o => ⟨[.top, .top, .top, .int .i64 0, .top, .top, .top, .top, .top, .top, .top, .top, .top, .top, .top, .top, .top, .top], [], [], 0⟩) hl rfl ?_ ?_
  · clear hl
    rcases o5 with k2 | _
    · obtain rfl := Option.some.inj h
      exact finB (by first | exact .inr rfl | exact .inl rfl) (.refl _) [.int .i64 k2] [] [] (res_cons (res_tmp rfl) res_nil) rfl rfl rfl rfl rfl rfl rfl
    · refine ex_seq ?_
      refine ex_ord [] (l := [0, 1]) rfl ?_
      refine p_ 17 rfl rfl rfl rfl (.move rfl rfl) ?_
      refine p_ 2 rfl rfl rfl rfl (.assign rfl rfl) ?_
      refine we_nil ?_
      refine ex_ret ?_
      obtain rfl := Option.some.inj h
      exact finB (by first | exact .inr rfl | exact .inl rfl) (.refl _) [.int .i64 0] [] [] (res_cons (res_tmp rfl) res_nil) rfl rfl rfl rfl rfl rfl rfl
  · clear hl h
    rintro n1 y h
    replace h : cmp_Or_int_l1 p0 n1 = some y := h
    unfold cmp_Or_int_l1 at h
    show Ex _ _ _ ⟨[.top, .top, .top, .int .i64 0, .top, .top, .own 0, .int .i64 (p0.length : Int), .int .i64 n1, .top, .top, .top, .top, .top, .top, .top, .top, .top], [], [some ⟨3, 1, List.map c_i64 p0⟩], 0⟩ _
    refine ex_seq ?_
    refine ex_ord [] (l := [0]) rfl ?_
    refine p_ 9 rfl rfl rfl rfl (.bin rfl rfl rfl rfl) ?_
    refine we_nil ?_
    refine ex_seq ?_
    refine ex_if rfl ?_ ?_
    · intro hc
      replace h := iteT h hc
      refine ex_skip ?_
      refine ex_seq ?_
      refine ex_block ?_
      refine ex_seq ?_
      refine ex_ord [] (l := [0, 1, 2]) rfl ?_
      obtain ⟨v3, hv3, h⟩ := bindS h
      refine p_ 10 rfl rfl rfl rfl (x_idxO (f := c_i64) (l := p0) rfl rfl rfl rfl rfl el43 sz3 hv3 rfl) ?_
      obtain ⟨v4, hv4, h⟩ := bindS h
      refine p_ 11 rfl rfl rfl rfl (x_load rfl rfl (at_ex (f := c_i64) (xs := p0) (c := [.int .i64 v4]) rfl rfl (getI_some hv4).2 rfl (Nat.le_of_ble_eq_true rfl)) sz3 un3 ag3 rfl) ?_
      refine p_ 5 rfl rfl rfl rfl (.assign rfl rfl) ?_
      refine we_nil ?_
      refine ex_seq ?_
      refine ex_ord [] (l := [0, 1, 2]) rfl ?_
      refine p_ 12 rfl rfl rfl rfl (.move rfl rfl) ?_
      refine p_ 13 rfl rfl rfl rfl (.move rfl rfl) ?_
      refine p_ 14 rfl rfl rfl rfl (.bin rfl rfl rfl rfl) ?_
      refine we_nil ?_
      refine ex_if rfl ?_ ?_
      · intro hc
        replace h := iteT h hc
        refine ex_seq ?_
        refine ex_ord [] (l := [0, 1]) rfl ?_
        refine p_ 15 rfl rfl rfl rfl (.move rfl rfl) ?_
        refine p_ 2 rfl rfl rfl rfl (.assign rfl rfl) ?_
        refine we_nil ?_
        refine ex_ret ?_
        exact rnd_out (o := (.inl v4)) rfl (fun h => by cases h) h (.re [false, false, true, false, false, false, false, false, false, false, false, false, false, false, false, false, false, false] [] [] rfl (.refl _)) rfl
      · intro hc
        replace h := iteF h hc
        refine ex_skip ?_
        refine ex_ord [] (l := [0, 1]) rfl ?_
        refine p_ 16 rfl rfl rfl rfl (.bin rfl rfl rfl rfl) ?_
        refine p_ 8 rfl rfl rfl rfl (.move rfl rfl) ?_
        refine we_nil ?_
        exact rnd_on rfl h (.re [false, false, false, true, false, false, true, true, true, false, false, false, false, false, false, false, false, false] [] [0] rfl (.refl _)) rfl
    · intro hc
      replace h := iteF h hc
      refine ex_exit ?_
      exact rnd_out (o := (.inr ())) rfl (fun h => by cases h) h (.re [false, false, false, true, false, false, false, false, false, false, false, false, false, false, false, false, false, false] [] [] rfl (.refl _)) rfl
theorem ok_cmp_isNaN_int {r : Bool} {p0 : Int} (h : cmp_isNaN_int p0 = some r) : OkB prog 28 [.int .i64 p0] [] [] (.bool r) [] [] := by
  unfold cmp_isNaN_int at h
  refine okB_of_exG func28 rfl rfl (s0 := [.int .i64 p0, .top, .top, .top, .top, .top]) (b0 := []) (r0 := []) rfl rfl rfl ?_
  show Ex _ _ _ ⟨[.int .i64 p0, .top, .top, .top, .top, .top], [], [], 0⟩ _
  refine ex_seq ?_
  refine ex_ord [] (l := [0]) rfl ?_
  refine p_ 2 rfl rfl rfl rfl (.assign rfl rfl) ?_
  refine we_nil ?_
  refine ex_seq ?_
  refine ex_ord [] (l := [0, 1, 2, 3]) rfl ?_
  refine p_ 3 rfl rfl rfl rfl (.move rfl rfl) ?_
  refine p_ 4 rfl rfl rfl rfl (.move rfl rfl) ?_
  refine p_ 5 rfl rfl rfl rfl (.bin rfl rfl rfl rfl) ?_
  refine p_ 2 rfl rfl rfl rfl (.assign rfl rfl) ?_
  refine we_nil ?_
  refine ex_ret ?_
  obtain rfl := Option.some.inj h
  exact finB (by first | exact .inr rfl | exact .inl rfl) (.refl _) [.bool ((p0 : Int) != p0)] [] [] (res_cons (res_tmp rfl) res_nil) rfl rfl rfl rfl rfl rfl rfl
theorem ok_lines_Own {r : T_api_Line} {p0 : T_api_Line} (h : lines_Own p0 = some r) : OkB prog 30 [.agg [.int .i64 p0.f_Quote, .sl false (List.map c_i64 p0.f_Lists), .int .i64 p0.f_Kind, .sl false (List.map c_api_Cell p0.f_Cells)]] [] [] (.agg [.int .i64 r.f_Quote, .sl false (List.map c_i64 r.f_Lists), .int .i64 r.f_Kind, .sl false (List.map c_api_Cell r.f_Cells)]) [] [] := by
  unfold lines_Own at h
  refine okB_of_exG func30 rfl rfl (s0 := [.agg [.int .i64 p0.f_Quote, .sl false (List.map c_i64 p0.f_Lists), .int .i64 p0.f_Kind, .sl false (List.map c_api_Cell p0.f_Cells)], .top, .top, .top, .top, .top, .top, .top, .top, .top, .top, .top]) (b0 := []) (r0 := []) rfl rfl rfl ?_
  show Ex _ _ _ ⟨[.agg [.int .i64 p0.f_Quote, .sl false (List.map c_i64 p0.f_Lists), .int .i64 p0.f_Kind, .sl false (List.map c_api_Cell p0.f_Cells)], .top, .top, .top, .top, .top, .top, .top, .top, .top, .top, .top], [], [], 0⟩ _
  refine ex_seq ?_
  refine ex_ord [0, 1] (l := [0, 1]) rfl ?_
  refine e_ (d := .bx 0 0) 1 rfl rfl rfl rfl rfl (b' := [some [.int .i64 p0.f_Quote, .sl false (List.map c_i64 p0.f_Lists), .int .i64 p0.f_Kind, .sl false (List.map c_api_Cell p0.f_Cells)]]) (r' := []) (.box rfl rfl rfl) rfl ?_
  refine e_ (d := .bx 1 0) 2 rfl rfl rfl rfl rfl (b' := [some [.int .i64 p0.f_Quote, .sl false (List.map c_i64 p0.f_Lists), .int .i64 p0.f_Kind, .sl false (List.map c_api_Cell p0.f_Cells)], some [.int .i64 0, .sl false [], .int .i64 0, .sl false []]]) (r' := []) (.alloc rfl ze45) rfl ?_
  refine we_nil ?_
  refine ex_seq ?_
  refine ex_drw mo [2, 5, 7, 9, 2000, 2001, 2003, 2004, 2006, 2008, 3002, 3005, 3007, 3009, 100000, 200000, 400000, 500000, 700000, 800000, 900000, 1000000] (by kernel_rfl) (l := [0, 1, 2, 3, 4, 5, 6, 7, 8, 9]) rfl ?_
  refine r_ 3 0 rfl rfl rfl rfl rfl rfl (fun _ _ hb => .fieldAddr rfl rfl (live_bx hb) fl45u_1 rfl) ?_
  refine r_ 4 0 rfl rfl rfl rfl rfl rfl (fun _ _ hb => x_load rfl rfl (at_bx hb rfl) sz43 un43 ag43 rfl) ?_
  obtain ⟨v1, hv1, h⟩ := bindS h
  refine e_ (d := .own 0) 5 rfl rfl rfl rfl rfl (b' := [some [.int .i64 p0.f_Quote, .sl false (List.map c_i64 p0.f_Lists), .int .i64 p0.f_Kind, .sl false (List.map c_api_Cell p0.f_Cells)], some [.int .i64 0, .sl false [], .int .i64 0, .sl false []]]) (r' := [some ⟨3, 1, List.map c_i64 v1⟩]) (x_call [] [] rfl rfl en45 (ok_slices_Clone_int hv1) rfl rfl rfl rfl rfl rfl rfl rfl rfl rfl rfl rfl rfl rfl) rfl ?_
  refine r_ 6 0 rfl rfl rfl rfl rfl rfl (fun _ _ hb => .fieldAddr rfl rfl (live_bx hb) fl45u_3 rfl) ?_
  refine r_ 7 0 rfl rfl rfl rfl rfl rfl (fun _ _ hb => x_load rfl rfl (at_bx hb rfl) sz42 un42 ag42 rfl) ?_
  obtain ⟨v2, hv2, h⟩ := bindS h
  refine e_ (d := .own 1) 8 rfl rfl rfl rfl rfl (b' := [some [.int .i64 p0.f_Quote, .sl false (List.map c_i64 p0.f_Lists), .int .i64 p0.f_Kind, .sl false (List.map c_api_Cell p0.f_Cells)], some [.int .i64 0, .sl false [], .int .i64 0, .sl false []]]) (r' := [some ⟨3, 1, List.map c_i64 v1⟩, some ⟨41, 3, List.map c_api_Cell v2⟩]) (x_call [] [] rfl rfl en46 (ok_slices_Clone_apiCell hv2) rfl rfl rfl rfl rfl rfl rfl rfl rfl rfl rfl rfl rfl rfl) rfl ?_
  refine r_ 9 0 rfl rfl rfl rfl rfl rfl (fun _ _ hb => .fieldAddr rfl rfl (live_bx hb) fl45u_1 rfl) ?_
  refine e0 rfl rfl rfl rfl rfl (b' := [some [.int .i64 p0.f_Quote, .own 0, .int .i64 p0.f_Kind, .sl false (List.map c_api_Cell p0.f_Cells)], some [.int .i64 0, .sl false [], .int .i64 0, .sl false []]]) (r' := [some ⟨3, 1, List.map c_i64 v1⟩, some ⟨41, 3, List.map c_api_Cell v2⟩]) (hb := set_out 0 (some [.int .i64 p0.f_Quote, .own 0, .int .i64 p0.f_Kind, .sl false (List.map c_api_Cell p0.f_Cells)]) rfl rfl) (.store rfl rfl rfl sz43 rfl rfl rfl) rfl ?_
  refine r_ 10 0 rfl rfl rfl rfl rfl rfl (fun _ _ hb => .fieldAddr rfl rfl (live_bx hb) fl45u_3 rfl) ?_
  refine e0 rfl rfl rfl rfl rfl (b' := [some [.int .i64 p0.f_Quote, .own 0, .int .i64 p0.f_Kind, .own 1], some [.int .i64 0, .sl false [], .int .i64 0, .sl false []]]) (r' := [some ⟨3, 1, List.map c_i64 v1⟩, some ⟨41, 3, List.map c_api_Cell v2⟩]) (hb := set_out 0 (some [.int .i64 p0.f_Quote, .own 0, .int .i64 p0.f_Kind, .own 1]) rfl rfl) (.store rfl rfl rfl sz42 rfl rfl rfl) rfl ?_
  refine we_nil ?_
  refine ex_seq ?_
  refine ex_gst ⟨[.agg [.int .i64 p0.f_Quote, .sl false (List.map c_i64 p0.f_Lists), .int .i64 p0.f_Kind, .sl false (List.map c_api_Cell p0.f_Cells)], .bx 0 0, .bx 1 0, .bx 0 1, .sl false (List.map c_i64 p0.f_Lists), .sl false (List.map c_i64 v1), .bx 0 3, .sl false (List.map c_api_Cell p0.f_Cells), .own 1, .bx 0 1, .bx 0 3, .top], [some [.int .i64 p0.f_Quote, .sl false (List.map c_i64 v1), .int .i64 p0.f_Kind, .own 1], some [.int .i64 0, .sl false [], .int .i64 0, .sl false []]], [none, some ⟨41, 3, List.map c_api_Cell v2⟩], 0⟩ (.shutR false (t := 0) rfl (.refl _)) rfl ?_
  refine ex_gst ⟨[.agg [.int .i64 p0.f_Quote, .sl false (List.map c_i64 p0.f_Lists), .int .i64 p0.f_Kind, .sl false (List.map c_api_Cell p0.f_Cells)], .bx 0 0, .bx 1 0, .bx 0 1, .sl false (List.map c_i64 p0.f_Lists), .sl false (List.map c_i64 v1), .bx 0 3, .sl false (List.map c_api_Cell p0.f_Cells), .sl false (List.map c_api_Cell v2), .bx 0 1, .bx 0 3, .top], [some [.int .i64 p0.f_Quote, .sl false (List.map c_i64 v1), .int .i64 p0.f_Kind, .sl false (List.map c_api_Cell v2)], some [.int .i64 0, .sl false [], .int .i64 0, .sl false []]], [none, none], 0⟩ (.shutR false (t := 1) rfl (.refl _)) rfl ?_
  refine ex_ord [1] (l := [0, 1]) rfl ?_
  refine p_ 11 rfl rfl rfl rfl (x_loadA rfl rfl rfl sz45 un45 ag45 rfl) ?_
  refine e0 rfl rfl rfl rfl rfl (b' := [some [.int .i64 p0.f_Quote, .sl false (List.map c_i64 v1), .int .i64 p0.f_Kind, .sl false (List.map c_api_Cell v2)], some [.int .i64 p0.f_Quote, .sl false (List.map c_i64 v1), .int .i64 p0.f_Kind, .sl false (List.map c_api_Cell v2)]]) (r' := [none, none]) (.store rfl rfl rfl sz45 rfl rfl rfl) rfl ?_
  refine we_nil ?_
  refine ex_ret ?_
  obtain rfl := Option.some.inj h
  exact finB (by first | exact .inr rfl | exact .inl rfl) (.refl _) [.agg [.int .i64 p0.f_Quote, .sl false (List.map c_i64 v1), .int .i64 p0.f_Kind, .sl false (List.map c_api_Cell v2)]] [] [] (res_cons (res_cell rfl rfl sz45 un45 ag45 rfl) res_nil) rfl rfl rfl rfl rfl rfl rfl
theorem ok_slices_Grow_apiCell {r : (List (T_api_Cell))} {p0 : List (T_api_Cell)} {p1 : Int} (h : slices_Grow_apiCell p0 p1 = some r) : OkB prog 31 [.nil, .int .i64 p1] [] [] (.own 0) [] [⟨41, 3, List.map c_api_Cell r⟩] := by
  unfold slices_Grow_apiCell at h
  refine okB_of_exG func31 rfl rfl (s0 := [.nil, .int .i64 p1, .top, .top, .top, .top, .top, .top, .top, .top, .top, .top, .top, .top, .top, .top, .top, .top, .top, .top, .top, .top, .top, .top, .top, .top, .top]) (b0 := []) (r0 := []) rfl rfl rfl ?_
  show Ex _ _ _ ⟨[.nil, .int .i64 p1, .top, .top, .top, .top, .top, .top, .top, .top, .top, .top, .top, .top, .top, .top, .top, .top, .top, .top, .top, .top, .top, .top, .top, .top, .top], [], [], 0⟩ _
  refine ex_seq ?_
  refine ex_ord [0] (l := [0]) rfl ?_
  refine e_ (d := .own 0) 4 rfl rfl rfl rfl rfl (b' := []) (r' := [some ⟨41, 3, []⟩]) (.nilRow (.inr rfl) rfl 41 3) rfl ?_
  refine we_nil ?_
  refine ex_seq ?_
  refine ex_seq ?_
  refine ex_ord [] (l := [0, 1]) rfl ?_
  refine p_ 5 rfl rfl rfl rfl (.move rfl rfl) ?_
  refine p_ 6 rfl rfl rfl rfl (.bin rfl rfl rfl rfl) ?_
  refine we_nil ?_
  obtain ⟨_, hq, h⟩ := bindS h
  refine ex_cut ⟨[.nil, .int .i64 p1, .top, .top, .top, .top, .top, .top, .top, .top, .top, .top, .top, .top, .top, .top, .top, .top, .top, .top, .top, .top, .top, .top, .top, .top, .top], [], [], 0⟩ ?_ ?_
  · clear h
    have h := hq
    clear hq
    refine ex_if rfl ?_ ?_
    · intro hc
      replace h := iteT h hc
      cases h
    · intro hc
      replace h := iteF h hc
      refine ex_skip ?_
      cases h
      exact ⟨rfl, _, .re [true, true, false, false, false, false, false, false, false, false, false, false, false, false, false, false, false, false, false, false, false, false, false, false, false, false, false] [] [] rfl (.refl _), rfl⟩
  · clear hq
    refine ex_seq ?_
    refine ex_seq ?_
    refine ex_ord [] (l := [0, 1, 2, 3, 4, 5, 6, 7]) rfl ?_
    refine p_ 8 rfl rfl rfl rfl (.move rfl rfl) ?_
    refine p_ 9 rfl rfl rfl rfl (.move rfl rfl) ?_
    refine p_ 10 rfl rfl rfl rfl (.capNil rfl rfl el42) ?_
    refine p_ 11 rfl rfl rfl rfl (.move rfl rfl) ?_
    refine p_ 12 rfl rfl rfl rfl (x_len0 rfl rfl rfl el42) ?_
    refine p_ 13 rfl rfl rfl rfl (.bin rfl rfl rfl rfl) ?_
    refine p_ 14 rfl rfl rfl rfl (.bin rfl rfl rfl rfl) ?_
    refine p_ 1 rfl rfl rfl rfl (.assign rfl rfl) ?_
    refine we_nil ?_
    refine ex_seq ?_
    refine ex_ord [] (l := [0, 1]) rfl ?_
    refine p_ 15 rfl rfl rfl rfl (.move rfl rfl) ?_
    refine p_ 16 rfl rfl rfl rfl (.bin rfl rfl rfl rfl) ?_
    refine we_nil ?_
    obtain ⟨q1, hq, h⟩ := bindS h
    refine ex_cut ⟨[.own 0, .top, .top, .top, .top, .top, .top, .top, .top, .top, .top, .top, .top, .top, .top, .top, .top, .top, .top, .top, .top, .top, .top, .top, .top, .top, .top], [], [some ⟨41, 3, List.map c_api_Cell q1⟩], 0⟩ ?_ ?_
    · clear h
      have h := hq
      clear hq
      refine ex_if rfl ?_ ?_
      · intro hc
        replace h := iteT h hc
        refine ex_ord [5, 8] (l := [0, 1, 2, 3, 4, 5, 6, 7, 8, 9]) rfl ?_
        refine p_ 17 rfl rfl rfl rfl (.move rfl rfl) ?_
        refine p_ 18 rfl rfl rfl rfl (.move rfl rfl) ?_
        refine p_ 19 rfl rfl rfl rfl (.capNil rfl rfl el42) ?_
        refine p_ 20 rfl rfl rfl rfl (.cutNil rfl rfl rfl el42 sz41) ?_
        refine p_ 21 rfl rfl rfl rfl (.move rfl rfl) ?_
        obtain ⟨v2, hv2, h⟩ := bindS h
        refine e_ (d := .own 0) 22 rfl rfl rfl rfl rfl (b' := []) (r' := [some ⟨41, 3, List.map c_api_Cell v2⟩]) (x_appZ (f := c_api_Cell) (x0 := (T_api_Cell.mk (0) (0) ([]) : T_api_Cell)) rfl rfl rfl el42 ui3 rw41 ze41 rfl hv2) rfl ?_
        refine p_ 23 rfl rfl rfl rfl (.move rfl rfl) ?_
        refine p_ 24 rfl rfl rfl rfl (x_len0 rfl rfl rfl el42) ?_
        obtain ⟨v3, hv3, h⟩ := bindS h
        refine e_ (d := .own 1) 25 rfl rfl rfl rfl rfl (b' := []) (r' := [none, some ⟨41, 3, List.map c_api_Cell v3⟩]) (x_cutO (f := c_api_Cell) (l := v2) rfl rfl rfl rfl el42 sz41 hv3) rfl ?_
        refine p_ 0 rfl rfl rfl rfl (.assign rfl rfl) ?_
        refine we_nil ?_
        cases h
        exact ⟨rfl, _, .re [true, false, false, false, false, false, false, false, false, false, false, false, false, false, false, false, false, false, false, false, false, false, false, false, false, false, false] [] [1] rfl (.refl _), rfl⟩
      · intro hc
        replace h := iteF h hc
        refine ex_skip ?_
        cases h
        exact ⟨rfl, _, .nilOwn (i := 0) 41 3 rfl (.re [true, false, false, false, false, false, false, false, false, false, false, false, false, false, false, false, false, false, false, false, false, false, false, false, false, false, false] [] [0] rfl (.refl _)), rfl⟩
    · clear hq
      refine ex_seq ?_
      refine ex_ord [] (l := [0, 1]) rfl ?_
      refine p_ 26 rfl rfl rfl rfl (.move rfl rfl) ?_
      refine p_ 4 rfl rfl rfl rfl (.assign rfl rfl) ?_
      refine we_nil ?_
      refine ex_ret ?_
      obtain rfl := Option.some.inj h
      exact finB (by first | exact .inr rfl | exact .inl rfl) (.refl _) [.own 0] [0] [] (res_cons (res_tmp rfl) res_nil) rfl rfl rfl rfl rfl rfl rfl
theorem ok_lines_Frame {r : T_api_Line} {p0 : T_api_Line} (h : lines_Frame p0 = some r) : OkB prog 37 [.agg [.int .i64 p0.f_Quote, .sl false (List.map c_i64 p0.f_Lists), .int .i64 p0.f_Kind, .sl false (List.map c_api_Cell p0.f_Cells)]] [] [] (.agg [.int .i64 r.f_Quote, .sl false (List.map c_i64 r.f_Lists), .int .i64 r.f_Kind, .sl false (List.map c_api_Cell r.f_Cells)]) [] [] := by
  unfold lines_Frame at h
  refine okB_of_exG func37 rfl rfl (s0 := [.agg [.int .i64 p0.f_Quote, .sl false (List.map c_i64 p0.f_Lists), .int .i64 p0.f_Kind, .sl false (List.map c_api_Cell p0.f_Cells)], .top, .top, .top, .top, .top, .top]) (b0 := []) (r0 := []) rfl rfl rfl ?_
  show Ex _ _ _ ⟨[.agg [.int .i64 p0.f_Quote, .sl false (List.map c_i64 p0.f_Lists), .int .i64 p0.f_Kind, .sl false (List.map c_api_Cell p0.f_Cells)], .top, .top, .top, .top, .top, .top], [], [], 0⟩ _
  refine ex_seq ?_
  refine ex_ord [0, 1] (l := [0, 1]) rfl ?_
  refine e_ (d := .bx 0 0) 1 rfl rfl rfl rfl rfl (b' := [some [.int .i64 p0.f_Quote, .sl false (List.map c_i64 p0.f_Lists), .int .i64 p0.f_Kind, .sl false (List.map c_api_Cell p0.f_Cells)]]) (r' := []) (.box rfl rfl rfl) rfl ?_
  refine e_ (d := .bx 1 0) 2 rfl rfl rfl rfl rfl (b' := [some [.int .i64 p0.f_Quote, .sl false (List.map c_i64 p0.f_Lists), .int .i64 p0.f_Kind, .sl false (List.map c_api_Cell p0.f_Cells)], some [.int .i64 0, .sl false [], .int .i64 0, .sl false []]]) (r' := []) (.alloc rfl ze45) rfl ?_
  refine we_nil ?_
  refine ex_seq ?_
  refine ex_ord [2] (l := [0, 1, 2]) rfl ?_
  refine p_ 3 rfl rfl rfl rfl (x_loadA rfl rfl rfl sz45 un45 ag45 rfl) ?_
  obtain ⟨v1, hv1, h⟩ := bindS h
  refine p_ 4 rfl rfl rfl rfl (x_callP rfl rfl en30 (ok_lines_Own hv1) rfl rfl rfl rfl rfl) ?_
  refine e0 rfl rfl rfl rfl rfl (b' := [some [.int .i64 v1.f_Quote, .sl false (List.map c_i64 v1.f_Lists), .int .i64 v1.f_Kind, .sl false (List.map c_api_Cell v1.f_Cells)], some [.int .i64 0, .sl false [], .int .i64 0, .sl false []]]) (r' := []) (.store rfl rfl rfl sz45 rfl rfl rfl) rfl ?_
  refine we_nil ?_
  refine ex_seq ?_
  refine ex_ord [1] (l := [0, 1]) rfl ?_
  refine p_ 5 rfl rfl rfl rfl (.fieldAddr rfl rfl rfl fl45u_3 rfl) ?_
  refine e0 rfl rfl rfl rfl rfl (b' := [some [.int .i64 v1.f_Quote, .sl false (List.map c_i64 v1.f_Lists), .int .i64 v1.f_Kind, .sl false []], some [.int .i64 0, .sl false [], .int .i64 0, .sl false []]]) (r' := []) (.store rfl rfl rfl sz42 rfl rfl rfl) rfl ?_
  refine we_nil ?_
  refine ex_seq ?_
  refine ex_ord [1] (l := [0, 1]) rfl ?_
  refine p_ 6 rfl rfl rfl rfl (x_loadA rfl rfl rfl sz45 un45 ag45 rfl) ?_
  refine e0 rfl rfl rfl rfl rfl (b' := [some [.int .i64 v1.f_Quote, .sl false (List.map c_i64 v1.f_Lists), .int .i64 v1.f_Kind, .sl false []], some [.int .i64 v1.f_Quote, .sl false (List.map c_i64 v1.f_Lists), .int .i64 v1.f_Kind, .sl false []]]) (r' := []) (.store rfl rfl rfl sz45 rfl rfl rfl) rfl ?_
  refine we_nil ?_
  refine ex_ret ?_
  obtain rfl := Option.some.inj h
  exact finB (by first | exact .inr rfl | exact .inl rfl) (.refl _) [.agg [.int .i64 v1.f_Quote, .sl false (List.map c_i64 v1.f_Lists), .int .i64 v1.f_Kind, .sl false []]] [] [] (res_cons (res_cell rfl rfl sz45 un45 ag45 rfl) res_nil) rfl rfl rfl rfl rfl rfl rfl
theorem ok_doc_between {r : T_api_Pos × T_api_Pos × (List (T_api_Line))} {p0 : List (T_api_Line)} {p1 : T_api_Pos} {p2 : T_api_Pos} (h : doc_between p0 p1 p2 = some r) : OkB prog 39 [.sl false (List.map c_api_Line p0), .agg [.int .i64 p1.f_Line, .int .i64 p1.f_At], .agg [.int .i64 p2.f_Line, .int .i64 p2.f_At]] [] [] (.fn 53 [.cp [.int .i64 r.1.f_Line, .int .i64 r.1.f_At], .cp [.int .i64 r.2.1.f_Line, .int .i64 r.2.1.f_At], .cp [.sl false (List.map c_api_Line r.2.2)]]) [] [] := by
  unfold doc_between at h
  refine okB_of_exG func39 rfl rfl (s0 := [.sl false (List.map c_api_Line p0), .agg [.int .i64 p1.f_Line, .int .i64 p1.f_At], .agg [.int .i64 p2.f_Line, .int .i64 p2.f_At], .top, .top, .top, .top, .top]) (b0 := []) (r0 := []) rfl rfl rfl ?_
  show Ex _ _ _ ⟨[.sl false (List.map c_api_Line p0), .agg [.int .i64 p1.f_Line, .int .i64 p1.f_At], .agg [.int .i64 p2.f_Line, .int .i64 p2.f_At], .top, .top, .top, .top, .top], [], [], 0⟩ _
  refine ex_seq ?_
  refine ex_ord [0, 1, 2] (l := [0, 1, 2, 3]) rfl ?_
  refine e_ (d := .bx 0 0) 3 rfl rfl rfl rfl rfl (b' := [some [.sl false (List.map c_api_Line p0)]]) (r' := []) (.box rfl rfl rfl) rfl ?_
  refine e_ (d := .bx 1 0) 4 rfl rfl rfl rfl rfl (b' := [some [.sl false (List.map c_api_Line p0)], some [.int .i64 p1.f_Line, .int .i64 p1.f_At]]) (r' := []) (.box rfl rfl rfl) rfl ?_
  refine e_ (d := .bx 2 0) 5 rfl rfl rfl rfl rfl (b' := [some [.sl false (List.map c_api_Line p0)], some [.int .i64 p1.f_Line, .int .i64 p1.f_At], some [.int .i64 p2.f_Line, .int .i64 p2.f_At]]) (r' := []) (.box rfl rfl rfl) rfl ?_
  refine p_ 6 rfl rfl rfl rfl (.assign rfl rfl) ?_
  refine we_nil ?_
  refine ex_seq ?_
  refine ex_gst ⟨[.sl false (List.map c_api_Line p0), .agg [.int .i64 p1.f_Line, .int .i64 p1.f_At], .agg [.int .i64 p2.f_Line, .int .i64 p2.f_At], .cp [.sl false (List.map c_api_Line p0)], .bx 1 0, .bx 2 0, .top, .top], [none, some [.int .i64 p1.f_Line, .int .i64 p1.f_At], some [.int .i64 p2.f_Line, .int .i64 p2.f_At]], [], 0⟩ (.shutB (b := 0) rfl (fun d h => by simpa using List.all_eq_true.1 (rfl : List.all [.sl false (List.map c_api_Line p0)] (fun d => !d.tok) = true) d h) (.refl _)) rfl ?_
  refine ex_gst ⟨[.sl false (List.map c_api_Line p0), .agg [.int .i64 p1.f_Line, .int .i64 p1.f_At], .agg [.int .i64 p2.f_Line, .int .i64 p2.f_At], .cp [.sl false (List.map c_api_Line p0)], .cp [.int .i64 p1.f_Line, .int .i64 p1.f_At], .bx 2 0, .top, .top], [none, none, some [.int .i64 p2.f_Line, .int .i64 p2.f_At]], [], 0⟩ (.shutB (b := 1) rfl (fun d h => by simpa using List.all_eq_true.1 (rfl : List.all [.int .i64 p1.f_Line, .int .i64 p1.f_At] (fun d => !d.tok) = true) d h) (.refl _)) rfl ?_
  refine ex_gst ⟨[.sl false (List.map c_api_Line p0), .agg [.int .i64 p1.f_Line, .int .i64 p1.f_At], .agg [.int .i64 p2.f_Line, .int .i64 p2.f_At], .cp [.sl false (List.map c_api_Line p0)], .cp [.int .i64 p1.f_Line, .int .i64 p1.f_At], .cp [.int .i64 p2.f_Line, .int .i64 p2.f_At], .top, .top], [none, none, none], [], 0⟩ (.shutB (b := 2) rfl (fun d h => by simpa using List.all_eq_true.1 (rfl : List.all [.int .i64 p2.f_Line, .int .i64 p2.f_At] (fun d => !d.tok) = true) d h) (.refl _)) rfl ?_
  refine ex_ord [] (l := [0, 1]) rfl ?_
  refine p_ 7 rfl rfl rfl rfl (.func rfl rfl rfl) ?_
  refine p_ 6 rfl rfl rfl rfl (.assign rfl rfl) ?_
  refine we_nil ?_
  refine ex_ret ?_
  obtain rfl := Option.some.inj h
  exact finB (by first | exact .inr rfl | exact .inl rfl) (.refl _) [.fn 53 [.cp [.int .i64 p1.f_Line, .int .i64 p1.f_At], .cp [.int .i64 p2.f_Line, .int .i64 p2.f_At], .cp [.sl false (List.map c_api_Line p0)]]] [] [] (res_cons (res_tmp rfl) res_nil) rfl rfl rfl rfl rfl rfl rfl
theorem ok_css_Over {r : Int} {p0 : Int} {p1 : Int} {p2 : Int} (h : css_Over p0 p1 p2 = some r) : OkB prog 42 [.int .i64 p0, .int .i64 p1, .int .i64 p2] [] [] (.int .i64 r) [] [] := by
  unfold css_Over at h
  refine okB_of_exG func42 rfl rfl (s0 := [.int .i64 p0, .int .i64 p1, .int .i64 p2, .top, .top, .top, .top, .top, .top, .top, .top, .top]) (b0 := []) (r0 := []) rfl rfl rfl ?_
  show Ex _ _ _ ⟨[.int .i64 p0, .int .i64 p1, .int .i64 p2, .top, .top, .top, .top, .top, .top, .top, .top, .top], [], [], 0⟩ _
  refine ex_seq ?_
  refine ex_ord [] (l := [0]) rfl ?_
  refine p_ 6 rfl rfl rfl rfl (.assign rfl rfl) ?_
  refine we_nil ?_
  refine ex_seq ?_
  refine ex_ord [] (l := [0, 1, 2, 3, 4, 5]) rfl ?_
  refine p_ 7 rfl rfl rfl rfl (.move rfl rfl) ?_
  refine p_ 8 rfl rfl rfl rfl (.move rfl rfl) ?_
  refine p_ 9 rfl rfl rfl rfl (.bin rfl rfl rfl rfl) ?_
  refine p_ 10 rfl rfl rfl rfl (.move rfl rfl) ?_
  refine p_ 11 rfl rfl rfl rfl (.bin rfl rfl rfl rfl) ?_
  refine p_ 6 rfl rfl rfl rfl (.assign rfl rfl) ?_
  refine we_nil ?_
  refine ex_ret ?_
  obtain rfl := Option.some.inj h
  exact finB (by first | exact .inr rfl | exact .inl rfl) (.refl _) [.int .i64 (bit_or .i64 (bit_andNot .i64 p0 p2) p1)] [] [] (res_cons (res_tmp rfl) res_nil) rfl rfl rfl rfl rfl rfl rfl
theorem ok_lines_May_1 {r : Bool} {p0 : Int} (h : lines_May_1 p0 = some r) : OkB prog 49 [.int .i64 p0] [] [] (.bool r) [] [] := by
  unfold lines_May_1 at h
  refine okB_of_exG func49 rfl rfl (s0 := [.int .i64 p0, .top, .top, .top, .top, .top, .top, .top, .top]) (b0 := []) (r0 := []) rfl rfl rfl ?_
  show Ex _ _ _ ⟨[.int .i64 p0, .top, .top, .top, .top, .top, .top, .top, .top], [], [], 0⟩ _
  refine ex_seq ?_
  refine ex_ord [] (l := [0]) rfl ?_
  refine p_ 2 rfl rfl rfl rfl (.assign rfl rfl) ?_
  refine we_nil ?_
  refine ex_seq ?_
  obtain ⟨q1, hq, h⟩ := bindS h
  refine ex_cut ⟨[.top, .top, .bool q1, .top, .top, .top, .top, .top, .top], [], [], 0⟩ ?_ ?_
  · clear h
    have h := hq
    clear hq
    refine ex_ord [] (l := [0, 1, 2, 3, 4, 5, 6]) rfl ?_
    refine p_ 3 rfl rfl rfl rfl (.move rfl rfl) ?_
    refine pif 4 rfl rfl rfl rfl (.bin rfl rfl rfl rfl) ?_ ?_
    · intro hc
      replace h := iteT h hc
      refine p_ 5 rfl rfl rfl rfl (.move rfl rfl) ?_
      refine p_ 6 rfl rfl rfl rfl (.move rfl rfl) ?_
      refine p_ 7 rfl rfl rfl rfl (.bin rfl rfl rfl rfl) ?_
      refine p_ 8 rfl rfl rfl rfl (x_pickT rfl rfl rfl rfl) ?_
      refine p_ 2 rfl rfl rfl rfl (.assign rfl rfl) ?_
      refine we_nil ?_
      cases h
      exact ⟨rfl, _, .re [false, false, true, false, false, false, false, false, false] [] [] rfl (.refl _), rfl⟩
    · intro hc
      replace h := iteF h hc
      refine p_ 5 rfl rfl rfl rfl (.move rfl rfl) ?_
      refine k_ 6 rfl rfl rfl ?_
      refine k_ 7 rfl rfl rfl ?_
      refine p_ 8 rfl rfl rfl rfl (x_pickF rfl rfl rfl rfl) ?_
      refine p_ 2 rfl rfl rfl rfl (.assign rfl rfl) ?_
      refine we_nil ?_
      cases h
      exact ⟨rfl, _, .re [false, false, true, false, false, false, false, false, false] [] [] rfl (.refl _), rfl⟩
  · clear hq
    refine ex_ret ?_
    obtain rfl := Option.some.inj h
    exact finB (by first | exact .inr rfl | exact .inl rfl) (.refl _) [.bool q1] [] [] (res_cons (res_tmp rfl) res_nil) rfl rfl rfl rfl rfl rfl rfl
theorem ok_doc_Count_1 {r : Bool} {p0 : T_api_Cell} (h : doc_Count_1 p0 = some r) : OkB prog 52 [.agg [.int .i32 p0.f_R, .int .i64 p0.f_Bits, .str (bs p0.f_Href)]] [] [] (.bool r) [] [] := by
  unfold doc_Count_1 at h
  refine okB_of_exG func52 rfl rfl (s0 := [.agg [.int .i32 p0.f_R, .int .i64 p0.f_Bits, .str (bs p0.f_Href)], .top, .top]) (b0 := []) (r0 := []) rfl rfl rfl ?_
  show Ex _ _ _ ⟨[.agg [.int .i32 p0.f_R, .int .i64 p0.f_Bits, .str (bs p0.f_Href)], .top, .top], [], [], 0⟩ _
  refine ex_seq ?_
  refine ex_ord [0] (l := [0, 1]) rfl ?_
  refine e_ (d := .bx 0 0) 1 rfl rfl rfl rfl rfl (b' := [some [.int .i32 p0.f_R, .int .i64 p0.f_Bits, .str (bs p0.f_Href)]]) (r' := []) (.box rfl rfl rfl) rfl ?_
  refine p_ 2 rfl rfl rfl rfl (.assign rfl rfl) ?_
  refine we_nil ?_
  refine ex_seq ?_
  refine ex_gst ⟨[.agg [.int .i32 p0.f_R, .int .i64 p0.f_Bits, .str (bs p0.f_Href)], .cp [.int .i32 p0.f_R, .int .i64 p0.f_Bits, .str (bs p0.f_Href)], .bool false], [none], [], 0⟩ (.shutB (b := 0) rfl (fun d h => by simpa using List.all_eq_true.1 (rfl : List.all [.int .i32 p0.f_R, .int .i64 p0.f_Bits, .str (bs p0.f_Href)] (fun d => !d.tok) = true) d h) (.refl _)) rfl ?_
  refine ex_ord [] (l := [0]) rfl ?_
  refine p_ 2 rfl rfl rfl rfl (.assign rfl rfl) ?_
  refine we_nil ?_
  refine ex_ret ?_
  obtain rfl := Option.some.inj h
  exact finB (by first | exact .inr rfl | exact .inl rfl) (.refl _) [.bool false] [] [] (res_cons (res_tmp rfl) res_nil) rfl rfl rfl rfl rfl rfl rfl
theorem ok_cells_span {r : Bool} {p0 : List (T_api_Cell)} {p1 : Int} {p2 : Int} (h : cells_span p0 p1 p2 = some r) : OkB prog 54 [.sl false (List.map c_api_Cell p0), .int .i64 p1, .int .i64 p2] [] [] (.bool r) [] [] := by
  unfold cells_span at h
  refine okB_of_exG func54 rfl rfl (s0 := [.sl false (List.map c_api_Cell p0), .int .i64 p1, .int .i64 p2, .top, .top, .top, .top, .top, .top, .top, .top, .top, .top, .top, .top, .top, .top, .top, .top, .top]) (b0 := []) (r0 := []) rfl rfl rfl ?_
  show Ex _ _ _ ⟨[.sl false (List.map c_api_Cell p0), .int .i64 p1, .int .i64 p2, .top, .top, .top, .top, .top, .top, .top, .top, .top, .top, .top, .top, .top, .top, .top, .top, .top], [], [], 0⟩ _
  refine ex_seq ?_
  refine ex_ord [] (l := [0]) rfl ?_
  refine p_ 6 rfl rfl rfl rfl (.assign rfl rfl) ?_
  refine we_nil ?_
  refine ex_seq ?_
  obtain ⟨q1, hq, h⟩ := bindS h
  refine ex_cut ⟨[.top, .top, .top, .top, .top, .top, .bool q1, .top, .top, .top, .top, .top, .top, .top, .top, .top, .top, .top, .top, .top], [], [], 0⟩ ?_ ?_
  · clear h
    have h := hq
    clear hq
    refine ex_ord [] (l := [0, 1, 2, 3, 4, 5, 6, 7, 8, 9, 10, 11, 12, 13]) rfl ?_
    refine p_ 7 rfl rfl rfl rfl (.move rfl rfl) ?_
    refine pif 8 rfl rfl rfl rfl (.bin rfl rfl rfl rfl) ?_ ?_
    · intro hc
      replace h := iteT h hc
      refine p_ 9 rfl rfl rfl rfl (.move rfl rfl) ?_
      refine p_ 10 rfl rfl rfl rfl (.move rfl rfl) ?_
      refine p_ 11 rfl rfl rfl rfl (.move rfl rfl) ?_
      refine pif 12 rfl rfl rfl rfl (.bin rfl rfl rfl rfl) ?_ ?_
      · intro hc
        replace h := iteT h hc
        refine p_ 13 rfl rfl rfl rfl (x_pickT rfl rfl rfl rfl) ?_
        refine p_ 14 rfl rfl rfl rfl (.move rfl rfl) ?_
        refine p_ 15 rfl rfl rfl rfl (.move rfl rfl) ?_
        refine p_ 16 rfl rfl rfl rfl (.move rfl rfl) ?_
        refine p_ 17 rfl rfl rfl rfl (x_len (f := c_api_Cell) (l := p0) rfl rfl rfl el42) ?_
        refine p_ 18 rfl rfl rfl rfl (.bin rfl rfl rfl rfl) ?_
        refine p_ 19 rfl rfl rfl rfl (x_pickT rfl rfl rfl rfl) ?_
        refine p_ 6 rfl rfl rfl rfl (.assign rfl rfl) ?_
        refine we_nil ?_
        cases h
        exact ⟨rfl, _, .re [false, false, false, false, false, false, true, false, false, false, false, false, false, false, false, false, false, false, false, false] [] [] rfl (.refl _), rfl⟩
      · intro hc
        replace h := iteF h hc
        refine p_ 13 rfl rfl rfl rfl (x_pickT rfl rfl rfl rfl) ?_
        refine p_ 14 rfl rfl rfl rfl (.move rfl rfl) ?_
        refine k_ 15 rfl rfl rfl ?_
        refine k_ 16 rfl rfl rfl ?_
        refine k_ 17 rfl rfl rfl ?_
        refine k_ 18 rfl rfl rfl ?_
        refine p_ 19 rfl rfl rfl rfl (x_pickF rfl rfl rfl rfl) ?_
        refine p_ 6 rfl rfl rfl rfl (.assign rfl rfl) ?_
        refine we_nil ?_
        cases h
        exact ⟨rfl, _, .re [false, false, false, false, false, false, true, false, false, false, false, false, false, false, false, false, false, false, false, false] [] [] rfl (.refl _), rfl⟩
    · intro hc
      replace h := iteF h hc
      refine p_ 9 rfl rfl rfl rfl (.move rfl rfl) ?_
      refine k_ 10 rfl rfl rfl ?_
      refine k_ 11 rfl rfl rfl ?_
      refine k_ 12 rfl rfl rfl ?_
      refine p_ 13 rfl rfl rfl rfl (x_pickF rfl rfl rfl rfl) ?_
      refine p_ 14 rfl rfl rfl rfl (.move rfl rfl) ?_
      refine k_ 15 rfl rfl rfl ?_
      refine k_ 16 rfl rfl rfl ?_
      refine k_ 17 rfl rfl rfl ?_
      refine k_ 18 rfl rfl rfl ?_
      refine p_ 19 rfl rfl rfl rfl (x_pickF rfl rfl rfl rfl) ?_
      refine p_ 6 rfl rfl rfl rfl (.assign rfl rfl) ?_
      refine we_nil ?_
      cases h
      exact ⟨rfl, _, .re [false, false, false, false, false, false, true, false, false, false, false, false, false, false, false, false, false, false, false, false] [] [] rfl (.refl _), rfl⟩
  · clear hq
    refine ex_ret ?_
    obtain rfl := Option.some.inj h
    exact finB (by first | exact .inr rfl | exact .inl rfl) (.refl _) [.bool q1] [] [] (res_cons (res_tmp rfl) res_nil) rfl rfl rfl rfl rfl rfl rfl
theorem ok_slices_IndexFunc_apiLine {r : Int} {p0 : List (T_api_Line)} {p1 : T_api_Line → Option (Bool)} {g1 : FuncId} {cs1 : List DV} (hc1 : Cl prog g1 cs1) (hf1 : ∀ x0 r, p1 x0 = some r → OkB prog g1 ([.agg [.int .i64 x0.f_Quote, .sl false (List.map c_i64 x0.f_Lists), .int .i64 x0.f_Kind, .sl false (List.map c_api_Cell x0.f_Cells)]] ++ cs1) [] [] (.bool r) [] []) (h : slices_IndexFunc_apiLine p0 p1 = some r) : OkB prog 55 [.sl false (List.map c_api_Line p0), .fn g1 cs1] [] [] (.int .i64 r) [] [] := by
  unfold slices_IndexFunc_apiLine at h
  refine okB_of_exG func55 rfl rfl (s0 := [.sl false (List.map c_api_Line p0), .fn g1 cs1, .top, .top, .top, .top, .top, .top, .top, .top, .top, .top, .top, .top, .top, .top, .top, .top, .top]) (b0 := []) (r0 := []) rfl rfl rfl ?_
  show Ex _ _ _ ⟨[.sl false (List.map c_api_Line p0), .fn g1 cs1, .top, .top, .top, .top, .top, .top, .top, .top, .top, .top, .top, .top, .top, .top, .top, .top, .top], [], [], 0⟩ _
  refine ex_seq ?_
  refine ex_ord [] (l := [0]) rfl ?_
  refine p_ 4 rfl rfl rfl rfl (.assign rfl rfl) ?_
  refine we_nil ?_
  refine ex_seq ?_
  refine ex_seq ?_
  refine ex_ord [] (l := [0, 1, 2]) rfl ?_
  refine p_ 6 rfl rfl rfl rfl (.move rfl rfl) ?_
  refine p_ 7 rfl rfl rfl rfl (x_len (f := c_api_Line) (l := p0) rfl rfl rfl el22) ?_
  refine p_ 8 rfl rfl rfl rfl (.move rfl rfl) ?_
  refine we_nil ?_
  refine ex_block ?_
  obtain ⟨o5, hl, h⟩ := bindS h
  refine ex_gst ⟨[.sl false (List.map c_api_Line p0), .fn g1 cs1, .top, .top, .top, .top, .top, .int .i64 (p0.length : Int), .int .i64 0, .top, .top, .top, .top, .top, .top, .top, .top, .top, .top], [], [], 0⟩ (.re [true, true, false, false, false, false, false, true, true, false, false, false, false, false, false, false, false, false, false] [] [] rfl (.refl _)) rfl ?_
  refine ex_iterX (fun o => match o with | .inl _ => .ret | .inr _ => .exit 0) (fun s => ⟨[.sl false (List.map c_api_Line p0), .fn g1 cs1, .top, .top, .top, .top, .top, .int .i64 (p0.length : Int), .int .i64 s, .top, .top, .top, .top, .top, .top, .top, .top, .top, .top], [], [], 0⟩) (fun o => match o with | .inl o => ⟨[.top, .top, .top, .top, .int .i64 o, .top, .top, .top, .top, .top, .top, .top, .top, .top, .top, .top, .top, .top, .top], [], [], 0⟩ | .inr o => ⟨[.top, .top, .top, .top, .top, .top, .top, .top, .top, .top, .top, .top, .top, .top, .top, .top, .top, .top, .top], [], [], 0⟩) hl rfl ?_ ?_
  · clear hl
    rcases o5 with k2 | _
    · obtain rfl := Option.some.inj h
      exact finB (by first | exact .inr rfl | exact .inl rfl) (.refl _) [.int .i64 k2] [] [] (res_cons (res_tmp rfl) res_nil) rfl rfl rfl rfl rfl rfl rfl
    · refine ex_seq ?_
      refine ex_ord [] (l := [0]) rfl ?_
      refine p_ 4 rfl rfl rfl rfl (.assign rfl rfl) ?_
      refine we_nil ?_
      refine ex_ret ?_
      obtain rfl := Option.some.inj h
      exact finB (by first | exact .inr rfl | exact .inl rfl) (.refl _) [.int .i64 (-1)] [] [] (res_cons (res_tmp rfl) res_nil) rfl rfl rfl rfl rfl rfl rfl
  · clear hl h
    rintro n1 y h
    replace h : slices_IndexFunc_apiLine_l1 p0 p1 n1 = some y := h
    unfold slices_IndexFunc_apiLine_l1 at h
    show Ex _ _ _ ⟨[.sl false (List.map c_api_Line p0), .fn g1 cs1, .top, .top, .top, .top, .top, .int .i64 (p0.length : Int), .int .i64 n1, .top, .top, .top, .top, .top, .top, .top, .top, .top, .top], [], [], 0⟩ _
    refine ex_seq ?_
    refine ex_ord [] (l := [0]) rfl ?_
    refine p_ 9 rfl rfl rfl rfl (.bin rfl rfl rfl rfl) ?_
    refine we_nil ?_
    refine ex_seq ?_
    refine ex_if rfl ?_ ?_
    · intro hc
      replace h := iteT h hc
      refine ex_skip ?_
      refine ex_seq ?_
      refine ex_block ?_
      refine ex_seq ?_
      refine ex_ord [] (l := [0, 1]) rfl ?_
      refine p_ 10 rfl rfl rfl rfl (.move rfl rfl) ?_
      refine p_ 5 rfl rfl rfl rfl (.assign rfl rfl) ?_
      refine we_nil ?_
      refine ex_seq ?_
      refine ex_ord [] (l := [0, 1, 2, 3, 4, 5]) rfl ?_
      refine p_ 11 rfl rfl rfl rfl (.move rfl rfl) ?_
      refine p_ 12 rfl rfl rfl rfl (.move rfl rfl) ?_
      refine p_ 13 rfl rfl rfl rfl (.move rfl rfl) ?_
      obtain ⟨v3, hv3, h⟩ := bindS h
      refine p_ 14 rfl rfl rfl rfl (x_idx (f := c_api_Line) (cs := [.int .i64 v3.f_Quote, .sl false (List.map c_i64 v3.f_Lists), .int .i64 v3.f_Kind, .sl false (List.map c_api_Cell v3.f_Cells)]) rfl rfl rfl el22 sz45 hv3 rfl rfl) ?_
      refine p_ 15 rfl rfl rfl rfl (x_loadA rfl rfl rfl sz45 un45 ag45 rfl) ?_
      obtain ⟨v4, hv4, h⟩ := bindS h
      refine p_ 16 rfl rfl rfl rfl (x_callP rfl rfl hc1.en (hf1 _ _ hv4) rfl rfl (all_app rfl hc1.ok) hc1.nt rfl) ?_
      refine we_nil ?_
      refine ex_if rfl ?_ ?_
      · intro hc
        replace h := iteT h hc
        refine ex_seq ?_
        refine ex_ord [] (l := [0, 1]) rfl ?_
        refine p_ 17 rfl rfl rfl rfl (.move rfl rfl) ?_
        refine p_ 4 rfl rfl rfl rfl (.assign rfl rfl) ?_
        refine we_nil ?_
        refine ex_ret ?_
        exact rnd_out (o := (.inl n1)) rfl (fun h => by cases h) h (.re [false, false, false, false, true, false, false, false, false, false, false, false, false, false, false, false, false, false, false] [] [] rfl (.refl _)) rfl
      · intro hc
        replace h := iteF h hc
        refine ex_skip ?_
        refine ex_ord [] (l := [0, 1]) rfl ?_
        refine p_ 18 rfl rfl rfl rfl (.bin rfl rfl rfl rfl) ?_
        refine p_ 8 rfl rfl rfl rfl (.move rfl rfl) ?_
        refine we_nil ?_
        exact rnd_on rfl h (.re [true, true, false, false, false, false, false, true, true, false, false, false, false, false, false, false, false, false, false] [] [] rfl (.refl _)) rfl
    · intro hc
      replace h := iteF h hc
      refine ex_exit ?_
      exact rnd_out (o := (.inr ())) rfl (fun h => by cases h) h (.re [false, false, false, false, false, false, false, false, false, false, false, false, false, false, false, false, false, false, false] [] [] rfl (.refl _)) rfl
theorem ok_slices_IndexFunc_int {r : Int} {p0 : List (Int)} {p1 : Int → Option (Bool)} {g1 : FuncId} {cs1 : List DV} (hc1 : Cl prog g1 cs1) (hf1 : ∀ x0 r, p1 x0 = some r → OkB prog g1 ([.int .i64 x0] ++ cs1) [] [] (.bool r) [] []) (h : slices_IndexFunc_int p0 p1 = some r) : OkB prog 57 [.sl false (List.map c_i64 p0), .fn g1 cs1] [] [] (.int .i64 r) [] [] := by
  unfold slices_IndexFunc_int at h
  refine okB_of_exG func57 rfl rfl (s0 := [.sl false (List.map c_i64 p0), .fn g1 cs1, .top, .top, .top, .top, .top, .top, .top, .top, .top, .top, .top, .top, .top, .top, .top, .top, .top]) (b0 := []) (r0 := []) rfl rfl rfl ?_
  show Ex _ _ _ ⟨[.sl false (List.map c_i64 p0), .fn g1 cs1, .top, .top, .top, .top, .top, .top, .top, .top, .top, .top, .top, .top, .top, .top, .top, .top, .top], [], [], 0⟩ _
  refine ex_seq ?_
  refine ex_ord [] (l := [0]) rfl ?_
  refine p_ 4 rfl rfl rfl rfl (.assign rfl rfl) ?_
  refine we_nil ?_
  refine ex_seq ?_
  refine ex_seq ?_
  refine ex_ord [] (l := [0, 1, 2]) rfl ?_
  refine p_ 6 rfl rfl rfl rfl (.move rfl rfl) ?_
  refine p_ 7 rfl rfl rfl rfl (x_len (f := c_i64) (l := p0) rfl rfl rfl el43) ?_
  refine p_ 8 rfl rfl rfl rfl (.move rfl rfl) ?_
  refine we_nil ?_
  refine ex_block ?_
  obtain ⟨o5, hl, h⟩ := bindS h
  refine ex_gst ⟨[.sl false (List.map c_i64 p0), .fn g1 cs1, .top, .top, .top, .top, .top, .int .i64 (p0.length : Int), .int .i64 0, .top, .top, .top, .top, .top, .top, .top, .top, .top, .top], [], [], 0⟩ (.re [true, true, false, false, false, false, false, true, true, false, false, false, false, false, false, false, false, false, false] [] [] rfl (.refl _)) rfl ?_
  refine ex_iterX (fun o => match o with | .inl _ => .ret | .inr _ => .exit 0) (fun s => ⟨[.sl false (List.map c_i64 p0), .fn g1 cs1, .top, .top, .top, .top, .top, .int .i64 (p0.length : Int), .int .i64 s, .top, .top, .top, .top, .top, .top, .top, .top, .top, .top], [], [], 0⟩) (fun o => match o with | .inl o => ⟨[.top, .top, .top, .top, .int .i64 o, .top, .top, .top, .top, .top, .top, .top, .top, .top, .top, .top, .top, .top, .top], [], [], 0⟩ | .inr o => ⟨[.top, .top, .top, .top, .top, .top, .top, .top, .top, .top, .top, .top, .top, .top, .top, .top, .top, .top, .top], [], [], 0⟩) hl rfl ?_ ?_
  · clear hl
    rcases o5 with k2 | _
    · obtain rfl := Option.some.inj h
      exact finB (by first | exact .inr rfl | exact .inl rfl) (.refl _) [.int .i64 k2] [] [] (res_cons (res_tmp rfl) res_nil) rfl rfl rfl rfl rfl rfl rfl
    · refine ex_seq ?_
      refine ex_ord [] (l := [0]) rfl ?_
      refine p_ 4 rfl rfl rfl rfl (.assign rfl rfl) ?_
      refine we_nil ?_
      refine ex_ret ?_
      obtain rfl := Option.some.inj h
      exact finB (by first | exact .inr rfl | exact .inl rfl) (.refl _) [.int .i64 (-1)] [] [] (res_cons (res_tmp rfl) res_nil) rfl rfl rfl rfl rfl rfl rfl
  · clear hl h
    rintro n1 y h
    replace h : slices_IndexFunc_int_l1 p0 p1 n1 = some y := h
    unfold slices_IndexFunc_int_l1 at h
    show Ex _ _ _ ⟨[.sl false (List.map c_i64 p0), .fn g1 cs1, .top, .top, .top, .top, .top, .int .i64 (p0.length : Int), .int .i64 n1, .top, .top, .top, .top, .top, .top, .top, .top, .top, .top], [], [], 0⟩ _
    refine ex_seq ?_
    refine ex_ord [] (l := [0]) rfl ?_
    refine p_ 9 rfl rfl rfl rfl (.bin rfl rfl rfl rfl) ?_
    refine we_nil ?_
    refine ex_seq ?_
    refine ex_if rfl ?_ ?_
    · intro hc
      replace h := iteT h hc
      refine ex_skip ?_
      refine ex_seq ?_
      refine ex_block ?_
      refine ex_seq ?_
      refine ex_ord [] (l := [0, 1]) rfl ?_
      refine p_ 10 rfl rfl rfl rfl (.move rfl rfl) ?_
      refine p_ 5 rfl rfl rfl rfl (.assign rfl rfl) ?_
      refine we_nil ?_
      refine ex_seq ?_
      refine ex_ord [] (l := [0, 1, 2, 3, 4, 5]) rfl ?_
      refine p_ 11 rfl rfl rfl rfl (.move rfl rfl) ?_
      refine p_ 12 rfl rfl rfl rfl (.move rfl rfl) ?_
      refine p_ 13 rfl rfl rfl rfl (.move rfl rfl) ?_
      obtain ⟨v3, hv3, h⟩ := bindS h
      refine p_ 14 rfl rfl rfl rfl (x_idx (f := c_i64) (cs := [.int .i64 v3]) rfl rfl rfl el43 sz3 hv3 rfl rfl) ?_
      refine p_ 15 rfl rfl rfl rfl (x_load rfl rfl rfl sz3 un3 ag3 rfl) ?_
      obtain ⟨v4, hv4, h⟩ := bindS h
      refine p_ 16 rfl rfl rfl rfl (x_callP rfl rfl hc1.en (hf1 _ _ hv4) rfl rfl (all_app rfl hc1.ok) hc1.nt rfl) ?_
      refine we_nil ?_
      refine ex_if rfl ?_ ?_
      · intro hc
        replace h := iteT h hc
        refine ex_seq ?_
        refine ex_ord [] (l := [0, 1]) rfl ?_
        refine p_ 17 rfl rfl rfl rfl (.move rfl rfl) ?_
        refine p_ 4 rfl rfl rfl rfl (.assign rfl rfl) ?_
        refine we_nil ?_
        refine ex_ret ?_
        exact rnd_out (o := (.inl n1)) rfl (fun h => by cases h) h (.re [false, false, false, false, true, false, false, false, false, false, false, false, false, false, false, false, false, false, false] [] [] rfl (.refl _)) rfl
      · intro hc
        replace h := iteF h hc
        refine ex_skip ?_
        refine ex_ord [] (l := [0, 1]) rfl ?_
        refine p_ 18 rfl rfl rfl rfl (.bin rfl rfl rfl rfl) ?_
        refine p_ 8 rfl rfl rfl rfl (.move rfl rfl) ?_
        refine we_nil ?_
        exact rnd_on rfl h (.re [true, true, false, false, false, false, false, true, true, false, false, false, false, false, false, false, false, false, false] [] [] rfl (.refl _)) rfl
    · intro hc
      replace h := iteF h hc
      refine ex_exit ?_
      exact rnd_out (o := (.inr ())) rfl (fun h => by cases h) h (.re [false, false, false, false, false, false, false, false, false, false, false, false, false, false, false, false, false, false, false] [] [] rfl (.refl _)) rfl
theorem ok_cells_link {r : Bool} {p0 : List UInt8} (h : cells_link p0 = some r) : OkB prog 61 [.str (bs p0)] [] [] (.bool r) [] [] := by
  unfold cells_link at h
  refine okB_of_exG func61 rfl rfl (s0 := [.str (bs p0), .top, .top, .top, .top, .top, .top, .top, .top]) (b0 := []) (r0 := []) rfl rfl rfl ?_
  show Ex _ _ _ ⟨[.str (bs p0), .top, .top, .top, .top, .top, .top, .top, .top], [], [], 0⟩ _
  refine ex_seq ?_
  refine ex_ord [] (l := [0]) rfl ?_
  refine p_ 2 rfl rfl rfl rfl (.assign rfl rfl) ?_
  refine we_nil ?_
  refine ex_seq ?_
  obtain ⟨q1, hq, h⟩ := bindS h
  refine ex_cut ⟨[.top, .top, .bool q1, .top, .top, .top, .top, .top, .top], [], [], 0⟩ ?_ ?_
  · clear h
    have h := hq
    clear hq
    refine ex_ord [] (l := [0, 1, 2, 3, 4, 5, 6]) rfl ?_
    refine p_ 3 rfl rfl rfl rfl (.move rfl rfl) ?_
    refine pif 4 rfl rfl rfl rfl (x_eqS rfl rfl rfl) ?_ ?_
    · intro hc
      replace h := iteT h hc
      refine p_ 5 rfl rfl rfl rfl (.move rfl rfl) ?_
      refine k_ 6 rfl rfl rfl ?_
      refine k_ 7 rfl rfl rfl ?_
      refine p_ 8 rfl rfl rfl rfl (x_pickT rfl rfl rfl rfl) ?_
      refine p_ 2 rfl rfl rfl rfl (.assign rfl rfl) ?_
      refine we_nil ?_
      cases h
      exact ⟨rfl, _, .re [false, false, true, false, false, false, false, false, false] [] [] rfl (.refl _), rfl⟩
    · intro hc
      replace h := iteF h hc
      refine p_ 5 rfl rfl rfl rfl (.move rfl rfl) ?_
      refine p_ 6 rfl rfl rfl rfl (.move rfl rfl) ?_
      obtain ⟨v2, hv2, h⟩ := bindS h
      refine p_ 7 rfl rfl rfl rfl (x_callP rfl rfl en64 (ok_attrs_Target hv2) rfl rfl rfl rfl rfl) ?_
      refine p_ 8 rfl rfl rfl rfl (x_pickF rfl rfl rfl rfl) ?_
      refine p_ 2 rfl rfl rfl rfl (.assign rfl rfl) ?_
      refine we_nil ?_
      cases h
      exact ⟨rfl, _, .re [false, false, true, false, false, false, false, false, false] [] [] rfl (.refl _), rfl⟩
  · clear hq
    refine ex_ret ?_
    obtain rfl := Option.some.inj h
    exact finB (by first | exact .inr rfl | exact .inl rfl) (.refl _) [.bool q1] [] [] (res_cons (res_tmp rfl) res_nil) rfl rfl rfl rfl rfl rfl rfl
theorem ok_slices_IndexFunc_apiCell {r : Int} {p0 : List (T_api_Cell)} {p1 : T_api_Cell → Option (Bool)} {g1 : FuncId} {cs1 : List DV} (hc1 : Cl prog g1 cs1) (hf1 : ∀ x0 r, p1 x0 = some r → OkB prog g1 ([.agg [.int .i32 x0.f_R, .int .i64 x0.f_Bits, .str (bs x0.f_Href)]] ++ cs1) [] [] (.bool r) [] []) (h : slices_IndexFunc_apiCell p0 p1 = some r) : OkB prog 62 [.sl false (List.map c_api_Cell p0), .fn g1 cs1] [] [] (.int .i64 r) [] [] := by
  unfold slices_IndexFunc_apiCell at h
  refine okB_of_exG func62 rfl rfl (s0 := [.sl false (List.map c_api_Cell p0), .fn g1 cs1, .top, .top, .top, .top, .top, .top, .top, .top, .top, .top, .top, .top, .top, .top, .top, .top, .top]) (b0 := []) (r0 := []) rfl rfl rfl ?_
  show Ex _ _ _ ⟨[.sl false (List.map c_api_Cell p0), .fn g1 cs1, .top, .top, .top, .top, .top, .top, .top, .top, .top, .top, .top, .top, .top, .top, .top, .top, .top], [], [], 0⟩ _
  refine ex_seq ?_
  refine ex_ord [] (l := [0]) rfl ?_
  refine p_ 4 rfl rfl rfl rfl (.assign rfl rfl) ?_
  refine we_nil ?_
  refine ex_seq ?_
  refine ex_seq ?_
  refine ex_ord [] (l := [0, 1, 2]) rfl ?_
  refine p_ 6 rfl rfl rfl rfl (.move rfl rfl) ?_
  refine p_ 7 rfl rfl rfl rfl (x_len (f := c_api_Cell) (l := p0) rfl rfl rfl el42) ?_
  refine p_ 8 rfl rfl rfl rfl (.move rfl rfl) ?_
  refine we_nil ?_
  refine ex_block ?_
  obtain ⟨o5, hl, h⟩ := bindS h
  refine ex_gst ⟨[.sl false (List.map c_api_Cell p0), .fn g1 cs1, .top, .top, .top, .top, .top, .int .i64 (p0.length : Int), .int .i64 0, .top, .top, .top, .top, .top, .top, .top, .top, .top, .top], [], [], 0⟩ (.re [true, true, false, false, false, false, false, true, true, false, false, false, false, false, false, false, false, false, false] [] [] rfl (.refl _)) rfl ?_
  refine ex_iterX (fun o => match o with | .inl _ => .ret | .inr _ => .exit 0) (fun s => ⟨[.sl false (List.map c_api_Cell p0), .fn g1 cs1, .top, .top, .top, .top, .top, .int .i64 (p0.length : Int), .int .i64 s, .top, .top, .top, .top, .top, .top, .top, .top, .top, .top], [], [], 0⟩) (fun o => match o with | .inl o => ⟨[.top, .top, .top, .top, .int .i64 o, .top, .top, .top, .top, .top, .top, .top, .top, .top, .top, .top, .top, .top, .top], [], [], 0⟩ | .inr o => ⟨[.top, .top, .top, .top, .top, .top, .top, .top, .top, .top, .top, .top, .top, .top, .top, .top, .top, .top, .top], [], [], 0⟩) hl rfl ?_ ?_
  · clear hl
    rcases o5 with k2 | _
    · obtain rfl := Option.some.inj h
      exact finB (by first | exact .inr rfl | exact .inl rfl) (.refl _) [.int .i64 k2] [] [] (res_cons (res_tmp rfl) res_nil) rfl rfl rfl rfl rfl rfl rfl
    · refine ex_seq ?_
      refine ex_ord [] (l := [0]) rfl ?_
      refine p_ 4 rfl rfl rfl rfl (.assign rfl rfl) ?_
      refine we_nil ?_
      refine ex_ret ?_
      obtain rfl := Option.some.inj h
      exact finB (by first | exact .inr rfl | exact .inl rfl) (.refl _) [.int .i64 (-1)] [] [] (res_cons (res_tmp rfl) res_nil) rfl rfl rfl rfl rfl rfl rfl
  · clear hl h
    rintro n1 y h
    replace h : slices_IndexFunc_apiCell_l1 p0 p1 n1 = some y := h
    unfold slices_IndexFunc_apiCell_l1 at h
    show Ex _ _ _ ⟨[.sl false (List.map c_api_Cell p0), .fn g1 cs1, .top, .top, .top, .top, .top, .int .i64 (p0.length : Int), .int .i64 n1, .top, .top, .top, .top, .top, .top, .top, .top, .top, .top], [], [], 0⟩ _
    refine ex_seq ?_
    refine ex_ord [] (l := [0]) rfl ?_
    refine p_ 9 rfl rfl rfl rfl (.bin rfl rfl rfl rfl) ?_
    refine we_nil ?_
    refine ex_seq ?_
    refine ex_if rfl ?_ ?_
    · intro hc
      replace h := iteT h hc
      refine ex_skip ?_
      refine ex_seq ?_
      refine ex_block ?_
      refine ex_seq ?_
      refine ex_ord [] (l := [0, 1]) rfl ?_
      refine p_ 10 rfl rfl rfl rfl (.move rfl rfl) ?_
      refine p_ 5 rfl rfl rfl rfl (.assign rfl rfl) ?_
      refine we_nil ?_
      refine ex_seq ?_
      refine ex_ord [] (l := [0, 1, 2, 3, 4, 5]) rfl ?_
      refine p_ 11 rfl rfl rfl rfl (.move rfl rfl) ?_
      refine p_ 12 rfl rfl rfl rfl (.move rfl rfl) ?_
      refine p_ 13 rfl rfl rfl rfl (.move rfl rfl) ?_
      obtain ⟨v3, hv3, h⟩ := bindS h
      refine p_ 14 rfl rfl rfl rfl (x_idx (f := c_api_Cell) (cs := [.int .i32 v3.f_R, .int .i64 v3.f_Bits, .str (bs v3.f_Href)]) rfl rfl rfl el42 sz41 hv3 rfl rfl) ?_
      refine p_ 15 rfl rfl rfl rfl (x_loadA rfl rfl rfl sz41 un41 ag41 rfl) ?_
      obtain ⟨v4, hv4, h⟩ := bindS h
      refine p_ 16 rfl rfl rfl rfl (x_callP rfl rfl hc1.en (hf1 _ _ hv4) rfl rfl (all_app rfl hc1.ok) hc1.nt rfl) ?_
      refine we_nil ?_
      refine ex_if rfl ?_ ?_
      · intro hc
        replace h := iteT h hc
        refine ex_seq ?_
        refine ex_ord [] (l := [0, 1]) rfl ?_
        refine p_ 17 rfl rfl rfl rfl (.move rfl rfl) ?_
        refine p_ 4 rfl rfl rfl rfl (.assign rfl rfl) ?_
        refine we_nil ?_
        refine ex_ret ?_
        exact rnd_out (o := (.inl n1)) rfl (fun h => by cases h) h (.re [false, false, false, false, true, false, false, false, false, false, false, false, false, false, false, false, false, false, false] [] [] rfl (.refl _)) rfl
      · intro hc
        replace h := iteF h hc
        refine ex_skip ?_
        refine ex_ord [] (l := [0, 1]) rfl ?_
        refine p_ 18 rfl rfl rfl rfl (.bin rfl rfl rfl rfl) ?_
        refine p_ 8 rfl rfl rfl rfl (.move rfl rfl) ?_
        refine we_nil ?_
        exact rnd_on rfl h (.re [true, true, false, false, false, false, false, true, true, false, false, false, false, false, false, false, false, false, false] [] [] rfl (.refl _)) rfl
    · intro hc
      replace h := iteF h hc
      refine ex_exit ?_
      exact rnd_out (o := (.inr ())) rfl (fun h => by cases h) h (.re [false, false, false, false, false, false, false, false, false, false, false, false, false, false, false, false, false, false, false] [] [] rfl (.refl _)) rfl
theorem ok_utf8u_ValidRune {r : Bool} {p0 : Int} (h : utf8u_ValidRune p0 = some r) : OkB prog 65 [.int .i32 p0] [] [] (.bool r) [] [] := by
  unfold utf8u_ValidRune at h
  refine okB_of_exG func65 rfl rfl (s0 := [.int .i32 p0, .top, .top, .top, .top, .top, .top, .top, .top, .top, .top, .top, .top, .top, .top, .top, .top]) (b0 := []) (r0 := []) rfl rfl rfl ?_
  show Ex _ _ _ ⟨[.int .i32 p0, .top, .top, .top, .top, .top, .top, .top, .top, .top, .top, .top, .top, .top, .top, .top, .top], [], [], 0⟩ _
  refine ex_seq ?_
  refine ex_ord [] (l := [0]) rfl ?_
  refine p_ 2 rfl rfl rfl rfl (.assign rfl rfl) ?_
  refine we_nil ?_
  refine ex_seq ?_
  refine ex_block ?_
  refine ex_seq ?_
  obtain ⟨q1, hq, h⟩ := bindS h
  refine ex_cut ⟨[.int .i32 p0, .top, .top, .bool q1, .top, .top, .top, .top, .top, .top, .top, .top, .top, .top, .top, .top, .top], [], [], 0⟩ ?_ ?_
  · clear h
    have h := hq
    clear hq
    refine ex_ord [] (l := [0, 1, 2, 3, 4, 5, 6]) rfl ?_
    refine p_ 4 rfl rfl rfl rfl (.move rfl rfl) ?_
    refine pif 5 rfl rfl rfl rfl (.bin rfl rfl rfl rfl) ?_ ?_
    · intro hc
      replace h := iteT h hc
      refine p_ 6 rfl rfl rfl rfl (.move rfl rfl) ?_
      refine p_ 7 rfl rfl rfl rfl (.move rfl rfl) ?_
      refine p_ 8 rfl rfl rfl rfl (.bin rfl rfl rfl rfl) ?_
      refine p_ 9 rfl rfl rfl rfl (x_pickT rfl rfl rfl rfl) ?_
      refine p_ 3 rfl rfl rfl rfl (.assign rfl rfl) ?_
      refine we_nil ?_
      cases h
      exact ⟨rfl, _, .re [true, false, false, true, false, false, false, false, false, false, false, false, false, false, false, false, false] [] [] rfl (.refl _), rfl⟩
    · intro hc
      replace h := iteF h hc
      refine p_ 6 rfl rfl rfl rfl (.move rfl rfl) ?_
      refine k_ 7 rfl rfl rfl ?_
      refine k_ 8 rfl rfl rfl ?_
      refine p_ 9 rfl rfl rfl rfl (x_pickF rfl rfl rfl rfl) ?_
      refine p_ 3 rfl rfl rfl rfl (.assign rfl rfl) ?_
      refine we_nil ?_
      cases h
      exact ⟨rfl, _, .re [true, false, false, true, false, false, false, false, false, false, false, false, false, false, false, false, false] [] [] rfl (.refl _), rfl⟩
  · clear hq
    refine ex_if rfl ?_ ?_
    · intro hc
      replace h := iteT h hc
      refine ex_seq ?_
      refine ex_ord [] (l := [0]) rfl ?_
      refine p_ 2 rfl rfl rfl rfl (.assign rfl rfl) ?_
      refine we_nil ?_
      refine ex_ret ?_
      obtain rfl := Option.some.inj h
      exact finB (by first | exact .inr rfl | exact .inl rfl) (.refl _) [.bool true] [] [] (res_cons (res_tmp rfl) res_nil) rfl rfl rfl rfl rfl rfl rfl
    · intro hc
      replace h := iteF h hc
      refine ex_seq ?_
      obtain ⟨q2, hq, h⟩ := bindS h
      refine ex_cut ⟨[.top, .top, .top, .top, .top, .top, .top, .top, .top, .top, .bool q2, .top, .top, .top, .top, .top, .top], [], [], 0⟩ ?_ ?_
      · clear h
        have h := hq
        clear hq
        refine ex_ord [] (l := [0, 1, 2, 3, 4, 5, 6]) rfl ?_
        refine p_ 11 rfl rfl rfl rfl (.move rfl rfl) ?_
        refine pif 12 rfl rfl rfl rfl (.bin rfl rfl rfl rfl) ?_ ?_
        · intro hc
          replace h := iteT h hc
          refine p_ 13 rfl rfl rfl rfl (.move rfl rfl) ?_
          refine p_ 14 rfl rfl rfl rfl (.move rfl rfl) ?_
          refine p_ 15 rfl rfl rfl rfl (.bin rfl rfl rfl rfl) ?_
          refine p_ 16 rfl rfl rfl rfl (x_pickT rfl rfl rfl rfl) ?_
          refine p_ 10 rfl rfl rfl rfl (.assign rfl rfl) ?_
          refine we_nil ?_
          cases h
          exact ⟨rfl, _, .re [false, false, false, false, false, false, false, false, false, false, true, false, false, false, false, false, false] [] [] rfl (.refl _), rfl⟩
        · intro hc
          replace h := iteF h hc
          refine p_ 13 rfl rfl rfl rfl (.move rfl rfl) ?_
          refine k_ 14 rfl rfl rfl ?_
          refine k_ 15 rfl rfl rfl ?_
          refine p_ 16 rfl rfl rfl rfl (x_pickF rfl rfl rfl rfl) ?_
          refine p_ 10 rfl rfl rfl rfl (.assign rfl rfl) ?_
          refine we_nil ?_
          cases h
          exact ⟨rfl, _, .re [false, false, false, false, false, false, false, false, false, false, true, false, false, false, false, false, false] [] [] rfl (.refl _), rfl⟩
      · clear hq
        refine ex_if rfl ?_ ?_
        · intro hc
          replace h := iteT h hc
          refine ex_seq ?_
          refine ex_ord [] (l := [0]) rfl ?_
          refine p_ 2 rfl rfl rfl rfl (.assign rfl rfl) ?_
          refine we_nil ?_
          refine ex_ret ?_
          obtain rfl := Option.some.inj h
          exact finB (by first | exact .inr rfl | exact .inl rfl) (.refl _) [.bool true] [] [] (res_cons (res_tmp rfl) res_nil) rfl rfl rfl rfl rfl rfl rfl
        · intro hc
          replace h := iteF h hc
          refine ex_skip ?_
          refine ex_seq ?_
          refine ex_ord [] (l := [0]) rfl ?_
          refine p_ 2 rfl rfl rfl rfl (.assign rfl rfl) ?_
          refine we_nil ?_
          refine ex_ret ?_
          obtain rfl := Option.some.inj h
          exact finB (by first | exact .inr rfl | exact .inl rfl) (.refl _) [.bool false] [] [] (res_cons (res_tmp rfl) res_nil) rfl rfl rfl rfl rfl rfl rfl
theorem ok_quillworklaw07u_long {r : Bool} {p0 : List (T_api_Line)} (h : quillworklaw07u_long p0 = some r) : OkB prog 4 [.sl false (List.map c_api_Line p0)] [] [] (.bool r) [] [] := by
  unfold quillworklaw07u_long at h
  refine okB_of_exG func4 rfl rfl (s0 := [.sl false (List.map c_api_Line p0), .top, .top, .top, .top]) (b0 := []) (r0 := []) rfl rfl rfl ?_
  show Ex _ _ _ ⟨[.sl false (List.map c_api_Line p0), .top, .top, .top, .top], [], [], 0⟩ _
  refine ex_seq ?_
  refine ex_ord [] (l := [0]) rfl ?_
  refine p_ 2 rfl rfl rfl rfl (.assign rfl rfl) ?_
  refine we_nil ?_
  refine ex_seq ?_
  refine ex_ord [] (l := [0, 1, 2]) rfl ?_
  refine p_ 3 rfl rfl rfl rfl (.move rfl rfl) ?_
  obtain ⟨v1, hv1, h⟩ := bindS h
  refine p_ 4 rfl rfl rfl rfl (x_callP rfl rfl en14 (ok_quillworkref07u_Long hv1) rfl rfl rfl rfl rfl) ?_
  refine p_ 2 rfl rfl rfl rfl (.assign rfl rfl) ?_
  refine we_nil ?_
  refine ex_ret ?_
  obtain rfl := Option.some.inj h
  exact finB (by first | exact .inr rfl | exact .inl rfl) (.refl _) [.bool v1] [] [] (res_cons (res_tmp rfl) res_nil) rfl rfl rfl rfl rfl rfl rfl
theorem ok_doc_Offset {r : Int × Int} {p0 : List (T_api_Line)} {p1 : T_api_Pos} (h : doc_Offset p0 p1 = some r) : OkB prog 6 [.sl false (List.map c_api_Line p0), .agg [.int .i64 p1.f_Line, .int .i64 p1.f_At]] [] [] (.tup [.int .i64 r.1, .int .i64 r.2]) [] [] := by
  unfold doc_Offset at h
  refine okB_of_exG func6 rfl rfl (s0 := [.sl false (List.map c_api_Line p0), .agg [.int .i64 p1.f_Line, .int .i64 p1.f_At], .top, .top, .top, .top, .top, .top, .top, .top, .top, .top, .top, .top, .top, .top, .top, .top, .top, .top, .top]) (b0 := []) (r0 := []) rfl rfl rfl ?_
  show Ex _ _ _ ⟨[.sl false (List.map c_api_Line p0), .agg [.int .i64 p1.f_Line, .int .i64 p1.f_At], .top, .top, .top, .top, .top, .top, .top, .top, .top, .top, .top, .top, .top, .top, .top, .top, .top, .top, .top], [], [], 0⟩ _
  refine ex_seq ?_
  refine ex_ord [0] (l := [0, 1, 2]) rfl ?_
  refine e_ (d := .bx 0 0) 3 rfl rfl rfl rfl rfl (b' := [some [.int .i64 p1.f_Line, .int .i64 p1.f_At]]) (r' := []) (.box rfl rfl rfl) rfl ?_
  refine p_ 4 rfl rfl rfl rfl (.assign rfl rfl) ?_
  refine p_ 5 rfl rfl rfl rfl (.assign rfl rfl) ?_
  refine we_nil ?_
  refine ex_seq ?_
  refine ex_seq ?_
  refine ex_gst ⟨[.sl false (List.map c_api_Line p0), .agg [.int .i64 p1.f_Line, .int .i64 p1.f_At], .top, .cp [.int .i64 p1.f_Line, .int .i64 p1.f_At], .int .i64 0, .int .i64 0, .top, .top, .top, .top, .top, .top, .top, .top, .top, .top, .top, .top, .top, .top, .top], [none], [], 0⟩ (.shutB (b := 0) rfl (fun d h => by simpa using List.all_eq_true.1 (rfl : List.all [.int .i64 p1.f_Line, .int .i64 p1.f_At] (fun d => !d.tok) = true) d h) (.refl _)) rfl ?_
  refine ex_ord [] (l := [0, 1, 2, 3]) rfl ?_
  refine p_ 6 rfl rfl rfl rfl (.move rfl rfl) ?_
  refine p_ 7 rfl rfl rfl rfl (x_loadA rfl rfl rfl sz29 un29 ag29 rfl) ?_
  obtain ⟨v1, hv1, h⟩ := bindS h
  refine p_ 8 rfl rfl rfl rfl (x_callP rfl rfl en10 (ok_doc_Is hv1) rfl rfl rfl rfl rfl) ?_
  refine p_ 9 rfl rfl rfl rfl (.un rfl rfl rfl) ?_
  refine we_nil ?_
  refine ex_if rfl ?_ ?_
  · intro hc
    replace h := iteT h hc
    refine ex_seq ?_
    refine ex_ord [] (l := [0, 1]) rfl ?_
    refine p_ 4 rfl rfl rfl rfl (.assign rfl rfl) ?_
    refine p_ 5 rfl rfl rfl rfl (.assign rfl rfl) ?_
    refine we_nil ?_
    refine ex_ret ?_
    obtain rfl := Option.some.inj h
    exact finB (by first | exact .inr rfl | exact .inl rfl) (.refl _) [.int .i64 0, .int .i64 1] [] [] (res_cons (res_tmp rfl) (res_cons (res_tmp rfl) res_nil)) rfl rfl rfl rfl rfl rfl rfl
  · intro hc
    replace h := iteF h hc
    refine ex_skip ?_
    refine ex_seq ?_
    refine ex_drw mo [1001, 1002, 1003, 1004, 1005, 1006, 1008, 1009] (by kernel_rfl) (l := [0, 1, 2, 3, 4, 5, 6, 7, 8, 9, 10, 11, 12]) rfl ?_
    refine p_ 10 rfl rfl rfl rfl (.move rfl rfl) ?_
    refine n_ 11 rfl rfl rfl (fun _ _ => .fieldAddr rfl rfl rfl fl29u_0 rfl) ?_
    refine n_ 12 rfl rfl rfl (fun _ _ => x_load rfl rfl rfl sz3 un3 ag3 rfl) ?_
    obtain ⟨v2, hv2, h⟩ := bindS h
    refine n_ 13 rfl rfl rfl (fun _ _ => x_cut rfl rfl el22 sz45 rfl ⟨_, rfl⟩ hv2 fl_api_Line) ?_
    obtain ⟨v3, hv3, h⟩ := bindS h
    refine n_ 14 rfl rfl rfl (fun _ _ => x_callP rfl rfl en8 (ok_doc_Size hv3) rfl rfl rfl rfl rfl) ?_
    refine n_ 15 rfl rfl rfl (fun _ _ => .fieldAddr rfl rfl rfl fl29u_0 rfl) ?_
    refine n_ 16 rfl rfl rfl (fun _ _ => x_load rfl rfl rfl sz3 un3 ag3 rfl) ?_
    refine p_ 17 rfl rfl rfl rfl (.bin rfl rfl rfl rfl) ?_
    refine n_ 18 rfl rfl rfl (fun _ _ => .fieldAddr rfl rfl rfl fl29u_1 rfl) ?_
    refine n_ 19 rfl rfl rfl (fun _ _ => x_load rfl rfl rfl sz3 un3 ag3 rfl) ?_
    refine p_ 20 rfl rfl rfl rfl (.bin rfl rfl rfl rfl) ?_
    refine p_ 4 rfl rfl rfl rfl (.assign rfl rfl) ?_
    refine p_ 5 rfl rfl rfl rfl (.assign rfl rfl) ?_
    refine we_nil ?_
    refine ex_ret ?_
    obtain rfl := Option.some.inj h
    exact finB (by first | exact .inr rfl | exact .inl rfl) (.refl _) [.int .i64 (IntKind.wrap .i64 ((IntKind.wrap .i64 (v3 + p1.f_Line)) + p1.f_At)), .int .i64 0] [] [] (res_cons (res_tmp rfl) (res_cons (res_tmp rfl) res_nil)) rfl rfl rfl rfl rfl rfl rfl
theorem ok_doc_Step {r : T_api_Pos × Bool} {p0 : List (T_api_Line)} {p1 : T_api_Pos} {p2 : Int} (h : doc_Step p0 p1 p2 = some r) : OkB prog 13 [.sl false (List.map c_api_Line p0), .agg [.int .i64 p1.f_Line, .int .i64 p1.f_At], .int .i64 p2] [] [] (.tup [.agg [.int .i64 r.1.f_Line, .int .i64 r.1.f_At], .bool r.2]) [] [] := by
  unfold doc_Step at h
  refine okB_of_exG func13 rfl rfl (s0 := [.sl false (List.map c_api_Line p0), .agg [.int .i64 p1.f_Line, .int .i64 p1.f_At], .int .i64 p2, .top, .top, .top, .top, .top, .top, .top, .top, .top, .top, .top, .top, .top, .top, .top, .top, .top, .top, .top, .top, .top, .top, .top, .top, .top, .top, .top, .top, .top, .top, .top, .top, .top, .top, .top, .top, .top, .top, .top, .top, .top, .top, .top, .top, .top, .top, .top, .top, .top, .top, .top, .top, .top]) (b0 := []) (r0 := []) rfl rfl rfl ?_
  show Ex _ _ _ ⟨[.sl false (List.map c_api_Line p0), .agg [.int .i64 p1.f_Line, .int .i64 p1.f_At], .int .i64 p2, .top, .top, .top, .top, .top, .top, .top, .top, .top, .top, .top, .top, .top, .top, .top, .top, .top, .top, .top, .top, .top, .top, .top, .top, .top, .top, .top, .top, .top, .top, .top, .top, .top, .top, .top, .top, .top, .top, .top, .top, .top, .top, .top, .top, .top, .top, .top, .top, .top, .top, .top, .top, .top], [], [], 0⟩ _
  refine ex_seq ?_
  refine ex_ord [0, 1] (l := [0, 1, 2]) rfl ?_
  refine e_ (d := .bx 0 0) 4 rfl rfl rfl rfl rfl (b' := [some [.int .i64 p1.f_Line, .int .i64 p1.f_At]]) (r' := []) (.box rfl rfl rfl) rfl ?_
  refine e_ (d := .bx 1 0) 6 rfl rfl rfl rfl rfl (b' := [some [.int .i64 p1.f_Line, .int .i64 p1.f_At], some [.int .i64 0, .int .i64 0]]) (r' := []) (.alloc rfl ze29) rfl ?_
  refine p_ 7 rfl rfl rfl rfl (.assign rfl rfl) ?_
  refine we_nil ?_
  refine ex_seq ?_
  refine ex_seq ?_
  refine ex_gst ⟨[.sl false (List.map c_api_Line p0), .agg [.int .i64 p1.f_Line, .int .i64 p1.f_At], .int .i64 p2, .top, .cp [.int .i64 p1.f_Line, .int .i64 p1.f_At], .top, .bx 1 0, .bool false, .top, .top, .top, .top, .top, .top, .top, .top, .top, .top, .top, .top, .top, .top, .top, .top, .top, .top, .top, .top, .top, .top, .top, .top, .top, .top, .top, .top, .top, .top, .top, .top, .top, .top, .top, .top, .top, .top, .top, .top, .top, .top, .top, .top, .top, .top, .top, .top], [none, some [.int .i64 0, .int .i64 0]], [], 0⟩ (.shutB (b := 0) rfl (fun d h => by simpa using List.all_eq_true.1 (rfl : List.all [.int .i64 p1.f_Line, .int .i64 p1.f_At] (fun d => !d.tok) = true) d h) (.refl _)) rfl ?_
  refine ex_ord [] (l := [0, 1, 2]) rfl ?_
  refine p_ 14 rfl rfl rfl rfl (.move rfl rfl) ?_
  refine p_ 15 rfl rfl rfl rfl (x_len (f := c_api_Line) (l := p0) rfl rfl rfl el22) ?_
  refine p_ 16 rfl rfl rfl rfl (.bin rfl rfl rfl rfl) ?_
  refine we_nil ?_
  refine ex_if rfl ?_ ?_
  · intro hc
    replace h := iteT h hc
    refine ex_seq ?_
    refine ex_ord [1] (l := [0, 1, 2]) rfl ?_
    refine p_ 17 rfl rfl rfl rfl (x_build rfl pl29 ze29 rfl rfl rfl rfl) ?_
    refine e0 rfl rfl rfl rfl rfl (b' := [none, some [.int .i64 0, .int .i64 0]]) (r' := []) (.store rfl rfl rfl sz29 rfl rfl rfl) rfl ?_
    refine p_ 7 rfl rfl rfl rfl (.assign rfl rfl) ?_
    refine we_nil ?_
    refine ex_ret ?_
    obtain rfl := Option.some.inj h
    exact finB (by first | exact .inr rfl | exact .inl rfl) (.refl _) [.agg [.int .i64 0, .int .i64 0], .bool false] [] [] (res_cons (res_cell rfl rfl sz29 un29 ag29 rfl) (res_cons (res_tmp rfl) res_nil)) rfl rfl rfl rfl rfl rfl rfl
  · intro hc
    replace h := iteF h hc
    refine ex_skip ?_
    refine ex_seq ?_
    refine ex_ord [] (l := [0, 1, 2, 3, 4, 5, 6, 7, 8, 9]) rfl ?_
    refine p_ 19 rfl rfl rfl rfl (.move rfl rfl) ?_
    refine p_ 20 rfl rfl rfl rfl (.move rfl rfl) ?_
    refine p_ 21 rfl rfl rfl rfl (x_loadA rfl rfl rfl sz29 un29 ag29 rfl) ?_
    obtain ⟨v1, hv1, h⟩ := bindS h
    refine p_ 22 rfl rfl rfl rfl (x_callP rfl rfl en11 (ok_doc_Clamp hv1) rfl rfl rfl rfl rfl) ?_
    obtain ⟨v2, hv2, h⟩ := bindS h
    refine p_ 23 rfl rfl rfl rfl (x_callP rfl rfl en6 (ok_doc_Offset hv2) rfl rfl rfl rfl rfl) ?_
    refine p_ 18 rfl rfl rfl rfl (.move rfl rfl) ?_
    refine p_ 24 rfl rfl rfl rfl (.extract rfl rfl rfl rfl) ?_
    refine p_ 25 rfl rfl rfl rfl (.extract rfl rfl rfl rfl) ?_
    refine p_ 8 rfl rfl rfl rfl (.assign rfl rfl) ?_
    refine p_ 9 rfl rfl rfl rfl (.assign rfl rfl) ?_
    refine we_nil ?_
    refine ex_seq ?_
    refine ex_ord [] (l := [0, 1, 2, 3, 4, 5, 6, 7, 8]) rfl ?_
    refine p_ 27 rfl rfl rfl rfl (.move rfl rfl) ?_
    refine p_ 28 rfl rfl rfl rfl (.move rfl rfl) ?_
    obtain ⟨v3, hv3, h⟩ := bindS h
    refine p_ 29 rfl rfl rfl rfl (x_callP rfl rfl en7 (ok_doc_End hv3) rfl rfl rfl rfl rfl) ?_
    obtain ⟨v4, hv4, h⟩ := bindS h
    refine p_ 30 rfl rfl rfl rfl (x_callP rfl rfl en6 (ok_doc_Offset hv4) rfl rfl rfl rfl rfl) ?_
    refine p_ 26 rfl rfl rfl rfl (.move rfl rfl) ?_
    refine p_ 31 rfl rfl rfl rfl (.extract rfl rfl rfl rfl) ?_
    refine p_ 32 rfl rfl rfl rfl (.extract rfl rfl rfl rfl) ?_
    refine p_ 10 rfl rfl rfl rfl (.assign rfl rfl) ?_
    refine p_ 11 rfl rfl rfl rfl (.assign rfl rfl) ?_
    refine we_nil ?_
    refine ex_seq ?_
    refine ex_block ?_
    refine ex_seq ?_
    refine ex_ord [] (l := [0, 1, 2, 3, 4]) rfl ?_
    refine p_ 34 rfl rfl rfl rfl (.move rfl rfl) ?_
    refine p_ 35 rfl rfl rfl rfl (.move rfl rfl) ?_
    refine p_ 36 rfl rfl rfl rfl (.un rfl rfl rfl) ?_
    refine p_ 37 rfl rfl rfl rfl (.bin rfl rfl rfl rfl) ?_
    refine p_ 33 rfl rfl rfl rfl (.assign rfl rfl) ?_
    refine we_nil ?_
    refine ex_if rfl ?_ ?_
    · intro hc
      replace h := iteT h hc
      refine ex_seq ?_
      refine ex_ord [1] (l := [0, 1, 2]) rfl ?_
      refine p_ 38 rfl rfl rfl rfl (x_build rfl pl29 ze29 rfl rfl rfl rfl) ?_
      refine e0 rfl rfl rfl rfl rfl (b' := [none, some [.int .i64 0, .int .i64 0]]) (r' := []) (.store rfl rfl rfl sz29 rfl rfl rfl) rfl ?_
      refine p_ 7 rfl rfl rfl rfl (.assign rfl rfl) ?_
      refine we_nil ?_
      refine ex_ret ?_
      obtain rfl := Option.some.inj h
      exact finB (by first | exact .inr rfl | exact .inl rfl) (.refl _) [.agg [.int .i64 0, .int .i64 0], .bool false] [] [] (res_cons (res_cell rfl rfl sz29 un29 ag29 rfl) (res_cons (res_tmp rfl) res_nil)) rfl rfl rfl rfl rfl rfl rfl
    · intro hc
      replace h := iteF h hc
      refine ex_seq ?_
      refine ex_ord [] (l := [0, 1, 2, 3, 4, 5]) rfl ?_
      refine p_ 40 rfl rfl rfl rfl (.move rfl rfl) ?_
      refine p_ 41 rfl rfl rfl rfl (.move rfl rfl) ?_
      refine p_ 42 rfl rfl rfl rfl (.move rfl rfl) ?_
      refine p_ 43 rfl rfl rfl rfl (.bin rfl rfl rfl rfl) ?_
      refine p_ 44 rfl rfl rfl rfl (.bin rfl rfl rfl rfl) ?_
      refine p_ 39 rfl rfl rfl rfl (.assign rfl rfl) ?_
      refine we_nil ?_
      refine ex_if rfl ?_ ?_
      · intro hc
        replace h := iteT h hc
        refine ex_seq ?_
        refine ex_ord [2] (l := [0, 1, 2, 3]) rfl ?_
        refine p_ 45 rfl rfl rfl rfl (.move rfl rfl) ?_
        obtain ⟨v5, hv5, h⟩ := bindS h
        refine p_ 46 rfl rfl rfl rfl (x_callP rfl rfl en7 (ok_doc_End hv5) rfl rfl rfl rfl rfl) ?_
        refine e0 rfl rfl rfl rfl rfl (b' := [none, some [.int .i64 v5.f_Line, .int .i64 v5.f_At]]) (r' := []) (.store rfl rfl rfl sz29 rfl rfl rfl) rfl ?_
        refine p_ 7 rfl rfl rfl rfl (.assign rfl rfl) ?_
        refine we_nil ?_
        refine ex_ret ?_
        obtain rfl := Option.some.inj h
        exact finB (by first | exact .inr rfl | exact .inl rfl) (.refl _) [.agg [.int .i64 v5.f_Line, .int .i64 v5.f_At], .bool false] [] [] (res_cons (res_cell rfl rfl sz29 un29 ag29 rfl) (res_cons (res_tmp rfl) res_nil)) rfl rfl rfl rfl rfl rfl rfl
      · intro hc
        replace h := iteF h hc
        refine ex_skip ?_
        refine ex_seq ?_
        refine ex_ord [8, 9] (l := [0, 1, 2, 3, 4, 5, 6, 7, 8, 9, 10]) rfl ?_
        refine p_ 48 rfl rfl rfl rfl (.move rfl rfl) ?_
        refine p_ 49 rfl rfl rfl rfl (.move rfl rfl) ?_
        refine p_ 50 rfl rfl rfl rfl (.move rfl rfl) ?_
        refine p_ 51 rfl rfl rfl rfl (.bin rfl rfl rfl rfl) ?_
        obtain ⟨v6, hv6, h⟩ := bindS h
        refine p_ 52 rfl rfl rfl rfl (x_callP rfl rfl en9 (ok_doc_At hv6) rfl rfl rfl rfl rfl) ?_
        refine p_ 47 rfl rfl rfl rfl (.move rfl rfl) ?_
        refine p_ 53 rfl rfl rfl rfl (.extract rfl rfl rfl rfl) ?_
        refine p_ 54 rfl rfl rfl rfl (.extract rfl rfl rfl rfl) ?_
        refine e_ (d := .bx 2 0) 12 rfl rfl rfl rfl rfl (b' := [none, some [.int .i64 0, .int .i64 0], some [.int .i64 0, .int .i64 0]]) (r' := []) (.alloc rfl ze29) rfl ?_
        refine e0 rfl rfl rfl rfl rfl (b' := [none, some [.int .i64 0, .int .i64 0], some [.int .i64 v6.1.f_Line, .int .i64 v6.1.f_At]]) (r' := []) (.store rfl rfl rfl sz29 rfl rfl rfl) rfl ?_
        refine p_ 13 rfl rfl rfl rfl (.assign rfl rfl) ?_
        refine we_nil ?_
        refine ex_seq ?_
        refine ex_gst ⟨[.sl false (List.map c_api_Line p0), .agg [.int .i64 p1.f_Line, .int .i64 p1.f_At], .int .i64 p2, .top, .cp [.int .i64 p1.f_Line, .int .i64 p1.f_At], .top, .bx 1 0, .bool false, .int .i64 v2.1, .int .i64 v2.2, .int .i64 v4.1, .int .i64 v4.2, .cp [.int .i64 v6.1.f_Line, .int .i64 v6.1.f_At], .int .i64 v6.2, .sl false (List.map c_api_Line p0), .int .i64 (p0.length : Int), .bool (((p0.length : Int) : Int) == 0), .top, .tup [.int .i64 v2.1, .int .i64 v2.2], .sl false (List.map c_api_Line p0), .sl false (List.map c_api_Line p0), .agg [.int .i64 p1.f_Line, .int .i64 p1.f_At], .agg [.int .i64 v1.f_Line, .int .i64 v1.f_At], .tup [.int .i64 v2.1, .int .i64 v2.2], .int .i64 v2.1, .int .i64 v2.2, .tup [.int .i64 v4.1, .int .i64 v4.2], .sl false (List.map c_api_Line p0), .sl false (List.map c_api_Line p0), .agg [.int .i64 v3.f_Line, .int .i64 v3.f_At], .tup [.int .i64 v4.1, .int .i64 v4.2], .int .i64 v4.1, .int .i64 v4.2, .bool (decide ((p2 : Int) < (IntKind.wrap .i64 (0 - v2.1)))), .int .i64 p2, .int .i64 v2.1, .int .i64 (IntKind.wrap .i64 (0 - v2.1)), .bool (decide ((p2 : Int) < (IntKind.wrap .i64 (0 - v2.1)))), .top, .bool (decide ((p2 : Int) > (IntKind.wrap .i64 (v4.1 - v2.1)))), .int .i64 p2, .int .i64 v4.1, .int .i64 v2.1, .int .i64 (IntKind.wrap .i64 (v4.1 - v2.1)), .bool (decide ((p2 : Int) > (IntKind.wrap .i64 (v4.1 - v2.1)))), .top, .top, .tup [.agg [.int .i64 v6.1.f_Line, .int .i64 v6.1.f_At], .int .i64 v6.2], .sl false (List.map c_api_Line p0), .int .i64 v2.1, .int .i64 p2, .int .i64 (IntKind.wrap .i64 (v2.1 + p2)), .tup [.agg [.int .i64 v6.1.f_Line, .int .i64 v6.1.f_At], .int .i64 v6.2], .agg [.int .i64 v6.1.f_Line, .int .i64 v6.1.f_At], .int .i64 v6.2, .top], [none, some [.int .i64 0, .int .i64 0], none], [], 0⟩ (.shutB (b := 2) rfl (fun d h => by simpa using List.all_eq_true.1 (rfl : List.all [.int .i64 v6.1.f_Line, .int .i64 v6.1.f_At] (fun d => !d.tok) = true) d h) (.refl _)) rfl ?_
        refine ex_ord [1] (l := [0, 1, 2]) rfl ?_
        refine p_ 55 rfl rfl rfl rfl (x_loadA rfl rfl rfl sz29 un29 ag29 rfl) ?_
        refine e0 rfl rfl rfl rfl rfl (b' := [none, some [.int .i64 v6.1.f_Line, .int .i64 v6.1.f_At], none]) (r' := []) (.store rfl rfl rfl sz29 rfl rfl rfl) rfl ?_
        refine p_ 7 rfl rfl rfl rfl (.assign rfl rfl) ?_
        refine we_nil ?_
        refine ex_ret ?_
        obtain rfl := Option.some.inj h
        exact finB (by first | exact .inr rfl | exact .inl rfl) (.refl _) [.agg [.int .i64 v6.1.f_Line, .int .i64 v6.1.f_At], .bool true] [] [] (res_cons (res_cell rfl rfl sz29 un29 ag29 rfl) (res_cons (res_tmp rfl) res_nil)) rfl rfl rfl rfl rfl rfl rfl
theorem ok_cmp_Compare_int {r : Int} {p0 : Int} {p1 : Int} (h : cmp_Compare_int p0 p1 = some r) : OkB prog 19 [.int .i64 p0, .int .i64 p1] [] [] (.int .i64 r) [] [] := by
  unfold cmp_Compare_int at h
  refine okB_of_exG func19 rfl rfl (s0 := [.int .i64 p0, .int .i64 p1, .top, .top, .top, .top, .top, .top, .top, .top, .top, .top, .top, .top, .top, .top, .top, .top, .top, .top]) (b0 := []) (r0 := []) rfl rfl rfl ?_
  show Ex _ _ _ ⟨[.int .i64 p0, .int .i64 p1, .top, .top, .top, .top, .top, .top, .top, .top, .top, .top, .top, .top, .top, .top, .top, .top, .top, .top], [], [], 0⟩ _
  refine ex_seq ?_
  refine ex_ord [] (l := [0]) rfl ?_
  refine p_ 4 rfl rfl rfl rfl (.assign rfl rfl) ?_
  refine we_nil ?_
  refine ex_seq ?_
  refine ex_ord [] (l := [0, 1, 2]) rfl ?_
  refine p_ 7 rfl rfl rfl rfl (.move rfl rfl) ?_
  obtain ⟨v1, hv1, h⟩ := bindS h
  refine p_ 8 rfl rfl rfl rfl (x_callP rfl rfl en28 (ok_cmp_isNaN_int hv1) rfl rfl rfl rfl rfl) ?_
  refine p_ 5 rfl rfl rfl rfl (.assign rfl rfl) ?_
  refine we_nil ?_
  refine ex_seq ?_
  refine ex_ord [] (l := [0, 1, 2]) rfl ?_
  refine p_ 9 rfl rfl rfl rfl (.move rfl rfl) ?_
  obtain ⟨v2, hv2, h⟩ := bindS h
  refine p_ 10 rfl rfl rfl rfl (x_callP rfl rfl en28 (ok_cmp_isNaN_int hv2) rfl rfl rfl rfl rfl) ?_
  refine p_ 6 rfl rfl rfl rfl (.assign rfl rfl) ?_
  refine we_nil ?_
  refine ex_seq ?_
  refine ex_seq ?_
  refine ex_ord [] (l := [0]) rfl ?_
  refine p_ 11 rfl rfl rfl rfl (.move rfl rfl) ?_
  refine we_nil ?_
  refine ex_if rfl ?_ ?_
  · intro hc
    replace h := iteT h hc
    refine ex_seq ?_
    refine ex_seq ?_
    refine ex_ord [] (l := [0]) rfl ?_
    refine p_ 12 rfl rfl rfl rfl (.move rfl rfl) ?_
    refine we_nil ?_
    refine ex_if rfl ?_ ?_
    · intro hc
      replace h := iteT h hc
      refine ex_seq ?_
      refine ex_ord [] (l := [0]) rfl ?_
      refine p_ 4 rfl rfl rfl rfl (.assign rfl rfl) ?_
      refine we_nil ?_
      refine ex_ret ?_
      obtain rfl := Option.some.inj h
      exact finB (by first | exact .inr rfl | exact .inl rfl) (.refl _) [.int .i64 0] [] [] (res_cons (res_tmp rfl) res_nil) rfl rfl rfl rfl rfl rfl rfl
    · intro hc
      replace h := iteF h hc
      refine ex_skip ?_
      refine ex_seq ?_
      refine ex_ord [] (l := [0]) rfl ?_
      refine p_ 4 rfl rfl rfl rfl (.assign rfl rfl) ?_
      refine we_nil ?_
      refine ex_ret ?_
      obtain rfl := Option.some.inj h
      exact finB (by first | exact .inr rfl | exact .inl rfl) (.refl _) [.int .i64 (-1)] [] [] (res_cons (res_tmp rfl) res_nil) rfl rfl rfl rfl rfl rfl rfl
  · intro hc
    replace h := iteF h hc
    refine ex_skip ?_
    refine ex_seq ?_
    refine ex_seq ?_
    refine ex_ord [] (l := [0]) rfl ?_
    refine p_ 13 rfl rfl rfl rfl (.move rfl rfl) ?_
    refine we_nil ?_
    refine ex_if rfl ?_ ?_
    · intro hc
      replace h := iteT h hc
      refine ex_seq ?_
      refine ex_ord [] (l := [0]) rfl ?_
      refine p_ 4 rfl rfl rfl rfl (.assign rfl rfl) ?_
      refine we_nil ?_
      refine ex_ret ?_
      obtain rfl := Option.some.inj h
      exact finB (by first | exact .inr rfl | exact .inl rfl) (.refl _) [.int .i64 1] [] [] (res_cons (res_tmp rfl) res_nil) rfl rfl rfl rfl rfl rfl rfl
    · intro hc
      replace h := iteF h hc
      refine ex_skip ?_
      refine ex_seq ?_
      refine ex_seq ?_
      refine ex_ord [] (l := [0, 1, 2]) rfl ?_
      refine p_ 14 rfl rfl rfl rfl (.move rfl rfl) ?_
      refine p_ 15 rfl rfl rfl rfl (.move rfl rfl) ?_
      refine p_ 16 rfl rfl rfl rfl (.bin rfl rfl rfl rfl) ?_
      refine we_nil ?_
      refine ex_if rfl ?_ ?_
      · intro hc
        replace h := iteT h hc
        refine ex_seq ?_
        refine ex_ord [] (l := [0]) rfl ?_
        refine p_ 4 rfl rfl rfl rfl (.assign rfl rfl) ?_
        refine we_nil ?_
        refine ex_ret ?_
        obtain rfl := Option.some.inj h
        exact finB (by first | exact .inr rfl | exact .inl rfl) (.refl _) [.int .i64 (-1)] [] [] (res_cons (res_tmp rfl) res_nil) rfl rfl rfl rfl rfl rfl rfl
      · intro hc
        replace h := iteF h hc
        refine ex_skip ?_
        refine ex_seq ?_
        refine ex_seq ?_
        refine ex_ord [] (l := [0, 1, 2]) rfl ?_
        refine p_ 17 rfl rfl rfl rfl (.move rfl rfl) ?_
        refine p_ 18 rfl rfl rfl rfl (.move rfl rfl) ?_
        refine p_ 19 rfl rfl rfl rfl (.bin rfl rfl rfl rfl) ?_
        refine we_nil ?_
        refine ex_if rfl ?_ ?_
        · intro hc
          replace h := iteT h hc
          refine ex_seq ?_
          refine ex_ord [] (l := [0]) rfl ?_
          refine p_ 4 rfl rfl rfl rfl (.assign rfl rfl) ?_
          refine we_nil ?_
          refine ex_ret ?_
          obtain rfl := Option.some.inj h
          exact finB (by first | exact .inr rfl | exact .inl rfl) (.refl _) [.int .i64 1] [] [] (res_cons (res_tmp rfl) res_nil) rfl rfl rfl rfl rfl rfl rfl
        · intro hc
          replace h := iteF h hc
          refine ex_skip ?_
          refine ex_seq ?_
          refine ex_ord [] (l := [0]) rfl ?_
          refine p_ 4 rfl rfl rfl rfl (.assign rfl rfl) ?_
          refine we_nil ?_
          refine ex_ret ?_
          obtain rfl := Option.some.inj h
          exact finB (by first | exact .inr rfl | exact .inl rfl) (.refl _) [.int .i64 0] [] [] (res_cons (res_tmp rfl) res_nil) rfl rfl rfl rfl rfl rfl rfl
theorem ok_doc_Own {r : (List (T_api_Line))} {p0 : List (T_api_Line)} (h : doc_Own p0 = some r) : OkB prog 21 [.sl false (List.map c_api_Line p0)] [] [] (.own 0) [] [⟨45, 4, List.map c_api_Line r⟩] := by
  unfold doc_Own at h
  refine okB_of_exG func21 rfl rfl (s0 := [.sl false (List.map c_api_Line p0), .top, .top, .top, .top, .top, .top, .top, .top, .top, .top, .top, .top, .top, .top, .top, .top, .top, .top]) (b0 := []) (r0 := []) rfl rfl rfl ?_
  show Ex _ _ _ ⟨[.sl false (List.map c_api_Line p0), .top, .top, .top, .top, .top, .top, .top, .top, .top, .top, .top, .top, .top, .top, .top, .top, .top, .top], [], [], 0⟩ _
  refine ex_seq ?_
  refine ex_ord [0] (l := [0]) rfl ?_
  refine e_ (d := .own 0) 2 rfl rfl rfl rfl rfl (b' := []) (r' := [some ⟨45, 4, []⟩]) (.nilRow (.inr rfl) rfl 45 4) rfl ?_
  refine we_nil ?_
  refine ex_seq ?_
  refine ex_ord [0] (l := [0]) rfl ?_
  refine e_ (d := .own 1) 3 rfl rfl rfl rfl rfl (b' := []) (r' := [some ⟨45, 4, []⟩, some ⟨45, 4, []⟩]) (.nilRow (.inr rfl) rfl 45 4) rfl ?_
  refine we_nil ?_
  refine ex_seq ?_
  refine ex_seq ?_
  refine ex_ord [] (l := [0, 1, 2]) rfl ?_
  refine p_ 6 rfl rfl rfl rfl (.move rfl rfl) ?_
  refine p_ 7 rfl rfl rfl rfl (x_len (f := c_api_Line) (l := p0) rfl rfl rfl el22) ?_
  refine p_ 8 rfl rfl rfl rfl (.move rfl rfl) ?_
  refine we_nil ?_
  refine ex_block ?_
  obtain ⟨k3, hl, h⟩ := bindS h
  refine ex_gst ⟨[.top, .top, .top, .own 0, .top, .top, .sl false (List.map c_api_Line p0), .int .i64 (p0.length : Int), .int .i64 0, .top, .top, .top, .top, .top, .top, .top, .top, .top, .top], [], [some ⟨45, 4, []⟩], 0⟩ (.re [false, false, false, true, false, false, true, true, true, false, false, false, false, false, false, false, false, false, false] [] [1] rfl (.refl _)) rfl ?_
  refine ex_iterX (fun _ => .exit 0) (fun s => ⟨[.top, .top, .top, .own 0, .top, .top, .sl false (List.map c_api_Line p0), .int .i64 (p0.length : Int), .int .i64 s.2, .top, .top, .top, .top, .top, .top, .top, .top, .top, .top], [], [some ⟨45, 4, List.map c_api_Line s.1⟩], 0⟩) (fun o => ⟨[.top, .top, .top, .own 0, .top, .top, .top, .top, .top, .top, .top, .top, .top, .top, .top, .top, .top, .top, .top], [], [some ⟨45, 4, List.map c_api_Line o⟩], 0⟩) hl rfl ?_ ?_
  · clear hl
    refine ex_seq ?_
    refine ex_ord [] (l := [0, 1]) rfl ?_
    refine p_ 18 rfl rfl rfl rfl (.move rfl rfl) ?_
    refine p_ 2 rfl rfl rfl rfl (.assign rfl rfl) ?_
    refine we_nil ?_
    refine ex_ret ?_
    obtain rfl := Option.some.inj h
    exact finB (by first | exact .inr rfl | exact .inl rfl) (.refl _) [.own 0] [0] [] (res_cons (res_tmp rfl) res_nil) rfl rfl rfl rfl rfl rfl rfl
  · clear hl h
    rintro ⟨n1, n2⟩ y h
    replace h : doc_Own_l1 p0 n1 n2 = some y := h
    unfold doc_Own_l1 at h
    show Ex _ _ _ ⟨[.top, .top, .top, .own 0, .top, .top, .sl false (List.map c_api_Line p0), .int .i64 (p0.length : Int), .int .i64 n2, .top, .top, .top, .top, .top, .top, .top, .top, .top, .top], [], [some ⟨45, 4, List.map c_api_Line n1⟩], 0⟩ _
    refine ex_seq ?_
    refine ex_ord [] (l := [0]) rfl ?_
    refine p_ 9 rfl rfl rfl rfl (.bin rfl rfl rfl rfl) ?_
    refine we_nil ?_
    refine ex_seq ?_
    refine ex_if rfl ?_ ?_
    · intro hc
      replace h := iteT h hc
      refine ex_skip ?_
      refine ex_seq ?_
      refine ex_block ?_
      refine ex_seq ?_
      refine ex_ord [2, 3] (l := [0, 1, 2, 3]) rfl ?_
      obtain ⟨v4, hv4, h⟩ := bindS h
      refine p_ 10 rfl rfl rfl rfl (x_idx (f := c_api_Line) (cs := [.int .i64 v4.f_Quote, .sl false (List.map c_i64 v4.f_Lists), .int .i64 v4.f_Kind, .sl false (List.map c_api_Cell v4.f_Cells)]) rfl rfl rfl el22 sz45 hv4 rfl rfl) ?_
      refine p_ 11 rfl rfl rfl rfl (x_loadA rfl rfl rfl sz45 un45 ag45 rfl) ?_
      refine e_ (d := .bx 0 0) 5 rfl rfl rfl rfl rfl (b' := [some [.int .i64 0, .sl false [], .int .i64 0, .sl false []]]) (r' := [some ⟨45, 4, List.map c_api_Line n1⟩]) (.alloc rfl ze45) rfl ?_
      refine e0 rfl rfl rfl rfl rfl (b' := [some [.int .i64 v4.f_Quote, .sl false (List.map c_i64 v4.f_Lists), .int .i64 v4.f_Kind, .sl false (List.map c_api_Cell v4.f_Cells)]]) (r' := [some ⟨45, 4, List.map c_api_Line n1⟩]) (.store rfl rfl rfl sz45 rfl rfl rfl) rfl ?_
      refine we_nil ?_
      refine ex_gst ⟨[.top, .top, .top, .own 0, .top, .cp [.int .i64 v4.f_Quote, .sl false (List.map c_i64 v4.f_Lists), .int .i64 v4.f_Kind, .sl false (List.map c_api_Cell v4.f_Cells)], .sl false (List.map c_api_Line p0), .int .i64 (p0.length : Int), .int .i64 n2, .bool (decide ((n2 : Int) < (p0.length : Int))), .cp [.int .i64 v4.f_Quote, .sl false (List.map c_i64 v4.f_Lists), .int .i64 v4.f_Kind, .sl false (List.map c_api_Cell v4.f_Cells)], .agg [.int .i64 v4.f_Quote, .sl false (List.map c_i64 v4.f_Lists), .int .i64 v4.f_Kind, .sl false (List.map c_api_Cell v4.f_Cells)], .top, .top, .top, .top, .top, .top, .top], [none], [some ⟨45, 4, List.map c_api_Line n1⟩], 0⟩ (.shutB (b := 0) rfl (fun d h => by simpa using List.all_eq_true.1 (rfl : List.all [.int .i64 v4.f_Quote, .sl false (List.map c_i64 v4.f_Lists), .int .i64 v4.f_Kind, .sl false (List.map c_api_Cell v4.f_Cells)] (fun d => !d.tok) = true) d h) (.refl _)) rfl ?_
      refine ex_ord [3, 4] (l := [0, 1, 2, 3, 4, 5]) rfl ?_
      refine p_ 12 rfl rfl rfl rfl (.move rfl rfl) ?_
      refine p_ 13 rfl rfl rfl rfl (x_loadA rfl rfl rfl sz45 un45 ag45 rfl) ?_
      obtain ⟨v5, hv5, h⟩ := bindS h
      refine p_ 14 rfl rfl rfl rfl (x_callP rfl rfl en30 (ok_lines_Own hv5) rfl rfl rfl rfl rfl) ?_
      refine e_ (d := .own 1) 15 rfl rfl rfl rfl rfl (b' := [none]) (r' := [some ⟨45, 4, List.map c_api_Line n1⟩, some ⟨45, 4, List.map c_api_Line [v5]⟩]) (x_lit (f := c_api_Line) (l := [v5]) rfl el22 rw45 zs45 rfl rfl rfl (by decide) (by decide) fl_api_Line rfl) rfl ?_
      obtain ⟨v6, hv6, h⟩ := bindS h
      refine e_ (d := .own 2) 16 rfl rfl rfl rfl rfl (b' := [none]) (r' := [none, some ⟨45, 4, List.map c_api_Line [v5]⟩, some ⟨45, 4, List.map c_api_Line v6⟩]) (x_app (f := c_api_Line) (xs := n1) (ys := [v5]) rfl rfl rfl el22 rw45 rfl rfl rfl fl_api_Line hv6) rfl ?_
      refine p_ 3 rfl rfl rfl rfl (.assign rfl rfl) ?_
      refine we_nil ?_
      refine ex_ord [] (l := [0, 1]) rfl ?_
      refine p_ 17 rfl rfl rfl rfl (.bin rfl rfl rfl rfl) ?_
      refine p_ 8 rfl rfl rfl rfl (.move rfl rfl) ?_
      refine we_nil ?_
      exact rnd_on rfl h (.re [false, false, false, true, false, false, true, true, true, false, false, false, false, false, false, false, false, false, false] [] [2] rfl (.refl _)) rfl
    · intro hc
      replace h := iteF h hc
      refine ex_exit ?_
      exact rnd_out (o := n1) rfl (fun h => by cases h) h (.re [false, false, false, true, false, false, false, false, false, false, false, false, false, false, false, false, false, false, false] [] [0] rfl (.refl _)) rfl
theorem ok_slices_Concat_apiCell {r : (List (T_api_Cell))} {p0 : List (List (T_api_Cell))} (h : slices_Concat_apiCell p0 = some r) : OkB prog 22 [.own 0] [] [⟨42, 1, List.map c_Lapi_Cell p0⟩] (.own 0) [] [⟨41, 3, List.map c_api_Cell r⟩] := by
  unfold slices_Concat_apiCell at h
  refine okB_of_exG func22 rfl rfl (s0 := [.own 0, .top, .top, .top, .top, .top, .top, .top, .top, .top, .top, .top, .top, .top, .top, .top, .top, .top, .top, .top, .top, .top, .top, .top, .top, .top, .top, .top, .top, .top, .top, .top, .top, .top, .top, .top]) (b0 := []) (r0 := [some ⟨42, 1, List.map c_Lapi_Cell p0⟩]) rfl rfl rfl ?_
  show Ex _ _ _ ⟨[.own 0, .top, .top, .top, .top, .top, .top, .top, .top, .top, .top, .top, .top, .top, .top, .top, .top, .top, .top, .top, .top, .top, .top, .top, .top, .top, .top, .top, .top, .top, .top, .top, .top, .top, .top, .top], [], [some ⟨42, 1, List.map c_Lapi_Cell p0⟩], 0⟩ _
  refine ex_seq ?_
  refine ex_ord [0] (l := [0]) rfl ?_
  refine e_ (d := .own 1) 2 rfl rfl rfl rfl rfl (b' := []) (r' := [some ⟨42, 1, List.map c_Lapi_Cell p0⟩, some ⟨41, 3, []⟩]) (.nilRow (.inr rfl) rfl 41 3) rfl ?_
  refine we_nil ?_
  refine ex_seq ?_
  refine ex_ord [] (l := [0]) rfl ?_
  refine p_ 3 rfl rfl rfl rfl (.assign rfl rfl) ?_
  refine we_nil ?_
  refine ex_seq ?_
  refine ex_seq ?_
  refine ex_ord [] (l := [0, 1, 2]) rfl ?_
  refine p_ 9 rfl rfl rfl rfl (.move rfl rfl) ?_
  refine p_ 10 rfl rfl rfl rfl (x_len (f := c_Lapi_Cell) (l := p0) rfl rfl rfl el65) ?_
  refine p_ 11 rfl rfl rfl rfl (.move rfl rfl) ?_
  refine we_nil ?_
  refine ex_block ?_
  obtain ⟨k3, hl, h⟩ := bindS h
  refine ex_gst ⟨[.own 0, .top, .top, .int .i64 0, .top, .top, .top, .top, .top, .own 0, .int .i64 (p0.length : Int), .int .i64 0, .top, .top, .top, .top, .top, .top, .top, .top, .top, .top, .top, .top, .top, .top, .top, .top, .top, .top, .top, .top, .top, .top, .top, .top], [], [some ⟨42, 1, List.map c_Lapi_Cell p0⟩], 0⟩ (.re [true, false, false, true, false, false, false, false, false, true, true, true, false, false, false, false, false, false, false, false, false, false, false, false, false, false, false, false, false, false, false, false, false, false, false, false] [] [0] rfl (.refl _)) rfl ?_
  refine ex_iterX (fun _ => .exit 0) (fun s => ⟨[.own 0, .top, .top, .int .i64 s.2, .top, .top, .top, .top, .top, .own 0, .int .i64 (p0.length : Int), .int .i64 s.1, .top, .top, .top, .top, .top, .top, .top, .top, .top, .top, .top, .top, .top, .top, .top, .top, .top, .top, .top, .top, .top, .top, .top, .top], [], [some ⟨42, 1, List.map c_Lapi_Cell p0⟩], 0⟩) (fun o => ⟨[.own 0, .top, .top, .int .i64 o, .top, .top, .top, .top, .top, .top, .top, .top, .top, .top, .top, .top, .top, .top, .top, .top, .top, .top, .top, .top, .top, .top, .top, .top, .top, .top, .top, .top, .top, .top, .top, .top], [], [some ⟨42, 1, List.map c_Lapi_Cell p0⟩], 0⟩) hl rfl ?_ ?_
  · clear hl
    refine ex_seq ?_
    refine ex_ord [1] (l := [0, 1, 2]) rfl ?_
    refine p_ 23 rfl rfl rfl rfl (.move rfl rfl) ?_
    obtain ⟨v7, hv7, h⟩ := bindS h
    refine e_ (d := .own 1) 24 rfl rfl rfl rfl rfl (b' := []) (r' := [some ⟨42, 1, List.map c_Lapi_Cell p0⟩, some ⟨41, 3, List.map c_api_Cell v7⟩]) (x_call [] [] rfl rfl en31 (ok_slices_Grow_apiCell hv7) rfl rfl rfl rfl rfl rfl rfl rfl rfl rfl rfl rfl rfl rfl) rfl ?_
    refine p_ 6 rfl rfl rfl rfl (.assign rfl rfl) ?_
    refine we_nil ?_
    refine ex_seq ?_
    refine ex_seq ?_
    refine ex_ord [] (l := [0, 1, 2]) rfl ?_
    refine p_ 25 rfl rfl rfl rfl (.move rfl rfl) ?_
    refine p_ 26 rfl rfl rfl rfl (x_len (f := c_Lapi_Cell) (l := p0) rfl rfl rfl el65) ?_
    refine p_ 27 rfl rfl rfl rfl (.move rfl rfl) ?_
    refine we_nil ?_
    refine ex_block ?_
    obtain ⟨k10, hl, h⟩ := bindS h
    refine ex_gst ⟨[.top, .top, .top, .top, .top, .top, .own 0, .top, .top, .top, .top, .top, .top, .top, .top, .top, .top, .top, .top, .top, .top, .top, .top, .top, .top, .own 1, .int .i64 (p0.length : Int), .int .i64 0, .top, .top, .top, .top, .top, .top, .top, .top], [], [some ⟨41, 3, List.map c_api_Cell v7⟩, some ⟨42, 1, List.map c_Lapi_Cell p0⟩], 0⟩ (.re [false, false, false, false, false, false, true, false, false, false, false, false, false, false, false, false, false, false, false, false, false, false, false, false, false, true, true, true, false, false, false, false, false, false, false, false] [] [1, 0] rfl (.refl _)) rfl ?_
    refine ex_iterX (fun _ => .exit 2) (fun s => ⟨[.top, .top, .top, .top, .top, .top, .own 0, .top, .top, .top, .top, .top, .top, .top, .top, .top, .top, .top, .top, .top, .top, .top, .top, .top, .top, .own 1, .int .i64 (p0.length : Int), .int .i64 s.2, .top, .top, .top, .top, .top, .top, .top, .top], [], [some ⟨41, 3, List.map c_api_Cell s.1⟩, some ⟨42, 1, List.map c_Lapi_Cell p0⟩], 0⟩) (fun o => ⟨[.top, .top, .top, .top, .top, .top, .own 0, .top, .top, .top, .top, .top, .top, .top, .top, .top, .top, .top, .top, .top, .top, .top, .top, .top, .top, .top, .top, .top, .top, .top, .top, .top, .top, .top, .top, .top], [], [some ⟨41, 3, List.map c_api_Cell o⟩], 0⟩) hl rfl ?_ ?_
    · clear hl
      refine ex_seq ?_
      refine ex_ord [] (l := [0, 1]) rfl ?_
      refine p_ 35 rfl rfl rfl rfl (.move rfl rfl) ?_
      refine p_ 2 rfl rfl rfl rfl (.assign rfl rfl) ?_
      refine we_nil ?_
      refine ex_ret ?_
      obtain rfl := Option.some.inj h
      exact finB (by first | exact .inr rfl | exact .inl rfl) (.refl _) [.own 0] [0] [] (res_cons (res_tmp rfl) res_nil) rfl rfl rfl rfl rfl rfl rfl
    · clear hl h
      rintro ⟨n8, n9⟩ y h
      replace h : slices_Concat_apiCell_l2 p0 n8 n9 = some y := h
      unfold slices_Concat_apiCell_l2 at h
      show Ex _ _ _ ⟨[.top, .top, .top, .top, .top, .top, .own 0, .top, .top, .top, .top, .top, .top, .top, .top, .top, .top, .top, .top, .top, .top, .top, .top, .top, .top, .own 1, .int .i64 (p0.length : Int), .int .i64 n9, .top, .top, .top, .top, .top, .top, .top, .top], [], [some ⟨41, 3, List.map c_api_Cell n8⟩, some ⟨42, 1, List.map c_Lapi_Cell p0⟩], 0⟩ _
      refine ex_seq ?_
      refine ex_ord [] (l := [0]) rfl ?_
      refine p_ 28 rfl rfl rfl rfl (.bin rfl rfl rfl rfl) ?_
      refine we_nil ?_
      refine ex_seq ?_
      refine ex_if rfl ?_ ?_
      · intro hc
        replace h := iteT h hc
        refine ex_skip ?_
        refine ex_seq ?_
        refine ex_block ?_
        refine ex_seq ?_
        refine ex_ord [] (l := [0, 1, 2]) rfl ?_
        obtain ⟨v11, hv11, h⟩ := bindS h
        refine p_ 29 rfl rfl rfl rfl (x_idxO (f := c_Lapi_Cell) (l := p0) rfl rfl rfl rfl rfl el65 sz42 hv11 rfl) ?_
        obtain ⟨v12, hv12, h⟩ := bindS h
        refine p_ 30 rfl rfl rfl rfl (x_load rfl rfl (at_ex (f := c_Lapi_Cell) (xs := p0) (c := [.sl false (List.map c_api_Cell v12)]) rfl rfl (getI_some hv12).2 rfl (Nat.le_of_ble_eq_true rfl)) sz42 un42 ag42 rfl) ?_
        refine p_ 8 rfl rfl rfl rfl (.assign rfl rfl) ?_
        refine we_nil ?_
        refine ex_ord [2] (l := [0, 1, 2, 3]) rfl ?_
        refine p_ 31 rfl rfl rfl rfl (.move rfl rfl) ?_
        refine p_ 32 rfl rfl rfl rfl (.move rfl rfl) ?_
        obtain ⟨v13, hv13, h⟩ := bindS h
        refine e_ (d := .own 2) 33 rfl rfl rfl rfl rfl (b' := []) (r' := [none, some ⟨42, 1, List.map c_Lapi_Cell p0⟩, some ⟨41, 3, List.map c_api_Cell v13⟩]) (x_app (f := c_api_Cell) (xs := n8) (ys := v12) rfl rfl rfl el42 rw41 rfl rfl rfl fl_api_Cell hv13) rfl ?_
        refine p_ 6 rfl rfl rfl rfl (.assign rfl rfl) ?_
        refine we_nil ?_
        refine ex_ord [] (l := [0, 1]) rfl ?_
        refine p_ 34 rfl rfl rfl rfl (.bin rfl rfl rfl rfl) ?_
        refine p_ 27 rfl rfl rfl rfl (.move rfl rfl) ?_
        refine we_nil ?_
        exact rnd_on rfl h (.re [false, false, false, false, false, false, true, false, false, false, false, false, false, false, false, false, false, false, false, false, false, false, false, false, false, true, true, true, false, false, false, false, false, false, false, false] [] [2, 1] rfl (.refl _)) rfl
      · intro hc
        replace h := iteF h hc
        refine ex_exit ?_
        exact rnd_out (o := n8) rfl (fun h => by cases h) h (.re [false, false, false, false, false, false, true, false, false, false, false, false, false, false, false, false, false, false, false, false, false, false, false, false, false, false, false, false, false, false, false, false, false, false, false, false] [] [0] rfl (.refl _)) rfl
  · clear hl h
    rintro ⟨n1, n2⟩ y h
    replace h : slices_Concat_apiCell_l1 p0 n1 n2 = some y := h
    unfold slices_Concat_apiCell_l1 at h
    show Ex _ _ _ ⟨[.own 0, .top, .top, .int .i64 n2, .top, .top, .top, .top, .top, .own 0, .int .i64 (p0.length : Int), .int .i64 n1, .top, .top, .top, .top, .top, .top, .top, .top, .top, .top, .top, .top, .top, .top, .top, .top, .top, .top, .top, .top, .top, .top, .top, .top], [], [some ⟨42, 1, List.map c_Lapi_Cell p0⟩], 0⟩ _
    refine ex_seq ?_
    refine ex_ord [] (l := [0]) rfl ?_
    refine p_ 12 rfl rfl rfl rfl (.bin rfl rfl rfl rfl) ?_
    refine we_nil ?_
    refine ex_seq ?_
    refine ex_if rfl ?_ ?_
    · intro hc
      replace h := iteT h hc
      refine ex_skip ?_
      refine ex_seq ?_
      refine ex_block ?_
      refine ex_seq ?_
      refine ex_ord [] (l := [0, 1, 2]) rfl ?_
      obtain ⟨v4, hv4, h⟩ := bindS h
      refine p_ 13 rfl rfl rfl rfl (x_idxO (f := c_Lapi_Cell) (l := p0) rfl rfl rfl rfl rfl el65 sz42 hv4 rfl) ?_
      obtain ⟨v5, hv5, h⟩ := bindS h
      refine p_ 14 rfl rfl rfl rfl (x_load rfl rfl (at_ex (f := c_Lapi_Cell) (xs := p0) (c := [.sl false (List.map c_api_Cell v5)]) rfl rfl (getI_some hv5).2 rfl (Nat.le_of_ble_eq_true rfl)) sz42 un42 ag42 rfl) ?_
      refine p_ 5 rfl rfl rfl rfl (.assign rfl rfl) ?_
      refine we_nil ?_
      refine ex_seq ?_
      refine ex_ord [] (l := [0, 1, 2, 3, 4]) rfl ?_
      refine p_ 15 rfl rfl rfl rfl (.move rfl rfl) ?_
      refine p_ 16 rfl rfl rfl rfl (.move rfl rfl) ?_
      refine p_ 17 rfl rfl rfl rfl (x_len (f := c_api_Cell) (l := v5) rfl rfl rfl el42) ?_
      refine p_ 18 rfl rfl rfl rfl (.bin rfl rfl rfl rfl) ?_
      refine p_ 3 rfl rfl rfl rfl (.assign rfl rfl) ?_
      refine we_nil ?_
      refine ex_seq ?_
      refine ex_ord [] (l := [0, 1]) rfl ?_
      refine p_ 19 rfl rfl rfl rfl (.move rfl rfl) ?_
      refine p_ 20 rfl rfl rfl rfl (.bin rfl rfl rfl rfl) ?_
      refine we_nil ?_
      obtain ⟨_, hq, h⟩ := bindS h
      refine ex_cut ⟨[.own 0, .top, .top, .int .i64 (IntKind.wrap .i64 (n2 + (v5.length : Int))), .top, .top, .top, .top, .top, .own 0, .int .i64 (p0.length : Int), .int .i64 n1, .top, .top, .top, .top, .top, .top, .top, .top, .top, .top, .top, .top, .top, .top, .top, .top, .top, .top, .top, .top, .top, .top, .top, .top], [], [some ⟨42, 1, List.map c_Lapi_Cell p0⟩], 0⟩ ?_ ?_
      · clear h
        have h := hq
        clear hq
        refine ex_if rfl ?_ ?_
        · intro hc
          replace h := iteT h hc
          cases h
        · intro hc
          replace h := iteF h hc
          refine ex_skip ?_
          cases h
          exact ⟨rfl, _, .re [true, false, false, true, false, false, false, false, false, true, true, true, false, false, false, false, false, false, false, false, false, false, false, false, false, false, false, false, false, false, false, false, false, false, false, false] [] [0] rfl (.refl _), rfl⟩
      · clear hq
        refine ex_ord [] (l := [0, 1]) rfl ?_
        refine p_ 22 rfl rfl rfl rfl (.bin rfl rfl rfl rfl) ?_
        refine p_ 11 rfl rfl rfl rfl (.move rfl rfl) ?_
        refine we_nil ?_
        exact rnd_on rfl h (.re [true, false, false, true, false, false, false, false, false, true, true, true, false, false, false, false, false, false, false, false, false, false, false, false, false, false, false, false, false, false, false, false, false, false, false, false] [] [0] rfl (.refl _)) rfl
    · intro hc
      replace h := iteF h hc
      refine ex_exit ?_
      exact rnd_out (o := n2) rfl (fun h => by cases h) h (.re [true, false, false, true, false, false, false, false, false, false, false, false, false, false, false, false, false, false, false, false, false, false, false, false, false, false, false, false, false, false, false, false, false, false, false, false] [] [0] rfl (.refl _)) rfl
theorem ok_cells_each {r : (List (T_api_Cell)) × Int} {p0 : List (T_api_Cell)} {p1 : Int} {p2 : Int} {p3 : T_api_Cell → Option (T_api_Cell)} {g3 : FuncId} {cs3 : List DV} (hc3 : Cl prog g3 cs3) (hf3 : ∀ x0 r, p3 x0 = some r → OkB prog g3 ([.bx 0 0] ++ cs3) [c_api_Cell x0] [] (.tup []) [c_api_Cell r] []) (h : cells_each p0 p1 p2 p3 = some r) : OkB prog 40 [.sl false (List.map c_api_Cell p0), .int .i64 p1, .int .i64 p2, .fn g3 cs3] [] [] (.tup [.own 0, .int .i64 r.2]) [] [⟨41, 3, List.map c_api_Cell r.1⟩] := by
  unfold cells_each at h
  refine okB_of_exG func40 rfl rfl (s0 := [.sl false (List.map c_api_Cell p0), .int .i64 p1, .int .i64 p2, .fn g3 cs3, .top, .top, .top, .top, .top, .top, .top, .top, .top, .top, .top, .top, .top, .top, .top, .top, .top, .top, .top, .top, .top, .top, .top, .top, .top, .top, .top]) (b0 := []) (r0 := []) rfl rfl rfl ?_
  show Ex _ _ _ ⟨[.sl false (List.map c_api_Cell p0), .int .i64 p1, .int .i64 p2, .fn g3 cs3, .top, .top, .top, .top, .top, .top, .top, .top, .top, .top, .top, .top, .top, .top, .top, .top, .top, .top, .top, .top, .top, .top, .top, .top, .top, .top, .top], [], [], 0⟩ _
  refine ex_seq ?_
  refine ex_ord [0] (l := [0, 1]) rfl ?_
  refine e_ (d := .own 0) 8 rfl rfl rfl rfl rfl (b' := []) (r' := [some ⟨41, 3, []⟩]) (.nilRow (.inr rfl) rfl 41 3) rfl ?_
  refine p_ 9 rfl rfl rfl rfl (.assign rfl rfl) ?_
  refine we_nil ?_
  refine ex_seq ?_
  refine ex_seq ?_
  refine ex_ord [] (l := [0, 1, 2, 3, 4]) rfl ?_
  refine p_ 12 rfl rfl rfl rfl (.move rfl rfl) ?_
  refine p_ 13 rfl rfl rfl rfl (.move rfl rfl) ?_
  refine p_ 14 rfl rfl rfl rfl (.move rfl rfl) ?_
  obtain ⟨v1, hv1, h⟩ := bindS h
  refine p_ 15 rfl rfl rfl rfl (x_callP rfl rfl en54 (ok_cells_span hv1) rfl rfl rfl rfl rfl) ?_
  refine p_ 16 rfl rfl rfl rfl (.un rfl rfl rfl) ?_
  refine we_nil ?_
  refine ex_if rfl ?_ ?_
  · intro hc
    replace h := iteT h hc
    refine ex_seq ?_
    refine ex_ord [0] (l := [0, 1]) rfl ?_
    refine e_ (d := .own 1) 8 rfl rfl rfl rfl rfl (b' := []) (r' := [some ⟨41, 3, []⟩, some ⟨41, 3, []⟩]) (.nilRow (.inr rfl) rfl 41 3) rfl ?_
    refine p_ 9 rfl rfl rfl rfl (.assign rfl rfl) ?_
    refine we_nil ?_
    refine ex_ret ?_
    obtain rfl := Option.some.inj h
    exact finB (by first | exact .inr rfl | exact .inl rfl) (.refl _) [.own 1, .int .i64 1] [1] [] (res_cons (res_tmp rfl) (res_cons (res_tmp rfl) res_nil)) rfl rfl rfl rfl rfl rfl rfl
  · intro hc
    replace h := iteF h hc
    refine ex_skip ?_
    refine ex_seq ?_
    refine ex_ord [1] (l := [0, 1, 2]) rfl ?_
    refine p_ 17 rfl rfl rfl rfl (.move rfl rfl) ?_
    obtain ⟨v2, hv2, h⟩ := bindS h
    refine e_ (d := .own 1) 18 rfl rfl rfl rfl rfl (b' := []) (r' := [some ⟨41, 3, []⟩, some ⟨41, 3, List.map c_api_Cell v2⟩]) (x_call [] [] rfl rfl en46 (ok_slices_Clone_apiCell hv2) rfl rfl rfl rfl rfl rfl rfl rfl rfl rfl rfl rfl rfl rfl) rfl ?_
    refine p_ 10 rfl rfl rfl rfl (.assign rfl rfl) ?_
    refine we_nil ?_
    refine ex_seq ?_
    refine ex_seq ?_
    refine ex_ord [] (l := [0, 1]) rfl ?_
    refine p_ 19 rfl rfl rfl rfl (.move rfl rfl) ?_
    refine p_ 11 rfl rfl rfl rfl (.assign rfl rfl) ?_
    refine we_nil ?_
    refine ex_block ?_
    obtain ⟨k5, hl, h⟩ := bindS h
    refine ex_gst ⟨[.top, .top, .int .i64 p2, .fn g3 cs3, .top, .top, .top, .top, .top, .top, .own 0, .int .i64 p1, .top, .top, .top, .top, .top, .top, .top, .top, .top, .top, .top, .top, .top, .top, .top, .top, .top, .top, .top], [], [some ⟨41, 3, List.map c_api_Cell v2⟩], 0⟩ (.re [false, false, true, true, false, false, false, false, false, false, true, true, false, false, false, false, false, false, false, false, false, false, false, false, false, false, false, false, false, false, false] [] [1] rfl (.refl _)) rfl ?_
    refine ex_iterX (fun _ => .exit 0) (fun s => ⟨[.top, .top, .int .i64 p2, .fn g3 cs3, .top, .top, .top, .top, .top, .top, .own 0, .int .i64 s.2, .top, .top, .top, .top, .top, .top, .top, .top, .top, .top, .top, .top, .top, .top, .top, .top, .top, .top, .top], [], [some ⟨41, 3, List.map c_api_Cell s.1⟩], 0⟩) (fun o => ⟨[.top, .top, .top, .top, .top, .top, .top, .top, .top, .top, .own 0, .top, .top, .top, .top, .top, .top, .top, .top, .top, .top, .top, .top, .top, .top, .top, .top, .top, .top, .top, .top], [], [some ⟨41, 3, List.map c_api_Cell o⟩], 0⟩) hl rfl ?_ ?_
    · clear hl
      refine ex_seq ?_
      refine ex_ord [] (l := [0, 1, 2]) rfl ?_
      refine p_ 30 rfl rfl rfl rfl (.move rfl rfl) ?_
      refine p_ 8 rfl rfl rfl rfl (.assign rfl rfl) ?_
      refine p_ 9 rfl rfl rfl rfl (.assign rfl rfl) ?_
      refine we_nil ?_
      refine ex_ret ?_
      obtain rfl := Option.some.inj h
      exact finB (by first | exact .inr rfl | exact .inl rfl) (.refl _) [.own 0, .int .i64 0] [0] [] (res_cons (res_tmp rfl) (res_cons (res_tmp rfl) res_nil)) rfl rfl rfl rfl rfl rfl rfl
    · clear hl h
      rintro ⟨n3, n4⟩ y h
      replace h : cells_each_l1 p2 p3 n3 n4 = some y := h
      unfold cells_each_l1 at h
      show Ex _ _ _ ⟨[.top, .top, .int .i64 p2, .fn g3 cs3, .top, .top, .top, .top, .top, .top, .own 0, .int .i64 n4, .top, .top, .top, .top, .top, .top, .top, .top, .top, .top, .top, .top, .top, .top, .top, .top, .top, .top, .top], [], [some ⟨41, 3, List.map c_api_Cell n3⟩], 0⟩ _
      refine ex_seq ?_
      refine ex_seq ?_
      refine ex_ord [] (l := [0, 1, 2]) rfl ?_
      refine p_ 20 rfl rfl rfl rfl (.move rfl rfl) ?_
      refine p_ 21 rfl rfl rfl rfl (.move rfl rfl) ?_
      refine p_ 22 rfl rfl rfl rfl (.bin rfl rfl rfl rfl) ?_
      refine we_nil ?_
      refine ex_if rfl ?_ ?_
      · intro hc
        replace h := iteT h hc
        refine ex_skip ?_
        refine ex_seq ?_
        refine ex_block ?_
        refine ex_ord [4] (l := [0, 1, 2, 3, 4]) rfl ?_
        refine p_ 25 rfl rfl rfl rfl (.move rfl rfl) ?_
        refine p_ 26 rfl rfl rfl rfl (.move rfl rfl) ?_
        refine p_ 27 rfl rfl rfl rfl (.move rfl rfl) ?_
        obtain ⟨v6, hv6, h⟩ := bindS h
        refine p_ 28 rfl rfl rfl rfl (x_idxO (f := c_api_Cell) (l := n3) rfl rfl rfl rfl rfl el42 sz41 hv6 rfl) ?_
        obtain ⟨v7, hv7, h⟩ := bindS h
        obtain ⟨v8, hv8, h⟩ := bindS h
        refine e_ (d := .tup []) 29 rfl rfl rfl rfl rfl (b' := []) (r' := [some ⟨41, 3, List.map c_api_Cell (setI n3 n4 v8)⟩]) (x_callEV (cf := c_api_Cell) (xs := n3) (c := v7) (c' := v8) (tk := 0) (i := Int.toNat n4) rfl rfl hc3 (hf3 _ _ hv8) rfl rfl rfl rfl (getI_some hv7).2 (by simp [argOkE]) rfl rfl) rfl ?_
        refine we_nil ?_
        refine ex_ord [] (l := [0, 1, 2]) rfl ?_
        refine p_ 23 rfl rfl rfl rfl (.move rfl rfl) ?_
        refine p_ 24 rfl rfl rfl rfl (.bin rfl rfl rfl rfl) ?_
        refine p_ 11 rfl rfl rfl rfl (.assign rfl rfl) ?_
        refine we_nil ?_
        exact rnd_on rfl h (.re [false, false, true, true, false, false, false, false, false, false, true, true, false, false, false, false, false, false, false, false, false, false, false, false, false, false, false, false, false, false, false] [] [0] rfl (.refl _)) rfl
      · intro hc
        replace h := iteF h hc
        refine ex_exit ?_
        exact rnd_out (o := n3) rfl (fun h => by cases h) h (.re [false, false, false, false, false, false, false, false, false, false, true, false, false, false, false, false, false, false, false, false, false, false, false, false, false, false, false, false, false, false, false] [] [0] rfl (.refl _)) rfl
theorem ok_cells_Set_1 {r : T_api_Cell} {p0 : T_api_Cell} {p1 : Int} {p2 : Int} (h : cells_Set_1 p0 p1 p2 = some r) : OkB prog 41 [.bx 0 0, .cp [.int .i64 p1], .cp [.int .i64 p2]] [[.int .i32 p0.f_R, .int .i64 p0.f_Bits, .str (bs p0.f_Href)]] [] (.tup []) [[.int .i32 r.f_R, .int .i64 r.f_Bits, .str (bs r.f_Href)]] [] := by
  unfold cells_Set_1 at h
  refine okB_of_exG func41 rfl rfl (s0 := [.bx 0 0, .cp [.int .i64 p1], .cp [.int .i64 p2], .top, .top, .top, .top, .top, .top, .top, .top, .top, .top, .top, .top, .top]) (b0 := [some [.int .i32 p0.f_R, .int .i64 p0.f_Bits, .str (bs p0.f_Href)]]) (r0 := []) rfl rfl rfl ?_
  show Ex _ _ _ ⟨[.bx 0 0, .cp [.int .i64 p1], .cp [.int .i64 p2], .top, .top, .top, .top, .top, .top, .top, .top, .top, .top, .top, .top, .top], [some [.int .i32 p0.f_R, .int .i64 p0.f_Bits, .str (bs p0.f_Href)]], [], 1⟩ _
  refine ex_drw mo [12, 1005, 1007, 1009, 2002, 2003, 2004, 2010, 2011, 3012, 300000, 400000, 500000, 1100000, 1200000, 1300000] (by kernel_rfl) (l := [0, 1, 2, 3, 4, 5, 6, 7, 8, 9, 10, 11, 12]) rfl ?_
  refine p_ 4 rfl rfl rfl rfl (.move rfl rfl) ?_
  refine p_ 5 rfl rfl rfl rfl (.move rfl rfl) ?_
  refine r_ 6 0 rfl rfl rfl rfl rfl rfl (fun _ _ hb => .nilCheck rfl rfl (live_bx hb)) ?_
  refine r_ 7 0 rfl rfl rfl rfl rfl rfl (fun _ _ hb => .fieldAddr rfl rfl (live_bx hb) fl41u_1 rfl) ?_
  refine r_ 8 0 rfl rfl rfl rfl rfl rfl (fun _ _ hb => x_load rfl rfl (at_bx hb rfl) sz3 un3 ag3 rfl) ?_
  refine n_ 9 rfl rfl rfl (fun _ _ => x_load rfl rfl rfl sz3 un3 ag3 rfl) ?_
  refine p_ 10 rfl rfl rfl rfl (.bin rfl rfl rfl rfl) ?_
  refine n_ 11 rfl rfl rfl (fun _ _ => x_load rfl rfl rfl sz3 un3 ag3 rfl) ?_
  refine p_ 12 rfl rfl rfl rfl (.bin rfl rfl rfl rfl) ?_
  obtain ⟨v1, hv1, h⟩ := bindS h
  refine n_ 13 rfl rfl rfl (fun _ _ => x_callP rfl rfl en42 (ok_css_Over hv1) rfl rfl rfl rfl rfl) ?_
  refine r_ 14 0 rfl rfl rfl rfl rfl rfl (fun _ _ hb => .nilCheck rfl rfl (live_bx hb)) ?_
  refine r_ 15 0 rfl rfl rfl rfl rfl rfl (fun _ _ hb => .fieldAddr rfl rfl (live_bx hb) fl41u_1 rfl) ?_
  refine e0 rfl rfl rfl rfl rfl (b' := [some [.int .i32 p0.f_R, .int .i64 v1, .str (bs p0.f_Href)]]) (r' := []) (hb := set_out 0 (some [.int .i32 p0.f_R, .int .i64 v1, .str (bs p0.f_Href)]) rfl rfl) (.store rfl rfl rfl sz3 rfl rfl rfl) rfl ?_
  refine we_nil ?_
  obtain rfl := Option.some.inj h
  exact finB (by first | exact .inr rfl | exact .inl rfl) (.refl _) [] [] [[.int .i32 p0.f_R, .int .i64 v1, .str (bs p0.f_Href)]] res_nil rfl rfl rfl rfl rfl rfl rfl
end Go.PM
