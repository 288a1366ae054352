/-
  The walks: each Go function answers what its plain Lean function answers. Printed. Part 1 of 4. No condition but that the plain function answers.
-/
import Derived.Test.YtimlobidpkglkaaGreatDoorQDocPartsF
import Derived.Test.YtimlobidpkglkaaGreatDoorQDocPartsS
set_option linter.unusedVariables false
set_option linter.unusedSimpArgs false
set_option linter.unusedSectionVars false
set_option linter.unnecessarySimpa false
namespace Go.PM
open Go.RowKit Go.Proofs.Tryz
set_option linter.unusedSimpArgs false
set_option linter.unusedVariables false
set_option maxRecDepth 4000
set_option maxHeartbeats 1000000 in
theorem ok_slices_Replace_apiLine {r : (List (T_api_Line))} {p0 : List (T_api_Line)} {p1 : Int} {p2 : Int} {p3 : List (T_api_Line)} (h : slices_Replace_apiLine p0 p1 p2 p3 = some r) : OkB prog 92 [.own 0, .int .i64 p1, .int .i64 p2, .sl false (List.map c_api_Line p3)] [] [⟨55, 4, List.map c_api_Line p0⟩] (.own 0) [] [⟨55, 4, List.map c_api_Line r⟩] := by
 unfold slices_Replace_apiLine at h
 split at h
 ·rename_i hc
  obtain ⟨h0, h1, h2⟩ := hc
  obtain ⟨hr, hlim⟩ := capO_some h
  subst hr; clear h
  obtain ⟨n, rfl⟩ := Int.eq_ofNat_of_zero_le h0
  subst h2
  have hL : (List.map c_api_Line p0).length = p0.length := by simp
  have hL2 : ((p0.length : Int) == ((List.map c_api_Line p0).length : Nat)) = true := by rw [hL]; exact beq_self_eq_true _
  have hM : (List.map c_api_Line p3).length = p3.length := by simp
  have hn1 : n < p0.length := by omega
  have hn2 : (n : Int).toNat = n := by simp
  simp only [hn2] at hlim ⊢
  have hlim : (n + p3.length) * 65 ≤ 140737488355328 := by simpa [List.length_take, Nat.min_eq_left (Nat.le_of_lt hn1)] using hlim
  have hRL : (List.map c_api_Line (p0.take n ++ p3)).length = n + (List.map c_api_Line p3).length := by simp; omega
  refine okB_view (args := [.int .i64 (n : Int), .int .i64 (p0.length : Int), .sl false (List.map c_api_Line p3)]) (e := 55) (sz := 4) (xs := List.map c_api_Line p0) (ys := List.map c_api_Line (p0.take n ++ p3)) (by intro e; rw [List.map_eq_nil_iff] at e; subst e; simp at hn1) (by decide) rfl (fun x hx => (fl_api_Line.ok p0 x hx).1) (fl_api_Line.ok _) ?_
  intro c hc1 hc2
  have hcl : ((List.map c_api_Line p0).flatten ++ List.replicate ((c - (List.map c_api_Line p0).length) * 4) DV.top).length = c * 4 := by simp only [List.length_append, flat_len (fun x hx => (fl_api_Line.ok p0 x hx).1), List.length_replicate]; omega
  have hds : (((List.map c_api_Line p3).take (List.map c_api_Line p3).length).flatten).length = p3.length * 4 := by rw [List.take_length, flat_len (fun x hx => (fl_api_Line.ok p3 x hx).1), hM]
  have hntC : NT ((List.map c_api_Line p0).flatten ++ List.replicate ((c - (List.map c_api_Line p0).length) * 4) DV.top) := .app (.flat (fl_api_Line.ok p0)) (.rep _)
  have hntZ1 : NT (splice ((List.map c_api_Line p0).flatten ++ List.replicate ((c - (List.map c_api_Line p0).length) * 4) DV.top) (0 + n * 4) ((List.map c_api_Line p3).take (List.map c_api_Line p3).length).flatten) := .splice hntC (by rw [List.take_length]; exact .flat (fl_api_Line.ok p3))
  have hntZ2 : NT (splice (splice ((List.map c_api_Line p0).flatten ++ List.replicate ((c - (List.map c_api_Line p0).length) * 4) DV.top) (0 + n * 4) ((List.map c_api_Line p3).take (List.map c_api_Line p3).length).flatten) (0 + (n + (List.map c_api_Line p3).length) * 4) (List.replicate ((List.map c_api_Line p0).length - (n + (List.map c_api_Line p3).length)) ([.int .i64 0, .sl false [], .int .i64 0, .sl false []] : List DV)).flatten) := .splice hntZ1 (.flat (flatOk_rep rfl rfl : flatOk 4 _))
  have hz1 : n + p3.length ≤ c → (splice ((List.map c_api_Line p0).flatten ++ List.replicate ((c - (List.map c_api_Line p0).length) * 4) DV.top) (0 + n * 4) ((List.map c_api_Line p3).take (List.map c_api_Line p3).length).flatten).length = c * 4 := fun hh => by rw [splice_length (by rw [hds, hcl]; omega), hcl]
  by_cases hfit : n + p3.length ≤ c
  ·replace hz1 := hz1 hfit
   have hk1 : (splice ((List.map c_api_Line p0).flatten ++ List.replicate ((c - (List.map c_api_Line p0).length) * 4) DV.top) (0 + n * 4) ((List.map c_api_Line p3).take (List.map c_api_Line p3).length).flatten).take ((n + (List.map c_api_Line p3).length) * 4) = (List.map c_api_Line (p0.take n ++ p3)).flatten := by
    have e1 : (n + (List.map c_api_Line p3).length) * 4 = (0 + n * 4) + (((List.map c_api_Line p3).take (List.map c_api_Line p3).length).flatten).length := by rw [hds, hM]; omega
    rw [e1, splice_take_hi (by rw [hcl]; omega), Nat.zero_add, flat_take (fun x hx => (fl_api_Line.ok p0 x hx).1) (by omega), List.take_length, List.map_append, List.flatten_append, List.map_take]
   by_cases hclr : n + p3.length < p0.length
   ·refine ⟨.vw 0 0 (n + (List.map c_api_Line p3).length) c, splice (splice ((List.map c_api_Line p0).flatten ++ List.replicate ((c - (List.map c_api_Line p0).length) * 4) DV.top) (0 + n * 4) ((List.map c_api_Line p3).take (List.map c_api_Line p3).length).flatten) (0 + (n + (List.map c_api_Line p3).length) * 4) (List.replicate ((List.map c_api_Line p0).length - (n + (List.map c_api_Line p3).length)) ([.int .i64 0, .sl false [], .int .i64 0, .sl false []] : List DV)).flatten, [], ?_, .inl ⟨(splice (splice ((List.map c_api_Line p0).flatten ++ List.replicate ((c - (List.map c_api_Line p0).length) * 4) DV.top) (0 + n * 4) ((List.map c_api_Line p3).take (List.map c_api_Line p3).length).flatten) (0 + (n + (List.map c_api_Line p3).length) * 4) (List.replicate ((List.map c_api_Line p0).length - (n + (List.map c_api_Line p3).length)) ([.int .i64 0, .sl false [], .int .i64 0, .sl false []] : List DV)).flatten).drop ((n + (List.map c_api_Line p3).length) * 4), by rw [hRL], ?_, by rw [hRL]; omega, rfl⟩⟩
    ·refine okB_of_exG func92 rfl rfl (s0 := [.vw 0 0 (List.map c_api_Line p0).length c, .int .i64 (n : Int), .int .i64 (p0.length : Int), .sl false (List.map c_api_Line p3), .top, .top, .top, .top, .top, .top, .top, .top, .top, .top, .top, .top, .top, .top, .top, .top, .top, .top, .top, .top, .top, .top, .top, .top, .top, .top, .top, .top, .top, .top, .top, .top, .top, .top, .top, .top, .top, .top, .top, .top, .top, .top, .top, .top, .top, .top, .top, .top, .top, .top, .top, .top, .top, .top, .top, .top, .top, .top, .top, .top, .top, .top, .top, .top, .top, .top, .top, .top, .top, .top, .top, .top, .top, .top, .top, .top, .top, .top, .top, .top, .top, .top, .top, .top, .top, .top, .top, .top, .top, .top, .top, .top, .top, .top, .top, .top, .top, .top, .top, .top, .top, .top, .top, .top, .top, .top, .top, .top, .top, .top, .top, .top, .top, .top, .top, .top, .top, .top, .top, .top, .top, .top, .top, .top, .top, .top, .top, .top, .top, .top, .top, .top, .top, .top, .top, .top, .top, .top, .top, .top, .top, .top, .top, .top, .top, .top, .top, .top, .top, .top, .top, .top, .top, .top, .top, .top, .top, .top, .top, .top, .top, .top, .top, .top, .top, .top, .top, .top, .top, .top, .top, .top, .top, .top, .top, .top, .top, .top, .top, .top, .top, .top, .top, .top, .top, .top, .top, .top, .top, .top, .top, .top, .top, .top, .top, .top, .top, .top, .top, .top, .top, .top, .top, .top, .top, .top, .top, .top, .top, .top, .top, .top, .top, .top, .top, .top, .top, .top, .top, .top]) (b0 := [some ((List.map c_api_Line p0).flatten ++ List.replicate ((c - (List.map c_api_Line p0).length) * 4) DV.top)]) (r0 := []) rfl rfl rfl ?_
     show Ex _ _ _ ⟨[.vw 0 0 (List.map c_api_Line p0).length c, .int .i64 (n : Int), .int .i64 (p0.length : Int), .sl false (List.map c_api_Line p3), .top, .top, .top, .top, .top, .top, .top, .top, .top, .top, .top, .top, .top, .top, .top, .top, .top, .top, .top, .top, .top, .top, .top, .top, .top, .top, .top, .top, .top, .top, .top, .top, .top, .top, .top, .top, .top, .top, .top, .top, .top, .top, .top, .top, .top, .top, .top, .top, .top, .top, .top, .top, .top, .top, .top, .top, .top, .top, .top, .top, .top, .top, .top, .top, .top, .top, .top, .top, .top, .top, .top, .top, .top, .top, .top, .top, .top, .top, .top, .top, .top, .top, .top, .top, .top, .top, .top, .top, .top, .top, .top, .top, .top, .top, .top, .top, .top, .top, .top, .top, .top, .top, .top, .top, .top, .top, .top, .top, .top, .top, .top, .top, .top, .top, .top, .top, .top, .top, .top, .top, .top, .top, .top, .top, .top, .top, .top, .top, .top, .top, .top, .top, .top, .top, .top, .top, .top, .top, .top, .top, .top, .top, .top, .top, .top, .top, .top, .top, .top, .top, .top, .top, .top, .top, .top, .top, .top, .top, .top, .top, .top, .top, .top, .top, .top, .top, .top, .top, .top, .top, .top, .top, .top, .top, .top, .top, .top, .top, .top, .top, .top, .top, .top, .top, .top, .top, .top, .top, .top, .top, .top, .top, .top, .top, .top, .top, .top, .top, .top, .top, .top, .top, .top, .top, .top, .top, .top, .top, .top, .top, .top, .top, .top, .top, .top, .top, .top, .top, .top, .top], [some ((List.map c_api_Line p0).flatten ++ List.replicate ((c - (List.map c_api_Line p0).length) * 4) DV.top)], [], 1⟩ _
     refine ex_seq ?_
     refine ex_ord [] (l := [0]) rfl ?_
     refine p_ 8 rfl rfl rfl rfl (.assign rfl rfl) ?_
     refine we_nil ?_
     refine ex_seq ?_
     refine ex_ord [] (l := [0, 1, 2, 3]) rfl ?_
     refine p_ 15 rfl rfl rfl rfl (.move rfl rfl) ?_
     refine p_ 16 rfl rfl rfl rfl (.move rfl rfl) ?_
     refine p_ 17 rfl rfl rfl rfl (.move rfl rfl) ?_
     refine p_ 18 rfl rfl rfl rfl (.sliceV rfl rfl rfl el22 sz55 ⟨_, rfl⟩ ⟨_, rfl⟩ h0 (by omega) (by omega)) ?_
     refine we_nil ?_
     refine ex_seq ?_
     refine ex_seq ?_
     refine ex_ord [] (l := [0, 1, 2]) rfl ?_
     refine p_ 19 rfl rfl rfl rfl (.move rfl rfl) ?_
     refine p_ 20 rfl rfl rfl rfl (.move rfl rfl) ?_
     refine p_ 21 rfl rfl rfl rfl (.bin rfl rfl rfl rfl) ?_
     refine we_nil ?_
     refine ex_if rfl (fun hq => absurd (beq_iff_eq.1 hq) (by omega)) (fun _ => ?_)
     refine ex_skip ?_
     refine ex_seq ?_
     refine ex_seq ?_
     refine ex_ord [] (l := [0, 1, 2, 3]) rfl ?_
     refine p_ 26 rfl rfl rfl rfl (.move rfl rfl) ?_
     refine p_ 27 rfl rfl rfl rfl (.move rfl rfl) ?_
     refine p_ 28 rfl rfl rfl rfl (.lenV rfl rfl rfl el22) ?_
     refine p_ 29 rfl rfl rfl rfl (.bin rfl rfl rfl rfl) ?_
     refine we_nil ?_
     refine ex_if rfl (fun _ => ?_) (fun hq => Bool.noConfusion (hL2.symm.trans hq))
     refine ex_seq ?_
     refine ex_ord [4] (l := [0, 1, 2, 3, 4, 5]) rfl ?_
     refine p_ 30 rfl rfl rfl rfl (.move rfl rfl) ?_
     refine p_ 31 rfl rfl rfl rfl (.move rfl rfl) ?_
     refine p_ (d := .vw 0 0 n c) 32 rfl rfl rfl rfl (x_sliceV 0 n c rfl rfl rfl el22 sz55 rfl ⟨_, rfl⟩ (Int.le_refl 0) h0 (by omega) (by simp) (by simp) (by simp)) ?_
     refine p_ 33 rfl rfl rfl rfl (.move rfl rfl) ?_
     refine e_ (d := .vw 0 0 (n + (List.map c_api_Line p3).length) c) 34 rfl rfl rfl rfl rfl (b' := [some (splice ((List.map c_api_Line p0).flatten ++ List.replicate ((c - (List.map c_api_Line p0).length) * 4) DV.top) (0 + n * 4) ((List.map c_api_Line p3).take (List.map c_api_Line p3).length).flatten)]) (r' := []) (.appV rfl rfl rfl el22 sz55 (.sl (by decide) rfl rfl (fl_api_Line.ok p3) (Nat.le_refl _)) (by omega) (by rw [hds, hcl]; omega)) rfl ?_
     refine p_ 9 rfl rfl rfl rfl (.assign rfl rfl) ?_
     refine we_nil ?_
     refine ex_seq ?_
     refine ex_seq ?_
     refine ex_ord [] (l := [0, 1, 2, 3, 4]) rfl ?_
     refine p_ 35 rfl rfl rfl rfl (.move rfl rfl) ?_
     refine p_ 36 rfl rfl rfl rfl (.lenV rfl rfl rfl el22) ?_
     refine p_ 37 rfl rfl rfl rfl (.move rfl rfl) ?_
     refine p_ 38 rfl rfl rfl rfl (.lenV rfl rfl rfl el22) ?_
     refine p_ 39 rfl rfl rfl rfl (.bin rfl rfl rfl rfl) ?_
     refine we_nil ?_
     refine ex_if rfl (fun _ => ?_) (fun hq => Bool.noConfusion ((decide_eq_true (show ((n + (List.map c_api_Line p3).length : Nat) : Int) < ((List.map c_api_Line p0).length : Nat) by omega)).symm.trans hq))
     refine ex_ord [4] (l := [0, 1, 2, 3, 4]) rfl ?_
     refine p_ 40 rfl rfl rfl rfl (.move rfl rfl) ?_
     refine p_ 41 rfl rfl rfl rfl (.move rfl rfl) ?_
     refine p_ 42 rfl rfl rfl rfl (.lenV rfl rfl rfl el22) ?_
     refine p_ (d := .vw 0 (0 + (n + (List.map c_api_Line p3).length) * 4) ((List.map c_api_Line p0).length - (n + (List.map c_api_Line p3).length)) (c - (n + (List.map c_api_Line p3).length))) 43 rfl rfl rfl rfl (x_sliceV _ _ _ rfl rfl rfl el22 sz55 ⟨_, rfl⟩ rfl (by omega) (by omega) (by omega) (by rw [if_neg (by omega)]; simp; omega) (by simp; omega) (by simp; omega)) ?_
     refine e0 rfl rfl rfl rfl rfl (b' := [some (splice (splice ((List.map c_api_Line p0).flatten ++ List.replicate ((c - (List.map c_api_Line p0).length) * 4) DV.top) (0 + n * 4) ((List.map c_api_Line p3).take (List.map c_api_Line p3).length).flatten) (0 + (n + (List.map c_api_Line p3).length) * 4) (List.replicate ((List.map c_api_Line p0).length - (n + (List.map c_api_Line p3).length)) ([.int .i64 0, .sl false [], .int .i64 0, .sl false []] : List DV)).flatten)]) (r' := []) (.clearV rfl rfl rfl el22 ze55 (by decide) (by rw [hz1]; show 0 + (n + (List.map c_api_Line p3).length) * 4 + ((List.map c_api_Line p0).length - (n + (List.map c_api_Line p3).length)) * 4 ≤ c * 4; omega)) rfl ?_
     refine we_nil ?_
     refine ex_seq ?_
     refine ex_ord [] (l := [0, 1]) rfl ?_
     refine p_ 44 rfl rfl rfl rfl (.move rfl rfl) ?_
     refine p_ 8 rfl rfl rfl rfl (.assign rfl rfl) ?_
     refine we_nil ?_
     refine ex_ret ?_
     exact finBV (.inr rfl) (.refl _) [.vw 0 0 (n + (List.map c_api_Line p3).length) c] [] [splice (splice ((List.map c_api_Line p0).flatten ++ List.replicate ((c - (List.map c_api_Line p0).length) * 4) DV.top) (0 + n * 4) ((List.map c_api_Line p3).take (List.map c_api_Line p3).length).flatten) (0 + (n + (List.map c_api_Line p3).length) * 4) (List.replicate ((List.map c_api_Line p0).length - (n + (List.map c_api_Line p3).length)) ([.int .i64 0, .sl false [], .int .i64 0, .sl false []] : List DV)).flatten] (res_cons (res_tmp rfl) res_nil) rfl rfl rfl rfl rfl (NT.res hntZ2) (NT.ren hntZ2)
    ·rw [← hk1, ← splice_take_lo (l := splice ((List.map c_api_Line p0).flatten ++ List.replicate ((c - (List.map c_api_Line p0).length) * 4) DV.top) (0 + n * 4) ((List.map c_api_Line p3).take (List.map c_api_Line p3).length).flatten) (k := (n + (List.map c_api_Line p3).length) * 4) (m := (List.replicate ((List.map c_api_Line p0).length - (n + (List.map c_api_Line p3).length)) ([.int .i64 0, .sl false [], .int .i64 0, .sl false []] : List DV)).flatten) (off := 0 + (n + (List.map c_api_Line p3).length) * 4) (by omega) (by rw [hz1]; omega)]
     exact (List.take_append_drop _ _).symm
   ·refine ⟨.vw 0 0 (n + (List.map c_api_Line p3).length) c, splice ((List.map c_api_Line p0).flatten ++ List.replicate ((c - (List.map c_api_Line p0).length) * 4) DV.top) (0 + n * 4) ((List.map c_api_Line p3).take (List.map c_api_Line p3).length).flatten, [], ?_, .inl ⟨(splice ((List.map c_api_Line p0).flatten ++ List.replicate ((c - (List.map c_api_Line p0).length) * 4) DV.top) (0 + n * 4) ((List.map c_api_Line p3).take (List.map c_api_Line p3).length).flatten).drop ((n + (List.map c_api_Line p3).length) * 4), by rw [hRL], ?_, by rw [hRL]; omega, rfl⟩⟩
    ·refine okB_of_exG func92 rfl rfl (s0 := [.vw 0 0 (List.map c_api_Line p0).length c, .int .i64 (n : Int), .int .i64 (p0.length : Int), .sl false (List.map c_api_Line p3), .top, .top, .top, .top, .top, .top, .top, .top, .top, .top, .top, .top, .top, .top, .top, .top, .top, .top, .top, .top, .top, .top, .top, .top, .top, .top, .top, .top, .top, .top, .top, .top, .top, .top, .top, .top, .top, .top, .top, .top, .top, .top, .top, .top, .top, .top, .top, .top, .top, .top, .top, .top, .top, .top, .top, .top, .top, .top, .top, .top, .top, .top, .top, .top, .top, .top, .top, .top, .top, .top, .top, .top, .top, .top, .top, .top, .top, .top, .top, .top, .top, .top, .top, .top, .top, .top, .top, .top, .top, .top, .top, .top, .top, .top, .top, .top, .top, .top, .top, .top, .top, .top, .top, .top, .top, .top, .top, .top, .top, .top, .top, .top, .top, .top, .top, .top, .top, .top, .top, .top, .top, .top, .top, .top, .top, .top, .top, .top, .top, .top, .top, .top, .top, .top, .top, .top, .top, .top, .top, .top, .top, .top, .top, .top, .top, .top, .top, .top, .top, .top, .top, .top, .top, .top, .top, .top, .top, .top, .top, .top, .top, .top, .top, .top, .top, .top, .top, .top, .top, .top, .top, .top, .top, .top, .top, .top, .top, .top, .top, .top, .top, .top, .top, .top, .top, .top, .top, .top, .top, .top, .top, .top, .top, .top, .top, .top, .top, .top, .top, .top, .top, .top, .top, .top, .top, .top, .top, .top, .top, .top, .top, .top, .top, .top, .top, .top, .top, .top, .top, .top]) (b0 := [some ((List.map c_api_Line p0).flatten ++ List.replicate ((c - (List.map c_api_Line p0).length) * 4) DV.top)]) (r0 := []) rfl rfl rfl ?_
     show Ex _ _ _ ⟨[.vw 0 0 (List.map c_api_Line p0).length c, .int .i64 (n : Int), .int .i64 (p0.length : Int), .sl false (List.map c_api_Line p3), .top, .top, .top, .top, .top, .top, .top, .top, .top, .top, .top, .top, .top, .top, .top, .top, .top, .top, .top, .top, .top, .top, .top, .top, .top, .top, .top, .top, .top, .top, .top, .top, .top, .top, .top, .top, .top, .top, .top, .top, .top, .top, .top, .top, .top, .top, .top, .top, .top, .top, .top, .top, .top, .top, .top, .top, .top, .top, .top, .top, .top, .top, .top, .top, .top, .top, .top, .top, .top, .top, .top, .top, .top, .top, .top, .top, .top, .top, .top, .top, .top, .top, .top, .top, .top, .top, .top, .top, .top, .top, .top, .top, .top, .top, .top, .top, .top, .top, .top, .top, .top, .top, .top, .top, .top, .top, .top, .top, .top, .top, .top, .top, .top, .top, .top, .top, .top, .top, .top, .top, .top, .top, .top, .top, .top, .top, .top, .top, .top, .top, .top, .top, .top, .top, .top, .top, .top, .top, .top, .top, .top, .top, .top, .top, .top, .top, .top, .top, .top, .top, .top, .top, .top, .top, .top, .top, .top, .top, .top, .top, .top, .top, .top, .top, .top, .top, .top, .top, .top, .top, .top, .top, .top, .top, .top, .top, .top, .top, .top, .top, .top, .top, .top, .top, .top, .top, .top, .top, .top, .top, .top, .top, .top, .top, .top, .top, .top, .top, .top, .top, .top, .top, .top, .top, .top, .top, .top, .top, .top, .top, .top, .top, .top, .top, .top, .top, .top, .top, .top, .top], [some ((List.map c_api_Line p0).flatten ++ List.replicate ((c - (List.map c_api_Line p0).length) * 4) DV.top)], [], 1⟩ _
     refine ex_seq ?_
     refine ex_ord [] (l := [0]) rfl ?_
     refine p_ 8 rfl rfl rfl rfl (.assign rfl rfl) ?_
     refine we_nil ?_
     refine ex_seq ?_
     refine ex_ord [] (l := [0, 1, 2, 3]) rfl ?_
     refine p_ 15 rfl rfl rfl rfl (.move rfl rfl) ?_
     refine p_ 16 rfl rfl rfl rfl (.move rfl rfl) ?_
     refine p_ 17 rfl rfl rfl rfl (.move rfl rfl) ?_
     refine p_ 18 rfl rfl rfl rfl (.sliceV rfl rfl rfl el22 sz55 ⟨_, rfl⟩ ⟨_, rfl⟩ h0 (by omega) (by omega)) ?_
     refine we_nil ?_
     refine ex_seq ?_
     refine ex_seq ?_
     refine ex_ord [] (l := [0, 1, 2]) rfl ?_
     refine p_ 19 rfl rfl rfl rfl (.move rfl rfl) ?_
     refine p_ 20 rfl rfl rfl rfl (.move rfl rfl) ?_
     refine p_ 21 rfl rfl rfl rfl (.bin rfl rfl rfl rfl) ?_
     refine we_nil ?_
     refine ex_if rfl (fun hq => absurd (beq_iff_eq.1 hq) (by omega)) (fun _ => ?_)
     refine ex_skip ?_
     refine ex_seq ?_
     refine ex_seq ?_
     refine ex_ord [] (l := [0, 1, 2, 3]) rfl ?_
     refine p_ 26 rfl rfl rfl rfl (.move rfl rfl) ?_
     refine p_ 27 rfl rfl rfl rfl (.move rfl rfl) ?_
     refine p_ 28 rfl rfl rfl rfl (.lenV rfl rfl rfl el22) ?_
     refine p_ 29 rfl rfl rfl rfl (.bin rfl rfl rfl rfl) ?_
     refine we_nil ?_
     refine ex_if rfl (fun _ => ?_) (fun hq => Bool.noConfusion (hL2.symm.trans hq))
     refine ex_seq ?_
     refine ex_ord [4] (l := [0, 1, 2, 3, 4, 5]) rfl ?_
     refine p_ 30 rfl rfl rfl rfl (.move rfl rfl) ?_
     refine p_ 31 rfl rfl rfl rfl (.move rfl rfl) ?_
     refine p_ (d := .vw 0 0 n c) 32 rfl rfl rfl rfl (x_sliceV 0 n c rfl rfl rfl el22 sz55 rfl ⟨_, rfl⟩ (Int.le_refl 0) h0 (by omega) (by simp) (by simp) (by simp)) ?_
     refine p_ 33 rfl rfl rfl rfl (.move rfl rfl) ?_
     refine e_ (d := .vw 0 0 (n + (List.map c_api_Line p3).length) c) 34 rfl rfl rfl rfl rfl (b' := [some (splice ((List.map c_api_Line p0).flatten ++ List.replicate ((c - (List.map c_api_Line p0).length) * 4) DV.top) (0 + n * 4) ((List.map c_api_Line p3).take (List.map c_api_Line p3).length).flatten)]) (r' := []) (.appV rfl rfl rfl el22 sz55 (.sl (by decide) rfl rfl (fl_api_Line.ok p3) (Nat.le_refl _)) (by omega) (by rw [hds, hcl]; omega)) rfl ?_
     refine p_ 9 rfl rfl rfl rfl (.assign rfl rfl) ?_
     refine we_nil ?_
     refine ex_seq ?_
     refine ex_seq ?_
     refine ex_ord [] (l := [0, 1, 2, 3, 4]) rfl ?_
     refine p_ 35 rfl rfl rfl rfl (.move rfl rfl) ?_
     refine p_ 36 rfl rfl rfl rfl (.lenV rfl rfl rfl el22) ?_
     refine p_ 37 rfl rfl rfl rfl (.move rfl rfl) ?_
     refine p_ 38 rfl rfl rfl rfl (.lenV rfl rfl rfl el22) ?_
     refine p_ 39 rfl rfl rfl rfl (.bin rfl rfl rfl rfl) ?_
     refine we_nil ?_
     refine ex_if rfl (fun hq => absurd (of_decide_eq_true hq) (by omega)) (fun _ => ?_)
     refine ex_skip ?_
     refine ex_seq ?_
     refine ex_ord [] (l := [0, 1]) rfl ?_
     refine p_ 44 rfl rfl rfl rfl (.move rfl rfl) ?_
     refine p_ 8 rfl rfl rfl rfl (.assign rfl rfl) ?_
     refine we_nil ?_
     refine ex_ret ?_
     exact finBV (.inr rfl) (.refl _) [.vw 0 0 (n + (List.map c_api_Line p3).length) c] [] [splice ((List.map c_api_Line p0).flatten ++ List.replicate ((c - (List.map c_api_Line p0).length) * 4) DV.top) (0 + n * 4) ((List.map c_api_Line p3).take (List.map c_api_Line p3).length).flatten] (res_cons (res_tmp rfl) res_nil) rfl rfl rfl rfl rfl (NT.res hntZ1) (NT.ren hntZ1)
    ·rw [← hk1]
     exact (List.take_append_drop _ _).symm
  ·refine ⟨.own 0, (List.map c_api_Line p0).flatten ++ List.replicate ((c - (List.map c_api_Line p0).length) * 4) DV.top, _, ?_, .inr ⟨rfl, rfl⟩⟩
   refine okB_of_exG func92 rfl rfl (s0 := [.vw 0 0 (List.map c_api_Line p0).length c, .int .i64 (n : Int), .int .i64 (p0.length : Int), .sl false (List.map c_api_Line p3), .top, .top, .top, .top, .top, .top, .top, .top, .top, .top, .top, .top, .top, .top, .top, .top, .top, .top, .top, .top, .top, .top, .top, .top, .top, .top, .top, .top, .top, .top, .top, .top, .top, .top, .top, .top, .top, .top, .top, .top, .top, .top, .top, .top, .top, .top, .top, .top, .top, .top, .top, .top, .top, .top, .top, .top, .top, .top, .top, .top, .top, .top, .top, .top, .top, .top, .top, .top, .top, .top, .top, .top, .top, .top, .top, .top, .top, .top, .top, .top, .top, .top, .top, .top, .top, .top, .top, .top, .top, .top, .top, .top, .top, .top, .top, .top, .top, .top, .top, .top, .top, .top, .top, .top, .top, .top, .top, .top, .top, .top, .top, .top, .top, .top, .top, .top, .top, .top, .top, .top, .top, .top, .top, .top, .top, .top, .top, .top, .top, .top, .top, .top, .top, .top, .top, .top, .top, .top, .top, .top, .top, .top, .top, .top, .top, .top, .top, .top, .top, .top, .top, .top, .top, .top, .top, .top, .top, .top, .top, .top, .top, .top, .top, .top, .top, .top, .top, .top, .top, .top, .top, .top, .top, .top, .top, .top, .top, .top, .top, .top, .top, .top, .top, .top, .top, .top, .top, .top, .top, .top, .top, .top, .top, .top, .top, .top, .top, .top, .top, .top, .top, .top, .top, .top, .top, .top, .top, .top, .top, .top, .top, .top, .top, .top, .top, .top, .top, .top, .top, .top]) (b0 := [some ((List.map c_api_Line p0).flatten ++ List.replicate ((c - (List.map c_api_Line p0).length) * 4) DV.top)]) (r0 := []) rfl rfl rfl ?_
   show Ex _ _ _ ⟨[.vw 0 0 (List.map c_api_Line p0).length c, .int .i64 (n : Int), .int .i64 (p0.length : Int), .sl false (List.map c_api_Line p3), .top, .top, .top, .top, .top, .top, .top, .top, .top, .top, .top, .top, .top, .top, .top, .top, .top, .top, .top, .top, .top, .top, .top, .top, .top, .top, .top, .top, .top, .top, .top, .top, .top, .top, .top, .top, .top, .top, .top, .top, .top, .top, .top, .top, .top, .top, .top, .top, .top, .top, .top, .top, .top, .top, .top, .top, .top, .top, .top, .top, .top, .top, .top, .top, .top, .top, .top, .top, .top, .top, .top, .top, .top, .top, .top, .top, .top, .top, .top, .top, .top, .top, .top, .top, .top, .top, .top, .top, .top, .top, .top, .top, .top, .top, .top, .top, .top, .top, .top, .top, .top, .top, .top, .top, .top, .top, .top, .top, .top, .top, .top, .top, .top, .top, .top, .top, .top, .top, .top, .top, .top, .top, .top, .top, .top, .top, .top, .top, .top, .top, .top, .top, .top, .top, .top, .top, .top, .top, .top, .top, .top, .top, .top, .top, .top, .top, .top, .top, .top, .top, .top, .top, .top, .top, .top, .top, .top, .top, .top, .top, .top, .top, .top, .top, .top, .top, .top, .top, .top, .top, .top, .top, .top, .top, .top, .top, .top, .top, .top, .top, .top, .top, .top, .top, .top, .top, .top, .top, .top, .top, .top, .top, .top, .top, .top, .top, .top, .top, .top, .top, .top, .top, .top, .top, .top, .top, .top, .top, .top, .top, .top, .top, .top, .top, .top, .top, .top, .top, .top, .top], [some ((List.map c_api_Line p0).flatten ++ List.replicate ((c - (List.map c_api_Line p0).length) * 4) DV.top)], [], 1⟩ _
   refine ex_seq ?_
   refine ex_ord [] (l := [0]) rfl ?_
   refine p_ 8 rfl rfl rfl rfl (.assign rfl rfl) ?_
   refine we_nil ?_
   refine ex_seq ?_
   refine ex_ord [] (l := [0, 1, 2, 3]) rfl ?_
   refine p_ 15 rfl rfl rfl rfl (.move rfl rfl) ?_
   refine p_ 16 rfl rfl rfl rfl (.move rfl rfl) ?_
   refine p_ 17 rfl rfl rfl rfl (.move rfl rfl) ?_
   refine p_ 18 rfl rfl rfl rfl (.sliceV rfl rfl rfl el22 sz55 ⟨_, rfl⟩ ⟨_, rfl⟩ h0 (by omega) (by omega)) ?_
   refine we_nil ?_
   refine ex_seq ?_
   refine ex_seq ?_
   refine ex_ord [] (l := [0, 1, 2]) rfl ?_
   refine p_ 19 rfl rfl rfl rfl (.move rfl rfl) ?_
   refine p_ 20 rfl rfl rfl rfl (.move rfl rfl) ?_
   refine p_ 21 rfl rfl rfl rfl (.bin rfl rfl rfl rfl) ?_
   refine we_nil ?_
   refine ex_if rfl (fun hq => absurd (beq_iff_eq.1 hq) (by omega)) (fun _ => ?_)
   refine ex_skip ?_
   refine ex_seq ?_
   refine ex_seq ?_
   refine ex_ord [] (l := [0, 1, 2, 3]) rfl ?_
   refine p_ 26 rfl rfl rfl rfl (.move rfl rfl) ?_
   refine p_ 27 rfl rfl rfl rfl (.move rfl rfl) ?_
   refine p_ 28 rfl rfl rfl rfl (.lenV rfl rfl rfl el22) ?_
   refine p_ 29 rfl rfl rfl rfl (.bin rfl rfl rfl rfl) ?_
   refine we_nil ?_
   refine ex_if rfl (fun _ => ?_) (fun hq => Bool.noConfusion (hL2.symm.trans hq))
   refine ex_seq ?_
   refine ex_ord [4] (l := [0, 1, 2, 3, 4, 5]) rfl ?_
   refine p_ 30 rfl rfl rfl rfl (.move rfl rfl) ?_
   refine p_ 31 rfl rfl rfl rfl (.move rfl rfl) ?_
   refine p_ (d := .vw 0 0 n c) 32 rfl rfl rfl rfl (x_sliceV 0 n c rfl rfl rfl el22 sz55 rfl ⟨_, rfl⟩ (Int.le_refl 0) h0 (by omega) (by simp) (by simp) (by simp)) ?_
   refine p_ 33 rfl rfl rfl rfl (.move rfl rfl) ?_
   refine e_ (d := .own 0) 34 rfl rfl rfl rfl rfl (b' := [some ((List.map c_api_Line p0).flatten ++ List.replicate ((c - (List.map c_api_Line p0).length) * 4) DV.top)]) (r' := [some ⟨55, 4, (List.map c_api_Line p0).take n ++ List.map c_api_Line p3⟩]) (.appVG rfl rfl rfl el22 rw55 (xs := (List.map c_api_Line p0).take n) (ys := List.map c_api_Line p3) (len := (List.map c_api_Line p3).length) (.all (by decide) rfl rfl (fl_api_Line.ok p3)) rfl (fl_api_Line.ok p3) (by simp; omega) (fun x hx => fl_api_Line.ok p0 x (List.mem_of_mem_take hx)) (by rw [hcl]; omega) (by rw [List.drop_zero]; exact flat_take (fun x hx => (fl_api_Line.ok p0 x hx).1) (by omega)) (by omega) (by omega) (by omega)) rfl ?_
   refine p_ 9 rfl rfl rfl rfl (.assign rfl rfl) ?_
   refine we_nil ?_
   refine ex_seq ?_
   refine ex_seq ?_
   refine ex_ord [] (l := [0, 1, 2, 3, 4]) rfl ?_
   refine p_ 35 rfl rfl rfl rfl (.move rfl rfl) ?_
   refine p_ 36 rfl rfl rfl rfl (.lenSl rfl rfl rfl el22) ?_
   refine p_ 37 rfl rfl rfl rfl (.move rfl rfl) ?_
   refine p_ 38 rfl rfl rfl rfl (.lenV rfl rfl rfl el22) ?_
   refine p_ 39 rfl rfl rfl rfl (.bin rfl rfl rfl rfl) ?_
   refine we_nil ?_
   refine ex_if rfl (fun hq => absurd (of_decide_eq_true hq) (by simp; omega)) (fun _ => ?_)
   refine ex_skip ?_
   refine ex_seq ?_
   refine ex_ord [] (l := [0, 1]) rfl ?_
   refine p_ 44 rfl rfl rfl rfl (.move rfl rfl) ?_
   refine p_ 8 rfl rfl rfl rfl (.assign rfl rfl) ?_
   refine we_nil ?_
   refine ex_ret ?_
   exact finBV (.inr rfl) (.refl _) [.own 0] [0] [(List.map c_api_Line p0).flatten ++ List.replicate ((c - (List.map c_api_Line p0).length) * 4) DV.top] (res_cons (res_tmp rfl) res_nil) rfl (by rw [List.map_append, List.map_take]; rfl) rfl rfl rfl (NT.res hntC) (NT.ren hntC)
 split at h
 case isFalse => cases h
 rename_i hc
 obtain ⟨h0, h1, h2, h3⟩ := hc
 obtain rfl := Option.some.inj h
 clear h
 obtain ⟨n, rfl⟩ := Int.eq_ofNat_of_zero_le h0
 obtain ⟨j, rfl⟩ := Int.eq_ofNat_of_zero_le (show 0 ≤ p2 by omega)
 have hL : (List.map c_api_Line p0).length = p0.length := by simp
 have hM : (List.map c_api_Line p3).length = p3.length := by simp
 have hn2 : (n : Int).toNat = n := by simp
 have hj2 : (j : Int).toNat = j := by simp
 simp only [hn2, hj2]
 obtain ⟨T, hT⟩ : ∃ T, n + (List.map c_api_Line p3).length + ((List.map c_api_Line p0).length - j) = T := ⟨_, rfl⟩
 have hRL : (List.map c_api_Line (p0.take n ++ (p3 ++ p0.drop j))).length = T := by simp; omega
 have hRf : (List.map c_api_Line (p0.take n ++ (p3 ++ p0.drop j))) = (List.map c_api_Line p0).take n ++ (List.map c_api_Line p3 ++ (List.map c_api_Line p0).drop j) := by simp [List.map_append, List.map_take, List.map_drop]
 have hmx : maxLen = 9223372036854775807 := rfl
 refine okB_view (args := [.int .i64 (n : Int), .int .i64 (j : Int), .sl false (List.map c_api_Line p3)]) (e := 55) (sz := 4) (xs := List.map c_api_Line p0) (ys := List.map c_api_Line (p0.take n ++ (p3 ++ p0.drop j))) (by intro e; rw [List.map_eq_nil_iff] at e; subst e; simp at h2; omega) (by decide) rfl (fun x hx => (fl_api_Line.ok p0 x hx).1) (fl_api_Line.ok _) ?_
 intro c hc1 hc2
 have hcl : ((List.map c_api_Line p0).flatten ++ List.replicate ((c - (List.map c_api_Line p0).length) * 4) DV.top).length = c * 4 := by simp only [List.length_append, flat_len (fun x hx => (fl_api_Line.ok p0 x hx).1), List.length_replicate]; omega
 obtain ⟨hb1, hb2, hb3, hb4⟩ := repl_fit (X := List.map c_api_Line p0) (Y := List.map c_api_Line p3) (T0 := List.replicate ((c - (List.map c_api_Line p0).length) * 4) DV.top) (n := n) (j := j) (fun x hx => (fl_api_Line.ok p0 x hx).1) (fun x hx => (fl_api_Line.ok p3 x hx).1) rfl (by omega) (by omega)
 rw [hT, ← hRf] at hb4
 have hYf : (List.map c_api_Line p3).flatten.length = (List.map c_api_Line p3).length * 4 := flat_len (fun x hx => (fl_api_Line.ok p3 x hx).1)
 have hDf : ((List.map c_api_Line p0).drop j).flatten.length = ((List.map c_api_Line p0).length - j) * 4 := by rw [flat_len (fun x hx => (fl_api_Line.ok p0 x (List.mem_of_mem_drop hx)).1)]; simp
 have hall : ((List.map c_api_Line p0).drop j).flatten.all (fun d => d.one && !d.tok) = true := by
  rw [List.all_eq_true]; intro d hd; obtain ⟨l, hl, hd⟩ := List.mem_flatten.1 hd; have := (fl_api_Line.ok p0 l (List.mem_of_mem_drop hl)).2 d hd; simp [this.1, this.2]
 have hmin1 : Nat.min ((List.map c_api_Line p3).length) (T - n) = (List.map c_api_Line p3).length := Nat.min_eq_left (by omega)
 have hmin2 : Nat.min ((List.map c_api_Line p0).length - j) (T - (n + (List.map c_api_Line p3).length)) = (List.map c_api_Line p0).length - j := Nat.min_eq_left (by omega)
 have hoff : (if c = T then 0 else 0 + T * 4) + ((List.map c_api_Line p0).length - T) * ([.int .i64 0, .sl false [], .int .i64 0, .sl false []] : List DV).length ≤ c * 4 := by
  show (if c = T then 0 else 0 + T * 4) + ((List.map c_api_Line p0).length - T) * 4 ≤ c * 4; split <;> omega
 have hk3 : (splice (splice (splice ((List.map c_api_Line p0).flatten ++ List.replicate ((c - (List.map c_api_Line p0).length) * 4) DV.top) (0 + n * 4) (List.map c_api_Line p3).flatten) (0 + (n + (List.map c_api_Line p3).length) * 4) ((List.map c_api_Line p0).drop j).flatten) (if c = T then 0 else 0 + T * 4) (List.replicate ((List.map c_api_Line p0).length - T) ([.int .i64 0, .sl false [], .int .i64 0, .sl false []] : List DV)).flatten).take (T * 4) = (List.map c_api_Line (p0.take n ++ (p3 ++ p0.drop j))).flatten := by
  by_cases hh : T < (List.map c_api_Line p0).length
  ·rw [if_neg (show ¬ c = T by omega), splice_take_lo (by omega) (by rw [hb3, hcl]; omega), hb4]
  ·have : (List.map c_api_Line p0).length - T = 0 := by omega
   rw [this]; simp only [List.replicate_zero, List.flatten_nil, splice_nil]; exact hb4
 have hntC3 : NT (splice (splice (splice ((List.map c_api_Line p0).flatten ++ List.replicate ((c - (List.map c_api_Line p0).length) * 4) DV.top) (0 + n * 4) (List.map c_api_Line p3).flatten) (0 + (n + (List.map c_api_Line p3).length) * 4) ((List.map c_api_Line p0).drop j).flatten) (if c = T then 0 else 0 + T * 4) (List.replicate ((List.map c_api_Line p0).length - T) ([.int .i64 0, .sl false [], .int .i64 0, .sl false []] : List DV)).flatten) := .splice (.splice (.splice (.app (.flat (fl_api_Line.ok p0)) (.rep _)) (.flat (fl_api_Line.ok p3))) (.flat (fun x hx => fl_api_Line.ok p0 x (List.mem_of_mem_drop hx)))) (.flat (flatOk_rep rfl rfl : flatOk 4 _))
 refine ⟨.vw 0 0 T c, splice (splice (splice ((List.map c_api_Line p0).flatten ++ List.replicate ((c - (List.map c_api_Line p0).length) * 4) DV.top) (0 + n * 4) (List.map c_api_Line p3).flatten) (0 + (n + (List.map c_api_Line p3).length) * 4) ((List.map c_api_Line p0).drop j).flatten) (if c = T then 0 else 0 + T * 4) (List.replicate ((List.map c_api_Line p0).length - T) ([.int .i64 0, .sl false [], .int .i64 0, .sl false []] : List DV)).flatten, [], ?_, .inl ⟨(splice (splice (splice ((List.map c_api_Line p0).flatten ++ List.replicate ((c - (List.map c_api_Line p0).length) * 4) DV.top) (0 + n * 4) (List.map c_api_Line p3).flatten) (0 + (n + (List.map c_api_Line p3).length) * 4) ((List.map c_api_Line p0).drop j).flatten) (if c = T then 0 else 0 + T * 4) (List.replicate ((List.map c_api_Line p0).length - T) ([.int .i64 0, .sl false [], .int .i64 0, .sl false []] : List DV)).flatten).drop (T * 4), by rw [hRL], ?_, by rw [hRL]; omega, rfl⟩⟩
 ·refine okB_of_exG func92 rfl rfl (s0 := [.vw 0 0 (List.map c_api_Line p0).length c, .int .i64 (n : Int), .int .i64 (j : Int), .sl false (List.map c_api_Line p3), .top, .top, .top, .top, .top, .top, .top, .top, .top, .top, .top, .top, .top, .top, .top, .top, .top, .top, .top, .top, .top, .top, .top, .top, .top, .top, .top, .top, .top, .top, .top, .top, .top, .top, .top, .top, .top, .top, .top, .top, .top, .top, .top, .top, .top, .top, .top, .top, .top, .top, .top, .top, .top, .top, .top, .top, .top, .top, .top, .top, .top, .top, .top, .top, .top, .top, .top, .top, .top, .top, .top, .top, .top, .top, .top, .top, .top, .top, .top, .top, .top, .top, .top, .top, .top, .top, .top, .top, .top, .top, .top, .top, .top, .top, .top, .top, .top, .top, .top, .top, .top, .top, .top, .top, .top, .top, .top, .top, .top, .top, .top, .top, .top, .top, .top, .top, .top, .top, .top, .top, .top, .top, .top, .top, .top, .top, .top, .top, .top, .top, .top, .top, .top, .top, .top, .top, .top, .top, .top, .top, .top, .top, .top, .top, .top, .top, .top, .top, .top, .top, .top, .top, .top, .top, .top, .top, .top, .top, .top, .top, .top, .top, .top, .top, .top, .top, .top, .top, .top, .top, .top, .top, .top, .top, .top, .top, .top, .top, .top, .top, .top, .top, .top, .top, .top, .top, .top, .top, .top, .top, .top, .top, .top, .top, .top, .top, .top, .top, .top, .top, .top, .top, .top, .top, .top, .top, .top, .top, .top, .top, .top, .top, .top, .top, .top, .top, .top, .top, .top, .top]) (b0 := [some ((List.map c_api_Line p0).flatten ++ List.replicate ((c - (List.map c_api_Line p0).length) * 4) DV.top)]) (r0 := []) rfl rfl rfl ?_
  show Ex _ _ _ ⟨[.vw 0 0 (List.map c_api_Line p0).length c, .int .i64 (n : Int), .int .i64 (j : Int), .sl false (List.map c_api_Line p3), .top, .top, .top, .top, .top, .top, .top, .top, .top, .top, .top, .top, .top, .top, .top, .top, .top, .top, .top, .top, .top, .top, .top, .top, .top, .top, .top, .top, .top, .top, .top, .top, .top, .top, .top, .top, .top, .top, .top, .top, .top, .top, .top, .top, .top, .top, .top, .top, .top, .top, .top, .top, .top, .top, .top, .top, .top, .top, .top, .top, .top, .top, .top, .top, .top, .top, .top, .top, .top, .top, .top, .top, .top, .top, .top, .top, .top, .top, .top, .top, .top, .top, .top, .top, .top, .top, .top, .top, .top, .top, .top, .top, .top, .top, .top, .top, .top, .top, .top, .top, .top, .top, .top, .top, .top, .top, .top, .top, .top, .top, .top, .top, .top, .top, .top, .top, .top, .top, .top, .top, .top, .top, .top, .top, .top, .top, .top, .top, .top, .top, .top, .top, .top, .top, .top, .top, .top, .top, .top, .top, .top, .top, .top, .top, .top, .top, .top, .top, .top, .top, .top, .top, .top, .top, .top, .top, .top, .top, .top, .top, .top, .top, .top, .top, .top, .top, .top, .top, .top, .top, .top, .top, .top, .top, .top, .top, .top, .top, .top, .top, .top, .top, .top, .top, .top, .top, .top, .top, .top, .top, .top, .top, .top, .top, .top, .top, .top, .top, .top, .top, .top, .top, .top, .top, .top, .top, .top, .top, .top, .top, .top, .top, .top, .top, .top, .top, .top, .top, .top, .top], [some ((List.map c_api_Line p0).flatten ++ List.replicate ((c - (List.map c_api_Line p0).length) * 4) DV.top)], [], 1⟩ _
  refine ex_seq ?_
  refine ex_ord [] (l := [0]) rfl ?_
  refine p_ 8 rfl rfl rfl rfl (.assign rfl rfl) ?_
  refine we_nil ?_
  refine ex_seq ?_
  refine ex_ord [] (l := [0, 1, 2, 3]) rfl ?_
  refine p_ 15 rfl rfl rfl rfl (.move rfl rfl) ?_
  refine p_ 16 rfl rfl rfl rfl (.move rfl rfl) ?_
  refine p_ 17 rfl rfl rfl rfl (.move rfl rfl) ?_
  refine p_ 18 rfl rfl rfl rfl (.sliceV rfl rfl rfl el22 sz55 ⟨_, rfl⟩ ⟨_, rfl⟩ h0 (by omega) (by omega)) ?_
  refine we_nil ?_
  refine ex_seq ?_
  refine ex_seq ?_
  refine ex_ord [] (l := [0, 1, 2]) rfl ?_
  refine p_ 19 rfl rfl rfl rfl (.move rfl rfl) ?_
  refine p_ 20 rfl rfl rfl rfl (.move rfl rfl) ?_
  refine p_ 21 rfl rfl rfl rfl (.bin rfl rfl rfl rfl) ?_
  refine we_nil ?_
  refine ex_if rfl (fun hq => absurd (beq_iff_eq.1 hq) (by omega)) (fun _ => ?_)
  refine ex_skip ?_
  refine ex_seq ?_
  refine ex_seq ?_
  refine ex_ord [] (l := [0, 1, 2, 3]) rfl ?_
  refine p_ 26 rfl rfl rfl rfl (.move rfl rfl) ?_
  refine p_ 27 rfl rfl rfl rfl (.move rfl rfl) ?_
  refine p_ 28 rfl rfl rfl rfl (.lenV rfl rfl rfl el22) ?_
  refine p_ 29 rfl rfl rfl rfl (.bin rfl rfl rfl rfl) ?_
  refine we_nil ?_
  refine ex_if rfl (fun hq => absurd (beq_iff_eq.1 hq) (by omega)) (fun _ => ?_)
  refine ex_skip ?_
  refine ex_seq ?_
  refine ex_drw mo [] (by kernel_rfl) (l := [0, 1, 2, 3, 4, 5, 6, 7, 8, 9, 10, 11, 12]) rfl ?_
  refine p_ 45 rfl rfl rfl rfl (.move rfl rfl) ?_
  refine p_ 46 rfl rfl rfl rfl (.move rfl rfl) ?_
  refine p_ (d := .vw 0 0 n c) 47 rfl rfl rfl rfl (x_sliceV 0 n c rfl rfl rfl el22 sz55 rfl ⟨_, rfl⟩ (Int.le_refl 0) h0 (by omega) (by simp) (by first | rfl | simp) (by first | rfl | simp)) ?_
  refine p_ 48 rfl rfl rfl rfl (.lenV rfl rfl rfl el22) ?_
  refine p_ 49 rfl rfl rfl rfl (.move rfl rfl) ?_
  refine p_ 50 rfl rfl rfl rfl (.lenSl rfl rfl rfl el22) ?_
  refine p_ (d := .int .i64 ((n + (List.map c_api_Line p3).length : Nat) : Int)) 51 rfl rfl rfl rfl (.bin rfl rfl rfl (addN _ _ (by first | rfl | omega) (by omega))) ?_
  refine p_ 52 rfl rfl rfl rfl (.move rfl rfl) ?_
  refine p_ 53 rfl rfl rfl rfl (.move rfl rfl) ?_
  refine p_ (d := .vw 0 (0 + j * 4) ((List.map c_api_Line p0).length - j) (c - j)) 54 rfl rfl rfl rfl (x_sliceV (0 + j * 4) ((List.map c_api_Line p0).length - j) (c - j) rfl rfl rfl el22 sz55 ⟨_, rfl⟩ rfl (by omega) (by omega) (by omega) (by rw [if_neg (by omega)] <;> first | rfl | simp) (by first | rfl | simp) (by first | rfl | simp)) ?_
  refine p_ 55 rfl rfl rfl rfl (.lenV rfl rfl rfl el22) ?_
  refine p_ (d := .int .i64 ((T : Nat) : Int)) 56 rfl rfl rfl rfl (.bin rfl rfl rfl (addN _ _ (by first | rfl | omega) (by omega))) ?_
  refine p_ 10 rfl rfl rfl rfl (.assign rfl rfl) ?_
  refine we_nil ?_
  refine ex_seq ?_
  refine ex_seq ?_
  refine ex_ord [] (l := [0, 1, 2, 3]) rfl ?_
  refine p_ 57 rfl rfl rfl rfl (.move rfl rfl) ?_
  refine p_ 58 rfl rfl rfl rfl (.move rfl rfl) ?_
  refine p_ 59 rfl rfl rfl rfl (.capV rfl rfl rfl el22) ?_
  refine p_ 60 rfl rfl rfl rfl (.bin rfl rfl rfl rfl) ?_
  refine we_nil ?_
  refine ex_if rfl (fun hq => absurd (of_decide_eq_true hq) (by omega)) (fun _ => ?_)
  refine ex_skip ?_
  refine ex_seq ?_
  refine ex_ord [] (l := [0, 1, 2, 3]) rfl ?_
  refine p_ 84 rfl rfl rfl rfl (.move rfl rfl) ?_
  refine p_ 85 rfl rfl rfl rfl (.move rfl rfl) ?_
  refine p_ (d := .vw 0 0 T c) 86 rfl rfl rfl rfl (x_sliceV 0 T c rfl rfl rfl el22 sz55 rfl ⟨_, rfl⟩ (Int.le_refl 0) (by omega) (by omega) (by simp) (by first | rfl | simp) (by first | rfl | simp)) ?_
  refine p_ 12 rfl rfl rfl rfl (.assign rfl rfl) ?_
  refine we_nil ?_
  refine ex_seq ?_
  refine ex_seq ?_
  refine ex_ord [] (l := [0, 1, 2, 3, 4, 5]) rfl ?_
  refine p_ 87 rfl rfl rfl rfl (.move rfl rfl) ?_
  refine p_ 88 rfl rfl rfl rfl (.move rfl rfl) ?_
  refine p_ 89 rfl rfl rfl rfl (.lenSl rfl rfl rfl el22) ?_
  refine p_ (d := .int .i64 ((n + (List.map c_api_Line p3).length : Nat) : Int)) 90 rfl rfl rfl rfl (.bin rfl rfl rfl (addN _ _ (by first | rfl | omega) (by omega))) ?_
  refine p_ 91 rfl rfl rfl rfl (.move rfl rfl) ?_
  refine p_ 92 rfl rfl rfl rfl (.bin rfl rfl rfl rfl) ?_
  refine we_nil ?_
  refine ex_if rfl (fun _ => ?_) (fun hq => Bool.noConfusion ((decide_eq_true (show ((n + (List.map c_api_Line p3).length : Nat) : Int) ≤ (j : Int) by omega)).symm.trans hq))
  refine ex_seq ?_
  refine ex_ord [4] (l := [0, 1, 2, 3, 4]) rfl ?_
  refine p_ 93 rfl rfl rfl rfl (.move rfl rfl) ?_
  refine p_ 94 rfl rfl rfl rfl (.move rfl rfl) ?_
  refine p_ (d := .vw 0 (0 + n * 4) (T - n) (c - n)) 95 rfl rfl rfl rfl (x_sliceV (0 + n * 4) (T - n) (c - n) rfl rfl rfl el22 sz55 ⟨_, rfl⟩ rfl h0 (by omega) (by omega) (by rw [if_neg (by omega)] <;> first | rfl | simp) (by first | rfl | simp) (by first | rfl | simp)) ?_
  refine p_ 96 rfl rfl rfl rfl (.move rfl rfl) ?_
  refine e_ 97 rfl rfl rfl rfl rfl (b' := [some (splice ((List.map c_api_Line p0).flatten ++ List.replicate ((c - (List.map c_api_Line p0).length) * 4) DV.top) (0 + n * 4) (List.map c_api_Line p3).flatten)]) (r' := []) (.copyV rfl rfl rfl el22 sz55 (by rw [hmin1]; exact .all (by decide) rfl rfl (fl_api_Line.ok p3)) (by rw [hYf, hcl]; omega)) rfl ?_
  refine we_nil ?_
  refine ex_seq ?_
  refine ex_drw mo [9] (by kernel_rfl) (l := [0, 1, 2, 3, 4, 5, 6, 7, 8, 9]) rfl ?_
  refine p_ 98 rfl rfl rfl rfl (.move rfl rfl) ?_
  refine p_ 99 rfl rfl rfl rfl (.move rfl rfl) ?_
  refine p_ 100 rfl rfl rfl rfl (.move rfl rfl) ?_
  refine p_ 101 rfl rfl rfl rfl (.lenSl rfl rfl rfl el22) ?_
  refine p_ (d := .int .i64 ((n + (List.map c_api_Line p3).length : Nat) : Int)) 102 rfl rfl rfl rfl (.bin rfl rfl rfl (addN _ _ (by first | rfl | omega) (by omega))) ?_
  refine p_ (d := .vw 0 (0 + (n + (List.map c_api_Line p3).length) * 4) (T - (n + (List.map c_api_Line p3).length)) (c - (n + (List.map c_api_Line p3).length))) 103 rfl rfl rfl rfl (x_sliceV (0 + (n + (List.map c_api_Line p3).length) * 4) (T - (n + (List.map c_api_Line p3).length)) (c - (n + (List.map c_api_Line p3).length)) rfl rfl rfl el22 sz55 ⟨_, rfl⟩ rfl (by omega) (by omega) (by omega) (by rw [if_neg (by omega)] <;> first | rfl | simp) (by first | rfl | simp) (by first | rfl | simp)) ?_
  refine p_ 104 rfl rfl rfl rfl (.move rfl rfl) ?_
  refine p_ 105 rfl rfl rfl rfl (.move rfl rfl) ?_
  refine p_ (d := .vw 0 (0 + j * 4) ((List.map c_api_Line p0).length - j) (c - j)) 106 rfl rfl rfl rfl (x_sliceV (0 + j * 4) ((List.map c_api_Line p0).length - j) (c - j) rfl rfl rfl el22 sz55 ⟨_, rfl⟩ rfl (by omega) (by omega) (by omega) (by rw [if_neg (by omega)] <;> first | rfl | simp) (by first | rfl | simp) (by first | rfl | simp)) ?_
  refine e_ 107 rfl rfl rfl rfl rfl (b' := [some (splice (splice ((List.map c_api_Line p0).flatten ++ List.replicate ((c - (List.map c_api_Line p0).length) * 4) DV.top) (0 + n * 4) (List.map c_api_Line p3).flatten) (0 + (n + (List.map c_api_Line p3).length) * 4) ((List.map c_api_Line p0).drop j).flatten)]) (r' := []) (.copyV rfl rfl rfl el22 sz55 (by rw [hmin2, ← hb1]; exact .vw rfl rfl (by rw [hb2, hcl]; omega) (by rw [hb1]; exact hall)) (by rw [hDf, hb2, hcl]; omega)) rfl ?_
  refine we_nil ?_
  refine ex_seq ?_
  refine ex_ord [3] (l := [0, 1, 2, 3]) rfl ?_
  refine p_ 108 rfl rfl rfl rfl (.move rfl rfl) ?_
  refine p_ 109 rfl rfl rfl rfl (.move rfl rfl) ?_
  refine p_ (d := .vw 0 (if c = T then 0 else 0 + T * 4) ((List.map c_api_Line p0).length - T) (c - T)) 110 rfl rfl rfl rfl (x_sliceV (if c = T then 0 else 0 + T * 4) ((List.map c_api_Line p0).length - T) (c - T) rfl rfl rfl el22 sz55 ⟨_, rfl⟩ rfl (by omega) (by omega) (by omega) (by simp) (by first | rfl | simp) (by first | rfl | simp)) ?_
  refine e0 rfl rfl rfl rfl rfl (b' := [some (splice (splice (splice ((List.map c_api_Line p0).flatten ++ List.replicate ((c - (List.map c_api_Line p0).length) * 4) DV.top) (0 + n * 4) (List.map c_api_Line p3).flatten) (0 + (n + (List.map c_api_Line p3).length) * 4) ((List.map c_api_Line p0).drop j).flatten) (if c = T then 0 else 0 + T * 4) (List.replicate ((List.map c_api_Line p0).length - T) ([.int .i64 0, .sl false [], .int .i64 0, .sl false []] : List DV)).flatten)]) (r' := []) (.clearV rfl rfl rfl el22 ze55 (by decide) (by rw [hb3, hcl]; exact hoff)) rfl ?_
  refine we_nil ?_
  refine ex_seq ?_
  refine ex_ord [] (l := [0, 1]) rfl ?_
  refine p_ 111 rfl rfl rfl rfl (.move rfl rfl) ?_
  refine p_ 8 rfl rfl rfl rfl (.assign rfl rfl) ?_
  refine we_nil ?_
  refine ex_ret ?_
  exact finBV (.inr rfl) (.refl _) [.vw 0 0 T c] [] [splice (splice (splice ((List.map c_api_Line p0).flatten ++ List.replicate ((c - (List.map c_api_Line p0).length) * 4) DV.top) (0 + n * 4) (List.map c_api_Line p3).flatten) (0 + (n + (List.map c_api_Line p3).length) * 4) ((List.map c_api_Line p0).drop j).flatten) (if c = T then 0 else 0 + T * 4) (List.replicate ((List.map c_api_Line p0).length - T) ([.int .i64 0, .sl false [], .int .i64 0, .sl false []] : List DV)).flatten] (res_cons (res_tmp rfl) res_nil) rfl rfl rfl rfl rfl (NT.res hntC3) (NT.ren hntC3)
 ·rw [← hk3]
  exact (List.take_append_drop _ _).symm
theorem ok_slices_Clone_int {r : (List (Int))} {p0 : List (Int)} (h : slices_Clone_int p0 = some r) : OkB prog 105 [.sl false (List.map c_i64 p0)] [] [] (.own 0) [] [⟨3, 1, List.map c_i64 r⟩] := by
 have h0 := (capO_some h).1
 subst h0
 cases r with
 | nil =>
  refine OkB.split (i := 0) rfl ?_
  intro nl
  cases nl with
  | true =>
   show OkB prog 105 [.em true] [] [] _ [] _
   refine okB_of_exG func105 rfl rfl (s0 := [.em true, .top, .top, .top, .top, .top, .top, .top]) (b0 := []) (r0 := []) rfl rfl rfl ?_
   show Ex _ _ _ ⟨[.em true, .top, .top, .top, .top, .top, .top, .top], [], [], 0⟩ _
   refine ex_seq ?_
   refine ex_ord [0] (l := [0]) rfl ?_
   refine e_ (d := .own 0) 2 rfl rfl rfl rfl rfl (b' := []) (r' := [some ⟨3, 1, []⟩]) (.nilRow (.inr rfl) rfl 3 1) rfl ?_
   refine we_nil ?_
   refine ex_seq ?_
   refine ex_seq ?_
   refine ex_ord [] (l := [0, 1]) rfl ?_
   refine p_ 3 rfl rfl rfl rfl (.move rfl rfl) ?_
   refine p_ 4 rfl rfl rfl rfl (.eqNil (ne := false) rfl rfl rfl rfl el53) ?_
   refine we_nil ?_
   refine ex_cond (t := true) rfl ?_
   refine ex_seq ?_
   refine ex_ord [0] (l := [0]) rfl ?_
   refine e_ (d := .own 1) 2 rfl rfl rfl rfl rfl (b' := []) (r' := [some ⟨3, 1, []⟩, some ⟨3, 1, []⟩]) (.nilRow (.inr rfl) rfl 3 1) rfl ?_
   refine we_nil ?_
   refine ex_ret ?_
   exact finB (.inr rfl) (.refl _) [.own 1] [1] [] (res_cons (res_tmp rfl) res_nil) rfl rfl rfl rfl rfl rfl rfl
  | false =>
   show OkB prog 105 [.em false] [] [] _ [] _
   refine okB_of_exG func105 rfl rfl (s0 := [.em false, .top, .top, .top, .top, .top, .top, .top]) (b0 := []) (r0 := []) rfl rfl rfl ?_
   show Ex _ _ _ ⟨[.em false, .top, .top, .top, .top, .top, .top, .top], [], [], 0⟩ _
   refine ex_seq ?_
   refine ex_ord [0] (l := [0]) rfl ?_
   refine e_ (d := .own 0) 2 rfl rfl rfl rfl rfl (b' := []) (r' := [some ⟨3, 1, []⟩]) (.nilRow (.inr rfl) rfl 3 1) rfl ?_
   refine we_nil ?_
   refine ex_seq ?_
   refine ex_seq ?_
   refine ex_ord [] (l := [0, 1]) rfl ?_
   refine p_ 3 rfl rfl rfl rfl (.move rfl rfl) ?_
   refine p_ 4 rfl rfl rfl rfl (.eqNil (ne := false) rfl rfl rfl rfl el53) ?_
   refine we_nil ?_
   refine ex_cond (t := false) rfl ?_
   refine ex_skip ?_
   refine ex_seq ?_
   refine ex_ord [0, 2] (l := [0, 1, 2, 3]) rfl ?_
   refine e_ (d := .own 1) 5 rfl rfl rfl rfl rfl (b' := []) (r' := [some ⟨3, 1, []⟩, some ⟨3, 1, List.map c_i64 []⟩]) (x_lit (f := c_i64) (l := []) rfl el53 rw3 zs3 rfl rfl rfl (by decide) (by decide) fl_i64 rfl) rfl ?_
   refine p_ 6 rfl rfl rfl rfl (.move rfl rfl) ?_
   refine e_ (d := .own 2) 7 rfl rfl rfl rfl rfl (b' := []) (r' := [some ⟨3, 1, []⟩, none, some ⟨3, 1, List.map c_i64 []⟩]) (x_app (f := c_i64) (xs := []) (ys := []) rfl rfl rfl el53 rw3 rfl rfl rfl fl_i64 h) rfl ?_
   refine p_ 2 rfl rfl rfl rfl (.assign rfl rfl) ?_
   refine we_nil ?_
   refine ex_ret ?_
   exact finB (.inr rfl) (.refl _) [.own 2] [2] [] (res_cons (res_tmp rfl) res_nil) rfl rfl rfl rfl rfl rfl rfl
 | cons a l =>
  refine okB_of_exG func105 rfl rfl (s0 := [.sl false (List.map c_i64 (a :: l)), .top, .top, .top, .top, .top, .top, .top]) (b0 := []) (r0 := []) rfl rfl rfl ?_
  show Ex _ _ _ ⟨[.sl false (List.map c_i64 (a :: l)), .top, .top, .top, .top, .top, .top, .top], [], [], 0⟩ _
  refine ex_seq ?_
  refine ex_ord [0] (l := [0]) rfl ?_
  refine e_ (d := .own 0) 2 rfl rfl rfl rfl rfl (b' := []) (r' := [some ⟨3, 1, []⟩]) (.nilRow (.inr rfl) rfl 3 1) rfl ?_
  refine we_nil ?_
  refine ex_seq ?_
  refine ex_seq ?_
  refine ex_ord [] (l := [0, 1]) rfl ?_
  refine p_ 3 rfl rfl rfl rfl (.move rfl rfl) ?_
  refine p_ 4 rfl rfl rfl rfl (.eqNil (ne := false) rfl rfl rfl rfl el53) ?_
  refine we_nil ?_
  refine ex_cond (t := false) rfl ?_
  refine ex_skip ?_
  refine ex_seq ?_
  refine ex_ord [0, 2] (l := [0, 1, 2, 3]) rfl ?_
  refine e_ (d := .own 1) 5 rfl rfl rfl rfl rfl (b' := []) (r' := [some ⟨3, 1, []⟩, some ⟨3, 1, List.map c_i64 []⟩]) (x_lit (f := c_i64) (l := []) rfl el53 rw3 zs3 rfl rfl rfl (by decide) (by decide) fl_i64 rfl) rfl ?_
  refine p_ 6 rfl rfl rfl rfl (.move rfl rfl) ?_
  refine e_ (d := .own 2) 7 rfl rfl rfl rfl rfl (b' := []) (r' := [some ⟨3, 1, []⟩, none, some ⟨3, 1, List.map c_i64 (a :: l)⟩]) (x_app (f := c_i64) (xs := []) (ys := (a :: l)) rfl rfl rfl el53 rw3 rfl rfl rfl fl_i64 h) rfl ?_
  refine p_ 2 rfl rfl rfl rfl (.assign rfl rfl) ?_
  refine we_nil ?_
  refine ex_ret ?_
  exact finB (.inr rfl) (.refl _) [.own 2] [2] [] (res_cons (res_tmp rfl) res_nil) rfl rfl rfl rfl rfl rfl rfl
theorem ok_slices_Clone_apiCell {r : (List (T_api_Cell))} {p0 : List (T_api_Cell)} (h : slices_Clone_apiCell p0 = some r) : OkB prog 106 [.sl false (List.map c_api_Cell p0)] [] [] (.own 0) [] [⟨58, 3, List.map c_api_Cell r⟩] := by
 have h0 := (capO_some h).1
 subst h0
 cases r with
 | nil =>
  refine OkB.split (i := 0) rfl ?_
  intro nl
  cases nl with
  | true =>
   show OkB prog 106 [.em true] [] [] _ [] _
   refine okB_of_exG func106 rfl rfl (s0 := [.em true, .top, .top, .top, .top, .top, .top, .top]) (b0 := []) (r0 := []) rfl rfl rfl ?_
   show Ex _ _ _ ⟨[.em true, .top, .top, .top, .top, .top, .top, .top], [], [], 0⟩ _
   refine ex_seq ?_
   refine ex_ord [0] (l := [0]) rfl ?_
   refine e_ (d := .own 0) 2 rfl rfl rfl rfl rfl (b' := []) (r' := [some ⟨58, 3, []⟩]) (.nilRow (.inr rfl) rfl 58 3) rfl ?_
   refine we_nil ?_
   refine ex_seq ?_
   refine ex_seq ?_
   refine ex_ord [] (l := [0, 1]) rfl ?_
   refine p_ 3 rfl rfl rfl rfl (.move rfl rfl) ?_
   refine p_ 4 rfl rfl rfl rfl (.eqNil (ne := false) rfl rfl rfl rfl el46) ?_
   refine we_nil ?_
   refine ex_cond (t := true) rfl ?_
   refine ex_seq ?_
   refine ex_ord [0] (l := [0]) rfl ?_
   refine e_ (d := .own 1) 2 rfl rfl rfl rfl rfl (b' := []) (r' := [some ⟨58, 3, []⟩, some ⟨58, 3, []⟩]) (.nilRow (.inr rfl) rfl 58 3) rfl ?_
   refine we_nil ?_
   refine ex_ret ?_
   exact finB (.inr rfl) (.refl _) [.own 1] [1] [] (res_cons (res_tmp rfl) res_nil) rfl rfl rfl rfl rfl rfl rfl
  | false =>
   show OkB prog 106 [.em false] [] [] _ [] _
   refine okB_of_exG func106 rfl rfl (s0 := [.em false, .top, .top, .top, .top, .top, .top, .top]) (b0 := []) (r0 := []) rfl rfl rfl ?_
   show Ex _ _ _ ⟨[.em false, .top, .top, .top, .top, .top, .top, .top], [], [], 0⟩ _
   refine ex_seq ?_
   refine ex_ord [0] (l := [0]) rfl ?_
   refine e_ (d := .own 0) 2 rfl rfl rfl rfl rfl (b' := []) (r' := [some ⟨58, 3, []⟩]) (.nilRow (.inr rfl) rfl 58 3) rfl ?_
   refine we_nil ?_
   refine ex_seq ?_
   refine ex_seq ?_
   refine ex_ord [] (l := [0, 1]) rfl ?_
   refine p_ 3 rfl rfl rfl rfl (.move rfl rfl) ?_
   refine p_ 4 rfl rfl rfl rfl (.eqNil (ne := false) rfl rfl rfl rfl el46) ?_
   refine we_nil ?_
   refine ex_cond (t := false) rfl ?_
   refine ex_skip ?_
   refine ex_seq ?_
   refine ex_ord [0, 2] (l := [0, 1, 2, 3]) rfl ?_
   refine e_ (d := .own 1) 5 rfl rfl rfl rfl rfl (b' := []) (r' := [some ⟨58, 3, []⟩, some ⟨58, 3, List.map c_api_Cell []⟩]) (x_lit (f := c_api_Cell) (l := []) rfl el46 rw58 zs58 rfl rfl rfl (by decide) (by decide) fl_api_Cell rfl) rfl ?_
   refine p_ 6 rfl rfl rfl rfl (.move rfl rfl) ?_
   refine e_ (d := .own 2) 7 rfl rfl rfl rfl rfl (b' := []) (r' := [some ⟨58, 3, []⟩, none, some ⟨58, 3, List.map c_api_Cell []⟩]) (x_app (f := c_api_Cell) (xs := []) (ys := []) rfl rfl rfl el46 rw58 rfl rfl rfl fl_api_Cell h) rfl ?_
   refine p_ 2 rfl rfl rfl rfl (.assign rfl rfl) ?_
   refine we_nil ?_
   refine ex_ret ?_
   exact finB (.inr rfl) (.refl _) [.own 2] [2] [] (res_cons (res_tmp rfl) res_nil) rfl rfl rfl rfl rfl rfl rfl
 | cons a l =>
  refine okB_of_exG func106 rfl rfl (s0 := [.sl false (List.map c_api_Cell (a :: l)), .top, .top, .top, .top, .top, .top, .top]) (b0 := []) (r0 := []) rfl rfl rfl ?_
  show Ex _ _ _ ⟨[.sl false (List.map c_api_Cell (a :: l)), .top, .top, .top, .top, .top, .top, .top], [], [], 0⟩ _
  refine ex_seq ?_
  refine ex_ord [0] (l := [0]) rfl ?_
  refine e_ (d := .own 0) 2 rfl rfl rfl rfl rfl (b' := []) (r' := [some ⟨58, 3, []⟩]) (.nilRow (.inr rfl) rfl 58 3) rfl ?_
  refine we_nil ?_
  refine ex_seq ?_
  refine ex_seq ?_
  refine ex_ord [] (l := [0, 1]) rfl ?_
  refine p_ 3 rfl rfl rfl rfl (.move rfl rfl) ?_
  refine p_ 4 rfl rfl rfl rfl (.eqNil (ne := false) rfl rfl rfl rfl el46) ?_
  refine we_nil ?_
  refine ex_cond (t := false) rfl ?_
  refine ex_skip ?_
  refine ex_seq ?_
  refine ex_ord [0, 2] (l := [0, 1, 2, 3]) rfl ?_
  refine e_ (d := .own 1) 5 rfl rfl rfl rfl rfl (b' := []) (r' := [some ⟨58, 3, []⟩, some ⟨58, 3, List.map c_api_Cell []⟩]) (x_lit (f := c_api_Cell) (l := []) rfl el46 rw58 zs58 rfl rfl rfl (by decide) (by decide) fl_api_Cell rfl) rfl ?_
  refine p_ 6 rfl rfl rfl rfl (.move rfl rfl) ?_
  refine e_ (d := .own 2) 7 rfl rfl rfl rfl rfl (b' := []) (r' := [some ⟨58, 3, []⟩, none, some ⟨58, 3, List.map c_api_Cell (a :: l)⟩]) (x_app (f := c_api_Cell) (xs := []) (ys := (a :: l)) rfl rfl rfl el46 rw58 rfl rfl rfl fl_api_Cell h) rfl ?_
  refine p_ 2 rfl rfl rfl rfl (.assign rfl rfl) ?_
  refine we_nil ?_
  refine ex_ret ?_
  exact finB (.inr rfl) (.refl _) [.own 2] [2] [] (res_cons (res_tmp rfl) res_nil) rfl rfl rfl rfl rfl rfl rfl
theorem ok_strings_Cut {r : (List UInt8) × (List UInt8) × Bool} {p0 : List UInt8} {p1 : List UInt8} (h : strings_Cut p0 p1 = some r) : OkB prog 110 [.str (bs p0), .str (bs p1)] [] [] (.tup [.str (bs r.1), .str (bs r.2.1), .bool r.2.2]) [] [] := by
 unfold strings_Cut at h
 split at h
 ·rename_i hl
  obtain rfl := Option.some.inj h
  exact okB_pure [.str p0, .str p1] (.many [.str (Lib.cut p0 p1).1, .str (Lib.cut p0 p1).2.1, .bool (Lib.cut p0 p1).2.2]) (fun w hT => by
   obtain ⟨m, hm⟩ := hT.1.2
   refine (Go.Proofs.Tryz.strings_Cut (bs p0) (bs p1) m w hl hm).mono ?_
   rintro e w' ⟨rfl, n, rfl⟩
   exact ⟨rfl, Go.Proofs.below_drewNm w n⟩)
 ·cases h
theorem ok_strings_Map {r : (List UInt8)} {p0 : Int → Option (Int)} {p1 : List UInt8} {g0 : FuncId} {cs0 : List DV} (hc0 : Cl prog g0 cs0) (hf0 : ∀ x0 r, p0 x0 = some r → OkB prog g0 ([.int .i32 x0] ++ cs0) [] [] (.int .i32 r) [] []) (ht0 : ∀ x : Int, 0 ≤ x → x ≤ 1114111 → ∃ y, p0 x = some y ∧ -2147483648 ≤ y ∧ y ≤ 2147483647) (h : strings_Map p0 p1 = some r) : OkB prog 111 [.fn g0 cs0, .str (bs p1)] [] [] (.str (bs r)) [] [] := by
 unfold strings_Map at h
 split at h
 ·rename_i hl
  obtain rfl := Option.some.inj h
  exact okB_map hc0 hf0 ht0 hl (fun lb w eg hs hf hnn hT => Go.Proofs.Tryz.strings_Map_grows g0 lb eg _ (bs p1) w hs hf hnn hT.1.1)
 ·cases h
def encs_doc_between_1 (x : Int × ((Int) × (Int))) : Array Value := #[.int .i64 x.1, .agg #[.int .i64 x.2.1, .int .i64 x.2.2]]
def encD_doc_between_1 (x : Int × ((Int) × (Int))) : List DV := [.int .i64 x.1, .agg [.int .i64 x.2.1, .int .i64 x.2.2]]
theorem henc_doc_between_1 : ∀ x, (encs_doc_between_1 x).size = 2 ∧ (encD_doc_between_1 x).length = 2 ∧ ∀ (w : World) (N ok : Nat → Prop) (j : Nat) (d : DV), (encD_doc_between_1 x)[j]? = some d → VR w N ok d ((encs_doc_between_1 x).getD j undef) := fun x => ⟨rfl, rfl, fun w N ok j d h => encV_vr (vs := [.sc (.int .i64 x.1), .agg [.int .i64 x.2.1, .int .i64 x.2.2]]) rfl rfl h⟩
theorem hex_doc_between_1 : ∀ (x : Int × ((Int) × (Int))) (W : World) (N ok : Nat → Prop) (vs : Array Value), vs.size = (encD_doc_between_1 x).length → (∀ j d, (encD_doc_between_1 x)[j]? = some d → VR W N ok d (vs.getD j undef)) → vs = encs_doc_between_1 x := fun x W N ok vs h1 h2 => encV_ex (ys := [.sc (.int .i64 x.1), .agg [.int .i64 x.2.1, .int .i64 x.2.2]]) rfl rfl h1 h2
theorem ok_doc_between_1 {p1 : T_api_Pos} {p2 : T_api_Pos} {p3 : List (T_api_Line)} {xs : List (Int × ((Int) × (Int)))} (h : doc_between_1 p1 p2 p3 = some xs) : SeqOk prog 125 [.cp [.int .i64 p1.f_Line, .int .i64 p1.f_At], .cp [.int .i64 p2.f_Line, .int .i64 p2.f_At], .cp [.sl false (List.map c_api_Line p3)]] encs_doc_between_1 xs := by
 unfold doc_between_1 at h
 refine seqok_of func125 rfl rfl ?_
 intro l lb J Jx hJ hJx hcap hcapx hy
 show ExG _ _ _ (⟨[.yl l, .cp [.int .i64 p1.f_Line, .int .i64 p1.f_At], .cp [.int .i64 p2.f_Line, .int .i64 p2.f_At], .cp [.sl false (List.map c_api_Line p3)], Z, Z, Z, Z, Z, Z, Z, Z, Z, Z, Z, Z, Z, Z, Z, Z, Z, Z, Z, Z, Z, Z, Z, Z, Z, Z, Z, Z, Z, Z, Z, Z, Z, Z, Z, Z, Z], 0, true⟩ : YS) _
 refine exg_seq ?_
 refine exg_piece hJ hJx [.yl l, .cp [.int .i64 p1.f_Line, .int .i64 p1.f_At], .cp [.int .i64 p2.f_Line, .int .i64 p2.f_At], .cp [.sl false (List.map c_api_Line p3)], Z, .int .i64 p1.f_Line, Z, Z, Z, Z, Z, Z, Z, Z, Z, Z, Z, Z, Z, Z, Z, Z, Z, Z, Z, Z, Z, Z, Z, Z, Z, Z, Z, Z, Z, Z, Z, Z, Z, Z, Z] rfl ?_ rfl ?_
 ·clear h
  refine ex_ord [] (l := [0, 1, 2]) rfl ?_
  refine pq 8 rfl (.fieldAddr rfl rfl rfl fl24u_0 rfl) ?_
  refine pq 9 rfl (x_load rfl rfl rfl sz3 un3 ag3 rfl) ?_
  refine pa 5 ?_
  refine we_nil ?_
  exact ⟨rfl, _, .re (rl [0, 4, 1, 1, 35]) [] [] rfl (.refl _), rfl⟩
 ·refine exg_block ?_
  refine exg_iter (step := (fun s => doc_between_1u_l1 p1 p2 p3 s)) (fun s => [.yl l, .cp [.int .i64 p1.f_Line, .int .i64 p1.f_At], .cp [.int .i64 p2.f_Line, .int .i64 p2.f_At], .cp [.sl false (List.map c_api_Line p3)], Z, .int .i64 s, Z, Z, Z, Z, Z, Z, Z, Z, Z, Z, Z, Z, Z, Z, Z, Z, Z, Z, Z, Z, Z, Z, Z, Z, Z, Z, Z, Z, Z, Z, Z, Z, Z, Z, Z]) 0 (by rw [List.drop_zero]; exact h) (Nat.zero_le _) ?_ ?_ ?_
  ·intro S h1 h2
   exact And.intro (.inl rfl) (.inl ⟨h1, h2⟩)
  ·intro S h1 h2
   exact And.intro (.inr rfl) (.inr ⟨h1, h2⟩)
  ·clear h
   rintro n1 k y h hx
   replace h : doc_between_1u_l1 p1 p2 p3 n1 = some y := h
   unfold doc_between_1u_l1 at h
   show ExG _ _ _ (⟨[.yl l, .cp [.int .i64 p1.f_Line, .int .i64 p1.f_At], .cp [.int .i64 p2.f_Line, .int .i64 p2.f_At], .cp [.sl false (List.map c_api_Line p3)], Z, .int .i64 n1, Z, Z, Z, Z, Z, Z, Z, Z, Z, Z, Z, Z, Z, Z, Z, Z, Z, Z, Z, Z, Z, Z, Z, Z, Z, Z, Z, Z, Z, Z, Z, Z, Z, Z, Z], k, true⟩ : YS) _
   refine exg_seq ?_
   refine exg_seq ?_
   refine exg_piece hJ hJx [.yl l, .cp [.int .i64 p1.f_Line, .int .i64 p1.f_At], .cp [.int .i64 p2.f_Line, .int .i64 p2.f_At], .cp [.sl false (List.map c_api_Line p3)], Z, .int .i64 n1, Z, Z, Z, Z, Z, Z, Z, .bool (decide ((n1 : Int) ≤ p2.f_Line)), Z, Z, Z, Z, Z, Z, Z, Z, Z, Z, Z, Z, Z, Z, Z, Z, Z, Z, Z, Z, Z, Z, Z, Z, Z, Z, Z] rfl ?_ rfl ?_
   ·clear h
    refine ex_ord [] (l := [0, 1, 2, 3]) rfl ?_
    refine pm 10 ?_
    refine pq 11 rfl (.fieldAddr rfl rfl rfl fl24u_0 rfl) ?_
    refine pq 12 rfl (x_load rfl rfl rfl sz3 un3 ag3 rfl) ?_
    refine pq 13 rfl (.bin rfl rfl rfl rfl) ?_
    refine we_nil ?_
    exact ⟨rfl, _, .re (rl [0, 4, 1, 1, 7, 1, 27]) [] [] rfl (.refl _), rfl⟩
   ·refine exg_if rfl ?_ ?_
    ·intro hc
     replace h := iteT h hc
     refine exg_skip ?_
     refine exg_seq ?_
     refine exg_block ?_
     refine exg_seq ?_
     obtain ⟨q2, hq, h⟩ := bindS h
     refine exg_piece hJ hJx [.yl l, .cp [.int .i64 p1.f_Line, .int .i64 p1.f_At], .cp [.int .i64 p2.f_Line, .int .i64 p2.f_At], .cp [.sl false (List.map c_api_Line p3)], Z, .int .i64 n1, .int .i64 0, .int .i64 q2, Z, Z, Z, Z, Z, Z, Z, Z, Z, Z, Z, Z, Z, Z, Z, Z, Z, Z, Z, Z, Z, Z, Z, Z, Z, Z, Z, Z, Z, Z, Z, Z, Z] rfl ?_ rfl ?_
     ·clear h
      have h := hq
      clear hq
      refine ex_drw mo [1000, 1002, 1003, 1004, 1005] (by kernel_rfl) (l := [0, 1, 2, 3, 4, 5, 6, 7]) rfl ?_
      refine n_ 16 rfl rfl rfl (fun _ _ => x_load rfl rfl rfl sz22 un22 ag22 rfl) ?_
      refine pm 17 ?_
      obtain ⟨v3, hv3, h⟩ := bindS h
      refine n_ 18 rfl rfl rfl (fun _ _ => x_idx (f := c_api_Line) (cs := [.int .i64 v3.f_Quote, .sl false (List.map c_i64 v3.f_Lists), .int .i64 v3.f_Kind, .sl false (List.map c_api_Cell v3.f_Cells)]) rfl rfl rfl el22 sz55 hv3 rfl rfl) ?_
      refine n_ 19 rfl rfl rfl (fun _ _ => .fieldAddr rfl rfl rfl fl55u_3 rfl) ?_
      refine n_ 20 rfl rfl rfl (fun _ _ => x_load rfl rfl rfl sz46 un46 ag46 rfl) ?_
      refine n_ 21 rfl rfl rfl (fun _ _ => x_len (f := c_api_Cell) (l := v3.f_Cells) rfl rfl rfl el46) ?_
      refine pa 6 ?_
      refine pa 7 ?_
      refine we_nil ?_
      cases h
      exact ⟨rfl, _, .re (rl [0, 4, 1, 3, 33]) [] [] rfl (.refl _), rfl⟩
     ·clear hq
      refine exg_seq ?_
      obtain ⟨q4, hq, h⟩ := bindS h
      refine exg_piece hJ hJx [.yl l, .cp [.int .i64 p1.f_Line, .int .i64 p1.f_At], .cp [.int .i64 p2.f_Line, .int .i64 p2.f_At], .cp [.sl false (List.map c_api_Line p3)], Z, .int .i64 n1, .int .i64 q4, .int .i64 q2, Z, Z, Z, Z, Z, Z, Z, Z, Z, Z, Z, Z, Z, Z, Z, Z, Z, Z, Z, Z, Z, Z, Z, Z, Z, Z, Z, Z, Z, Z, Z, Z, Z] rfl ?_ rfl ?_
      ·clear h
       have h := hq
       clear hq
       refine ex_seq ?_
       refine ex_ord [] (l := [0, 1, 2, 3]) rfl ?_
       refine pm 22 ?_
       refine pq 23 rfl (.fieldAddr rfl rfl rfl fl24u_0 rfl) ?_
       refine pq 24 rfl (x_load rfl rfl rfl sz3 un3 ag3 rfl) ?_
       refine pq 25 rfl (.bin rfl rfl rfl rfl) ?_
       refine we_nil ?_
       refine ex_if rfl ?_ ?_
       ·intro hc
        replace h := iteT h hc
        refine ex_ord [] (l := [0, 1, 2]) rfl ?_
        refine pq 26 rfl (.fieldAddr rfl rfl rfl fl24u_1 rfl) ?_
        refine pq 27 rfl (x_load rfl rfl rfl sz3 un3 ag3 rfl) ?_
        refine pa 6 ?_
        refine we_nil ?_
        cases h
        exact ⟨rfl, _, .re (rl [0, 4, 1, 3, 33]) [] [] rfl (.refl _), rfl⟩
       ·intro hc
        replace h := iteF h hc
        refine ex_skip ?_
        cases h
        exact ⟨rfl, _, .re (rl [0, 4, 1, 3, 33]) [] [] rfl (.refl _), rfl⟩
      ·clear hq
       refine exg_seq ?_
       obtain ⟨q5, hq, h⟩ := bindS h
       refine exg_piece hJ hJx [.yl l, .cp [.int .i64 p1.f_Line, .int .i64 p1.f_At], .cp [.int .i64 p2.f_Line, .int .i64 p2.f_At], .cp [.sl false (List.map c_api_Line p3)], Z, .int .i64 n1, .int .i64 q4, .int .i64 q5, Z, Z, Z, Z, Z, Z, Z, Z, Z, Z, Z, Z, Z, Z, Z, Z, Z, Z, Z, Z, Z, Z, Z, Z, Z, Z, Z, Z, Z, Z, Z, Z, Z] rfl ?_ rfl ?_
       ·clear h
        have h := hq
        clear hq
        refine ex_seq ?_
        refine ex_ord [] (l := [0, 1, 2, 3]) rfl ?_
        refine pm 28 ?_
        refine pq 29 rfl (.fieldAddr rfl rfl rfl fl24u_0 rfl) ?_
        refine pq 30 rfl (x_load rfl rfl rfl sz3 un3 ag3 rfl) ?_
        refine pq 31 rfl (.bin rfl rfl rfl rfl) ?_
        refine we_nil ?_
        refine ex_if rfl ?_ ?_
        ·intro hc
         replace h := iteT h hc
         refine ex_ord [] (l := [0, 1, 2]) rfl ?_
         refine pq 32 rfl (.fieldAddr rfl rfl rfl fl24u_1 rfl) ?_
         refine pq 33 rfl (x_load rfl rfl rfl sz3 un3 ag3 rfl) ?_
         refine pa 7 ?_
         refine we_nil ?_
         cases h
         exact ⟨rfl, _, .re (rl [0, 4, 1, 3, 33]) [] [] rfl (.refl _), rfl⟩
        ·intro hc
         replace h := iteF h hc
         refine ex_skip ?_
         cases h
         exact ⟨rfl, _, .re (rl [0, 4, 1, 3, 33]) [] [] rfl (.refl _), rfl⟩
       ·clear hq
        have h := Option.some.inj h
        subst h
        have hx := hx _ _ rfl
        refine exg_seq ?_
        refine exg_yieldW (l1 := [0, 1, 2, 3, 4]) (i := 5) (l2 := [6]) (encs := encs_doc_between_1) (encD := encD_doc_between_1) (x := (n1, (q4, q5))) (s1 := [.yl l, .cp [.int .i64 p1.f_Line, .int .i64 p1.f_At], .cp [.int .i64 p2.f_Line, .int .i64 p2.f_At], .cp [.sl false (List.map c_api_Line p3)], Z, .int .i64 n1, .int .i64 q4, .int .i64 q5, Z, Z, Z, Z, Z, Z, Z, Z, Z, Z, Z, Z, Z, Z, Z, Z, Z, Z, Z, Z, Z, Z, Z, Z, Z, Z, .yl l, .int .i64 n1, .int .i64 q4, .int .i64 q5, .agg [.int .i64 q4, .int .i64 q5], Z, Z]) (t := 39) hJ hJx hcap hcapx hy hex_doc_between_1 rfl (fun b => [.yl l, .cp [.int .i64 p1.f_Line, .int .i64 p1.f_At], .cp [.int .i64 p2.f_Line, .int .i64 p2.f_At], .cp [.sl false (List.map c_api_Line p3)], Z, .int .i64 n1, .int .i64 q4, .int .i64 q5, Z, Z, Z, Z, Z, Z, Z, Z, Z, Z, Z, Z, Z, Z, Z, Z, Z, Z, Z, Z, Z, Z, Z, Z, Z, Z, .yl l, .int .i64 n1, .int .i64 q4, .int .i64 q5, Z, .bool b, Z]) (fun b => [.yl l, .cp [.int .i64 p1.f_Line, .int .i64 p1.f_At], .cp [.int .i64 p2.f_Line, .int .i64 p2.f_At], .cp [.sl false (List.map c_api_Line p3)], Z, .int .i64 n1, .int .i64 q4, .int .i64 q5, Z, Z, Z, Z, Z, Z, Z, Z, Z, Z, Z, Z, Z, Z, Z, Z, Z, Z, Z, Z, Z, Z, Z, Z, Z, Z, .yl l, .int .i64 n1, .int .i64 q4, .int .i64 q5, Z, .bool b, .bool (!b)]) (Nat.le_of_ble_eq_true rfl) rfl ?_ rfl rfl rfl rfl rfl rfl rfl ?_ rfl ?_ ?_ ?_ ?_
        ·refine pm 34 ?_
         refine pm 35 ?_
         refine pm 36 ?_
         refine pm 37 ?_
         refine pq 38 rfl (x_buildA rfl ar96 sz3 ze96 rfl rfl rfl rfl) ?_
         refine we_nil ?_
         exact rfl
        ·exact hx
        ·intro b; rfl
        ·intro b
         refine pq 40 rfl (.un rfl rfl rfl) ?_
         refine we_nil ?_
         exact rfl
        ·intro b; rfl
        ·intro b
         refine exg_if (t := !b) rfl ?_ ?_
         ·intro hb
          refine exg_ret ?_
          exact .inr (.inr ⟨rfl, by simpa using hb, rfl, _, rfl⟩)
         ·intro hb
          obtain rfl : b = true := by simpa using hb
          refine exg_skip ?_
          have h := True.intro
          refine exg_piece hJ hJx [.yl l, .cp [.int .i64 p1.f_Line, .int .i64 p1.f_At], .cp [.int .i64 p2.f_Line, .int .i64 p2.f_At], .cp [.sl false (List.map c_api_Line p3)], Z, .int .i64 (IntKind.wrap .i64 (n1 + 1)), Z, Z, Z, Z, Z, Z, Z, Z, Z, Z, Z, Z, Z, Z, Z, Z, Z, Z, Z, Z, Z, Z, Z, Z, Z, Z, Z, Z, Z, Z, Z, Z, Z, Z, Z] rfl ?_ rfl ?_
          ·clear h
           refine ex_ord [] (l := [0, 1, 2]) rfl ?_
           refine pm 14 ?_
           refine pq 15 rfl (.bin rfl rfl rfl rfl) ?_
           refine pa 5 ?_
           refine we_nil ?_
           exact ⟨rfl, _, .re (rl [0, 4, 1, 1, 35]) [] [] rfl (.refl _), rfl⟩
          ·exact .inl ⟨rfl, _, _, rfl, rfl⟩
    ·intro hc
     replace h := iteF h hc
     have h := Option.some.inj h
     subst h
     refine exg_exit ?_
     exact .inr (.inl ⟨rfl, rfl, rfl, rfl⟩)
theorem ok_utf8u_ValidString {r : Bool} {p0 : List UInt8} (h : utf8u_ValidString p0 = some r) : OkB prog 140 [.str (bs p0)] [] [] (.bool r) [] [] := by
 unfold utf8u_ValidString at h
 split at h
 ·rename_i hl
  obtain rfl := Option.some.inj h
  exact okB_pure [.str p0] (.one (.bool (Lib.validD p0))) (fun w hT => Go.Proofs.Any.utf8_ValidString Go.Proofs.Tryz.lays196 (bs p0) w hl hT.1.1)
 ·cases h
theorem ok_doc_Size {r : Int} {p0 : List (T_api_Line)} (h : doc_Size p0 = some r) : OkB prog 15 [.sl false (List.map c_api_Line p0)] [] [] (.int .i64 r) [] [] := by
 unfold doc_Size at h
 refine okB_of_exG func15 rfl rfl (s0 := [.sl false (List.map c_api_Line p0), Z, Z, Z, Z, Z, Z, Z, Z, Z, Z, Z, Z, Z, Z, Z, Z, Z, Z]) (b0 := []) (r0 := []) rfl rfl rfl ?_
 show Ex _ _ _ ⟨[.sl false (List.map c_api_Line p0), Z, Z, Z, Z, Z, Z, Z, Z, Z, Z, Z, Z, Z, Z, Z, Z, Z, Z], [], [], 0⟩ _
 refine ex_seq ?_
 refine ex_ord [] (l := [0]) rfl ?_
 refine pa 2 ?_
 refine we_nil ?_
 refine ex_seq ?_
 refine ex_ord [] (l := [0]) rfl ?_
 refine pa 3 ?_
 refine we_nil ?_
 refine ex_seq ?_
 refine ex_seq ?_
 refine ex_ord [] (l := [0, 1, 2]) rfl ?_
 refine pm 6 ?_
 refine pq 7 rfl (x_len (f := c_api_Line) (l := p0) rfl rfl rfl el22) ?_
 refine pm 8 ?_
 refine we_nil ?_
 refine ex_block ?_
 obtain ⟨k3, hl, h⟩ := bindS h
 refine ex_gst ⟨[Z, Z, Z, .int .i64 0, Z, Z, .sl false (List.map c_api_Line p0), .int .i64 (p0.length : Int), .int .i64 0, Z, Z, Z, Z, Z, Z, Z, Z, Z, Z], [], [], 0⟩ (.re (rl [3, 1, 2, 3, 10]) [] [] rfl (.refl _)) rfl ?_
 refine ex_iterX (fun _ => .exit 0) (fun s => ⟨[Z, Z, Z, .int .i64 s.1, Z, Z, .sl false (List.map c_api_Line p0), .int .i64 (p0.length : Int), .int .i64 s.2, Z, Z, Z, Z, Z, Z, Z, Z, Z, Z], [], [], 0⟩) (fun o => ⟨[Z, Z, Z, .int .i64 o, Z, Z, Z, Z, Z, Z, Z, Z, Z, Z, Z, Z, Z, Z, Z], [], [], 0⟩) hl rfl ?_ ?_
 ·clear hl
  refine ex_seq ?_
  refine ex_ord [] (l := [0, 1]) rfl ?_
  refine pm 18 ?_
  refine pa 2 ?_
  refine we_nil ?_
  refine ex_ret ?_
  obtain rfl := Option.some.inj h
  exact finB (by first | exact .inr rfl | exact .inl rfl) (.refl _) [.int .i64 k3] [] [] (res_cons (res_tmp rfl) res_nil) rfl rfl rfl rfl rfl rfl rfl
 ·clear hl h
  rintro ⟨n1, n2⟩ y h
  replace h : doc_Size_l1 p0 n1 n2 = some y := h
  unfold doc_Size_l1 at h
  show Ex _ _ _ ⟨[Z, Z, Z, .int .i64 n1, Z, Z, .sl false (List.map c_api_Line p0), .int .i64 (p0.length : Int), .int .i64 n2, Z, Z, Z, Z, Z, Z, Z, Z, Z, Z], [], [], 0⟩ _
  refine ex_seq ?_
  refine ex_ord [] (l := [0]) rfl ?_
  refine pq 9 rfl (.bin rfl rfl rfl rfl) ?_
  refine we_nil ?_
  refine ex_seq ?_
  refine ex_if rfl ?_ ?_
  ·intro hc
   replace h := iteT h hc
   refine ex_skip ?_
   refine ex_seq ?_
   refine ex_block ?_
   refine ex_seq ?_
   refine ex_ord [2, 3] (l := [0, 1, 2, 3]) rfl ?_
   obtain ⟨v4, hv4, h⟩ := bindS h
   refine pq 10 rfl (x_idx (f := c_api_Line) (cs := [.int .i64 v4.f_Quote, .sl false (List.map c_i64 v4.f_Lists), .int .i64 v4.f_Kind, .sl false (List.map c_api_Cell v4.f_Cells)]) rfl rfl rfl el22 sz55 hv4 rfl rfl) ?_
   refine pq 11 rfl (x_loadA rfl rfl rfl sz55 un55 ag55 rfl) ?_
   refine e_ (d := .bx 0 0) 5 rfl rfl rfl rfl rfl (b' := [some [.int .i64 0, .sl false [], .int .i64 0, .sl false []]]) (r' := []) (.alloc rfl ze55) rfl ?_
   refine e0 rfl rfl rfl rfl rfl (b' := [some [.int .i64 v4.f_Quote, .sl false (List.map c_i64 v4.f_Lists), .int .i64 v4.f_Kind, .sl false (List.map c_api_Cell v4.f_Cells)]]) (r' := []) (.store rfl rfl rfl sz55 rfl rfl rfl) rfl ?_
   refine we_nil ?_
   refine ex_gst ⟨[Z, Z, Z, .int .i64 n1, Z, .cp [.int .i64 v4.f_Quote, .sl false (List.map c_i64 v4.f_Lists), .int .i64 v4.f_Kind, .sl false (List.map c_api_Cell v4.f_Cells)], .sl false (List.map c_api_Line p0), .int .i64 (p0.length : Int), .int .i64 n2, .bool (decide ((n2 : Int) < (p0.length : Int))), .cp [.int .i64 v4.f_Quote, .sl false (List.map c_i64 v4.f_Lists), .int .i64 v4.f_Kind, .sl false (List.map c_api_Cell v4.f_Cells)], .agg [.int .i64 v4.f_Quote, .sl false (List.map c_i64 v4.f_Lists), .int .i64 v4.f_Kind, .sl false (List.map c_api_Cell v4.f_Cells)], Z, Z, Z, Z, Z, Z, Z], [none], [], 0⟩ (.shutB (b := 0) rfl (fun d h => by simpa using List.all_eq_true.1 (rfl : List.all [.int .i64 v4.f_Quote, .sl false (List.map c_i64 v4.f_Lists), .int .i64 v4.f_Kind, .sl false (List.map c_api_Cell v4.f_Cells)] (fun d => !d.tok) = true) d h) (.refl _)) rfl ?_
   refine ex_ord [] (l := [0, 1, 2, 3, 4, 5]) rfl ?_
   refine pm 12 ?_
   refine pq 13 rfl (.fieldAddr rfl rfl rfl fl55u_3 rfl) ?_
   refine pq 14 rfl (x_load rfl rfl rfl sz46 un46 ag46 rfl) ?_
   refine pq 15 rfl (x_len (f := c_api_Cell) (l := v4.f_Cells) rfl rfl rfl el46) ?_
   refine pq 16 rfl (.bin rfl rfl rfl rfl) ?_
   refine pa 3 ?_
   refine we_nil ?_
   refine ex_ord [] (l := [0, 1]) rfl ?_
   refine pq 17 rfl (.bin rfl rfl rfl rfl) ?_
   refine pm 8 ?_
   refine we_nil ?_
   exact rnd_on rfl h (.re (rl [3, 1, 2, 3, 10]) [] [] rfl (.refl _)) rfl
  ·intro hc
   replace h := iteF h hc
   refine ex_exit ?_
   exact rnd_out (o := n1) rfl (fun h => by cases h) h (.re (rl [3, 1, 15]) [] [] rfl (.refl _)) rfl
theorem ok_quillworkref07u_Size {r : Int} {p0 : List (T_api_Line)} (h : quillworkref07u_Size p0 = some r) : OkB prog 16 [.sl false (List.map c_api_Line p0)] [] [] (.int .i64 r) [] [] := by
 unfold quillworkref07u_Size at h
 refine okB_of_exG func16 rfl rfl (s0 := [.sl false (List.map c_api_Line p0), Z, Z, Z, Z, Z, Z, Z, Z, Z, Z, Z, Z, Z, Z, Z, Z, Z, Z, Z]) (b0 := []) (r0 := []) rfl rfl rfl ?_
 show Ex _ _ _ ⟨[.sl false (List.map c_api_Line p0), Z, Z, Z, Z, Z, Z, Z, Z, Z, Z, Z, Z, Z, Z, Z, Z, Z, Z, Z], [], [], 0⟩ _
 refine ex_seq ?_
 refine ex_ord [] (l := [0]) rfl ?_
 refine pa 2 ?_
 refine we_nil ?_
 refine ex_seq ?_
 refine ex_ord [] (l := [0]) rfl ?_
 refine pa 3 ?_
 refine we_nil ?_
 refine ex_seq ?_
 refine ex_seq ?_
 refine ex_ord [] (l := [0]) rfl ?_
 refine pa 4 ?_
 refine we_nil ?_
 refine ex_block ?_
 obtain ⟨k3, hl, h⟩ := bindS h
 refine ex_gst ⟨[.sl false (List.map c_api_Line p0), Z, Z, .int .i64 0, .int .i64 0, Z, Z, Z, Z, Z, Z, Z, Z, Z, Z, Z, Z, Z, Z, Z], [], [], 0⟩ (.re (rl [0, 1, 2, 2, 15]) [] [] rfl (.refl _)) rfl ?_
 refine ex_iterX (fun _ => .exit 0) (fun s => ⟨[.sl false (List.map c_api_Line p0), Z, Z, .int .i64 s.1, .int .i64 s.2, Z, Z, Z, Z, Z, Z, Z, Z, Z, Z, Z, Z, Z, Z, Z], [], [], 0⟩) (fun o => ⟨[Z, Z, Z, .int .i64 o, Z, Z, Z, Z, Z, Z, Z, Z, Z, Z, Z, Z, Z, Z, Z, Z], [], [], 0⟩) hl rfl ?_ ?_
 ·clear hl
  refine ex_seq ?_
  refine ex_ord [] (l := [0, 1]) rfl ?_
  refine pm 19 ?_
  refine pa 2 ?_
  refine we_nil ?_
  refine ex_ret ?_
  obtain rfl := Option.some.inj h
  exact finB (by first | exact .inr rfl | exact .inl rfl) (.refl _) [.int .i64 k3] [] [] (res_cons (res_tmp rfl) res_nil) rfl rfl rfl rfl rfl rfl rfl
 ·clear hl h
  rintro ⟨n1, n2⟩ y h
  replace h : quillworkref07u_Size_l1 p0 n1 n2 = some y := h
  unfold quillworkref07u_Size_l1 at h
  show Ex _ _ _ ⟨[.sl false (List.map c_api_Line p0), Z, Z, .int .i64 n1, .int .i64 n2, Z, Z, Z, Z, Z, Z, Z, Z, Z, Z, Z, Z, Z, Z, Z], [], [], 0⟩ _
  refine ex_seq ?_
  refine ex_seq ?_
  refine ex_ord [] (l := [0, 1, 2, 3]) rfl ?_
  refine pm 5 ?_
  refine pm 6 ?_
  refine pq 7 rfl (x_len (f := c_api_Line) (l := p0) rfl rfl rfl el22) ?_
  refine pq 8 rfl (.bin rfl rfl rfl rfl) ?_
  refine we_nil ?_
  refine ex_if rfl ?_ ?_
  ·intro hc
   replace h := iteT h hc
   refine ex_skip ?_
   refine ex_seq ?_
   refine ex_block ?_
   refine ex_ord [] (l := [0, 1, 2, 3, 4, 5, 6, 7, 8]) rfl ?_
   refine pm 11 ?_
   refine pm 12 ?_
   refine pm 13 ?_
   obtain ⟨v4, hv4, h⟩ := bindS h
   refine pq 14 rfl (x_idx (f := c_api_Line) (cs := [.int .i64 v4.f_Quote, .sl false (List.map c_i64 v4.f_Lists), .int .i64 v4.f_Kind, .sl false (List.map c_api_Cell v4.f_Cells)]) rfl rfl rfl el22 sz55 hv4 rfl rfl) ?_
   refine pq 15 rfl (.fieldAddr rfl rfl rfl fl55u_3 rfl) ?_
   refine pq 16 rfl (x_load rfl rfl rfl sz46 un46 ag46 rfl) ?_
   refine pq 17 rfl (x_len (f := c_api_Cell) (l := v4.f_Cells) rfl rfl rfl el46) ?_
   refine pq 18 rfl (.bin rfl rfl rfl rfl) ?_
   refine pa 3 ?_
   refine we_nil ?_
   refine ex_ord [] (l := [0, 1, 2]) rfl ?_
   refine pm 9 ?_
   refine pq 10 rfl (.bin rfl rfl rfl rfl) ?_
   refine pa 4 ?_
   refine we_nil ?_
   exact rnd_on rfl h (.re (rl [0, 1, 2, 2, 15]) [] [] rfl (.refl _)) rfl
  ·intro hc
   replace h := iteF h hc
   refine ex_exit ?_
   exact rnd_out (o := n1) rfl (fun h => by cases h) h (.re (rl [3, 1, 16]) [] [] rfl (.refl _)) rfl
theorem ok_doc_End {r : T_api_Pos} {p0 : List (T_api_Line)} (h : doc_End p0 = some r) : OkB prog 17 [.sl false (List.map c_api_Line p0)] [] [] (.agg [.int .i64 r.f_Line, .int .i64 r.f_At]) [] [] := by
 unfold doc_End at h
 refine okB_of_exG func17 rfl rfl (s0 := [.sl false (List.map c_api_Line p0), Z, Z, Z, Z, Z, Z, Z, Z, Z, Z, Z, Z, Z, Z, Z, Z, Z, Z]) (b0 := []) (r0 := []) rfl rfl rfl ?_
 show Ex _ _ _ ⟨[.sl false (List.map c_api_Line p0), Z, Z, Z, Z, Z, Z, Z, Z, Z, Z, Z, Z, Z, Z, Z, Z, Z, Z], [], [], 0⟩ _
 refine ex_seq ?_
 refine ex_ord [0] (l := [0]) rfl ?_
 refine e_ (d := .bx 0 0) 2 rfl rfl rfl rfl rfl (b' := [some [.int .i64 0, .int .i64 0]]) (r' := []) (.alloc rfl ze24) rfl ?_
 refine we_nil ?_
 refine ex_seq ?_
 refine ex_seq ?_
 refine ex_ord [] (l := [0, 1, 2]) rfl ?_
 refine pm 3 ?_
 refine pq 4 rfl (x_len (f := c_api_Line) (l := p0) rfl rfl rfl el22) ?_
 refine pq 5 rfl (.bin rfl rfl rfl rfl) ?_
 refine we_nil ?_
 refine ex_if rfl ?_ ?_
 ·intro hc
  replace h := iteT h hc
  refine ex_seq ?_
  refine ex_ord [1] (l := [0, 1]) rfl ?_
  refine pq 6 rfl (x_build rfl pl24 ze24 rfl rfl rfl rfl) ?_
  refine e0 rfl rfl rfl rfl rfl (b' := [some [.int .i64 0, .int .i64 0]]) (r' := []) (.store rfl rfl rfl sz24 rfl rfl rfl) rfl ?_
  refine we_nil ?_
  refine ex_ret ?_
  obtain rfl := Option.some.inj h
  exact finB (by first | exact .inr rfl | exact .inl rfl) (.refl _) [.agg [.int .i64 0, .int .i64 0]] [] [] (res_cons (res_cell rfl rfl sz24 un24 ag24 rfl) res_nil) rfl rfl rfl rfl rfl rfl rfl
 ·intro hc
  replace h := iteF h hc
  refine ex_skip ?_
  refine ex_seq ?_
  refine ex_ord [12] (l := [0, 1, 2, 3, 4, 5, 6, 7, 8, 9, 10, 11, 12]) rfl ?_
  refine pm 7 ?_
  refine pq 8 rfl (x_len (f := c_api_Line) (l := p0) rfl rfl rfl el22) ?_
  refine pq 9 rfl (.bin rfl rfl rfl rfl) ?_
  refine pm 10 ?_
  refine pm 11 ?_
  refine pq 12 rfl (x_len (f := c_api_Line) (l := p0) rfl rfl rfl el22) ?_
  refine pq 13 rfl (.bin rfl rfl rfl rfl) ?_
  obtain ⟨v1, hv1, h⟩ := bindS h
  refine pq 14 rfl (x_idx (f := c_api_Line) (cs := [.int .i64 v1.f_Quote, .sl false (List.map c_i64 v1.f_Lists), .int .i64 v1.f_Kind, .sl false (List.map c_api_Cell v1.f_Cells)]) rfl rfl rfl el22 sz55 hv1 rfl rfl) ?_
  refine pq 15 rfl (.fieldAddr rfl rfl rfl fl55u_3 rfl) ?_
  refine pq 16 rfl (x_load rfl rfl rfl sz46 un46 ag46 rfl) ?_
  refine pq 17 rfl (x_len (f := c_api_Cell) (l := v1.f_Cells) rfl rfl rfl el46) ?_
  refine pq 18 rfl (x_build rfl pl24 ze24 rfl rfl rfl rfl) ?_
  refine e0 rfl rfl rfl rfl rfl (b' := [some [.int .i64 (IntKind.wrap .i64 ((p0.length : Int) - 1)), .int .i64 (v1.f_Cells.length : Int)]]) (r' := []) (.store rfl rfl rfl sz24 rfl rfl rfl) rfl ?_
  refine we_nil ?_
  refine ex_ret ?_
  obtain rfl := Option.some.inj h
  exact finB (by first | exact .inr rfl | exact .inl rfl) (.refl _) [.agg [.int .i64 (IntKind.wrap .i64 ((p0.length : Int) - 1)), .int .i64 (v1.f_Cells.length : Int)]] [] [] (res_cons (res_cell rfl rfl sz24 un24 ag24 rfl) res_nil) rfl rfl rfl rfl rfl rfl rfl
theorem ok_doc_Is {r : Bool} {p0 : List (T_api_Line)} {p1 : T_api_Pos} (h : doc_Is p0 p1 = some r) : OkB prog 19 [.sl false (List.map c_api_Line p0), .agg [.int .i64 p1.f_Line, .int .i64 p1.f_At]] [] [] (.bool r) [] [] := by
 unfold doc_Is at h
 refine okB_of_exG func19 rfl rfl (s0 := [.sl false (List.map c_api_Line p0), .agg [.int .i64 p1.f_Line, .int .i64 p1.f_At], Z, Z, Z, Z, Z, Z, Z, Z, Z, Z, Z, Z, Z, Z, Z, Z, Z, Z, Z, Z, Z, Z, Z, Z, Z, Z, Z, Z, Z, Z]) (b0 := []) (r0 := []) rfl rfl rfl ?_
 show Ex _ _ _ ⟨[.sl false (List.map c_api_Line p0), .agg [.int .i64 p1.f_Line, .int .i64 p1.f_At], Z, Z, Z, Z, Z, Z, Z, Z, Z, Z, Z, Z, Z, Z, Z, Z, Z, Z, Z, Z, Z, Z, Z, Z, Z, Z, Z, Z, Z, Z], [], [], 0⟩ _
 refine ex_seq ?_
 refine ex_ord [0] (l := [0, 1]) rfl ?_
 refine e_ (d := .bx 0 0) 3 rfl rfl rfl rfl rfl (b' := [some [.int .i64 p1.f_Line, .int .i64 p1.f_At]]) (r' := []) (.box rfl rfl rfl) rfl ?_
 refine pa 4 ?_
 refine we_nil ?_
 refine ex_seq ?_
 refine ex_gst ⟨[.sl false (List.map c_api_Line p0), .agg [.int .i64 p1.f_Line, .int .i64 p1.f_At], Z, .cp [.int .i64 p1.f_Line, .int .i64 p1.f_At], .bool false, Z, Z, Z, Z, Z, Z, Z, Z, Z, Z, Z, Z, Z, Z, Z, Z, Z, Z, Z, Z, Z, Z, Z, Z, Z, Z, Z], [none], [], 0⟩ (.shutB (b := 0) rfl (fun d h => by simpa using List.all_eq_true.1 (rfl : List.all [.int .i64 p1.f_Line, .int .i64 p1.f_At] (fun d => !d.tok) = true) d h) (.refl _)) rfl ?_
 obtain ⟨q1, hq, h⟩ := bindS h
 refine ex_cut ⟨[Z, Z, Z, Z, .bool q1, Z, Z, Z, Z, Z, Z, Z, Z, Z, Z, Z, Z, Z, Z, Z, Z, Z, Z, Z, Z, Z, Z, Z, Z, Z, Z, Z], [], [], 0⟩ ?_ ?_
 ·clear h
  have h := hq
  clear hq
  refine ex_drw mo [1000, 1001, 1004, 1005, 1007, 1011, 1012, 1016, 1017, 1019, 1020, 1021, 1022, 1023, 1024] (by kernel_rfl) (l := [0, 1, 2, 3, 4, 5, 6, 7, 8, 9, 10, 11, 12, 13, 14, 15, 16, 17, 18, 19, 20, 21, 22, 23, 24, 25, 26, 27]) rfl ?_
  refine n_ 5 rfl rfl rfl (fun _ _ => .fieldAddr rfl rfl rfl fl24u_0 rfl) ?_
  refine n_ 6 rfl rfl rfl (fun _ _ => x_load rfl rfl rfl sz3 un3 ag3 rfl) ?_
  refine pif 7 rfl rfl rfl rfl (.bin rfl rfl rfl rfl) ?_ ?_
  ·intro hc
   replace h := iteT h hc
   refine pm 8 ?_
   refine n_ 9 rfl rfl rfl (fun _ _ => .fieldAddr rfl rfl rfl fl24u_0 rfl) ?_
   refine n_ 10 rfl rfl rfl (fun _ _ => x_load rfl rfl rfl sz3 un3 ag3 rfl) ?_
   refine pm 11 ?_
   refine n_ 12 rfl rfl rfl (fun _ _ => x_len (f := c_api_Line) (l := p0) rfl rfl rfl el22) ?_
   refine pif 13 rfl rfl rfl rfl (.bin rfl rfl rfl rfl) ?_ ?_
   ·intro hc
    replace h := iteT h hc
    refine pq 14 rfl (x_pickT rfl rfl rfl rfl) ?_
    refine pm 15 ?_
    refine n_ 16 rfl rfl rfl (fun _ _ => .fieldAddr rfl rfl rfl fl24u_1 rfl) ?_
    refine n_ 17 rfl rfl rfl (fun _ _ => x_load rfl rfl rfl sz3 un3 ag3 rfl) ?_
    refine pif 18 rfl rfl rfl rfl (.bin rfl rfl rfl rfl) ?_ ?_
    ·intro hc
     replace h := iteT h hc
     refine pq 19 rfl (x_pickT rfl rfl rfl rfl) ?_
     refine pm 20 ?_
     refine n_ 21 rfl rfl rfl (fun _ _ => .fieldAddr rfl rfl rfl fl24u_1 rfl) ?_
     refine n_ 22 rfl rfl rfl (fun _ _ => x_load rfl rfl rfl sz3 un3 ag3 rfl) ?_
     refine pm 23 ?_
     refine n_ 24 rfl rfl rfl (fun _ _ => .fieldAddr rfl rfl rfl fl24u_0 rfl) ?_
     refine n_ 25 rfl rfl rfl (fun _ _ => x_load rfl rfl rfl sz3 un3 ag3 rfl) ?_
     obtain ⟨v2, hv2, h⟩ := bindS h
     refine n_ 26 rfl rfl rfl (fun _ _ => x_idx (f := c_api_Line) (cs := [.int .i64 v2.f_Quote, .sl false (List.map c_i64 v2.f_Lists), .int .i64 v2.f_Kind, .sl false (List.map c_api_Cell v2.f_Cells)]) rfl rfl rfl el22 sz55 hv2 rfl rfl) ?_
     refine n_ 27 rfl rfl rfl (fun _ _ => .fieldAddr rfl rfl rfl fl55u_3 rfl) ?_
     refine n_ 28 rfl rfl rfl (fun _ _ => x_load rfl rfl rfl sz46 un46 ag46 rfl) ?_
     refine n_ 29 rfl rfl rfl (fun _ _ => x_len (f := c_api_Cell) (l := v2.f_Cells) rfl rfl rfl el46) ?_
     refine pq 30 rfl (.bin rfl rfl rfl rfl) ?_
     refine pq 31 rfl (x_pickT rfl rfl rfl rfl) ?_
     refine pa 4 ?_
     refine we_nil ?_
     cases h
     exact ⟨rfl, _, .re (rl [4, 1, 27]) [] [] rfl (.refl _), rfl⟩
    ·intro hc
     replace h := iteF h hc
     refine pq 19 rfl (x_pickT rfl rfl rfl rfl) ?_
     refine pm 20 ?_
     refine kq 21 ?_
     refine kq 22 ?_
     refine kq 23 ?_
     refine kq 24 ?_
     refine kq 25 ?_
     refine kq 26 ?_
     refine kq 27 ?_
     refine kq 28 ?_
     refine kq 29 ?_
     refine kq 30 ?_
     refine pq 31 rfl (x_pickF rfl rfl rfl rfl) ?_
     refine pa 4 ?_
     refine we_nil ?_
     cases h
     exact ⟨rfl, _, .re (rl [4, 1, 27]) [] [] rfl (.refl _), rfl⟩
   ·intro hc
    replace h := iteF h hc
    refine pq 14 rfl (x_pickT rfl rfl rfl rfl) ?_
    refine pm 15 ?_
    refine kq 16 ?_
    refine kq 17 ?_
    refine kq 18 ?_
    refine pq 19 rfl (x_pickF rfl rfl rfl rfl) ?_
    refine pm 20 ?_
    refine kq 21 ?_
    refine kq 22 ?_
    refine kq 23 ?_
    refine kq 24 ?_
    refine kq 25 ?_
    refine kq 26 ?_
    refine kq 27 ?_
    refine kq 28 ?_
    refine kq 29 ?_
    refine kq 30 ?_
    refine pq 31 rfl (x_pickF rfl rfl rfl rfl) ?_
    refine pa 4 ?_
    refine we_nil ?_
    cases h
    exact ⟨rfl, _, .re (rl [4, 1, 27]) [] [] rfl (.refl _), rfl⟩
  ·intro hc
   replace h := iteF h hc
   refine pm 8 ?_
   refine kq 9 ?_
   refine kq 10 ?_
   refine kq 11 ?_
   refine kq 12 ?_
   refine kq 13 ?_
   refine pq 14 rfl (x_pickF rfl rfl rfl rfl) ?_
   refine pm 15 ?_
   refine kq 16 ?_
   refine kq 17 ?_
   refine kq 18 ?_
   refine pq 19 rfl (x_pickF rfl rfl rfl rfl) ?_
   refine pm 20 ?_
   refine kq 21 ?_
   refine kq 22 ?_
   refine kq 23 ?_
   refine kq 24 ?_
   refine kq 25 ?_
   refine kq 26 ?_
   refine kq 27 ?_
   refine kq 28 ?_
   refine kq 29 ?_
   refine kq 30 ?_
   refine pq 31 rfl (x_pickF rfl rfl rfl rfl) ?_
   refine pa 4 ?_
   refine we_nil ?_
   cases h
   exact ⟨rfl, _, .re (rl [4, 1, 27]) [] [] rfl (.refl _), rfl⟩
 ·clear hq
  refine ex_ret ?_
  obtain rfl := Option.some.inj h
  exact finB (by first | exact .inr rfl | exact .inl rfl) (.refl _) [.bool q1] [] [] (res_cons (res_tmp rfl) res_nil) rfl rfl rfl rfl rfl rfl rfl
theorem ok_quillworkref07u_Is {r : Bool} {p0 : List (T_api_Line)} {p1 : T_api_Pos} (h : quillworkref07u_Is p0 p1 = some r) : OkB prog 20 [.sl false (List.map c_api_Line p0), .agg [.int .i64 p1.f_Line, .int .i64 p1.f_At]] [] [] (.bool r) [] [] := by
 unfold quillworkref07u_Is at h
 refine okB_of_exG func20 rfl rfl (s0 := [.sl false (List.map c_api_Line p0), .agg [.int .i64 p1.f_Line, .int .i64 p1.f_At], Z, Z, Z, Z, Z, Z, Z, Z, Z, Z, Z, Z, Z, Z, Z, Z, Z, Z, Z, Z, Z, Z, Z, Z, Z, Z, Z, Z]) (b0 := []) (r0 := []) rfl rfl rfl ?_
 show Ex _ _ _ ⟨[.sl false (List.map c_api_Line p0), .agg [.int .i64 p1.f_Line, .int .i64 p1.f_At], Z, Z, Z, Z, Z, Z, Z, Z, Z, Z, Z, Z, Z, Z, Z, Z, Z, Z, Z, Z, Z, Z, Z, Z, Z, Z, Z, Z], [], [], 0⟩ _
 refine ex_seq ?_
 refine ex_ord [0] (l := [0, 1]) rfl ?_
 refine e_ (d := .bx 0 0) 3 rfl rfl rfl rfl rfl (b' := [some [.int .i64 p1.f_Line, .int .i64 p1.f_At]]) (r' := []) (.box rfl rfl rfl) rfl ?_
 refine pa 4 ?_
 refine we_nil ?_
 refine ex_seq ?_
 refine ex_seq ?_
 refine ex_gst ⟨[.sl false (List.map c_api_Line p0), .agg [.int .i64 p1.f_Line, .int .i64 p1.f_At], Z, .cp [.int .i64 p1.f_Line, .int .i64 p1.f_At], .bool false, Z, Z, Z, Z, Z, Z, Z, Z, Z, Z, Z, Z, Z, Z, Z, Z, Z, Z, Z, Z, Z, Z, Z, Z, Z], [none], [], 0⟩ (.shutB (b := 0) rfl (fun d h => by simpa using List.all_eq_true.1 (rfl : List.all [.int .i64 p1.f_Line, .int .i64 p1.f_At] (fun d => !d.tok) = true) d h) (.refl _)) rfl ?_
 obtain ⟨q1, hq, h⟩ := bindS h
 refine ex_cut ⟨[.sl false (List.map c_api_Line p0), Z, Z, .cp [.int .i64 p1.f_Line, .int .i64 p1.f_At], Z, Z, Z, Z, Z, Z, Z, Z, Z, Z, .bool q1, Z, Z, Z, Z, Z, Z, Z, Z, Z, Z, Z, Z, Z, Z, Z], [], [], 0⟩ ?_ ?_
 ·clear h
  have h := hq
  clear hq
  refine ex_ord [] (l := [0, 1, 2, 3, 4, 5, 6, 7, 8, 9]) rfl ?_
  refine pq 5 rfl (.fieldAddr rfl rfl rfl fl24u_0 rfl) ?_
  refine pq 6 rfl (x_load rfl rfl rfl sz3 un3 ag3 rfl) ?_
  refine pif 7 rfl rfl rfl rfl (.bin rfl rfl rfl rfl) ?_ ?_
  ·intro hc
   replace h := iteT h hc
   refine pm 8 ?_
   refine kq 9 ?_
   refine kq 10 ?_
   refine kq 11 ?_
   refine kq 12 ?_
   refine kq 13 ?_
   refine pq 14 rfl (x_pickT rfl rfl rfl rfl) ?_
   refine we_nil ?_
   cases h
   exact ⟨rfl, _, .re (rl [0, 1, 2, 1, 10, 1, 15]) [] [] rfl (.refl _), rfl⟩
  ·intro hc
   replace h := iteF h hc
   refine pm 8 ?_
   refine pq 9 rfl (.fieldAddr rfl rfl rfl fl24u_0 rfl) ?_
   refine pq 10 rfl (x_load rfl rfl rfl sz3 un3 ag3 rfl) ?_
   refine pm 11 ?_
   refine pq 12 rfl (x_len (f := c_api_Line) (l := p0) rfl rfl rfl el22) ?_
   refine pq 13 rfl (.bin rfl rfl rfl rfl) ?_
   refine pq 14 rfl (x_pickF rfl rfl rfl rfl) ?_
   refine we_nil ?_
   cases h
   exact ⟨rfl, _, .re (rl [0, 1, 2, 1, 10, 1, 15]) [] [] rfl (.refl _), rfl⟩
 ·clear hq
  refine ex_if rfl ?_ ?_
  ·intro hc
   replace h := iteT h hc
   refine ex_seq ?_
   refine ex_ord [] (l := [0]) rfl ?_
   refine pa 4 ?_
   refine we_nil ?_
   refine ex_ret ?_
   obtain rfl := Option.some.inj h
   exact finB (by first | exact .inr rfl | exact .inl rfl) (.refl _) [.bool false] [] [] (res_cons (res_tmp rfl) res_nil) rfl rfl rfl rfl rfl rfl rfl
  ·intro hc
   replace h := iteF h hc
   refine ex_skip ?_
   refine ex_seq ?_
   obtain ⟨q2, hq, h⟩ := bindS h
   refine ex_cut ⟨[Z, Z, Z, Z, .bool q2, Z, Z, Z, Z, Z, Z, Z, Z, Z, Z, Z, Z, Z, Z, Z, Z, Z, Z, Z, Z, Z, Z, Z, Z, Z], [], [], 0⟩ ?_ ?_
   ·clear h
    have h := hq
    clear hq
    refine ex_drw mo [1000, 1001, 1004, 1005, 1007, 1008, 1009, 1010, 1011, 1012] (by kernel_rfl) (l := [0, 1, 2, 3, 4, 5, 6, 7, 8, 9, 10, 11, 12, 13, 14, 15]) rfl ?_
    refine n_ 15 rfl rfl rfl (fun _ _ => .fieldAddr rfl rfl rfl fl24u_1 rfl) ?_
    refine n_ 16 rfl rfl rfl (fun _ _ => x_load rfl rfl rfl sz3 un3 ag3 rfl) ?_
    refine pif 17 rfl rfl rfl rfl (.bin rfl rfl rfl rfl) ?_ ?_
    ·intro hc
     replace h := iteT h hc
     refine pm 18 ?_
     refine n_ 19 rfl rfl rfl (fun _ _ => .fieldAddr rfl rfl rfl fl24u_1 rfl) ?_
     refine n_ 20 rfl rfl rfl (fun _ _ => x_load rfl rfl rfl sz3 un3 ag3 rfl) ?_
     refine pm 21 ?_
     refine n_ 22 rfl rfl rfl (fun _ _ => .fieldAddr rfl rfl rfl fl24u_0 rfl) ?_
     refine n_ 23 rfl rfl rfl (fun _ _ => x_load rfl rfl rfl sz3 un3 ag3 rfl) ?_
     obtain ⟨v3, hv3, h⟩ := bindS h
     refine n_ 24 rfl rfl rfl (fun _ _ => x_idx (f := c_api_Line) (cs := [.int .i64 v3.f_Quote, .sl false (List.map c_i64 v3.f_Lists), .int .i64 v3.f_Kind, .sl false (List.map c_api_Cell v3.f_Cells)]) rfl rfl rfl el22 sz55 hv3 rfl rfl) ?_
     refine n_ 25 rfl rfl rfl (fun _ _ => .fieldAddr rfl rfl rfl fl55u_3 rfl) ?_
     refine n_ 26 rfl rfl rfl (fun _ _ => x_load rfl rfl rfl sz46 un46 ag46 rfl) ?_
     refine n_ 27 rfl rfl rfl (fun _ _ => x_len (f := c_api_Cell) (l := v3.f_Cells) rfl rfl rfl el46) ?_
     refine pq 28 rfl (.bin rfl rfl rfl rfl) ?_
     refine pq 29 rfl (x_pickT rfl rfl rfl rfl) ?_
     refine pa 4 ?_
     refine we_nil ?_
     cases h
     exact ⟨rfl, _, .re (rl [4, 1, 25]) [] [] rfl (.refl _), rfl⟩
    ·intro hc
     replace h := iteF h hc
     refine pm 18 ?_
     refine kq 19 ?_
     refine kq 20 ?_
     refine kq 21 ?_
     refine kq 22 ?_
     refine kq 23 ?_
     refine kq 24 ?_
     refine kq 25 ?_
     refine kq 26 ?_
     refine kq 27 ?_
     refine kq 28 ?_
     refine pq 29 rfl (x_pickF rfl rfl rfl rfl) ?_
     refine pa 4 ?_
     refine we_nil ?_
     cases h
     exact ⟨rfl, _, .re (rl [4, 1, 25]) [] [] rfl (.refl _), rfl⟩
   ·clear hq
    refine ex_ret ?_
    obtain rfl := Option.some.inj h
    exact finB (by first | exact .inr rfl | exact .inl rfl) (.refl _) [.bool q2] [] [] (res_cons (res_tmp rfl) res_nil) rfl rfl rfl rfl rfl rfl rfl
theorem ok_doc_Clamp {r : T_api_Pos} {p0 : List (T_api_Line)} {p1 : T_api_Pos} (h : doc_Clamp p0 p1 = some r) : OkB prog 21 [.sl false (List.map c_api_Line p0), .agg [.int .i64 p1.f_Line, .int .i64 p1.f_At]] [] [] (.agg [.int .i64 r.f_Line, .int .i64 r.f_At]) [] [] := by
 unfold doc_Clamp at h
 refine okB_of_exG func21 rfl rfl (s0 := [.sl false (List.map c_api_Line p0), .agg [.int .i64 p1.f_Line, .int .i64 p1.f_At], Z, Z, Z, Z, Z, Z, Z, Z, Z, Z, Z, Z, Z, Z, Z, Z, Z, Z, Z, Z, Z, Z, Z, Z, Z, Z, Z, Z, Z, Z, Z, Z, Z, Z, Z]) (b0 := []) (r0 := []) rfl rfl rfl ?_
 show Ex _ _ _ ⟨[.sl false (List.map c_api_Line p0), .agg [.int .i64 p1.f_Line, .int .i64 p1.f_At], Z, Z, Z, Z, Z, Z, Z, Z, Z, Z, Z, Z, Z, Z, Z, Z, Z, Z, Z, Z, Z, Z, Z, Z, Z, Z, Z, Z, Z, Z, Z, Z, Z, Z, Z], [], [], 0⟩ _
 refine ex_seq ?_
 refine ex_ord [0, 1] (l := [0, 1]) rfl ?_
 refine e_ (d := .bx 0 0) 3 rfl rfl rfl rfl rfl (b' := [some [.int .i64 p1.f_Line, .int .i64 p1.f_At]]) (r' := []) (.box rfl rfl rfl) rfl ?_
 refine e_ (d := .bx 1 0) 4 rfl rfl rfl rfl rfl (b' := [some [.int .i64 p1.f_Line, .int .i64 p1.f_At], some [.int .i64 0, .int .i64 0]]) (r' := []) (.alloc rfl ze24) rfl ?_
 refine we_nil ?_
 refine ex_seq ?_
 refine ex_block ?_
 refine ex_seq ?_
 refine ex_gst ⟨[.sl false (List.map c_api_Line p0), .agg [.int .i64 p1.f_Line, .int .i64 p1.f_At], Z, .cp [.int .i64 p1.f_Line, .int .i64 p1.f_At], .bx 1 0, Z, Z, Z, Z, Z, Z, Z, Z, Z, Z, Z, Z, Z, Z, Z, Z, Z, Z, Z, Z, Z, Z, Z, Z, Z, Z, Z, Z, Z, Z, Z, Z], [none, some [.int .i64 0, .int .i64 0]], [], 0⟩ (.shutB (b := 0) rfl (fun d h => by simpa using List.all_eq_true.1 (rfl : List.all [.int .i64 p1.f_Line, .int .i64 p1.f_At] (fun d => !d.tok) = true) d h) (.refl _)) rfl ?_
 obtain ⟨q1, hq, h⟩ := bindS h
 refine ex_cut ⟨[.sl false (List.map c_api_Line p0), Z, Z, .cp [.int .i64 p1.f_Line, .int .i64 p1.f_At], .bx 0 0, .bool q1, Z, Z, Z, Z, Z, Z, Z, Z, Z, Z, Z, Z, Z, Z, Z, Z, Z, Z, Z, Z, Z, Z, Z, Z, Z, Z, Z, Z, Z, Z, Z], [some [.int .i64 0, .int .i64 0]], [], 0⟩ ?_ ?_
 ·clear h
  have h := hq
  clear hq
  refine ex_ord [] (l := [0, 1, 2, 3, 4, 5, 6, 7, 8]) rfl ?_
  refine pm 6 ?_
  refine pq 7 rfl (x_len (f := c_api_Line) (l := p0) rfl rfl rfl el22) ?_
  refine pif 8 rfl rfl rfl rfl (.bin rfl rfl rfl rfl) ?_ ?_
  ·intro hc
   replace h := iteT h hc
   refine pm 9 ?_
   refine kq 10 ?_
   refine kq 11 ?_
   refine kq 12 ?_
   refine pq 13 rfl (x_pickT rfl rfl rfl rfl) ?_
   refine pa 5 ?_
   refine we_nil ?_
   cases h
   exact ⟨rfl, _, .re (rl [0, 1, 2, 3, 31]) [1] [] rfl (.refl _), rfl⟩
  ·intro hc
   replace h := iteF h hc
   refine pm 9 ?_
   refine pq 10 rfl (.fieldAddr rfl rfl rfl fl24u_0 rfl) ?_
   refine pq 11 rfl (x_load rfl rfl rfl sz3 un3 ag3 rfl) ?_
   refine pq 12 rfl (.bin rfl rfl rfl rfl) ?_
   refine pq 13 rfl (x_pickF rfl rfl rfl rfl) ?_
   refine pa 5 ?_
   refine we_nil ?_
   cases h
   exact ⟨rfl, _, .re (rl [0, 1, 2, 3, 31]) [1] [] rfl (.refl _), rfl⟩
 ·clear hq
  refine ex_if rfl ?_ ?_
  ·intro hc
   replace h := iteT h hc
   refine ex_seq ?_
   refine ex_ord [1] (l := [0, 1]) rfl ?_
   refine pq 14 rfl (x_build rfl pl24 ze24 rfl rfl rfl rfl) ?_
   refine e0 rfl rfl rfl rfl rfl (b' := [some [.int .i64 0, .int .i64 0]]) (r' := []) (.store rfl rfl rfl sz24 rfl rfl rfl) rfl ?_
   refine we_nil ?_
   refine ex_ret ?_
   obtain rfl := Option.some.inj h
   exact finB (by first | exact .inr rfl | exact .inl rfl) (.refl _) [.agg [.int .i64 0, .int .i64 0]] [] [] (res_cons (res_cell rfl rfl sz24 un24 ag24 rfl) res_nil) rfl rfl rfl rfl rfl rfl rfl
  ·intro hc
   replace h := iteF h hc
   refine ex_seq ?_
   refine ex_ord [] (l := [0, 1, 2, 3, 4, 5]) rfl ?_
   refine pq 16 rfl (.fieldAddr rfl rfl rfl fl24u_0 rfl) ?_
   refine pq 17 rfl (x_load rfl rfl rfl sz3 un3 ag3 rfl) ?_
   refine pm 18 ?_
   refine pq 19 rfl (x_len (f := c_api_Line) (l := p0) rfl rfl rfl el22) ?_
   refine pq 20 rfl (.bin rfl rfl rfl rfl) ?_
   refine pa 15 ?_
   refine we_nil ?_
   refine ex_if rfl ?_ ?_
   ·intro hc
    replace h := iteT h hc
    refine ex_seq ?_
    refine ex_ord [2] (l := [0, 1, 2]) rfl ?_
    refine pm 21 ?_
    obtain ⟨v2, hv2, h⟩ := bindS h
    refine pq 22 rfl (x_callP rfl rfl en17 (ok_doc_End hv2) rfl rfl rfl rfl rfl) ?_
    refine e0 rfl rfl rfl rfl rfl (b' := [some [.int .i64 v2.f_Line, .int .i64 v2.f_At]]) (r' := []) (.store rfl rfl rfl sz24 rfl rfl rfl) rfl ?_
    refine we_nil ?_
    refine ex_ret ?_
    obtain rfl := Option.some.inj h
    exact finB (by first | exact .inr rfl | exact .inl rfl) (.refl _) [.agg [.int .i64 v2.f_Line, .int .i64 v2.f_At]] [] [] (res_cons (res_cell rfl rfl sz24 un24 ag24 rfl) res_nil) rfl rfl rfl rfl rfl rfl rfl
   ·intro hc
    replace h := iteF h hc
    refine ex_skip ?_
    refine ex_seq ?_
    refine ex_drw mo [14, 1000, 1001, 1002, 1003, 1004, 1006, 1007, 1008, 1009, 1010, 1011, 1012, 1013, 3014, 1500000] (by kernel_rfl) (l := [0, 1, 2, 3, 4, 5, 6, 7, 8, 9, 10, 11, 12, 13, 14]) rfl ?_
    refine n_ 23 rfl rfl rfl (fun _ _ => .fieldAddr rfl rfl rfl fl24u_0 rfl) ?_
    refine n_ 24 rfl rfl rfl (fun _ _ => x_load rfl rfl rfl sz3 un3 ag3 rfl) ?_
    refine n_ 25 rfl rfl rfl (fun _ _ => .fieldAddr rfl rfl rfl fl24u_1 rfl) ?_
    refine n_ 26 rfl rfl rfl (fun _ _ => x_load rfl rfl rfl sz3 un3 ag3 rfl) ?_
    refine n_ 27 rfl rfl rfl (fun _ _ => .minmax (mx := true) rfl rfl rfl) ?_
    refine pm 28 ?_
    refine n_ 29 rfl rfl rfl (fun _ _ => .fieldAddr rfl rfl rfl fl24u_0 rfl) ?_
    refine n_ 30 rfl rfl rfl (fun _ _ => x_load rfl rfl rfl sz3 un3 ag3 rfl) ?_
    obtain ⟨v3, hv3, h⟩ := bindS h
    refine n_ 31 rfl rfl rfl (fun _ _ => x_idx (f := c_api_Line) (cs := [.int .i64 v3.f_Quote, .sl false (List.map c_i64 v3.f_Lists), .int .i64 v3.f_Kind, .sl false (List.map c_api_Cell v3.f_Cells)]) rfl rfl rfl el22 sz55 hv3 rfl rfl) ?_
    refine n_ 32 rfl rfl rfl (fun _ _ => .fieldAddr rfl rfl rfl fl55u_3 rfl) ?_
    refine n_ 33 rfl rfl rfl (fun _ _ => x_load rfl rfl rfl sz46 un46 ag46 rfl) ?_
    refine n_ 34 rfl rfl rfl (fun _ _ => x_len (f := c_api_Cell) (l := v3.f_Cells) rfl rfl rfl el46) ?_
    refine n_ 35 rfl rfl rfl (fun _ _ => .minmax (mx := false) rfl rfl rfl) ?_
    refine n_ 36 rfl rfl rfl (fun _ _ => x_build rfl pl24 ze24 rfl rfl rfl rfl) ?_
    refine e0 rfl rfl rfl rfl rfl (b' := [some [.int .i64 p1.f_Line, .int .i64 (if (v3.f_Cells.length : Int) < (if 0 > p1.f_At then 0 else p1.f_At) then (v3.f_Cells.length : Int) else if 0 > p1.f_At then 0 else p1.f_At)]]) (r' := []) (hb := set_out 0 (some [.int .i64 p1.f_Line, .int .i64 (if (v3.f_Cells.length : Int) < (if 0 > p1.f_At then 0 else p1.f_At) then (v3.f_Cells.length : Int) else if 0 > p1.f_At then 0 else p1.f_At)]) rfl rfl) (.store rfl rfl rfl sz24 rfl rfl rfl) rfl ?_
    refine we_nil ?_
    refine ex_ret ?_
    obtain rfl := Option.some.inj h
    exact finB (by first | exact .inr rfl | exact .inl rfl) (.refl _) [.agg [.int .i64 p1.f_Line, .int .i64 (if (v3.f_Cells.length : Int) < (if 0 > p1.f_At then 0 else p1.f_At) then (v3.f_Cells.length : Int) else if 0 > p1.f_At then 0 else p1.f_At)]] [] [] (res_cons (res_cell rfl rfl sz24 un24 ag24 rfl) res_nil) rfl rfl rfl rfl rfl rfl rfl
theorem ok_quillworkref07u_Cmp {r : Int} {p0 : T_api_Pos} {p1 : T_api_Pos} (h : quillworkref07u_Cmp p0 p1 = some r) : OkB prog 24 [.agg [.int .i64 p0.f_Line, .int .i64 p0.f_At], .agg [.int .i64 p1.f_Line, .int .i64 p1.f_At]] [] [] (.int .i64 r) [] [] := by
 unfold quillworkref07u_Cmp at h
 refine okB_of_exG func24 rfl rfl (s0 := [.agg [.int .i64 p0.f_Line, .int .i64 p0.f_At], .agg [.int .i64 p1.f_Line, .int .i64 p1.f_At], Z, Z, Z, Z, Z, Z, Z, Z, Z, Z, Z, Z, Z, Z, Z, Z, Z, Z, Z, Z, Z, Z, Z, Z, Z]) (b0 := []) (r0 := []) rfl rfl rfl ?_
 show Ex _ _ _ ⟨[.agg [.int .i64 p0.f_Line, .int .i64 p0.f_At], .agg [.int .i64 p1.f_Line, .int .i64 p1.f_At], Z, Z, Z, Z, Z, Z, Z, Z, Z, Z, Z, Z, Z, Z, Z, Z, Z, Z, Z, Z, Z, Z, Z, Z, Z], [], [], 0⟩ _
 refine ex_seq ?_
 refine ex_ord [0, 1] (l := [0, 1, 2]) rfl ?_
 refine e_ (d := .bx 0 0) 2 rfl rfl rfl rfl rfl (b' := [some [.int .i64 p0.f_Line, .int .i64 p0.f_At]]) (r' := []) (.box rfl rfl rfl) rfl ?_
 refine e_ (d := .bx 1 0) 3 rfl rfl rfl rfl rfl (b' := [some [.int .i64 p0.f_Line, .int .i64 p0.f_At], some [.int .i64 p1.f_Line, .int .i64 p1.f_At]]) (r' := []) (.box rfl rfl rfl) rfl ?_
 refine pa 4 ?_
 refine we_nil ?_
 refine ex_seq ?_
 refine ex_seq ?_
 refine ex_gst ⟨[.agg [.int .i64 p0.f_Line, .int .i64 p0.f_At], .agg [.int .i64 p1.f_Line, .int .i64 p1.f_At], .cp [.int .i64 p0.f_Line, .int .i64 p0.f_At], .bx 1 0, .int .i64 0, Z, Z, Z, Z, Z, Z, Z, Z, Z, Z, Z, Z, Z, Z, Z, Z, Z, Z, Z, Z, Z, Z], [none, some [.int .i64 p1.f_Line, .int .i64 p1.f_At]], [], 0⟩ (.shutB (b := 0) rfl (fun d h => by simpa using List.all_eq_true.1 (rfl : List.all [.int .i64 p0.f_Line, .int .i64 p0.f_At] (fun d => !d.tok) = true) d h) (.refl _)) rfl ?_
 refine ex_gst ⟨[.agg [.int .i64 p0.f_Line, .int .i64 p0.f_At], .agg [.int .i64 p1.f_Line, .int .i64 p1.f_At], .cp [.int .i64 p0.f_Line, .int .i64 p0.f_At], .cp [.int .i64 p1.f_Line, .int .i64 p1.f_At], .int .i64 0, Z, Z, Z, Z, Z, Z, Z, Z, Z, Z, Z, Z, Z, Z, Z, Z, Z, Z, Z, Z, Z, Z], [none, none], [], 0⟩ (.shutB (b := 1) rfl (fun d h => by simpa using List.all_eq_true.1 (rfl : List.all [.int .i64 p1.f_Line, .int .i64 p1.f_At] (fun d => !d.tok) = true) d h) (.refl _)) rfl ?_
 refine ex_ord [] (l := [0, 1, 2]) rfl ?_
 refine pq 5 rfl (x_loadA rfl rfl rfl sz24 un24 ag24 rfl) ?_
 refine pq 6 rfl (x_loadA rfl rfl rfl sz24 un24 ag24 rfl) ?_
 refine pq 7 rfl (x_eqG (b := ((p0.f_Line : Int) == p1.f_Line) && (((p0.f_At : Int) == p1.f_At) && true)) rfl rfl rfl eq24 rfl (by simp only [List.all_cons, List.all_nil, bs_beq, id_eq])) ?_
 refine we_nil ?_
 refine ex_if rfl ?_ ?_
 ·intro hc
  replace h := iteT h hc
  refine ex_seq ?_
  refine ex_ord [] (l := [0]) rfl ?_
  refine pa 4 ?_
  refine we_nil ?_
  refine ex_ret ?_
  obtain rfl := Option.some.inj h
  exact finB (by first | exact .inr rfl | exact .inl rfl) (.refl _) [.int .i64 0] [] [] (res_cons (res_tmp rfl) res_nil) rfl rfl rfl rfl rfl rfl rfl
 ·intro hc
  replace h := iteF h hc
  refine ex_skip ?_
  refine ex_seq ?_
  refine ex_seq ?_
  obtain ⟨q1, hq, h⟩ := bindS h
  refine ex_cut ⟨[Z, Z, Z, Z, Z, Z, Z, Z, Z, Z, Z, Z, Z, Z, Z, Z, Z, Z, Z, Z, Z, Z, Z, Z, Z, Z, .bool q1], [], [], 0⟩ ?_ ?_
  ·clear h
   have h := hq
   clear hq
   refine ex_ord [] (l := [0, 1, 2, 3, 4, 5, 6, 7, 8, 9, 10, 11, 12, 13, 14, 15, 16, 17, 18]) rfl ?_
   refine pq 8 rfl (.fieldAddr rfl rfl rfl fl24u_0 rfl) ?_
   refine pq 9 rfl (x_load rfl rfl rfl sz3 un3 ag3 rfl) ?_
   refine pq 10 rfl (.fieldAddr rfl rfl rfl fl24u_0 rfl) ?_
   refine pq 11 rfl (x_load rfl rfl rfl sz3 un3 ag3 rfl) ?_
   refine pif 12 rfl rfl rfl rfl (.bin rfl rfl rfl rfl) ?_ ?_
   ·intro hc
    replace h := iteT h hc
    refine pm 13 ?_
    refine kq 14 ?_
    refine kq 15 ?_
    refine kq 16 ?_
    refine kq 17 ?_
    refine kq 18 ?_
    refine kq 19 ?_
    refine kq 20 ?_
    refine kq 21 ?_
    refine kq 22 ?_
    refine kq 23 ?_
    refine kq 24 ?_
    refine kq 25 ?_
    refine pq 26 rfl (x_pickT rfl rfl rfl rfl) ?_
    refine we_nil ?_
    cases h
    exact ⟨rfl, _, .re (rl [26, 1]) [] [] rfl (.refl _), rfl⟩
   ·intro hc
    replace h := iteF h hc
    refine pm 13 ?_
    refine pq 14 rfl (.fieldAddr rfl rfl rfl fl24u_0 rfl) ?_
    refine pq 15 rfl (x_load rfl rfl rfl sz3 un3 ag3 rfl) ?_
    refine pq 16 rfl (.fieldAddr rfl rfl rfl fl24u_0 rfl) ?_
    refine pq 17 rfl (x_load rfl rfl rfl sz3 un3 ag3 rfl) ?_
    refine pif 18 rfl rfl rfl rfl (.bin rfl rfl rfl rfl) ?_ ?_
    ·intro hc
     replace h := iteT h hc
     refine pm 19 ?_
     refine pq 20 rfl (.fieldAddr rfl rfl rfl fl24u_1 rfl) ?_
     refine pq 21 rfl (x_load rfl rfl rfl sz3 un3 ag3 rfl) ?_
     refine pq 22 rfl (.fieldAddr rfl rfl rfl fl24u_1 rfl) ?_
     refine pq 23 rfl (x_load rfl rfl rfl sz3 un3 ag3 rfl) ?_
     refine pq 24 rfl (.bin rfl rfl rfl rfl) ?_
     refine pq 25 rfl (x_pickT rfl rfl rfl rfl) ?_
     refine pq 26 rfl (x_pickF rfl rfl rfl rfl) ?_
     refine we_nil ?_
     cases h
     exact ⟨rfl, _, .re (rl [26, 1]) [] [] rfl (.refl _), rfl⟩
    ·intro hc
     replace h := iteF h hc
     refine pm 19 ?_
     refine kq 20 ?_
     refine kq 21 ?_
     refine kq 22 ?_
     refine kq 23 ?_
     refine kq 24 ?_
     refine pq 25 rfl (x_pickF rfl rfl rfl rfl) ?_
     refine pq 26 rfl (x_pickF rfl rfl rfl rfl) ?_
     refine we_nil ?_
     cases h
     exact ⟨rfl, _, .re (rl [26, 1]) [] [] rfl (.refl _), rfl⟩
  ·clear hq
   refine ex_if rfl ?_ ?_
   ·intro hc
    replace h := iteT h hc
    refine ex_seq ?_
    refine ex_ord [] (l := [0]) rfl ?_
    refine pa 4 ?_
    refine we_nil ?_
    refine ex_ret ?_
    obtain rfl := Option.some.inj h
    exact finB (by first | exact .inr rfl | exact .inl rfl) (.refl _) [.int .i64 (-1)] [] [] (res_cons (res_tmp rfl) res_nil) rfl rfl rfl rfl rfl rfl rfl
   ·intro hc
    replace h := iteF h hc
    refine ex_skip ?_
    refine ex_seq ?_
    refine ex_ord [] (l := [0]) rfl ?_
    refine pa 4 ?_
    refine we_nil ?_
    refine ex_ret ?_
    obtain rfl := Option.some.inj h
    exact finB (by first | exact .inr rfl | exact .inl rfl) (.refl _) [.int .i64 1] [] [] (res_cons (res_tmp rfl) res_nil) rfl rfl rfl rfl rfl rfl rfl
theorem ok_doc_Offset {r : Int × Int} {p0 : List (T_api_Line)} {p1 : T_api_Pos} (h : doc_Offset p0 p1 = some r) : OkB prog 25 [.sl false (List.map c_api_Line p0), .agg [.int .i64 p1.f_Line, .int .i64 p1.f_At]] [] [] (.tup [.int .i64 r.1, .int .i64 r.2]) [] [] := by
 unfold doc_Offset at h
 refine okB_of_exG func25 rfl rfl (s0 := [.sl false (List.map c_api_Line p0), .agg [.int .i64 p1.f_Line, .int .i64 p1.f_At], Z, Z, Z, Z, Z, Z, Z, Z, Z, Z, Z, Z, Z, Z, Z, Z, Z, Z, Z]) (b0 := []) (r0 := []) rfl rfl rfl ?_
 show Ex _ _ _ ⟨[.sl false (List.map c_api_Line p0), .agg [.int .i64 p1.f_Line, .int .i64 p1.f_At], Z, Z, Z, Z, Z, Z, Z, Z, Z, Z, Z, Z, Z, Z, Z, Z, Z, Z, Z], [], [], 0⟩ _
 refine ex_seq ?_
 refine ex_ord [0] (l := [0, 1, 2]) rfl ?_
 refine e_ (d := .bx 0 0) 3 rfl rfl rfl rfl rfl (b' := [some [.int .i64 p1.f_Line, .int .i64 p1.f_At]]) (r' := []) (.box rfl rfl rfl) rfl ?_
 refine pa 4 ?_
 refine pa 5 ?_
 refine we_nil ?_
 refine ex_seq ?_
 refine ex_seq ?_
 refine ex_gst ⟨[.sl false (List.map c_api_Line p0), .agg [.int .i64 p1.f_Line, .int .i64 p1.f_At], Z, .cp [.int .i64 p1.f_Line, .int .i64 p1.f_At], .int .i64 0, .int .i64 0, Z, Z, Z, Z, Z, Z, Z, Z, Z, Z, Z, Z, Z, Z, Z], [none], [], 0⟩ (.shutB (b := 0) rfl (fun d h => by simpa using List.all_eq_true.1 (rfl : List.all [.int .i64 p1.f_Line, .int .i64 p1.f_At] (fun d => !d.tok) = true) d h) (.refl _)) rfl ?_
 refine ex_ord [] (l := [0, 1, 2, 3]) rfl ?_
 refine pm 6 ?_
 refine pq 7 rfl (x_loadA rfl rfl rfl sz24 un24 ag24 rfl) ?_
 obtain ⟨v1, hv1, h⟩ := bindS h
 refine pq 8 rfl (x_callP rfl rfl en19 (ok_doc_Is hv1) rfl rfl rfl rfl rfl) ?_
 refine pq 9 rfl (.un rfl rfl rfl) ?_
 refine we_nil ?_
 refine ex_if rfl ?_ ?_
 ·intro hc
  replace h := iteT h hc
  refine ex_seq ?_
  refine ex_ord [] (l := [0, 1]) rfl ?_
  refine pa 4 ?_
  refine pa 5 ?_
  refine we_nil ?_
  refine ex_ret ?_
  obtain rfl := Option.some.inj h
  exact finB (by first | exact .inr rfl | exact .inl rfl) (.refl _) [.int .i64 0, .int .i64 1] [] [] (res_cons (res_tmp rfl) (res_cons (res_tmp rfl) res_nil)) rfl rfl rfl rfl rfl rfl rfl
 ·intro hc
  replace h := iteF h hc
  refine ex_skip ?_
  refine ex_seq ?_
  refine ex_drw mo [1001, 1002, 1003, 1004, 1005, 1006, 1008, 1009] (by kernel_rfl) (l := [0, 1, 2, 3, 4, 5, 6, 7, 8, 9, 10, 11, 12]) rfl ?_
  refine pm 10 ?_
  refine n_ 11 rfl rfl rfl (fun _ _ => .fieldAddr rfl rfl rfl fl24u_0 rfl) ?_
  refine n_ 12 rfl rfl rfl (fun _ _ => x_load rfl rfl rfl sz3 un3 ag3 rfl) ?_
  obtain ⟨v2, hv2, h⟩ := bindS h
  refine n_ 13 rfl rfl rfl (fun _ _ => x_cut rfl rfl el22 sz55 rfl ⟨_, rfl⟩ hv2 fl_api_Line) ?_
  obtain ⟨v3, hv3, h⟩ := bindS h
  refine n_ 14 rfl rfl rfl (fun _ _ => x_callP rfl rfl en15 (ok_doc_Size hv3) rfl rfl rfl rfl rfl) ?_
  refine n_ 15 rfl rfl rfl (fun _ _ => .fieldAddr rfl rfl rfl fl24u_0 rfl) ?_
  refine n_ 16 rfl rfl rfl (fun _ _ => x_load rfl rfl rfl sz3 un3 ag3 rfl) ?_
  refine pq 17 rfl (.bin rfl rfl rfl rfl) ?_
  refine n_ 18 rfl rfl rfl (fun _ _ => .fieldAddr rfl rfl rfl fl24u_1 rfl) ?_
  refine n_ 19 rfl rfl rfl (fun _ _ => x_load rfl rfl rfl sz3 un3 ag3 rfl) ?_
  refine pq 20 rfl (.bin rfl rfl rfl rfl) ?_
  refine pa 4 ?_
  refine pa 5 ?_
  refine we_nil ?_
  refine ex_ret ?_
  obtain rfl := Option.some.inj h
  exact finB (by first | exact .inr rfl | exact .inl rfl) (.refl _) [.int .i64 (IntKind.wrap .i64 ((IntKind.wrap .i64 (v3 + p1.f_Line)) + p1.f_At)), .int .i64 0] [] [] (res_cons (res_tmp rfl) (res_cons (res_tmp rfl) res_nil)) rfl rfl rfl rfl rfl rfl rfl
theorem ok_doc_At {r : T_api_Pos × Int} {p0 : List (T_api_Line)} {p1 : Int} (h : doc_At p0 p1 = some r) : OkB prog 27 [.sl false (List.map c_api_Line p0), .int .i64 p1] [] [] (.tup [.agg [.int .i64 r.1.f_Line, .int .i64 r.1.f_At], .int .i64 r.2]) [] [] := by
 unfold doc_At at h
 refine okB_of_exG func27 rfl rfl (s0 := [.sl false (List.map c_api_Line p0), .int .i64 p1, Z, Z, Z, Z, Z, Z, Z, Z, Z, Z, Z, Z, Z, Z, Z, Z, Z, Z, Z, Z, Z, Z, Z, Z, Z, Z, Z, Z, Z, Z, Z]) (b0 := []) (r0 := []) rfl rfl rfl ?_
 show Ex _ _ _ ⟨[.sl false (List.map c_api_Line p0), .int .i64 p1, Z, Z, Z, Z, Z, Z, Z, Z, Z, Z, Z, Z, Z, Z, Z, Z, Z, Z, Z, Z, Z, Z, Z, Z, Z, Z, Z, Z, Z, Z, Z], [], [], 0⟩ _
 refine ex_seq ?_
 refine ex_ord [0] (l := [0, 1]) rfl ?_
 refine e_ (d := .bx 0 0) 4 rfl rfl rfl rfl rfl (b' := [some [.int .i64 0, .int .i64 0]]) (r' := []) (.alloc rfl ze24) rfl ?_
 refine pa 5 ?_
 refine we_nil ?_
 refine ex_seq ?_
 refine ex_seq ?_
 refine ex_ord [] (l := [0, 1, 2]) rfl ?_
 refine pm 8 ?_
 refine pq 9 rfl (x_len (f := c_api_Line) (l := p0) rfl rfl rfl el22) ?_
 refine pm 10 ?_
 refine we_nil ?_
 refine ex_block ?_
 obtain ⟨o6, hl, h⟩ := bindS h
 refine ex_gst ⟨[Z, .int .i64 p1, Z, Z, .bx 0 0, Z, Z, Z, .sl false (List.map c_api_Line p0), .int .i64 (p0.length : Int), .int .i64 0, Z, Z, Z, Z, Z, Z, Z, Z, Z, Z, Z, Z, Z, Z, Z, Z, Z, Z, Z, Z, Z, Z], [some [.int .i64 0, .int .i64 0]], [], 0⟩ (.re (rl [1, 1, 2, 1, 3, 3, 22]) [0] [] rfl (.refl _)) rfl ?_
 refine ex_iterX (fun o => match o with | .inl _ => .exit 0 | .inr _ => .ret) (fun s => ⟨[Z, .int .i64 s.1, Z, Z, .bx 0 0, Z, Z, Z, .sl false (List.map c_api_Line p0), .int .i64 (p0.length : Int), .int .i64 s.2, Z, Z, Z, Z, Z, Z, Z, Z, Z, Z, Z, Z, Z, Z, Z, Z, Z, Z, Z, Z, Z, Z], [some [.int .i64 0, .int .i64 0]], [], 0⟩) (fun o => match o with | .inl o => ⟨[Z, Z, Z, Z, .bx 0 0, Z, Z, Z, Z, Z, Z, Z, Z, Z, Z, Z, Z, Z, Z, Z, Z, Z, Z, Z, Z, Z, Z, Z, Z, Z, Z, Z, Z], [some [.int .i64 0, .int .i64 0]], [], 0⟩ | .inr o => ⟨[Z, Z, Z, Z, .bx 0 0, .int .i64 0, Z, Z, Z, Z, Z, Z, Z, Z, Z, Z, Z, Z, Z, Z, Z, Z, Z, Z, Z, Z, Z, Z, Z, Z, Z, Z, Z], [some [.int .i64 o.1, .int .i64 o.2]], [], 0⟩) hl rfl ?_ ?_
 ·clear hl
  rcases o6 with _ | ⟨k3, k4⟩
  ·refine ex_seq ?_
   refine ex_ord [1] (l := [0, 1, 2]) rfl ?_
   refine pq 32 rfl (x_build rfl pl24 ze24 rfl rfl rfl rfl) ?_
   refine e0 rfl rfl rfl rfl rfl (b' := [some [.int .i64 0, .int .i64 0]]) (r' := []) (.store rfl rfl rfl sz24 rfl rfl rfl) rfl ?_
   refine pa 5 ?_
   refine we_nil ?_
   refine ex_ret ?_
   obtain rfl := Option.some.inj h
   exact finB (by first | exact .inr rfl | exact .inl rfl) (.refl _) [.agg [.int .i64 0, .int .i64 0], .int .i64 1] [] [] (res_cons (res_cell rfl rfl sz24 un24 ag24 rfl) (res_cons (res_tmp rfl) res_nil)) rfl rfl rfl rfl rfl rfl rfl
  ·obtain rfl := Option.some.inj h
   exact finB (by first | exact .inr rfl | exact .inl rfl) (.refl _) [.agg [.int .i64 k3, .int .i64 k4], .int .i64 0] [] [] (res_cons (res_cell rfl rfl sz24 un24 ag24 rfl) (res_cons (res_tmp rfl) res_nil)) rfl rfl rfl rfl rfl rfl rfl
 ·clear hl h
  rintro ⟨n1, n2⟩ y h
  replace h : doc_At_l1 p0 n1 n2 = some y := h
  unfold doc_At_l1 at h
  show Ex _ _ _ ⟨[Z, .int .i64 n1, Z, Z, .bx 0 0, Z, Z, Z, .sl false (List.map c_api_Line p0), .int .i64 (p0.length : Int), .int .i64 n2, Z, Z, Z, Z, Z, Z, Z, Z, Z, Z, Z, Z, Z, Z, Z, Z, Z, Z, Z, Z, Z, Z], [some [.int .i64 0, .int .i64 0]], [], 0⟩ _
  refine ex_seq ?_
  refine ex_ord [] (l := [0]) rfl ?_
  refine pq 11 rfl (.bin rfl rfl rfl rfl) ?_
  refine we_nil ?_
  refine ex_seq ?_
  refine ex_if rfl ?_ ?_
  ·intro hc
   replace h := iteT h hc
   refine ex_skip ?_
   refine ex_seq ?_
   refine ex_block ?_
   refine ex_seq ?_
   refine ex_ord [3, 5] (l := [0, 1, 2, 3, 4, 5]) rfl ?_
   refine pm 12 ?_
   obtain ⟨v5, hv5, h⟩ := bindS h
   refine pq 13 rfl (x_idx (f := c_api_Line) (cs := [.int .i64 v5.f_Quote, .sl false (List.map c_i64 v5.f_Lists), .int .i64 v5.f_Kind, .sl false (List.map c_api_Cell v5.f_Cells)]) rfl rfl rfl el22 sz55 hv5 rfl rfl) ?_
   refine pq 14 rfl (x_loadA rfl rfl rfl sz55 un55 ag55 rfl) ?_
   refine e_ (d := .bx 1 0) 7 rfl rfl rfl rfl rfl (b' := [some [.int .i64 0, .int .i64 0], some [.int .i64 0, .sl false [], .int .i64 0, .sl false []]]) (r' := []) (.alloc rfl ze55) rfl ?_
   refine pa 6 ?_
   refine e0 rfl rfl rfl rfl rfl (b' := [some [.int .i64 0, .int .i64 0], some [.int .i64 v5.f_Quote, .sl false (List.map c_i64 v5.f_Lists), .int .i64 v5.f_Kind, .sl false (List.map c_api_Cell v5.f_Cells)]]) (r' := []) (.store rfl rfl rfl sz55 rfl rfl rfl) rfl ?_
   refine we_nil ?_
   refine ex_seq ?_
   refine ex_seq ?_
   refine ex_gst ⟨[Z, .int .i64 n1, Z, Z, .bx 0 0, Z, .int .i64 n2, .cp [.int .i64 v5.f_Quote, .sl false (List.map c_i64 v5.f_Lists), .int .i64 v5.f_Kind, .sl false (List.map c_api_Cell v5.f_Cells)], .sl false (List.map c_api_Line p0), .int .i64 (p0.length : Int), .int .i64 n2, .bool (decide ((n2 : Int) < (p0.length : Int))), .int .i64 n2, .cp [.int .i64 v5.f_Quote, .sl false (List.map c_i64 v5.f_Lists), .int .i64 v5.f_Kind, .sl false (List.map c_api_Cell v5.f_Cells)], .agg [.int .i64 v5.f_Quote, .sl false (List.map c_i64 v5.f_Lists), .int .i64 v5.f_Kind, .sl false (List.map c_api_Cell v5.f_Cells)], Z, Z, Z, Z, Z, Z, Z, Z, Z, Z, Z, Z, Z, Z, Z, Z, Z, Z], [some [.int .i64 0, .int .i64 0], none], [], 0⟩ (.shutB (b := 1) rfl (fun d h => by simpa using List.all_eq_true.1 (rfl : List.all [.int .i64 v5.f_Quote, .sl false (List.map c_i64 v5.f_Lists), .int .i64 v5.f_Kind, .sl false (List.map c_api_Cell v5.f_Cells)] (fun d => !d.tok) = true) d h) (.refl _)) rfl ?_
   refine ex_ord [] (l := [0, 1]) rfl ?_
   refine pm 15 ?_
   refine pq 16 rfl (.bin rfl rfl rfl rfl) ?_
   refine we_nil ?_
   refine ex_if rfl ?_ ?_
   ·intro hc
    replace h := iteT h hc
    refine ex_exit ?_
    exact rnd_out (o := (.inl ())) rfl (fun h => by cases h) h (.re (rl [4, 1, 28]) [0] [] rfl (.refl _)) rfl
   ·intro hc
    replace h := iteF h hc
    refine ex_skip ?_
    refine ex_seq ?_
    refine ex_seq ?_
    refine ex_ord [] (l := [0, 1, 2, 3, 4]) rfl ?_
    refine pm 17 ?_
    refine pq 18 rfl (.fieldAddr rfl rfl rfl fl55u_3 rfl) ?_
    refine pq 19 rfl (x_load rfl rfl rfl sz46 un46 ag46 rfl) ?_
    refine pq 20 rfl (x_len (f := c_api_Cell) (l := v5.f_Cells) rfl rfl rfl el46) ?_
    refine pq 21 rfl (.bin rfl rfl rfl rfl) ?_
    refine we_nil ?_
    refine ex_if rfl ?_ ?_
    ·intro hc
     replace h := iteT h hc
     refine ex_seq ?_
     refine ex_ord [3] (l := [0, 1, 2, 3, 4]) rfl ?_
     refine pm 22 ?_
     refine pm 23 ?_
     refine pq 24 rfl (x_build rfl pl24 ze24 rfl rfl rfl rfl) ?_
     refine e0 rfl rfl rfl rfl rfl (b' := [some [.int .i64 n2, .int .i64 n1], none]) (r' := []) (.store rfl rfl rfl sz24 rfl rfl rfl) rfl ?_
     refine pa 5 ?_
     refine we_nil ?_
     refine ex_ret ?_
     exact rnd_out (o := (.inr (n2, n1))) rfl (fun h => by cases h) h (.re (rl [4, 2, 27]) [0] [] rfl (.refl _)) rfl
    ·intro hc
     replace h := iteF h hc
     refine ex_skip ?_
     refine ex_ord [] (l := [0, 1, 2, 3, 4, 5, 6]) rfl ?_
     refine pm 25 ?_
     refine pq 26 rfl (.fieldAddr rfl rfl rfl fl55u_3 rfl) ?_
     refine pq 27 rfl (x_load rfl rfl rfl sz46 un46 ag46 rfl) ?_
     refine pq 28 rfl (x_len (f := c_api_Cell) (l := v5.f_Cells) rfl rfl rfl el46) ?_
     refine pq 29 rfl (.bin rfl rfl rfl rfl) ?_
     refine pq 30 rfl (.bin rfl rfl rfl rfl) ?_
     refine pa 1 ?_
     refine we_nil ?_
     refine ex_ord [] (l := [0, 1]) rfl ?_
     refine pq 31 rfl (.bin rfl rfl rfl rfl) ?_
     refine pm 10 ?_
     refine we_nil ?_
     exact rnd_on rfl h (.re (rl [1, 1, 2, 1, 3, 3, 22]) [0] [] rfl (.refl _)) rfl
  ·intro hc
   replace h := iteF h hc
   refine ex_exit ?_
   exact rnd_out (o := (.inl ())) rfl (fun h => by cases h) h (.re (rl [4, 1, 28]) [0] [] rfl (.refl _)) rfl
theorem ok_doc_Step {r : T_api_Pos × Bool} {p0 : List (T_api_Line)} {p1 : T_api_Pos} {p2 : Int} (h : doc_Step p0 p1 p2 = some r) : OkB prog 29 [.sl false (List.map c_api_Line p0), .agg [.int .i64 p1.f_Line, .int .i64 p1.f_At], .int .i64 p2] [] [] (.tup [.agg [.int .i64 r.1.f_Line, .int .i64 r.1.f_At], .bool r.2]) [] [] := by
 unfold doc_Step at h
 refine okB_of_exG func29 rfl rfl (s0 := [.sl false (List.map c_api_Line p0), .agg [.int .i64 p1.f_Line, .int .i64 p1.f_At], .int .i64 p2, Z, Z, Z, Z, Z, Z, Z, Z, Z, Z, Z, Z, Z, Z, Z, Z, Z, Z, Z, Z, Z, Z, Z, Z, Z, Z, Z, Z, Z, Z, Z, Z, Z, Z, Z, Z, Z, Z, Z, Z, Z, Z, Z, Z, Z, Z, Z, Z, Z, Z, Z, Z, Z]) (b0 := []) (r0 := []) rfl rfl rfl ?_
 show Ex _ _ _ ⟨[.sl false (List.map c_api_Line p0), .agg [.int .i64 p1.f_Line, .int .i64 p1.f_At], .int .i64 p2, Z, Z, Z, Z, Z, Z, Z, Z, Z, Z, Z, Z, Z, Z, Z, Z, Z, Z, Z, Z, Z, Z, Z, Z, Z, Z, Z, Z, Z, Z, Z, Z, Z, Z, Z, Z, Z, Z, Z, Z, Z, Z, Z, Z, Z, Z, Z, Z, Z, Z, Z, Z, Z], [], [], 0⟩ _
 refine ex_seq ?_
 refine ex_ord [0, 1] (l := [0, 1, 2]) rfl ?_
 refine e_ (d := .bx 0 0) 4 rfl rfl rfl rfl rfl (b' := [some [.int .i64 p1.f_Line, .int .i64 p1.f_At]]) (r' := []) (.box rfl rfl rfl) rfl ?_
 refine e_ (d := .bx 1 0) 6 rfl rfl rfl rfl rfl (b' := [some [.int .i64 p1.f_Line, .int .i64 p1.f_At], some [.int .i64 0, .int .i64 0]]) (r' := []) (.alloc rfl ze24) rfl ?_
 refine pa 7 ?_
 refine we_nil ?_
 refine ex_seq ?_
 refine ex_seq ?_
 refine ex_gst ⟨[.sl false (List.map c_api_Line p0), .agg [.int .i64 p1.f_Line, .int .i64 p1.f_At], .int .i64 p2, Z, .cp [.int .i64 p1.f_Line, .int .i64 p1.f_At], Z, .bx 1 0, .bool false, Z, Z, Z, Z, Z, Z, Z, Z, Z, Z, Z, Z, Z, Z, Z, Z, Z, Z, Z, Z, Z, Z, Z, Z, Z, Z, Z, Z, Z, Z, Z, Z, Z, Z, Z, Z, Z, Z, Z, Z, Z, Z, Z, Z, Z, Z, Z, Z], [none, some [.int .i64 0, .int .i64 0]], [], 0⟩ (.shutB (b := 0) rfl (fun d h => by simpa using List.all_eq_true.1 (rfl : List.all [.int .i64 p1.f_Line, .int .i64 p1.f_At] (fun d => !d.tok) = true) d h) (.refl _)) rfl ?_
 refine ex_ord [] (l := [0, 1, 2]) rfl ?_
 refine pm 14 ?_
 refine pq 15 rfl (x_len (f := c_api_Line) (l := p0) rfl rfl rfl el22) ?_
 refine pq 16 rfl (.bin rfl rfl rfl rfl) ?_
 refine we_nil ?_
 refine ex_if rfl ?_ ?_
 ·intro hc
  replace h := iteT h hc
  refine ex_seq ?_
  refine ex_ord [1] (l := [0, 1, 2]) rfl ?_
  refine pq 17 rfl (x_build rfl pl24 ze24 rfl rfl rfl rfl) ?_
  refine e0 rfl rfl rfl rfl rfl (b' := [none, some [.int .i64 0, .int .i64 0]]) (r' := []) (.store rfl rfl rfl sz24 rfl rfl rfl) rfl ?_
  refine pa 7 ?_
  refine we_nil ?_
  refine ex_ret ?_
  obtain rfl := Option.some.inj h
  exact finB (by first | exact .inr rfl | exact .inl rfl) (.refl _) [.agg [.int .i64 0, .int .i64 0], .bool false] [] [] (res_cons (res_cell rfl rfl sz24 un24 ag24 rfl) (res_cons (res_tmp rfl) res_nil)) rfl rfl rfl rfl rfl rfl rfl
 ·intro hc
  replace h := iteF h hc
  refine ex_skip ?_
  refine ex_seq ?_
  refine ex_ord [] (l := [0, 1, 2, 3, 4, 5, 6, 7, 8, 9]) rfl ?_
  refine pm 19 ?_
  refine pm 20 ?_
  refine pq 21 rfl (x_loadA rfl rfl rfl sz24 un24 ag24 rfl) ?_
  obtain ⟨v1, hv1, h⟩ := bindS h
  refine pq 22 rfl (x_callP rfl rfl en21 (ok_doc_Clamp hv1) rfl rfl rfl rfl rfl) ?_
  obtain ⟨v2, hv2, h⟩ := bindS h
  refine pq 23 rfl (x_callP rfl rfl en25 (ok_doc_Offset hv2) rfl rfl rfl rfl rfl) ?_
  refine pm 18 ?_
  refine pq 24 rfl (.extract rfl rfl rfl rfl) ?_
  refine pq 25 rfl (.extract rfl rfl rfl rfl) ?_
  refine pa 8 ?_
  refine pa 9 ?_
  refine we_nil ?_
  refine ex_seq ?_
  refine ex_ord [] (l := [0, 1, 2, 3, 4, 5, 6, 7, 8]) rfl ?_
  refine pm 27 ?_
  refine pm 28 ?_
  obtain ⟨v3, hv3, h⟩ := bindS h
  refine pq 29 rfl (x_callP rfl rfl en17 (ok_doc_End hv3) rfl rfl rfl rfl rfl) ?_
  obtain ⟨v4, hv4, h⟩ := bindS h
  refine pq 30 rfl (x_callP rfl rfl en25 (ok_doc_Offset hv4) rfl rfl rfl rfl rfl) ?_
  refine pm 26 ?_
  refine pq 31 rfl (.extract rfl rfl rfl rfl) ?_
  refine pq 32 rfl (.extract rfl rfl rfl rfl) ?_
  refine pa 10 ?_
  refine pa 11 ?_
  refine we_nil ?_
  refine ex_seq ?_
  refine ex_block ?_
  refine ex_seq ?_
  refine ex_ord [] (l := [0, 1, 2, 3, 4]) rfl ?_
  refine pm 34 ?_
  refine pm 35 ?_
  refine pq 36 rfl (.un rfl rfl rfl) ?_
  refine pq 37 rfl (.bin rfl rfl rfl rfl) ?_
  refine pa 33 ?_
  refine we_nil ?_
  refine ex_if rfl ?_ ?_
  ·intro hc
   replace h := iteT h hc
   refine ex_seq ?_
   refine ex_ord [1] (l := [0, 1, 2]) rfl ?_
   refine pq 38 rfl (x_build rfl pl24 ze24 rfl rfl rfl rfl) ?_
   refine e0 rfl rfl rfl rfl rfl (b' := [none, some [.int .i64 0, .int .i64 0]]) (r' := []) (.store rfl rfl rfl sz24 rfl rfl rfl) rfl ?_
   refine pa 7 ?_
   refine we_nil ?_
   refine ex_ret ?_
   obtain rfl := Option.some.inj h
   exact finB (by first | exact .inr rfl | exact .inl rfl) (.refl _) [.agg [.int .i64 0, .int .i64 0], .bool false] [] [] (res_cons (res_cell rfl rfl sz24 un24 ag24 rfl) (res_cons (res_tmp rfl) res_nil)) rfl rfl rfl rfl rfl rfl rfl
  ·intro hc
   replace h := iteF h hc
   refine ex_seq ?_
   refine ex_ord [] (l := [0, 1, 2, 3, 4, 5]) rfl ?_
   refine pm 40 ?_
   refine pm 41 ?_
   refine pm 42 ?_
   refine pq 43 rfl (.bin rfl rfl rfl rfl) ?_
   refine pq 44 rfl (.bin rfl rfl rfl rfl) ?_
   refine pa 39 ?_
   refine we_nil ?_
   refine ex_if rfl ?_ ?_
   ·intro hc
    replace h := iteT h hc
    refine ex_seq ?_
    refine ex_ord [2] (l := [0, 1, 2, 3]) rfl ?_
    refine pm 45 ?_
    obtain ⟨v5, hv5, h⟩ := bindS h
    refine pq 46 rfl (x_callP rfl rfl en17 (ok_doc_End hv5) rfl rfl rfl rfl rfl) ?_
    refine e0 rfl rfl rfl rfl rfl (b' := [none, some [.int .i64 v5.f_Line, .int .i64 v5.f_At]]) (r' := []) (.store rfl rfl rfl sz24 rfl rfl rfl) rfl ?_
    refine pa 7 ?_
    refine we_nil ?_
    refine ex_ret ?_
    obtain rfl := Option.some.inj h
    exact finB (by first | exact .inr rfl | exact .inl rfl) (.refl _) [.agg [.int .i64 v5.f_Line, .int .i64 v5.f_At], .bool false] [] [] (res_cons (res_cell rfl rfl sz24 un24 ag24 rfl) (res_cons (res_tmp rfl) res_nil)) rfl rfl rfl rfl rfl rfl rfl
   ·intro hc
    replace h := iteF h hc
    refine ex_skip ?_
    refine ex_seq ?_
    refine ex_ord [8, 9] (l := [0, 1, 2, 3, 4, 5, 6, 7, 8, 9, 10]) rfl ?_
    refine pm 48 ?_
    refine pm 49 ?_
    refine pm 50 ?_
    refine pq 51 rfl (.bin rfl rfl rfl rfl) ?_
    obtain ⟨v6, hv6, h⟩ := bindS h
    refine pq 52 rfl (x_callP rfl rfl en27 (ok_doc_At hv6) rfl rfl rfl rfl rfl) ?_
    refine pm 47 ?_
    refine pq 53 rfl (.extract rfl rfl rfl rfl) ?_
    refine pq 54 rfl (.extract rfl rfl rfl rfl) ?_
    refine e_ (d := .bx 2 0) 12 rfl rfl rfl rfl rfl (b' := [none, some [.int .i64 0, .int .i64 0], some [.int .i64 0, .int .i64 0]]) (r' := []) (.alloc rfl ze24) rfl ?_
    refine e0 rfl rfl rfl rfl rfl (b' := [none, some [.int .i64 0, .int .i64 0], some [.int .i64 v6.1.f_Line, .int .i64 v6.1.f_At]]) (r' := []) (.store rfl rfl rfl sz24 rfl rfl rfl) rfl ?_
    refine pa 13 ?_
    refine we_nil ?_
    refine ex_seq ?_
    refine ex_gst ⟨[.sl false (List.map c_api_Line p0), .agg [.int .i64 p1.f_Line, .int .i64 p1.f_At], .int .i64 p2, Z, .cp [.int .i64 p1.f_Line, .int .i64 p1.f_At], Z, .bx 1 0, .bool false, .int .i64 v2.1, .int .i64 v2.2, .int .i64 v4.1, .int .i64 v4.2, .cp [.int .i64 v6.1.f_Line, .int .i64 v6.1.f_At], .int .i64 v6.2, .sl false (List.map c_api_Line p0), .int .i64 (p0.length : Int), .bool (((p0.length : Int) : Int) == 0), Z, .tup [.int .i64 v2.1, .int .i64 v2.2], .sl false (List.map c_api_Line p0), .sl false (List.map c_api_Line p0), .agg [.int .i64 p1.f_Line, .int .i64 p1.f_At], .agg [.int .i64 v1.f_Line, .int .i64 v1.f_At], .tup [.int .i64 v2.1, .int .i64 v2.2], .int .i64 v2.1, .int .i64 v2.2, .tup [.int .i64 v4.1, .int .i64 v4.2], .sl false (List.map c_api_Line p0), .sl false (List.map c_api_Line p0), .agg [.int .i64 v3.f_Line, .int .i64 v3.f_At], .tup [.int .i64 v4.1, .int .i64 v4.2], .int .i64 v4.1, .int .i64 v4.2, .bool (decide ((p2 : Int) < (IntKind.wrap .i64 (0 - v2.1)))), .int .i64 p2, .int .i64 v2.1, .int .i64 (IntKind.wrap .i64 (0 - v2.1)), .bool (decide ((p2 : Int) < (IntKind.wrap .i64 (0 - v2.1)))), Z, .bool (decide ((p2 : Int) > (IntKind.wrap .i64 (v4.1 - v2.1)))), .int .i64 p2, .int .i64 v4.1, .int .i64 v2.1, .int .i64 (IntKind.wrap .i64 (v4.1 - v2.1)), .bool (decide ((p2 : Int) > (IntKind.wrap .i64 (v4.1 - v2.1)))), Z, Z, .tup [.agg [.int .i64 v6.1.f_Line, .int .i64 v6.1.f_At], .int .i64 v6.2], .sl false (List.map c_api_Line p0), .int .i64 v2.1, .int .i64 p2, .int .i64 (IntKind.wrap .i64 (v2.1 + p2)), .tup [.agg [.int .i64 v6.1.f_Line, .int .i64 v6.1.f_At], .int .i64 v6.2], .agg [.int .i64 v6.1.f_Line, .int .i64 v6.1.f_At], .int .i64 v6.2, Z], [none, some [.int .i64 0, .int .i64 0], none], [], 0⟩ (.shutB (b := 2) rfl (fun d h => by simpa using List.all_eq_true.1 (rfl : List.all [.int .i64 v6.1.f_Line, .int .i64 v6.1.f_At] (fun d => !d.tok) = true) d h) (.refl _)) rfl ?_
    refine ex_ord [1] (l := [0, 1, 2]) rfl ?_
    refine pq 55 rfl (x_loadA rfl rfl rfl sz24 un24 ag24 rfl) ?_
    refine e0 rfl rfl rfl rfl rfl (b' := [none, some [.int .i64 v6.1.f_Line, .int .i64 v6.1.f_At], none]) (r' := []) (.store rfl rfl rfl sz24 rfl rfl rfl) rfl ?_
    refine pa 7 ?_
    refine we_nil ?_
    refine ex_ret ?_
    obtain rfl := Option.some.inj h
    exact finB (by first | exact .inr rfl | exact .inl rfl) (.refl _) [.agg [.int .i64 v6.1.f_Line, .int .i64 v6.1.f_At], .bool true] [] [] (res_cons (res_cell rfl rfl sz24 un24 ag24 rfl) (res_cons (res_tmp rfl) res_nil)) rfl rfl rfl rfl rfl rfl rfl
theorem ok_quillworkref06u_Frame {r : T_api_Line} {p0 : T_api_Line} (h : quillworkref06u_Frame p0 = some r) : OkB prog 45 [.agg [.int .i64 p0.f_Quote, .sl false (List.map c_i64 p0.f_Lists), .int .i64 p0.f_Kind, .sl false (List.map c_api_Cell p0.f_Cells)]] [] [] (.agg [.int .i64 r.f_Quote, .sl false (List.map c_i64 r.f_Lists), .int .i64 r.f_Kind, .sl false (List.map c_api_Cell r.f_Cells)]) [] [] := by
 unfold quillworkref06u_Frame at h
 refine okB_of_exG func45 rfl rfl (s0 := [.agg [.int .i64 p0.f_Quote, .sl false (List.map c_i64 p0.f_Lists), .int .i64 p0.f_Kind, .sl false (List.map c_api_Cell p0.f_Cells)], Z, Z, Z, Z, Z, Z, Z, Z, Z, Z, Z]) (b0 := []) (r0 := []) rfl rfl rfl ?_
 show Ex _ _ _ ⟨[.agg [.int .i64 p0.f_Quote, .sl false (List.map c_i64 p0.f_Lists), .int .i64 p0.f_Kind, .sl false (List.map c_api_Cell p0.f_Cells)], Z, Z, Z, Z, Z, Z, Z, Z, Z, Z, Z], [], [], 0⟩ _
 refine ex_seq ?_
 refine ex_ord [0, 1] (l := [0, 1]) rfl ?_
 refine e_ (d := .bx 0 0) 1 rfl rfl rfl rfl rfl (b' := [some [.int .i64 p0.f_Quote, .sl false (List.map c_i64 p0.f_Lists), .int .i64 p0.f_Kind, .sl false (List.map c_api_Cell p0.f_Cells)]]) (r' := []) (.box rfl rfl rfl) rfl ?_
 refine e_ (d := .bx 1 0) 2 rfl rfl rfl rfl rfl (b' := [some [.int .i64 p0.f_Quote, .sl false (List.map c_i64 p0.f_Lists), .int .i64 p0.f_Kind, .sl false (List.map c_api_Cell p0.f_Cells)], some [.int .i64 0, .sl false [], .int .i64 0, .sl false []]]) (r' := []) (.alloc rfl ze55) rfl ?_
 refine we_nil ?_
 refine ex_seq ?_
 refine ex_gst ⟨[.agg [.int .i64 p0.f_Quote, .sl false (List.map c_i64 p0.f_Lists), .int .i64 p0.f_Kind, .sl false (List.map c_api_Cell p0.f_Cells)], .cp [.int .i64 p0.f_Quote, .sl false (List.map c_i64 p0.f_Lists), .int .i64 p0.f_Kind, .sl false (List.map c_api_Cell p0.f_Cells)], .bx 1 0, Z, Z, Z, Z, Z, Z, Z, Z, Z], [none, some [.int .i64 0, .sl false [], .int .i64 0, .sl false []]], [], 0⟩ (.shutB (b := 0) rfl (fun d h => by simpa using List.all_eq_true.1 (rfl : List.all [.int .i64 p0.f_Quote, .sl false (List.map c_i64 p0.f_Lists), .int .i64 p0.f_Kind, .sl false (List.map c_api_Cell p0.f_Cells)] (fun d => !d.tok) = true) d h) (.refl _)) rfl ?_
 refine ex_drw mo [2, 5, 9, 1000, 1001, 1003, 1004, 1006, 1007, 1008, 3002, 3005, 3009, 1000001] (by kernel_rfl) (l := [0, 1, 2, 3, 4, 5, 6, 7, 8, 9]) rfl ?_
 refine n_ 3 rfl rfl rfl (fun _ _ => .fieldAddr rfl rfl rfl fl55u_0 rfl) ?_
 refine n_ 4 rfl rfl rfl (fun _ _ => x_load rfl rfl rfl sz3 un3 ag3 rfl) ?_
 refine e_ (d := .own 0) 5 rfl rfl rfl rfl rfl (b' := [none, some [.int .i64 0, .sl false [], .int .i64 0, .sl false []]]) (r' := [some ⟨3, 1, []⟩]) (x_lit (f := c_i64) (l := []) rfl el53 rw3 zs3 rfl rfl rfl (by decide) (by decide) fl_i64 rfl) rfl ?_
 refine n_ 6 rfl rfl rfl (fun _ _ => .fieldAddr rfl rfl rfl fl55u_1 rfl) ?_
 refine n_ 7 rfl rfl rfl (fun _ _ => x_load rfl rfl rfl sz53 un53 ag53 rfl) ?_
 obtain ⟨v1, hv1, h⟩ := bindS h
 refine e_ (d := .sl false (List.map c_i64 v1)) 8 rfl rfl rfl rfl rfl (b' := [none, some [.int .i64 0, .sl false [], .int .i64 0, .sl false []]]) (r' := [none, none]) (x_appF (f := c_i64) (xs := []) (ys := p0.f_Lists) rfl rfl rfl el53 rw3 rfl rfl rfl fl_i64 hv1) rfl ?_
 refine n_ 9 rfl rfl rfl (fun _ _ => .fieldAddr rfl rfl rfl fl55u_2 rfl) ?_
 refine n_ 10 rfl rfl rfl (fun _ _ => x_load rfl rfl rfl sz3 un3 ag3 rfl) ?_
 refine n_ 11 rfl rfl rfl (fun _ _ => x_build rfl pl55 ze55 rfl rfl rfl rfl) ?_
 refine e0 rfl rfl rfl rfl rfl (b' := [none, some [.int .i64 p0.f_Quote, .sl false (List.map c_i64 v1), .int .i64 p0.f_Kind, .sl false []]]) (r' := [none, none]) (hb := set_out 1 (some [.int .i64 p0.f_Quote, .sl false (List.map c_i64 v1), .int .i64 p0.f_Kind, .sl false []]) rfl rfl) (.store rfl rfl rfl sz55 rfl rfl rfl) rfl ?_
 refine we_nil ?_
 refine ex_ret ?_
 obtain rfl := Option.some.inj h
 exact finB (by first | exact .inr rfl | exact .inl rfl) (.refl _) [.agg [.int .i64 p0.f_Quote, .sl false (List.map c_i64 v1), .int .i64 p0.f_Kind, .sl false []]] [] [] (res_cons (res_cell rfl rfl sz55 un55 ag55 rfl) res_nil) rfl rfl rfl rfl rfl rfl rfl
theorem ok_quillworkref05u_Same {r : Bool} {p0 : List (T_api_Cell)} {p1 : List (T_api_Cell)} (h : quillworkref05u_Same p0 p1 = some r) : OkB prog 48 [.sl false (List.map c_api_Cell p0), .sl false (List.map c_api_Cell p1)] [] [] (.bool r) [] [] := by
 unfold quillworkref05u_Same at h
 refine okB_of_exG func48 rfl rfl (s0 := [.sl false (List.map c_api_Cell p0), .sl false (List.map c_api_Cell p1), Z, Z, Z, Z, Z, Z, Z, Z, Z, Z, Z, Z, Z, Z, Z, Z, Z, Z, Z, Z, Z, Z, Z, Z, Z, Z, Z, Z, Z, Z, Z, Z, Z, Z, Z, Z, Z, Z, Z, Z, Z, Z, Z, Z, Z, Z, Z, Z, Z, Z, Z, Z]) (b0 := []) (r0 := []) rfl rfl rfl ?_
 show Ex _ _ _ ⟨[.sl false (List.map c_api_Cell p0), .sl false (List.map c_api_Cell p1), Z, Z, Z, Z, Z, Z, Z, Z, Z, Z, Z, Z, Z, Z, Z, Z, Z, Z, Z, Z, Z, Z, Z, Z, Z, Z, Z, Z, Z, Z, Z, Z, Z, Z, Z, Z, Z, Z, Z, Z, Z, Z, Z, Z, Z, Z, Z, Z, Z, Z, Z, Z], [], [], 0⟩ _
 refine ex_seq ?_
 refine ex_ord [] (l := [0]) rfl ?_
 refine pa 4 ?_
 refine we_nil ?_
 refine ex_seq ?_
 refine ex_seq ?_
 refine ex_ord [] (l := [0, 1, 2, 3, 4]) rfl ?_
 refine pm 6 ?_
 refine pq 7 rfl (x_len (f := c_api_Cell) (l := p0) rfl rfl rfl el46) ?_
 refine pm 8 ?_
 refine pq 9 rfl (x_len (f := c_api_Cell) (l := p1) rfl rfl rfl el46) ?_
 refine pq 10 rfl (.bin rfl rfl rfl rfl) ?_
 refine we_nil ?_
 refine ex_if rfl ?_ ?_
 ·intro hc
  replace h := iteT h hc
  refine ex_seq ?_
  refine ex_ord [] (l := [0]) rfl ?_
  refine pa 4 ?_
  refine we_nil ?_
  refine ex_ret ?_
  obtain rfl := Option.some.inj h
  exact finB (by first | exact .inr rfl | exact .inl rfl) (.refl _) [.bool false] [] [] (res_cons (res_tmp rfl) res_nil) rfl rfl rfl rfl rfl rfl rfl
 ·intro hc
  replace h := iteF h hc
  refine ex_skip ?_
  refine ex_seq ?_
  refine ex_seq ?_
  refine ex_ord [] (l := [0]) rfl ?_
  refine pa 5 ?_
  refine we_nil ?_
  refine ex_block ?_
  obtain ⟨o9, hl, h⟩ := bindS h
  refine ex_gst ⟨[.sl false (List.map c_api_Cell p0), .sl false (List.map c_api_Cell p1), Z, Z, Z, .int .i64 0, Z, Z, Z, Z, Z, Z, Z, Z, Z, Z, Z, Z, Z, Z, Z, Z, Z, Z, Z, Z, Z, Z, Z, Z, Z, Z, Z, Z, Z, Z, Z, Z, Z, Z, Z, Z, Z, Z, Z, Z, Z, Z, Z, Z, Z, Z, Z, Z], [], [], 0⟩ (.re (rl [0, 2, 3, 1, 48]) [] [] rfl (.refl _)) rfl ?_
  refine ex_iterX (fun o => match o with | .inl _ => .ret | .inr _ => .exit 0) (fun s => ⟨[.sl false (List.map c_api_Cell p0), .sl false (List.map c_api_Cell p1), Z, Z, Z, .int .i64 s, Z, Z, Z, Z, Z, Z, Z, Z, Z, Z, Z, Z, Z, Z, Z, Z, Z, Z, Z, Z, Z, Z, Z, Z, Z, Z, Z, Z, Z, Z, Z, Z, Z, Z, Z, Z, Z, Z, Z, Z, Z, Z, Z, Z, Z, Z, Z, Z], [], [], 0⟩) (fun o => match o with | .inl o => ⟨[Z, Z, Z, Z, .bool false, Z, Z, Z, Z, Z, Z, Z, Z, Z, Z, Z, Z, Z, Z, Z, Z, Z, Z, Z, Z, Z, Z, Z, Z, Z, Z, Z, Z, Z, Z, Z, Z, Z, Z, Z, Z, Z, Z, Z, Z, Z, Z, Z, Z, Z, Z, Z, Z, Z], [], [], 0⟩ | .inr o => ⟨[Z, Z, Z, Z, Z, Z, Z, Z, Z, Z, Z, Z, Z, Z, Z, Z, Z, Z, Z, Z, Z, Z, Z, Z, Z, Z, Z, Z, Z, Z, Z, Z, Z, Z, Z, Z, Z, Z, Z, Z, Z, Z, Z, Z, Z, Z, Z, Z, Z, Z, Z, Z, Z, Z], [], [], 0⟩) hl rfl ?_ ?_
  ·clear hl
   rcases o9 with _ | _
   ·obtain rfl := Option.some.inj h
    exact finB (by first | exact .inr rfl | exact .inl rfl) (.refl _) [.bool false] [] [] (res_cons (res_tmp rfl) res_nil) rfl rfl rfl rfl rfl rfl rfl
   ·refine ex_seq ?_
    refine ex_ord [] (l := [0]) rfl ?_
    refine pa 4 ?_
    refine we_nil ?_
    refine ex_ret ?_
    obtain rfl := Option.some.inj h
    exact finB (by first | exact .inr rfl | exact .inl rfl) (.refl _) [.bool true] [] [] (res_cons (res_tmp rfl) res_nil) rfl rfl rfl rfl rfl rfl rfl
  ·clear hl h
   rintro n1 y h
   replace h : quillworkref05u_Same_l1 p0 p1 n1 = some y := h
   unfold quillworkref05u_Same_l1 at h
   show Ex _ _ _ ⟨[.sl false (List.map c_api_Cell p0), .sl false (List.map c_api_Cell p1), Z, Z, Z, .int .i64 n1, Z, Z, Z, Z, Z, Z, Z, Z, Z, Z, Z, Z, Z, Z, Z, Z, Z, Z, Z, Z, Z, Z, Z, Z, Z, Z, Z, Z, Z, Z, Z, Z, Z, Z, Z, Z, Z, Z, Z, Z, Z, Z, Z, Z, Z, Z, Z, Z], [], [], 0⟩ _
   refine ex_seq ?_
   refine ex_seq ?_
   refine ex_ord [] (l := [0, 1, 2, 3]) rfl ?_
   refine pm 11 ?_
   refine pm 12 ?_
   refine pq 13 rfl (x_len (f := c_api_Cell) (l := p0) rfl rfl rfl el46) ?_
   refine pq 14 rfl (.bin rfl rfl rfl rfl) ?_
   refine we_nil ?_
   refine ex_if rfl ?_ ?_
   ·intro hc
    replace h := iteT h hc
    refine ex_skip ?_
    refine ex_seq ?_
    refine ex_block ?_
    refine ex_seq ?_
    obtain ⟨q2, hq, h⟩ := bindS h
    refine ex_cut ⟨[.sl false (List.map c_api_Cell p0), .sl false (List.map c_api_Cell p1), Z, Z, Z, .int .i64 n1, Z, Z, Z, Z, Z, Z, Z, Z, Z, Z, Z, Z, Z, Z, Z, Z, Z, Z, Z, Z, Z, Z, Z, Z, Z, Z, Z, Z, Z, Z, Z, Z, Z, Z, Z, Z, Z, Z, Z, Z, Z, Z, Z, Z, Z, Z, Z, .bool q2], [], [], 0⟩ ?_ ?_
    ·clear h
     have h := hq
     clear hq
     refine ex_drw mo [1002, 1003, 1004, 1007, 1008, 1009, 1014, 1015, 1016, 1019, 1020, 1021, 1027, 1028, 1029, 1032, 1033, 1034] (by kernel_rfl) (l := [0, 1, 2, 3, 4, 5, 6, 7, 8, 9, 10, 11, 12, 13, 14, 15, 16, 17, 18, 19, 20, 21, 22, 23, 24, 25, 26, 27, 28, 29, 30, 31, 32, 33, 34, 35, 36]) rfl ?_
     refine pm 17 ?_
     refine pm 18 ?_
     obtain ⟨v3, hv3, h⟩ := bindS h
     refine n_ 19 rfl rfl rfl (fun _ _ => x_idx (f := c_api_Cell) (cs := [.int .i32 v3.f_R, .int .i64 v3.f_Bits, .str (bs v3.f_Href)]) rfl rfl rfl el46 sz58 hv3 rfl rfl) ?_
     refine n_ 20 rfl rfl rfl (fun _ _ => .fieldAddr rfl rfl rfl fl58u_0 rfl) ?_
     refine n_ 21 rfl rfl rfl (fun _ _ => x_load rfl rfl rfl sz21 un21 ag21 rfl) ?_
     refine pm 22 ?_
     refine pm 23 ?_
     obtain ⟨v4, hv4, h⟩ := bindS h
     refine n_ 24 rfl rfl rfl (fun _ _ => x_idx (f := c_api_Cell) (cs := [.int .i32 v4.f_R, .int .i64 v4.f_Bits, .str (bs v4.f_Href)]) rfl rfl rfl el46 sz58 hv4 rfl rfl) ?_
     refine n_ 25 rfl rfl rfl (fun _ _ => .fieldAddr rfl rfl rfl fl58u_0 rfl) ?_
     refine n_ 26 rfl rfl rfl (fun _ _ => x_load rfl rfl rfl sz21 un21 ag21 rfl) ?_
     refine pif 27 rfl rfl rfl rfl (.bin rfl rfl rfl rfl) ?_ ?_
     ·intro hc
      replace h := iteT h hc
      refine pm 28 ?_
      refine kq 29 ?_
      refine kq 30 ?_
      refine kq 31 ?_
      refine kq 32 ?_
      refine kq 33 ?_
      refine kq 34 ?_
      refine kq 35 ?_
      refine kq 36 ?_
      refine kq 37 ?_
      refine kq 38 ?_
      refine kq 39 ?_
      refine pq 40 rfl (x_pickT rfl rfl rfl rfl) ?_
      refine pm 41 ?_
      refine kq 42 ?_
      refine kq 43 ?_
      refine kq 44 ?_
      refine kq 45 ?_
      refine kq 46 ?_
      refine kq 47 ?_
      refine kq 48 ?_
      refine kq 49 ?_
      refine kq 50 ?_
      refine kq 51 ?_
      refine kq 52 ?_
      refine pq 53 rfl (x_pickT rfl rfl rfl rfl) ?_
      refine we_nil ?_
      cases h
      exact ⟨rfl, _, .re (rl [0, 2, 3, 1, 47, 1]) [] [] rfl (.refl _), rfl⟩
     ·intro hc
      replace h := iteF h hc
      refine pm 28 ?_
      refine pm 29 ?_
      refine pm 30 ?_
      obtain ⟨v5, hv5, h⟩ := bindS h
      refine n_ 31 rfl rfl rfl (fun _ _ => x_idx (f := c_api_Cell) (cs := [.int .i32 v5.f_R, .int .i64 v5.f_Bits, .str (bs v5.f_Href)]) rfl rfl rfl el46 sz58 hv5 rfl rfl) ?_
      refine n_ 32 rfl rfl rfl (fun _ _ => .fieldAddr rfl rfl rfl fl58u_1 rfl) ?_
      refine n_ 33 rfl rfl rfl (fun _ _ => x_load rfl rfl rfl sz3 un3 ag3 rfl) ?_
      refine pm 34 ?_
      refine pm 35 ?_
      obtain ⟨v6, hv6, h⟩ := bindS h
      refine n_ 36 rfl rfl rfl (fun _ _ => x_idx (f := c_api_Cell) (cs := [.int .i32 v6.f_R, .int .i64 v6.f_Bits, .str (bs v6.f_Href)]) rfl rfl rfl el46 sz58 hv6 rfl rfl) ?_
      refine n_ 37 rfl rfl rfl (fun _ _ => .fieldAddr rfl rfl rfl fl58u_1 rfl) ?_
      refine n_ 38 rfl rfl rfl (fun _ _ => x_load rfl rfl rfl sz3 un3 ag3 rfl) ?_
      refine pif 39 rfl rfl rfl rfl (.bin rfl rfl rfl rfl) ?_ ?_
      ·intro hc
       replace h := iteT h hc
       refine pq 40 rfl (x_pickF rfl rfl rfl rfl) ?_
       refine pm 41 ?_
       refine kq 42 ?_
       refine kq 43 ?_
       refine kq 44 ?_
       refine kq 45 ?_
       refine kq 46 ?_
       refine kq 47 ?_
       refine kq 48 ?_
       refine kq 49 ?_
       refine kq 50 ?_
       refine kq 51 ?_
       refine kq 52 ?_
       refine pq 53 rfl (x_pickT rfl rfl rfl rfl) ?_
       refine we_nil ?_
       cases h
       exact ⟨rfl, _, .re (rl [0, 2, 3, 1, 47, 1]) [] [] rfl (.refl _), rfl⟩
      ·intro hc
       replace h := iteF h hc
       refine pq 40 rfl (x_pickF rfl rfl rfl rfl) ?_
       refine pm 41 ?_
       refine pm 42 ?_
       refine pm 43 ?_
       obtain ⟨v7, hv7, h⟩ := bindS h
       refine n_ 44 rfl rfl rfl (fun _ _ => x_idx (f := c_api_Cell) (cs := [.int .i32 v7.f_R, .int .i64 v7.f_Bits, .str (bs v7.f_Href)]) rfl rfl rfl el46 sz58 hv7 rfl rfl) ?_
       refine n_ 45 rfl rfl rfl (fun _ _ => .fieldAddr rfl rfl rfl fl58u_2 rfl) ?_
       refine n_ 46 rfl rfl rfl (fun _ _ => x_load rfl rfl rfl sz9 un9 ag9 rfl) ?_
       refine pm 47 ?_
       refine pm 48 ?_
       obtain ⟨v8, hv8, h⟩ := bindS h
       refine n_ 49 rfl rfl rfl (fun _ _ => x_idx (f := c_api_Cell) (cs := [.int .i32 v8.f_R, .int .i64 v8.f_Bits, .str (bs v8.f_Href)]) rfl rfl rfl el46 sz58 hv8 rfl rfl) ?_
       refine n_ 50 rfl rfl rfl (fun _ _ => .fieldAddr rfl rfl rfl fl58u_2 rfl) ?_
       refine n_ 51 rfl rfl rfl (fun _ _ => x_load rfl rfl rfl sz9 un9 ag9 rfl) ?_
       refine pq 52 rfl (x_neS rfl rfl rfl) ?_
       refine pq 53 rfl (x_pickF rfl rfl rfl rfl) ?_
       refine we_nil ?_
       cases h
       exact ⟨rfl, _, .re (rl [0, 2, 3, 1, 47, 1]) [] [] rfl (.refl _), rfl⟩
    ·clear hq
     refine ex_if rfl ?_ ?_
     ·intro hc
      replace h := iteT h hc
      refine ex_seq ?_
      refine ex_ord [] (l := [0]) rfl ?_
      refine pa 4 ?_
      refine we_nil ?_
      refine ex_ret ?_
      exact rnd_out (o := (.inl ())) rfl (fun h => by cases h) h (.re (rl [4, 1, 49]) [] [] rfl (.refl _)) rfl
     ·intro hc
      replace h := iteF h hc
      refine ex_skip ?_
      refine ex_ord [] (l := [0, 1, 2]) rfl ?_
      refine pm 15 ?_
      refine pq 16 rfl (.bin rfl rfl rfl rfl) ?_
      refine pa 5 ?_
      refine we_nil ?_
      exact rnd_on rfl h (.re (rl [0, 2, 3, 1, 48]) [] [] rfl (.refl _)) rfl
   ·intro hc
    replace h := iteF h hc
    refine ex_exit ?_
    exact rnd_out (o := (.inr ())) rfl (fun h => by cases h) h (.re (rl [54]) [] [] rfl (.refl _)) rfl
theorem ok_quillworkref05u_Own {r : (List (T_api_Cell))} {p0 : List (T_api_Cell)} (h : quillworkref05u_Own p0 = some r) : OkB prog 50 [.sl false (List.map c_api_Cell p0)] [] [] (.own 0) [] [⟨58, 3, List.map c_api_Cell r⟩] := by
 unfold quillworkref05u_Own at h
 refine okB_of_exG func50 rfl rfl (s0 := [.sl false (List.map c_api_Cell p0), Z, Z, Z, Z, Z]) (b0 := []) (r0 := []) rfl rfl rfl ?_
 show Ex _ _ _ ⟨[.sl false (List.map c_api_Cell p0), Z, Z, Z, Z, Z], [], [], 0⟩ _
 refine ex_seq ?_
 refine ex_ord [0] (l := [0]) rfl ?_
 refine e_ (d := .own 0) 2 rfl rfl rfl rfl rfl (b' := []) (r' := [some ⟨58, 3, []⟩]) (.nilRow (.inr rfl) rfl 58 3) rfl ?_
 refine we_nil ?_
 refine ex_seq ?_
 refine ex_ord [0, 2] (l := [0, 1, 2, 3]) rfl ?_
 refine e_ (d := .own 1) 3 rfl rfl rfl rfl rfl (b' := []) (r' := [some ⟨58, 3, []⟩, some ⟨58, 3, []⟩]) (x_lit (f := c_api_Cell) (l := []) rfl el46 rw58 zs58 rfl rfl rfl (by decide) (by decide) fl_api_Cell rfl) rfl ?_
 refine pm 4 ?_
 obtain ⟨v1, hv1, h⟩ := bindS h
 refine e_ (d := .own 2) 5 rfl rfl rfl rfl rfl (b' := []) (r' := [some ⟨58, 3, []⟩, none, some ⟨58, 3, List.map c_api_Cell v1⟩]) (x_app (f := c_api_Cell) (xs := []) (ys := p0) rfl rfl rfl el46 rw58 rfl rfl rfl fl_api_Cell hv1) rfl ?_
 refine pa 2 ?_
 refine we_nil ?_
 refine ex_ret ?_
 obtain rfl := Option.some.inj h
 exact finB (by first | exact .inr rfl | exact .inl rfl) (.refl _) [.own 2] [2] [] (res_cons (res_tmp rfl) res_nil) rfl rfl rfl rfl rfl rfl rfl
theorem ok_quillworkref07u_Long {r : Bool} {p0 : List (T_api_Line)} (h : quillworkref07u_Long p0 = some r) : OkB prog 59 [.sl false (List.map c_api_Line p0)] [] [] (.bool r) [] [] := by
 unfold quillworkref07u_Long at h
 refine okB_of_exG func59 rfl rfl (s0 := [.sl false (List.map c_api_Line p0), Z, Z, Z, Z, Z, Z, Z, Z, Z, Z, Z, Z, Z, Z, Z, Z, Z, Z, Z, Z, Z, Z, Z, Z, Z, Z, Z, Z, Z, Z, Z, Z, Z, Z, Z, Z, Z, Z, Z, Z, Z, Z, Z, Z, Z, Z, Z, Z, Z, Z, Z, Z, Z, Z, Z, Z, Z, Z]) (b0 := []) (r0 := []) rfl rfl rfl ?_
 show Ex _ _ _ ⟨[.sl false (List.map c_api_Line p0), Z, Z, Z, Z, Z, Z, Z, Z, Z, Z, Z, Z, Z, Z, Z, Z, Z, Z, Z, Z, Z, Z, Z, Z, Z, Z, Z, Z, Z, Z, Z, Z, Z, Z, Z, Z, Z, Z, Z, Z, Z, Z, Z, Z, Z, Z, Z, Z, Z, Z, Z, Z, Z, Z, Z, Z, Z, Z], [], [], 0⟩ _
 refine ex_seq ?_
 refine ex_ord [] (l := [0]) rfl ?_
 refine pa 2 ?_
 refine we_nil ?_
 refine ex_seq ?_
 refine ex_seq ?_
 refine ex_ord [] (l := [0, 1, 2]) rfl ?_
 refine pm 6 ?_
 refine pq 7 rfl (x_len (f := c_api_Line) (l := p0) rfl rfl rfl el22) ?_
 refine pq 8 rfl (.bin rfl rfl rfl rfl) ?_
 refine we_nil ?_
 refine ex_if rfl ?_ ?_
 ·intro hc
  replace h := iteT h hc
  refine ex_seq ?_
  refine ex_ord [] (l := [0]) rfl ?_
  refine pa 2 ?_
  refine we_nil ?_
  refine ex_ret ?_
  obtain rfl := Option.some.inj h
  exact finB (by first | exact .inr rfl | exact .inl rfl) (.refl _) [.bool true] [] [] (res_cons (res_tmp rfl) res_nil) rfl rfl rfl rfl rfl rfl rfl
 ·intro hc
  replace h := iteF h hc
  refine ex_skip ?_
  refine ex_seq ?_
  refine ex_ord [] (l := [0]) rfl ?_
  refine pa 3 ?_
  refine we_nil ?_
  refine ex_seq ?_
  refine ex_seq ?_
  refine ex_ord [] (l := [0]) rfl ?_
  refine pa 4 ?_
  refine we_nil ?_
  refine ex_block ?_
  obtain ⟨o14, hl, h⟩ := bindS h
  refine ex_gst ⟨[.sl false (List.map c_api_Line p0), Z, Z, .int .i64 0, .int .i64 0, Z, Z, Z, Z, Z, Z, Z, Z, Z, Z, Z, Z, Z, Z, Z, Z, Z, Z, Z, Z, Z, Z, Z, Z, Z, Z, Z, Z, Z, Z, Z, Z, Z, Z, Z, Z, Z, Z, Z, Z, Z, Z, Z, Z, Z, Z, Z, Z, Z, Z, Z, Z, Z, Z], [], [], 0⟩ (.re (rl [0, 1, 2, 2, 54]) [] [] rfl (.refl _)) rfl ?_
  refine ex_iterX (fun o => match o with | .inl _ => .ret | .inr _ => .exit 0) (fun s => ⟨[.sl false (List.map c_api_Line p0), Z, Z, .int .i64 s.1, .int .i64 s.2, Z, Z, Z, Z, Z, Z, Z, Z, Z, Z, Z, Z, Z, Z, Z, Z, Z, Z, Z, Z, Z, Z, Z, Z, Z, Z, Z, Z, Z, Z, Z, Z, Z, Z, Z, Z, Z, Z, Z, Z, Z, Z, Z, Z, Z, Z, Z, Z, Z, Z, Z, Z, Z, Z], [], [], 0⟩) (fun o => match o with | .inl o => ⟨[Z, Z, .bool true, Z, Z, Z, Z, Z, Z, Z, Z, Z, Z, Z, Z, Z, Z, Z, Z, Z, Z, Z, Z, Z, Z, Z, Z, Z, Z, Z, Z, Z, Z, Z, Z, Z, Z, Z, Z, Z, Z, Z, Z, Z, Z, Z, Z, Z, Z, Z, Z, Z, Z, Z, Z, Z, Z, Z, Z], [], [], 0⟩ | .inr o => ⟨[Z, Z, Z, Z, Z, Z, Z, Z, Z, Z, Z, Z, Z, Z, Z, Z, Z, Z, Z, Z, Z, Z, Z, Z, Z, Z, Z, Z, Z, Z, Z, Z, Z, Z, Z, Z, Z, Z, Z, Z, Z, Z, Z, Z, Z, Z, Z, Z, Z, Z, Z, Z, Z, Z, Z, Z, Z, Z, Z], [], [], 0⟩) hl rfl ?_ ?_
  ·clear hl
   rcases o14 with _ | _
   ·obtain rfl := Option.some.inj h
    exact finB (by first | exact .inr rfl | exact .inl rfl) (.refl _) [.bool true] [] [] (res_cons (res_tmp rfl) res_nil) rfl rfl rfl rfl rfl rfl rfl
   ·refine ex_seq ?_
    refine ex_ord [] (l := [0]) rfl ?_
    refine pa 2 ?_
    refine we_nil ?_
    refine ex_ret ?_
    obtain rfl := Option.some.inj h
    exact finB (by first | exact .inr rfl | exact .inl rfl) (.refl _) [.bool false] [] [] (res_cons (res_tmp rfl) res_nil) rfl rfl rfl rfl rfl rfl rfl
  ·clear hl h
   rintro ⟨n1, n2⟩ y h
   replace h : quillworkref07u_Long_l3 p0 n1 n2 = some y := h
   unfold quillworkref07u_Long_l3 at h
   show Ex _ _ _ ⟨[.sl false (List.map c_api_Line p0), Z, Z, .int .i64 n1, .int .i64 n2, Z, Z, Z, Z, Z, Z, Z, Z, Z, Z, Z, Z, Z, Z, Z, Z, Z, Z, Z, Z, Z, Z, Z, Z, Z, Z, Z, Z, Z, Z, Z, Z, Z, Z, Z, Z, Z, Z, Z, Z, Z, Z, Z, Z, Z, Z, Z, Z, Z, Z, Z, Z, Z, Z], [], [], 0⟩ _
   refine ex_seq ?_
   refine ex_seq ?_
   refine ex_ord [] (l := [0, 1, 2, 3]) rfl ?_
   refine pm 9 ?_
   refine pm 10 ?_
   refine pq 11 rfl (x_len (f := c_api_Line) (l := p0) rfl rfl rfl el22) ?_
   refine pq 12 rfl (.bin rfl rfl rfl rfl) ?_
   refine we_nil ?_
   refine ex_if rfl ?_ ?_
   ·intro hc
    replace h := iteT h hc
    refine ex_skip ?_
    refine ex_seq ?_
    refine ex_block ?_
    refine ex_seq ?_
    refine ex_drw mo [1003, 1004, 1005, 1006, 1009, 1010, 1011, 1012] (by kernel_rfl) (l := [0, 1, 2, 3, 4, 5, 6, 7, 8, 9, 10, 11, 12, 13, 14, 15]) rfl ?_
    refine pm 15 ?_
    refine pm 16 ?_
    refine pm 17 ?_
    obtain ⟨v3, hv3, h⟩ := bindS h
    refine n_ 18 rfl rfl rfl (fun _ _ => x_idx (f := c_api_Line) (cs := [.int .i64 v3.f_Quote, .sl false (List.map c_i64 v3.f_Lists), .int .i64 v3.f_Kind, .sl false (List.map c_api_Cell v3.f_Cells)]) rfl rfl rfl el22 sz55 hv3 rfl rfl) ?_
    refine n_ 19 rfl rfl rfl (fun _ _ => .fieldAddr rfl rfl rfl fl55u_3 rfl) ?_
    refine n_ 20 rfl rfl rfl (fun _ _ => x_load rfl rfl rfl sz46 un46 ag46 rfl) ?_
    refine n_ 21 rfl rfl rfl (fun _ _ => x_len (f := c_api_Cell) (l := v3.f_Cells) rfl rfl rfl el46) ?_
    refine pm 22 ?_
    refine pm 23 ?_
    obtain ⟨v4, hv4, h⟩ := bindS h
    refine n_ 24 rfl rfl rfl (fun _ _ => x_idx (f := c_api_Line) (cs := [.int .i64 v4.f_Quote, .sl false (List.map c_i64 v4.f_Lists), .int .i64 v4.f_Kind, .sl false (List.map c_api_Cell v4.f_Cells)]) rfl rfl rfl el22 sz55 hv4 rfl rfl) ?_
    refine n_ 25 rfl rfl rfl (fun _ _ => .fieldAddr rfl rfl rfl fl55u_1 rfl) ?_
    refine n_ 26 rfl rfl rfl (fun _ _ => x_load rfl rfl rfl sz53 un53 ag53 rfl) ?_
    refine n_ 27 rfl rfl rfl (fun _ _ => x_len (f := c_i64) (l := v4.f_Lists) rfl rfl rfl el53) ?_
    refine pq 28 rfl (.bin rfl rfl rfl rfl) ?_
    refine pq 29 rfl (.bin rfl rfl rfl rfl) ?_
    refine pa 3 ?_
    refine we_nil ?_
    refine ex_seq ?_
    refine ex_seq ?_
    refine ex_ord [] (l := [0]) rfl ?_
    refine pa 5 ?_
    refine we_nil ?_
    refine ex_block ?_
    obtain ⟨k7, hl, h⟩ := bindS h
    refine ex_gst ⟨[.sl false (List.map c_api_Line p0), Z, Z, .int .i64 (IntKind.wrap .i64 (n1 + (IntKind.wrap .i64 ((v3.f_Cells.length : Int) + (v4.f_Lists.length : Int))))), .int .i64 n2, .int .i64 0, Z, Z, Z, Z, Z, Z, Z, Z, Z, Z, Z, Z, Z, Z, Z, Z, Z, Z, Z, Z, Z, Z, Z, Z, Z, Z, Z, Z, Z, Z, Z, Z, Z, Z, Z, Z, Z, Z, Z, Z, Z, Z, Z, Z, Z, Z, Z, Z, Z, Z, Z, Z, Z], [], [], 0⟩ (.re (rl [0, 1, 2, 3, 53]) [] [] rfl (.refl _)) rfl ?_
    refine ex_iterX (fun _ => .exit 2) (fun s => ⟨[.sl false (List.map c_api_Line p0), Z, Z, .int .i64 s.1, .int .i64 n2, .int .i64 s.2, Z, Z, Z, Z, Z, Z, Z, Z, Z, Z, Z, Z, Z, Z, Z, Z, Z, Z, Z, Z, Z, Z, Z, Z, Z, Z, Z, Z, Z, Z, Z, Z, Z, Z, Z, Z, Z, Z, Z, Z, Z, Z, Z, Z, Z, Z, Z, Z, Z, Z, Z, Z, Z], [], [], 0⟩) (fun o => ⟨[.sl false (List.map c_api_Line p0), Z, Z, .int .i64 o, .int .i64 n2, Z, Z, Z, Z, Z, Z, Z, Z, Z, Z, Z, Z, Z, Z, Z, Z, Z, Z, Z, Z, Z, Z, Z, Z, Z, Z, Z, Z, Z, Z, Z, Z, Z, Z, Z, Z, Z, Z, Z, Z, Z, Z, Z, Z, Z, Z, Z, Z, Z, Z, Z, Z, Z, Z], [], [], 0⟩) hl rfl ?_ ?_
    ·clear hl
     refine ex_seq ?_
     refine ex_ord [] (l := [0, 1]) rfl ?_
     refine pm 57 ?_
     refine pq 58 rfl (.bin rfl rfl rfl rfl) ?_
     refine we_nil ?_
     refine ex_if rfl ?_ ?_
     ·intro hc
      replace h := iteT h hc
      refine ex_seq ?_
      refine ex_ord [] (l := [0]) rfl ?_
      refine pa 2 ?_
      refine we_nil ?_
      refine ex_ret ?_
      exact rnd_out (o := (.inl ())) rfl (fun h => by cases h) h (.re (rl [2, 1, 56]) [] [] rfl (.refl _)) rfl
     ·intro hc
      replace h := iteF h hc
      refine ex_skip ?_
      refine ex_ord [] (l := [0, 1, 2]) rfl ?_
      refine pm 13 ?_
      refine pq 14 rfl (.bin rfl rfl rfl rfl) ?_
      refine pa 4 ?_
      refine we_nil ?_
      exact rnd_on rfl h (.re (rl [0, 1, 2, 2, 54]) [] [] rfl (.refl _)) rfl
    ·clear hl h
     rintro ⟨n5, n6⟩ y h
     replace h : quillworkref07u_Long_l4 p0 n2 n5 n6 = some y := h
     unfold quillworkref07u_Long_l4 at h
     show Ex _ _ _ ⟨[.sl false (List.map c_api_Line p0), Z, Z, .int .i64 n5, .int .i64 n2, .int .i64 n6, Z, Z, Z, Z, Z, Z, Z, Z, Z, Z, Z, Z, Z, Z, Z, Z, Z, Z, Z, Z, Z, Z, Z, Z, Z, Z, Z, Z, Z, Z, Z, Z, Z, Z, Z, Z, Z, Z, Z, Z, Z, Z, Z, Z, Z, Z, Z, Z, Z, Z, Z, Z, Z], [], [], 0⟩ _
     refine ex_seq ?_
     refine ex_seq ?_
     obtain ⟨q8, hq, h⟩ := bindS h
     refine ex_cut ⟨[.sl false (List.map c_api_Line p0), Z, Z, .int .i64 n5, .int .i64 n2, .int .i64 n6, Z, Z, Z, Z, Z, Z, Z, Z, Z, Z, Z, Z, Z, Z, Z, Z, Z, Z, Z, Z, Z, Z, Z, Z, Z, Z, Z, Z, Z, Z, Z, Z, Z, Z, Z, .bool q8, Z, Z, Z, Z, Z, Z, Z, Z, Z, Z, Z, Z, Z, Z, Z, Z, Z], [], [], 0⟩ ?_ ?_
     ·clear h
      have h := hq
      clear hq
      refine ex_ord [] (l := [0, 1, 2, 3, 4, 5, 6, 7, 8, 9, 10, 11]) rfl ?_
      refine pm 30 ?_
      refine pm 31 ?_
      refine pm 32 ?_
      obtain ⟨v9, hv9, h⟩ := bindS h
      refine pq 33 rfl (x_idx (f := c_api_Line) (cs := [.int .i64 v9.f_Quote, .sl false (List.map c_i64 v9.f_Lists), .int .i64 v9.f_Kind, .sl false (List.map c_api_Cell v9.f_Cells)]) rfl rfl rfl el22 sz55 hv9 rfl rfl) ?_
      refine pq 34 rfl (.fieldAddr rfl rfl rfl fl55u_3 rfl) ?_
      refine pq 35 rfl (x_load rfl rfl rfl sz46 un46 ag46 rfl) ?_
      refine pq 36 rfl (x_len (f := c_api_Cell) (l := v9.f_Cells) rfl rfl rfl el46) ?_
      refine pif 37 rfl rfl rfl rfl (.bin rfl rfl rfl rfl) ?_ ?_
      ·intro hc
       replace h := iteT h hc
       refine pm 38 ?_
       refine pm 39 ?_
       refine pq 40 rfl (.bin rfl rfl rfl rfl) ?_
       refine pq 41 rfl (x_pickT rfl rfl rfl rfl) ?_
       refine we_nil ?_
       cases h
       exact ⟨rfl, _, .re (rl [0, 1, 2, 3, 35, 1, 17]) [] [] rfl (.refl _), rfl⟩
      ·intro hc
       replace h := iteF h hc
       refine pm 38 ?_
       refine kq 39 ?_
       refine kq 40 ?_
       refine pq 41 rfl (x_pickF rfl rfl rfl rfl) ?_
       refine we_nil ?_
       cases h
       exact ⟨rfl, _, .re (rl [0, 1, 2, 3, 35, 1, 17]) [] [] rfl (.refl _), rfl⟩
     ·clear hq
      refine ex_if rfl ?_ ?_
      ·intro hc
       replace h := iteT h hc
       refine ex_skip ?_
       refine ex_seq ?_
       refine ex_block ?_
       refine ex_ord [] (l := [0, 1, 2, 3, 4, 5, 6, 7, 8, 9, 10, 11, 12, 13]) rfl ?_
       refine pm 44 ?_
       refine pm 45 ?_
       refine pm 46 ?_
       obtain ⟨v10, hv10, h⟩ := bindS h
       refine pq 47 rfl (x_idx (f := c_api_Line) (cs := [.int .i64 v10.f_Quote, .sl false (List.map c_i64 v10.f_Lists), .int .i64 v10.f_Kind, .sl false (List.map c_api_Cell v10.f_Cells)]) rfl rfl rfl el22 sz55 hv10 rfl rfl) ?_
       refine pq 48 rfl (.fieldAddr rfl rfl rfl fl55u_3 rfl) ?_
       refine pq 49 rfl (x_load rfl rfl rfl sz46 un46 ag46 rfl) ?_
       refine pm 50 ?_
       obtain ⟨v11, hv11, h⟩ := bindS h
       refine pq 51 rfl (x_idx (f := c_api_Cell) (cs := [.int .i32 v11.f_R, .int .i64 v11.f_Bits, .str (bs v11.f_Href)]) rfl rfl rfl el46 sz58 hv11 rfl rfl) ?_
       refine pq 52 rfl (.fieldAddr rfl rfl rfl fl58u_2 rfl) ?_
       refine pq 53 rfl (x_load rfl rfl rfl sz9 un9 ag9 rfl) ?_
       refine pq 54 rfl (x_lenS rfl rfl us9) ?_
       obtain ⟨v12, hv12, h⟩ := bindS h
       refine pq 55 rfl (x_quo rfl rfl rfl hv12) ?_
       refine pq 56 rfl (.bin rfl rfl rfl rfl) ?_
       refine pa 3 ?_
       refine we_nil ?_
       refine ex_ord [] (l := [0, 1, 2]) rfl ?_
       refine pm 42 ?_
       refine pq 43 rfl (.bin rfl rfl rfl rfl) ?_
       refine pa 5 ?_
       refine we_nil ?_
       exact rnd_on rfl h (.re (rl [0, 1, 2, 3, 53]) [] [] rfl (.refl _)) rfl
      ·intro hc
       replace h := iteF h hc
       refine ex_exit ?_
       exact rnd_out (o := n5) rfl (fun h => by cases h) h (.re (rl [0, 1, 2, 2, 54]) [] [] rfl (.refl _)) rfl
   ·intro hc
    replace h := iteF h hc
    refine ex_exit ?_
    exact rnd_out (o := (.inr ())) rfl (fun h => by cases h) h (.re (rl [59]) [] [] rfl (.refl _)) rfl
theorem ok_cmp_Or_int {r : Int} {p0 : List (Int)} (h : cmp_Or_int p0 = some r) : OkB prog 64 [.own 0] [] [⟨3, 1, List.map c_i64 p0⟩] (.int .i64 r) [] [] := by
 unfold cmp_Or_int at h
 refine okB_of_exG func64 rfl rfl (s0 := [.own 0, Z, Z, Z, Z, Z, Z, Z, Z, Z, Z, Z, Z, Z, Z, Z, Z, Z]) (b0 := []) (r0 := [some ⟨3, 1, List.map c_i64 p0⟩]) rfl rfl rfl ?_
 show Ex _ _ _ ⟨[.own 0, Z, Z, Z, Z, Z, Z, Z, Z, Z, Z, Z, Z, Z, Z, Z, Z, Z], [], [some ⟨3, 1, List.map c_i64 p0⟩], 0⟩ _
 refine ex_seq ?_
 refine ex_ord [] (l := [0]) rfl ?_
 refine pa 2 ?_
 refine we_nil ?_
 refine ex_seq ?_
 refine ex_ord [] (l := [0]) rfl ?_
 refine pa 3 ?_
 refine we_nil ?_
 refine ex_seq ?_
 refine ex_seq ?_
 refine ex_ord [] (l := [0, 1, 2]) rfl ?_
 refine pm 6 ?_
 refine pq 7 rfl (x_len (f := c_i64) (l := p0) rfl rfl rfl el53) ?_
 refine pm 8 ?_
 refine we_nil ?_
 refine ex_block ?_
 obtain ⟨o5, hl, h⟩ := bindS h
 refine ex_gst ⟨[Z, Z, Z, .int .i64 0, Z, Z, .own 0, .int .i64 (p0.length : Int), .int .i64 0, Z, Z, Z, Z, Z, Z, Z, Z, Z], [], [some ⟨3, 1, List.map c_i64 p0⟩], 0⟩ (.re (rl [3, 1, 2, 3, 9]) [] [0] rfl (.refl _)) rfl ?_
 refine ex_iterX (fun o => match o with | .inl _ => .ret | .inr _ => .exit 0) (fun s => ⟨[Z, Z, Z, .int .i64 0, Z, Z, .own 0, .int .i64 (p0.length : Int), .int .i64 s, Z, Z, Z, Z, Z, Z, Z, Z, Z], [], [some ⟨3, 1, List.map c_i64 p0⟩], 0⟩) (fun o => match o with | .inl o => ⟨[Z, Z, .int .i64 o, Z, Z, Z, Z, Z, Z, Z, Z, Z, Z, Z, Z, Z, Z, Z], [], [], 0⟩ | .inr o => ⟨[Z, Z, Z, .int .i64 0, Z, Z, Z, Z, Z, Z, Z, Z, Z, Z, Z, Z, Z, Z], [], [], 0⟩) hl rfl ?_ ?_
 ·clear hl
  rcases o5 with k2 | _
  ·obtain rfl := Option.some.inj h
   exact finB (by first | exact .inr rfl | exact .inl rfl) (.refl _) [.int .i64 k2] [] [] (res_cons (res_tmp rfl) res_nil) rfl rfl rfl rfl rfl rfl rfl
  ·refine ex_seq ?_
   refine ex_ord [] (l := [0, 1]) rfl ?_
   refine pm 17 ?_
   refine pa 2 ?_
   refine we_nil ?_
   refine ex_ret ?_
   obtain rfl := Option.some.inj h
   exact finB (by first | exact .inr rfl | exact .inl rfl) (.refl _) [.int .i64 0] [] [] (res_cons (res_tmp rfl) res_nil) rfl rfl rfl rfl rfl rfl rfl
 ·clear hl h
  rintro n1 y h
  replace h : cmp_Or_int_l1 p0 n1 = some y := h
  unfold cmp_Or_int_l1 at h
  show Ex _ _ _ ⟨[Z, Z, Z, .int .i64 0, Z, Z, .own 0, .int .i64 (p0.length : Int), .int .i64 n1, Z, Z, Z, Z, Z, Z, Z, Z, Z], [], [some ⟨3, 1, List.map c_i64 p0⟩], 0⟩ _
  refine ex_seq ?_
  refine ex_ord [] (l := [0]) rfl ?_
  refine pq 9 rfl (.bin rfl rfl rfl rfl) ?_
  refine we_nil ?_
  refine ex_seq ?_
  refine ex_if rfl ?_ ?_
  ·intro hc
   replace h := iteT h hc
   refine ex_skip ?_
   refine ex_seq ?_
   refine ex_block ?_
   refine ex_seq ?_
   refine ex_ord [] (l := [0, 1, 2]) rfl ?_
   obtain ⟨v3, hv3, h⟩ := bindS h
   refine pq 10 rfl (x_idxO (f := c_i64) (l := p0) rfl rfl rfl rfl rfl el53 sz3 hv3 rfl) ?_
   obtain ⟨v4, hv4, h⟩ := bindS h
   refine pq 11 rfl (x_load rfl rfl (at_ex (f := c_i64) (xs := p0) (c := [.int .i64 v4]) rfl rfl (getI_some hv4).2 rfl (Nat.le_of_ble_eq_true rfl)) sz3 un3 ag3 rfl) ?_
   refine pa 5 ?_
   refine we_nil ?_
   refine ex_seq ?_
   refine ex_ord [] (l := [0, 1, 2]) rfl ?_
   refine pm 12 ?_
   refine pm 13 ?_
   refine pq 14 rfl (.bin rfl rfl rfl rfl) ?_
   refine we_nil ?_
   refine ex_if rfl ?_ ?_
   ·intro hc
    replace h := iteT h hc
    refine ex_seq ?_
    refine ex_ord [] (l := [0, 1]) rfl ?_
    refine pm 15 ?_
    refine pa 2 ?_
    refine we_nil ?_
    refine ex_ret ?_
    exact rnd_out (o := (.inl v4)) rfl (fun h => by cases h) h (.re (rl [2, 1, 15]) [] [] rfl (.refl _)) rfl
   ·intro hc
    replace h := iteF h hc
    refine ex_skip ?_
    refine ex_ord [] (l := [0, 1]) rfl ?_
    refine pq 16 rfl (.bin rfl rfl rfl rfl) ?_
    refine pm 8 ?_
    refine we_nil ?_
    exact rnd_on rfl h (.re (rl [3, 1, 2, 3, 9]) [] [0] rfl (.refl _)) rfl
  ·intro hc
   replace h := iteF h hc
   refine ex_exit ?_
   exact rnd_out (o := (.inr ())) rfl (fun h => by cases h) h (.re (rl [3, 1, 14]) [] [] rfl (.refl _)) rfl
theorem ok_lines_Own {r : T_api_Line} {p0 : T_api_Line} (h : lines_Own p0 = some r) : OkB prog 68 [.agg [.int .i64 p0.f_Quote, .sl false (List.map c_i64 p0.f_Lists), .int .i64 p0.f_Kind, .sl false (List.map c_api_Cell p0.f_Cells)]] [] [] (.agg [.int .i64 r.f_Quote, .sl false (List.map c_i64 r.f_Lists), .int .i64 r.f_Kind, .sl false (List.map c_api_Cell r.f_Cells)]) [] [] := by
 unfold lines_Own at h
 refine okB_of_exG func68 rfl rfl (s0 := [.agg [.int .i64 p0.f_Quote, .sl false (List.map c_i64 p0.f_Lists), .int .i64 p0.f_Kind, .sl false (List.map c_api_Cell p0.f_Cells)], Z, Z, Z, Z, Z, Z, Z, Z, Z, Z, Z]) (b0 := []) (r0 := []) rfl rfl rfl ?_
 show Ex _ _ _ ⟨[.agg [.int .i64 p0.f_Quote, .sl false (List.map c_i64 p0.f_Lists), .int .i64 p0.f_Kind, .sl false (List.map c_api_Cell p0.f_Cells)], Z, Z, Z, Z, Z, Z, Z, Z, Z, Z, Z], [], [], 0⟩ _
 refine ex_seq ?_
 refine ex_ord [0, 1] (l := [0, 1]) rfl ?_
 refine e_ (d := .bx 0 0) 1 rfl rfl rfl rfl rfl (b' := [some [.int .i64 p0.f_Quote, .sl false (List.map c_i64 p0.f_Lists), .int .i64 p0.f_Kind, .sl false (List.map c_api_Cell p0.f_Cells)]]) (r' := []) (.box rfl rfl rfl) rfl ?_
 refine e_ (d := .bx 1 0) 2 rfl rfl rfl rfl rfl (b' := [some [.int .i64 p0.f_Quote, .sl false (List.map c_i64 p0.f_Lists), .int .i64 p0.f_Kind, .sl false (List.map c_api_Cell p0.f_Cells)], some [.int .i64 0, .sl false [], .int .i64 0, .sl false []]]) (r' := []) (.alloc rfl ze55) rfl ?_
 refine we_nil ?_
 refine ex_seq ?_
 refine ex_drw mo [2, 5, 7, 9, 2000, 2001, 2003, 2004, 2006, 2008, 3002, 3005, 3007, 3009, 100000, 200000, 400000, 500000, 700000, 800000, 900000, 1000000] (by kernel_rfl) (l := [0, 1, 2, 3, 4, 5, 6, 7, 8, 9]) rfl ?_
 refine r_ 3 0 rfl rfl rfl rfl rfl rfl (fun _ _ hb => .fieldAddr rfl rfl (live_bx hb) fl55u_1 rfl) ?_
 refine r_ 4 0 rfl rfl rfl rfl rfl rfl (fun _ _ hb => x_load rfl rfl (at_bx hb rfl) sz53 un53 ag53 rfl) ?_
 obtain ⟨v1, hv1, h⟩ := bindS h
 refine e_ (d := .own 0) 5 rfl rfl rfl rfl rfl (b' := [some [.int .i64 p0.f_Quote, .sl false (List.map c_i64 p0.f_Lists), .int .i64 p0.f_Kind, .sl false (List.map c_api_Cell p0.f_Cells)], some [.int .i64 0, .sl false [], .int .i64 0, .sl false []]]) (r' := [some ⟨3, 1, List.map c_i64 v1⟩]) (x_call [] [] rfl rfl en105 (ok_slices_Clone_int hv1) rfl rfl rfl rfl rfl rfl rfl rfl rfl rfl rfl rfl rfl rfl) rfl ?_
 refine r_ 6 0 rfl rfl rfl rfl rfl rfl (fun _ _ hb => .fieldAddr rfl rfl (live_bx hb) fl55u_3 rfl) ?_
 refine r_ 7 0 rfl rfl rfl rfl rfl rfl (fun _ _ hb => x_load rfl rfl (at_bx hb rfl) sz46 un46 ag46 rfl) ?_
 obtain ⟨v2, hv2, h⟩ := bindS h
 refine e_ (d := .own 1) 8 rfl rfl rfl rfl rfl (b' := [some [.int .i64 p0.f_Quote, .sl false (List.map c_i64 p0.f_Lists), .int .i64 p0.f_Kind, .sl false (List.map c_api_Cell p0.f_Cells)], some [.int .i64 0, .sl false [], .int .i64 0, .sl false []]]) (r' := [some ⟨3, 1, List.map c_i64 v1⟩, some ⟨58, 3, List.map c_api_Cell v2⟩]) (x_call [] [] rfl rfl en106 (ok_slices_Clone_apiCell hv2) rfl rfl rfl rfl rfl rfl rfl rfl rfl rfl rfl rfl rfl rfl) rfl ?_
 refine r_ 9 0 rfl rfl rfl rfl rfl rfl (fun _ _ hb => .fieldAddr rfl rfl (live_bx hb) fl55u_1 rfl) ?_
 refine e0 rfl rfl rfl rfl rfl (b' := [some [.int .i64 p0.f_Quote, .own 0, .int .i64 p0.f_Kind, .sl false (List.map c_api_Cell p0.f_Cells)], some [.int .i64 0, .sl false [], .int .i64 0, .sl false []]]) (r' := [some ⟨3, 1, List.map c_i64 v1⟩, some ⟨58, 3, List.map c_api_Cell v2⟩]) (hb := set_out 0 (some [.int .i64 p0.f_Quote, .own 0, .int .i64 p0.f_Kind, .sl false (List.map c_api_Cell p0.f_Cells)]) rfl rfl) (.store rfl rfl rfl sz53 rfl rfl rfl) rfl ?_
 refine r_ 10 0 rfl rfl rfl rfl rfl rfl (fun _ _ hb => .fieldAddr rfl rfl (live_bx hb) fl55u_3 rfl) ?_
 refine e0 rfl rfl rfl rfl rfl (b' := [some [.int .i64 p0.f_Quote, .own 0, .int .i64 p0.f_Kind, .own 1], some [.int .i64 0, .sl false [], .int .i64 0, .sl false []]]) (r' := [some ⟨3, 1, List.map c_i64 v1⟩, some ⟨58, 3, List.map c_api_Cell v2⟩]) (hb := set_out 0 (some [.int .i64 p0.f_Quote, .own 0, .int .i64 p0.f_Kind, .own 1]) rfl rfl) (.store rfl rfl rfl sz46 rfl rfl rfl) rfl ?_
 refine we_nil ?_
 refine ex_seq ?_
 refine ex_gst ⟨[.agg [.int .i64 p0.f_Quote, .sl false (List.map c_i64 p0.f_Lists), .int .i64 p0.f_Kind, .sl false (List.map c_api_Cell p0.f_Cells)], .bx 0 0, .bx 1 0, .bx 0 1, .sl false (List.map c_i64 p0.f_Lists), .sl false (List.map c_i64 v1), .bx 0 3, .sl false (List.map c_api_Cell p0.f_Cells), .own 1, .bx 0 1, .bx 0 3, Z], [some [.int .i64 p0.f_Quote, .sl false (List.map c_i64 v1), .int .i64 p0.f_Kind, .own 1], some [.int .i64 0, .sl false [], .int .i64 0, .sl false []]], [none, some ⟨58, 3, List.map c_api_Cell v2⟩], 0⟩ (.shutR false (t := 0) rfl (.refl _)) rfl ?_
 refine ex_gst ⟨[.agg [.int .i64 p0.f_Quote, .sl false (List.map c_i64 p0.f_Lists), .int .i64 p0.f_Kind, .sl false (List.map c_api_Cell p0.f_Cells)], .bx 0 0, .bx 1 0, .bx 0 1, .sl false (List.map c_i64 p0.f_Lists), .sl false (List.map c_i64 v1), .bx 0 3, .sl false (List.map c_api_Cell p0.f_Cells), .sl false (List.map c_api_Cell v2), .bx 0 1, .bx 0 3, Z], [some [.int .i64 p0.f_Quote, .sl false (List.map c_i64 v1), .int .i64 p0.f_Kind, .sl false (List.map c_api_Cell v2)], some [.int .i64 0, .sl false [], .int .i64 0, .sl false []]], [none, none], 0⟩ (.shutR false (t := 1) rfl (.refl _)) rfl ?_
 refine ex_ord [1] (l := [0, 1]) rfl ?_
 refine pq 11 rfl (x_loadA rfl rfl rfl sz55 un55 ag55 rfl) ?_
 refine e0 rfl rfl rfl rfl rfl (b' := [some [.int .i64 p0.f_Quote, .sl false (List.map c_i64 v1), .int .i64 p0.f_Kind, .sl false (List.map c_api_Cell v2)], some [.int .i64 p0.f_Quote, .sl false (List.map c_i64 v1), .int .i64 p0.f_Kind, .sl false (List.map c_api_Cell v2)]]) (r' := [none, none]) (.store rfl rfl rfl sz55 rfl rfl rfl) rfl ?_
 refine we_nil ?_
 refine ex_ret ?_
 obtain rfl := Option.some.inj h
 exact finB (by first | exact .inr rfl | exact .inl rfl) (.refl _) [.agg [.int .i64 p0.f_Quote, .sl false (List.map c_i64 v1), .int .i64 p0.f_Kind, .sl false (List.map c_api_Cell v2)]] [] [] (res_cons (res_cell rfl rfl sz55 un55 ag55 rfl) res_nil) rfl rfl rfl rfl rfl rfl rfl
theorem ok_quillworkref07u_From {r : Int × Int} {p0 : List (T_api_Line)} {p1 : T_api_Pos} {p2 : T_api_Pos} {p3 : Int} (h : quillworkref07u_From p0 p1 p2 p3 = some r) : OkB prog 74 [.sl false (List.map c_api_Line p0), .agg [.int .i64 p1.f_Line, .int .i64 p1.f_At], .agg [.int .i64 p2.f_Line, .int .i64 p2.f_At], .int .i64 p3] [] [] (.tup [.int .i64 r.1, .int .i64 r.2]) [] [] := by
 unfold quillworkref07u_From at h
 refine okB_of_exG func74 rfl rfl (s0 := [.sl false (List.map c_api_Line p0), .agg [.int .i64 p1.f_Line, .int .i64 p1.f_At], .agg [.int .i64 p2.f_Line, .int .i64 p2.f_At], .int .i64 p3, Z, Z, Z, Z, Z, Z, Z, Z, Z, Z, Z, Z, Z, Z, Z, Z, Z, Z, Z, Z, Z, Z, Z, Z, Z, Z, Z, Z]) (b0 := []) (r0 := []) rfl rfl rfl ?_
 show Ex _ _ _ ⟨[.sl false (List.map c_api_Line p0), .agg [.int .i64 p1.f_Line, .int .i64 p1.f_At], .agg [.int .i64 p2.f_Line, .int .i64 p2.f_At], .int .i64 p3, Z, Z, Z, Z, Z, Z, Z, Z, Z, Z, Z, Z, Z, Z, Z, Z, Z, Z, Z, Z, Z, Z, Z, Z, Z, Z, Z, Z], [], [], 0⟩ _
 refine ex_seq ?_
 refine ex_ord [0, 1] (l := [0, 1, 2, 3]) rfl ?_
 refine e_ (d := .bx 0 0) 5 rfl rfl rfl rfl rfl (b' := [some [.int .i64 p1.f_Line, .int .i64 p1.f_At]]) (r' := []) (.box rfl rfl rfl) rfl ?_
 refine e_ (d := .bx 1 0) 6 rfl rfl rfl rfl rfl (b' := [some [.int .i64 p1.f_Line, .int .i64 p1.f_At], some [.int .i64 p2.f_Line, .int .i64 p2.f_At]]) (r' := []) (.box rfl rfl rfl) rfl ?_
 refine pa 8 ?_
 refine pa 9 ?_
 refine we_nil ?_
 refine ex_seq ?_
 refine ex_gst ⟨[.sl false (List.map c_api_Line p0), .agg [.int .i64 p1.f_Line, .int .i64 p1.f_At], .agg [.int .i64 p2.f_Line, .int .i64 p2.f_At], .int .i64 p3, Z, .cp [.int .i64 p1.f_Line, .int .i64 p1.f_At], .bx 1 0, Z, .int .i64 0, .int .i64 0, Z, Z, Z, Z, Z, Z, Z, Z, Z, Z, Z, Z, Z, Z, Z, Z, Z, Z, Z, Z, Z, Z], [none, some [.int .i64 p2.f_Line, .int .i64 p2.f_At]], [], 0⟩ (.shutB (b := 0) rfl (fun d h => by simpa using List.all_eq_true.1 (rfl : List.all [.int .i64 p1.f_Line, .int .i64 p1.f_At] (fun d => !d.tok) = true) d h) (.refl _)) rfl ?_
 refine ex_gst ⟨[.sl false (List.map c_api_Line p0), .agg [.int .i64 p1.f_Line, .int .i64 p1.f_At], .agg [.int .i64 p2.f_Line, .int .i64 p2.f_At], .int .i64 p3, Z, .cp [.int .i64 p1.f_Line, .int .i64 p1.f_At], .cp [.int .i64 p2.f_Line, .int .i64 p2.f_At], Z, .int .i64 0, .int .i64 0, Z, Z, Z, Z, Z, Z, Z, Z, Z, Z, Z, Z, Z, Z, Z, Z, Z, Z, Z, Z, Z, Z], [none, none], [], 0⟩ (.shutB (b := 1) rfl (fun d h => by simpa using List.all_eq_true.1 (rfl : List.all [.int .i64 p2.f_Line, .int .i64 p2.f_At] (fun d => !d.tok) = true) d h) (.refl _)) rfl ?_
 refine ex_drw mo [1002, 1003, 1004, 1005] (by kernel_rfl) (l := [0, 1, 2, 3, 4, 5, 6, 7]) rfl ?_
 refine pm 12 ?_
 refine pm 13 ?_
 obtain ⟨v1, hv1, h⟩ := bindS h
 refine n_ 14 rfl rfl rfl (fun _ _ => x_idx (f := c_api_Line) (cs := [.int .i64 v1.f_Quote, .sl false (List.map c_i64 v1.f_Lists), .int .i64 v1.f_Kind, .sl false (List.map c_api_Cell v1.f_Cells)]) rfl rfl rfl el22 sz55 hv1 rfl rfl) ?_
 refine n_ 15 rfl rfl rfl (fun _ _ => .fieldAddr rfl rfl rfl fl55u_3 rfl) ?_
 refine n_ 16 rfl rfl rfl (fun _ _ => x_load rfl rfl rfl sz46 un46 ag46 rfl) ?_
 refine n_ 17 rfl rfl rfl (fun _ _ => x_len (f := c_api_Cell) (l := v1.f_Cells) rfl rfl rfl el46) ?_
 refine pa 10 ?_
 refine pa 11 ?_
 refine we_nil ?_
 refine ex_seq ?_
 refine ex_seq ?_
 refine ex_ord [] (l := [0, 1, 2, 3]) rfl ?_
 refine pm 18 ?_
 refine pq 19 rfl (.fieldAddr rfl rfl rfl fl24u_0 rfl) ?_
 refine pq 20 rfl (x_load rfl rfl rfl sz3 un3 ag3 rfl) ?_
 refine pq 21 rfl (.bin rfl rfl rfl rfl) ?_
 refine we_nil ?_
 obtain ⟨q2, hq, h⟩ := bindS h
 refine ex_cut ⟨[Z, Z, Z, .int .i64 p3, Z, Z, .cp [.int .i64 p2.f_Line, .int .i64 p2.f_At], Z, Z, Z, .int .i64 q2, .int .i64 (v1.f_Cells.length : Int), Z, Z, Z, Z, Z, Z, Z, Z, Z, Z, Z, Z, Z, Z, Z, Z, Z, Z, Z, Z], [], [], 0⟩ ?_ ?_
 ·clear h
  have h := hq
  clear hq
  refine ex_if rfl ?_ ?_
  ·intro hc
   replace h := iteT h hc
   refine ex_ord [] (l := [0, 1, 2]) rfl ?_
   refine pq 22 rfl (.fieldAddr rfl rfl rfl fl24u_1 rfl) ?_
   refine pq 23 rfl (x_load rfl rfl rfl sz3 un3 ag3 rfl) ?_
   refine pa 10 ?_
   refine we_nil ?_
   cases h
   exact ⟨rfl, _, .re (rl [3, 1, 2, 1, 3, 2, 20]) [] [] rfl (.refl _), rfl⟩
  ·intro hc
   replace h := iteF h hc
   refine ex_skip ?_
   cases h
   exact ⟨rfl, _, .re (rl [3, 1, 2, 1, 3, 2, 20]) [] [] rfl (.refl _), rfl⟩
 ·clear hq
  refine ex_seq ?_
  refine ex_seq ?_
  refine ex_ord [] (l := [0, 1, 2, 3]) rfl ?_
  refine pm 24 ?_
  refine pq 25 rfl (.fieldAddr rfl rfl rfl fl24u_0 rfl) ?_
  refine pq 26 rfl (x_load rfl rfl rfl sz3 un3 ag3 rfl) ?_
  refine pq 27 rfl (.bin rfl rfl rfl rfl) ?_
  refine we_nil ?_
  obtain ⟨q3, hq, h⟩ := bindS h
  refine ex_cut ⟨[Z, Z, Z, Z, Z, Z, Z, Z, Z, Z, .int .i64 q2, .int .i64 q3, Z, Z, Z, Z, Z, Z, Z, Z, Z, Z, Z, Z, Z, Z, Z, Z, Z, Z, Z, Z], [], [], 0⟩ ?_ ?_
  ·clear h
   have h := hq
   clear hq
   refine ex_if rfl ?_ ?_
   ·intro hc
    replace h := iteT h hc
    refine ex_ord [] (l := [0, 1, 2]) rfl ?_
    refine pq 28 rfl (.fieldAddr rfl rfl rfl fl24u_1 rfl) ?_
    refine pq 29 rfl (x_load rfl rfl rfl sz3 un3 ag3 rfl) ?_
    refine pa 11 ?_
    refine we_nil ?_
    cases h
    exact ⟨rfl, _, .re (rl [10, 2, 20]) [] [] rfl (.refl _), rfl⟩
   ·intro hc
    replace h := iteF h hc
    refine ex_skip ?_
    cases h
    exact ⟨rfl, _, .re (rl [10, 2, 20]) [] [] rfl (.refl _), rfl⟩
  ·clear hq
   refine ex_seq ?_
   refine ex_ord [] (l := [0, 1, 2, 3]) rfl ?_
   refine pm 30 ?_
   refine pm 31 ?_
   refine pa 8 ?_
   refine pa 9 ?_
   refine we_nil ?_
   refine ex_ret ?_
   obtain rfl := Option.some.inj h
   exact finB (by first | exact .inr rfl | exact .inl rfl) (.refl _) [.int .i64 q2, .int .i64 q3] [] [] (res_cons (res_tmp rfl) (res_cons (res_tmp rfl) res_nil)) rfl rfl rfl rfl rfl rfl rfl
theorem ok_doc_Count_1 {r : Bool} {p0 : T_api_Cell} (h : doc_Count_1 p0 = some r) : OkB prog 85 [.agg [.int .i32 p0.f_R, .int .i64 p0.f_Bits, .str (bs p0.f_Href)]] [] [] (.bool r) [] [] := by
 unfold doc_Count_1 at h
 refine okB_of_exG func85 rfl rfl (s0 := [.agg [.int .i32 p0.f_R, .int .i64 p0.f_Bits, .str (bs p0.f_Href)], Z, Z]) (b0 := []) (r0 := []) rfl rfl rfl ?_
 show Ex _ _ _ ⟨[.agg [.int .i32 p0.f_R, .int .i64 p0.f_Bits, .str (bs p0.f_Href)], Z, Z], [], [], 0⟩ _
 refine ex_seq ?_
 refine ex_ord [0] (l := [0, 1]) rfl ?_
 refine e_ (d := .bx 0 0) 1 rfl rfl rfl rfl rfl (b' := [some [.int .i32 p0.f_R, .int .i64 p0.f_Bits, .str (bs p0.f_Href)]]) (r' := []) (.box rfl rfl rfl) rfl ?_
 refine pa 2 ?_
 refine we_nil ?_
 refine ex_seq ?_
 refine ex_gst ⟨[.agg [.int .i32 p0.f_R, .int .i64 p0.f_Bits, .str (bs p0.f_Href)], .cp [.int .i32 p0.f_R, .int .i64 p0.f_Bits, .str (bs p0.f_Href)], .bool false], [none], [], 0⟩ (.shutB (b := 0) rfl (fun d h => by simpa using List.all_eq_true.1 (rfl : List.all [.int .i32 p0.f_R, .int .i64 p0.f_Bits, .str (bs p0.f_Href)] (fun d => !d.tok) = true) d h) (.refl _)) rfl ?_
 refine ex_ord [] (l := [0]) rfl ?_
 refine pa 2 ?_
 refine we_nil ?_
 refine ex_ret ?_
 obtain rfl := Option.some.inj h
 exact finB (by first | exact .inr rfl | exact .inl rfl) (.refl _) [.bool false] [] [] (res_cons (res_tmp rfl) res_nil) rfl rfl rfl rfl rfl rfl rfl
theorem ok_slices_EqualFunc_apiLine_apiLine {r : Bool} {p0 : List (T_api_Line)} {p1 : List (T_api_Line)} {p2 : T_api_Line → T_api_Line → Option (Bool)} {g2 : FuncId} {cs2 : List DV} (hc2 : Cl prog g2 cs2) (hf2 : ∀ x0 x1 r, p2 x0 x1 = some r → OkB prog g2 ([.agg [.int .i64 x0.f_Quote, .sl false (List.map c_i64 x0.f_Lists), .int .i64 x0.f_Kind, .sl false (List.map c_api_Cell x0.f_Cells)], .agg [.int .i64 x1.f_Quote, .sl false (List.map c_i64 x1.f_Lists), .int .i64 x1.f_Kind, .sl false (List.map c_api_Cell x1.f_Cells)]] ++ cs2) [] [] (.bool r) [] []) (h : slices_EqualFunc_apiLine_apiLine p0 p1 p2 = some r) : OkB prog 88 [.sl false (List.map c_api_Line p0), .sl false (List.map c_api_Line p1), .fn g2 cs2] [] [] (.bool r) [] [] := by
 unfold slices_EqualFunc_apiLine_apiLine at h
 refine okB_of_exG func88 rfl rfl (s0 := [.sl false (List.map c_api_Line p0), .sl false (List.map c_api_Line p1), .fn g2 cs2, Z, Z, Z, Z, Z, Z, Z, Z, Z, Z, Z, Z, Z, Z, Z, Z, Z, Z, Z, Z, Z, Z, Z, Z, Z, Z, Z, Z, Z]) (b0 := []) (r0 := []) rfl rfl rfl ?_
 show Ex _ _ _ ⟨[.sl false (List.map c_api_Line p0), .sl false (List.map c_api_Line p1), .fn g2 cs2, Z, Z, Z, Z, Z, Z, Z, Z, Z, Z, Z, Z, Z, Z, Z, Z, Z, Z, Z, Z, Z, Z, Z, Z, Z, Z, Z, Z, Z], [], [], 0⟩ _
 refine ex_seq ?_
 refine ex_ord [] (l := [0]) rfl ?_
 refine pa 6 ?_
 refine we_nil ?_
 refine ex_seq ?_
 refine ex_seq ?_
 refine ex_ord [] (l := [0, 1, 2, 3, 4]) rfl ?_
 refine pm 10 ?_
 refine pq 11 rfl (x_len (f := c_api_Line) (l := p0) rfl rfl rfl el22) ?_
 refine pm 12 ?_
 refine pq 13 rfl (x_len (f := c_api_Line) (l := p1) rfl rfl rfl el22) ?_
 refine pq 14 rfl (.bin rfl rfl rfl rfl) ?_
 refine we_nil ?_
 refine ex_if rfl ?_ ?_
 ·intro hc
  replace h := iteT h hc
  refine ex_seq ?_
  refine ex_ord [] (l := [0]) rfl ?_
  refine pa 6 ?_
  refine we_nil ?_
  refine ex_ret ?_
  obtain rfl := Option.some.inj h
  exact finB (by first | exact .inr rfl | exact .inl rfl) (.refl _) [.bool false] [] [] (res_cons (res_tmp rfl) res_nil) rfl rfl rfl rfl rfl rfl rfl
 ·intro hc
  replace h := iteF h hc
  refine ex_skip ?_
  refine ex_seq ?_
  refine ex_seq ?_
  refine ex_ord [] (l := [0, 1, 2]) rfl ?_
  refine pm 15 ?_
  refine pq 16 rfl (x_len (f := c_api_Line) (l := p0) rfl rfl rfl el22) ?_
  refine pm 17 ?_
  refine we_nil ?_
  refine ex_block ?_
  obtain ⟨o5, hl, h⟩ := bindS h
  refine ex_gst ⟨[Z, .sl false (List.map c_api_Line p1), .fn g2 cs2, Z, Z, Z, Z, Z, Z, Z, Z, Z, Z, Z, Z, .sl false (List.map c_api_Line p0), .int .i64 (p0.length : Int), .int .i64 0, Z, Z, Z, Z, Z, Z, Z, Z, Z, Z, Z, Z, Z, Z], [], [], 0⟩ (.re (rl [1, 2, 12, 3, 14]) [] [] rfl (.refl _)) rfl ?_
  refine ex_iterX (fun o => match o with | .inl _ => .ret | .inr _ => .exit 0) (fun s => ⟨[Z, .sl false (List.map c_api_Line p1), .fn g2 cs2, Z, Z, Z, Z, Z, Z, Z, Z, Z, Z, Z, Z, .sl false (List.map c_api_Line p0), .int .i64 (p0.length : Int), .int .i64 s, Z, Z, Z, Z, Z, Z, Z, Z, Z, Z, Z, Z, Z, Z], [], [], 0⟩) (fun o => match o with | .inl o => ⟨[Z, Z, Z, Z, Z, Z, .bool false, Z, Z, Z, Z, Z, Z, Z, Z, Z, Z, Z, Z, Z, Z, Z, Z, Z, Z, Z, Z, Z, Z, Z, Z, Z], [], [], 0⟩ | .inr o => ⟨[Z, Z, Z, Z, Z, Z, Z, Z, Z, Z, Z, Z, Z, Z, Z, Z, Z, Z, Z, Z, Z, Z, Z, Z, Z, Z, Z, Z, Z, Z, Z, Z], [], [], 0⟩) hl rfl ?_ ?_
  ·clear hl
   rcases o5 with _ | _
   ·obtain rfl := Option.some.inj h
    exact finB (by first | exact .inr rfl | exact .inl rfl) (.refl _) [.bool false] [] [] (res_cons (res_tmp rfl) res_nil) rfl rfl rfl rfl rfl rfl rfl
   ·refine ex_seq ?_
    refine ex_ord [] (l := [0]) rfl ?_
    refine pa 6 ?_
    refine we_nil ?_
    refine ex_ret ?_
    obtain rfl := Option.some.inj h
    exact finB (by first | exact .inr rfl | exact .inl rfl) (.refl _) [.bool true] [] [] (res_cons (res_tmp rfl) res_nil) rfl rfl rfl rfl rfl rfl rfl
  ·clear hl h
   rintro n1 y h
   replace h : slices_EqualFunc_apiLine_apiLine_l1 p0 p1 p2 n1 = some y := h
   unfold slices_EqualFunc_apiLine_apiLine_l1 at h
   show Ex _ _ _ ⟨[Z, .sl false (List.map c_api_Line p1), .fn g2 cs2, Z, Z, Z, Z, Z, Z, Z, Z, Z, Z, Z, Z, .sl false (List.map c_api_Line p0), .int .i64 (p0.length : Int), .int .i64 n1, Z, Z, Z, Z, Z, Z, Z, Z, Z, Z, Z, Z, Z, Z], [], [], 0⟩ _
   refine ex_seq ?_
   refine ex_ord [] (l := [0]) rfl ?_
   refine pq 18 rfl (.bin rfl rfl rfl rfl) ?_
   refine we_nil ?_
   refine ex_seq ?_
   refine ex_if rfl ?_ ?_
   ·intro hc
    replace h := iteT h hc
    refine ex_skip ?_
    refine ex_seq ?_
    refine ex_block ?_
    refine ex_seq ?_
    refine ex_ord [3, 5] (l := [0, 1, 2, 3, 4, 5]) rfl ?_
    refine pm 19 ?_
    obtain ⟨v2, hv2, h⟩ := bindS h
    refine pq 20 rfl (x_idx (f := c_api_Line) (cs := [.int .i64 v2.f_Quote, .sl false (List.map c_i64 v2.f_Lists), .int .i64 v2.f_Kind, .sl false (List.map c_api_Cell v2.f_Cells)]) rfl rfl rfl el22 sz55 hv2 rfl rfl) ?_
    refine pq 21 rfl (x_loadA rfl rfl rfl sz55 un55 ag55 rfl) ?_
    refine e_ (d := .bx 0 0) 8 rfl rfl rfl rfl rfl (b' := [some [.int .i64 0, .sl false [], .int .i64 0, .sl false []]]) (r' := []) (.alloc rfl ze55) rfl ?_
    refine pa 7 ?_
    refine e0 rfl rfl rfl rfl rfl (b' := [some [.int .i64 v2.f_Quote, .sl false (List.map c_i64 v2.f_Lists), .int .i64 v2.f_Kind, .sl false (List.map c_api_Cell v2.f_Cells)]]) (r' := []) (.store rfl rfl rfl sz55 rfl rfl rfl) rfl ?_
    refine we_nil ?_
    refine ex_seq ?_
    refine ex_gst ⟨[Z, .sl false (List.map c_api_Line p1), .fn g2 cs2, Z, Z, Z, Z, .int .i64 n1, .cp [.int .i64 v2.f_Quote, .sl false (List.map c_i64 v2.f_Lists), .int .i64 v2.f_Kind, .sl false (List.map c_api_Cell v2.f_Cells)], Z, Z, Z, Z, Z, Z, .sl false (List.map c_api_Line p0), .int .i64 (p0.length : Int), .int .i64 n1, .bool (decide ((n1 : Int) < (p0.length : Int))), .int .i64 n1, .cp [.int .i64 v2.f_Quote, .sl false (List.map c_i64 v2.f_Lists), .int .i64 v2.f_Kind, .sl false (List.map c_api_Cell v2.f_Cells)], .agg [.int .i64 v2.f_Quote, .sl false (List.map c_i64 v2.f_Lists), .int .i64 v2.f_Kind, .sl false (List.map c_api_Cell v2.f_Cells)], Z, Z, Z, Z, Z, Z, Z, Z, Z, Z], [none], [], 0⟩ (.shutB (b := 0) rfl (fun d h => by simpa using List.all_eq_true.1 (rfl : List.all [.int .i64 v2.f_Quote, .sl false (List.map c_i64 v2.f_Lists), .int .i64 v2.f_Kind, .sl false (List.map c_api_Cell v2.f_Cells)] (fun d => !d.tok) = true) d h) (.refl _)) rfl ?_
    refine ex_ord [4, 5] (l := [0, 1, 2, 3, 4, 5]) rfl ?_
    refine pm 22 ?_
    refine pm 23 ?_
    obtain ⟨v3, hv3, h⟩ := bindS h
    refine pq 24 rfl (x_idx (f := c_api_Line) (cs := [.int .i64 v3.f_Quote, .sl false (List.map c_i64 v3.f_Lists), .int .i64 v3.f_Kind, .sl false (List.map c_api_Cell v3.f_Cells)]) rfl rfl rfl el22 sz55 hv3 rfl rfl) ?_
    refine pq 25 rfl (x_loadA rfl rfl rfl sz55 un55 ag55 rfl) ?_
    refine e_ (d := .bx 1 0) 9 rfl rfl rfl rfl rfl (b' := [none, some [.int .i64 0, .sl false [], .int .i64 0, .sl false []]]) (r' := []) (.alloc rfl ze55) rfl ?_
    refine e0 rfl rfl rfl rfl rfl (b' := [none, some [.int .i64 v3.f_Quote, .sl false (List.map c_i64 v3.f_Lists), .int .i64 v3.f_Kind, .sl false (List.map c_api_Cell v3.f_Cells)]]) (r' := []) (.store rfl rfl rfl sz55 rfl rfl rfl) rfl ?_
    refine we_nil ?_
    refine ex_seq ?_
    refine ex_gst ⟨[Z, .sl false (List.map c_api_Line p1), .fn g2 cs2, Z, Z, Z, Z, .int .i64 n1, .cp [.int .i64 v2.f_Quote, .sl false (List.map c_i64 v2.f_Lists), .int .i64 v2.f_Kind, .sl false (List.map c_api_Cell v2.f_Cells)], .cp [.int .i64 v3.f_Quote, .sl false (List.map c_i64 v3.f_Lists), .int .i64 v3.f_Kind, .sl false (List.map c_api_Cell v3.f_Cells)], Z, Z, Z, Z, Z, .sl false (List.map c_api_Line p0), .int .i64 (p0.length : Int), .int .i64 n1, .bool (decide ((n1 : Int) < (p0.length : Int))), .int .i64 n1, .cp [.int .i64 v2.f_Quote, .sl false (List.map c_i64 v2.f_Lists), .int .i64 v2.f_Kind, .sl false (List.map c_api_Cell v2.f_Cells)], .agg [.int .i64 v2.f_Quote, .sl false (List.map c_i64 v2.f_Lists), .int .i64 v2.f_Kind, .sl false (List.map c_api_Cell v2.f_Cells)], .sl false (List.map c_api_Line p1), .int .i64 n1, .cp [.int .i64 v3.f_Quote, .sl false (List.map c_i64 v3.f_Lists), .int .i64 v3.f_Kind, .sl false (List.map c_api_Cell v3.f_Cells)], .agg [.int .i64 v3.f_Quote, .sl false (List.map c_i64 v3.f_Lists), .int .i64 v3.f_Kind, .sl false (List.map c_api_Cell v3.f_Cells)], Z, Z, Z, Z, Z, Z], [none, none], [], 0⟩ (.shutB (b := 1) rfl (fun d h => by simpa using List.all_eq_true.1 (rfl : List.all [.int .i64 v3.f_Quote, .sl false (List.map c_i64 v3.f_Lists), .int .i64 v3.f_Kind, .sl false (List.map c_api_Cell v3.f_Cells)] (fun d => !d.tok) = true) d h) (.refl _)) rfl ?_
    refine ex_ord [] (l := [0, 1, 2, 3, 4]) rfl ?_
    refine pm 26 ?_
    refine pq 27 rfl (x_loadA rfl rfl rfl sz55 un55 ag55 rfl) ?_
    refine pq 28 rfl (x_loadA rfl rfl rfl sz55 un55 ag55 rfl) ?_
    obtain ⟨v4, hv4, h⟩ := bindS h
    refine pq 29 rfl (x_callP rfl rfl hc2.en (hf2 _ _ _ hv4) rfl rfl (all_app rfl hc2.ok) hc2.nt rfl) ?_
    refine pq 30 rfl (.un rfl rfl rfl) ?_
    refine we_nil ?_
    refine ex_if rfl ?_ ?_
    ·intro hc
     replace h := iteT h hc
     refine ex_seq ?_
     refine ex_ord [] (l := [0]) rfl ?_
     refine pa 6 ?_
     refine we_nil ?_
     refine ex_ret ?_
     exact rnd_out (o := (.inl ())) rfl (fun h => by cases h) h (.re (rl [6, 1, 25]) [] [] rfl (.refl _)) rfl
    ·intro hc
     replace h := iteF h hc
     refine ex_skip ?_
     refine ex_ord [] (l := [0, 1]) rfl ?_
     refine pq 31 rfl (.bin rfl rfl rfl rfl) ?_
     refine pm 17 ?_
     refine we_nil ?_
     exact rnd_on rfl h (.re (rl [1, 2, 12, 3, 14]) [] [] rfl (.refl _)) rfl
   ·intro hc
    replace h := iteF h hc
    refine ex_exit ?_
    exact rnd_out (o := (.inr ())) rfl (fun h => by cases h) h (.re (rl [32]) [] [] rfl (.refl _)) rfl
theorem ok_doc_between {r : T_api_Pos × T_api_Pos × (List (T_api_Line))} {p0 : List (T_api_Line)} {p1 : T_api_Pos} {p2 : T_api_Pos} (h : doc_between p0 p1 p2 = some r) : OkB prog 93 [.sl false (List.map c_api_Line p0), .agg [.int .i64 p1.f_Line, .int .i64 p1.f_At], .agg [.int .i64 p2.f_Line, .int .i64 p2.f_At]] [] [] (.fn 125 [.cp [.int .i64 r.1.f_Line, .int .i64 r.1.f_At], .cp [.int .i64 r.2.1.f_Line, .int .i64 r.2.1.f_At], .cp [.sl false (List.map c_api_Line r.2.2)]]) [] [] := by
 unfold doc_between at h
 refine okB_of_exG func93 rfl rfl (s0 := [.sl false (List.map c_api_Line p0), .agg [.int .i64 p1.f_Line, .int .i64 p1.f_At], .agg [.int .i64 p2.f_Line, .int .i64 p2.f_At], Z, Z, Z, Z, Z]) (b0 := []) (r0 := []) rfl rfl rfl ?_
 show Ex _ _ _ ⟨[.sl false (List.map c_api_Line p0), .agg [.int .i64 p1.f_Line, .int .i64 p1.f_At], .agg [.int .i64 p2.f_Line, .int .i64 p2.f_At], Z, Z, Z, Z, Z], [], [], 0⟩ _
 refine ex_seq ?_
 refine ex_ord [0, 1, 2] (l := [0, 1, 2, 3]) rfl ?_
 refine e_ (d := .bx 0 0) 3 rfl rfl rfl rfl rfl (b' := [some [.sl false (List.map c_api_Line p0)]]) (r' := []) (.box rfl rfl rfl) rfl ?_
 refine e_ (d := .bx 1 0) 4 rfl rfl rfl rfl rfl (b' := [some [.sl false (List.map c_api_Line p0)], some [.int .i64 p1.f_Line, .int .i64 p1.f_At]]) (r' := []) (.box rfl rfl rfl) rfl ?_
 refine e_ (d := .bx 2 0) 5 rfl rfl rfl rfl rfl (b' := [some [.sl false (List.map c_api_Line p0)], some [.int .i64 p1.f_Line, .int .i64 p1.f_At], some [.int .i64 p2.f_Line, .int .i64 p2.f_At]]) (r' := []) (.box rfl rfl rfl) rfl ?_
 refine pa 6 ?_
 refine we_nil ?_
 refine ex_seq ?_
 refine ex_gst ⟨[.sl false (List.map c_api_Line p0), .agg [.int .i64 p1.f_Line, .int .i64 p1.f_At], .agg [.int .i64 p2.f_Line, .int .i64 p2.f_At], .cp [.sl false (List.map c_api_Line p0)], .bx 1 0, .bx 2 0, Z, Z], [none, some [.int .i64 p1.f_Line, .int .i64 p1.f_At], some [.int .i64 p2.f_Line, .int .i64 p2.f_At]], [], 0⟩ (.shutB (b := 0) rfl (fun d h => by simpa using List.all_eq_true.1 (rfl : List.all [.sl false (List.map c_api_Line p0)] (fun d => !d.tok) = true) d h) (.refl _)) rfl ?_
 refine ex_gst ⟨[.sl false (List.map c_api_Line p0), .agg [.int .i64 p1.f_Line, .int .i64 p1.f_At], .agg [.int .i64 p2.f_Line, .int .i64 p2.f_At], .cp [.sl false (List.map c_api_Line p0)], .cp [.int .i64 p1.f_Line, .int .i64 p1.f_At], .bx 2 0, Z, Z], [none, none, some [.int .i64 p2.f_Line, .int .i64 p2.f_At]], [], 0⟩ (.shutB (b := 1) rfl (fun d h => by simpa using List.all_eq_true.1 (rfl : List.all [.int .i64 p1.f_Line, .int .i64 p1.f_At] (fun d => !d.tok) = true) d h) (.refl _)) rfl ?_
 refine ex_gst ⟨[.sl false (List.map c_api_Line p0), .agg [.int .i64 p1.f_Line, .int .i64 p1.f_At], .agg [.int .i64 p2.f_Line, .int .i64 p2.f_At], .cp [.sl false (List.map c_api_Line p0)], .cp [.int .i64 p1.f_Line, .int .i64 p1.f_At], .cp [.int .i64 p2.f_Line, .int .i64 p2.f_At], Z, Z], [none, none, none], [], 0⟩ (.shutB (b := 2) rfl (fun d h => by simpa using List.all_eq_true.1 (rfl : List.all [.int .i64 p2.f_Line, .int .i64 p2.f_At] (fun d => !d.tok) = true) d h) (.refl _)) rfl ?_
 refine ex_ord [] (l := [0, 1]) rfl ?_
 refine pq 7 rfl (.func rfl rfl rfl) ?_
 refine pa 6 ?_
 refine we_nil ?_
 refine ex_ret ?_
 obtain rfl := Option.some.inj h
 exact finB (by first | exact .inr rfl | exact .inl rfl) (.refl _) [.fn 125 [.cp [.int .i64 p1.f_Line, .int .i64 p1.f_At], .cp [.int .i64 p2.f_Line, .int .i64 p2.f_At], .cp [.sl false (List.map c_api_Line p0)]]] [] [] (res_cons (res_tmp rfl) res_nil) rfl rfl rfl rfl rfl rfl rfl
theorem ok_lines_Frame {r : T_api_Line} {p0 : T_api_Line} (h : lines_Frame p0 = some r) : OkB prog 94 [.agg [.int .i64 p0.f_Quote, .sl false (List.map c_i64 p0.f_Lists), .int .i64 p0.f_Kind, .sl false (List.map c_api_Cell p0.f_Cells)]] [] [] (.agg [.int .i64 r.f_Quote, .sl false (List.map c_i64 r.f_Lists), .int .i64 r.f_Kind, .sl false (List.map c_api_Cell r.f_Cells)]) [] [] := by
 unfold lines_Frame at h
 refine okB_of_exG func94 rfl rfl (s0 := [.agg [.int .i64 p0.f_Quote, .sl false (List.map c_i64 p0.f_Lists), .int .i64 p0.f_Kind, .sl false (List.map c_api_Cell p0.f_Cells)], Z, Z, Z, Z, Z, Z]) (b0 := []) (r0 := []) rfl rfl rfl ?_
 show Ex _ _ _ ⟨[.agg [.int .i64 p0.f_Quote, .sl false (List.map c_i64 p0.f_Lists), .int .i64 p0.f_Kind, .sl false (List.map c_api_Cell p0.f_Cells)], Z, Z, Z, Z, Z, Z], [], [], 0⟩ _
 refine ex_seq ?_
 refine ex_ord [0, 1] (l := [0, 1]) rfl ?_
 refine e_ (d := .bx 0 0) 1 rfl rfl rfl rfl rfl (b' := [some [.int .i64 p0.f_Quote, .sl false (List.map c_i64 p0.f_Lists), .int .i64 p0.f_Kind, .sl false (List.map c_api_Cell p0.f_Cells)]]) (r' := []) (.box rfl rfl rfl) rfl ?_
 refine e_ (d := .bx 1 0) 2 rfl rfl rfl rfl rfl (b' := [some [.int .i64 p0.f_Quote, .sl false (List.map c_i64 p0.f_Lists), .int .i64 p0.f_Kind, .sl false (List.map c_api_Cell p0.f_Cells)], some [.int .i64 0, .sl false [], .int .i64 0, .sl false []]]) (r' := []) (.alloc rfl ze55) rfl ?_
 refine we_nil ?_
 refine ex_seq ?_
 refine ex_ord [2] (l := [0, 1, 2]) rfl ?_
 refine pq 3 rfl (x_loadA rfl rfl rfl sz55 un55 ag55 rfl) ?_
 obtain ⟨v1, hv1, h⟩ := bindS h
 refine pq 4 rfl (x_callP rfl rfl en68 (ok_lines_Own hv1) rfl rfl rfl rfl rfl) ?_
 refine e0 rfl rfl rfl rfl rfl (b' := [some [.int .i64 v1.f_Quote, .sl false (List.map c_i64 v1.f_Lists), .int .i64 v1.f_Kind, .sl false (List.map c_api_Cell v1.f_Cells)], some [.int .i64 0, .sl false [], .int .i64 0, .sl false []]]) (r' := []) (.store rfl rfl rfl sz55 rfl rfl rfl) rfl ?_
 refine we_nil ?_
 refine ex_seq ?_
 refine ex_ord [1] (l := [0, 1]) rfl ?_
 refine pq 5 rfl (.fieldAddr rfl rfl rfl fl55u_3 rfl) ?_
 refine e0 rfl rfl rfl rfl rfl (b' := [some [.int .i64 v1.f_Quote, .sl false (List.map c_i64 v1.f_Lists), .int .i64 v1.f_Kind, .sl false []], some [.int .i64 0, .sl false [], .int .i64 0, .sl false []]]) (r' := []) (.store rfl rfl rfl sz46 rfl rfl rfl) rfl ?_
 refine we_nil ?_
 refine ex_seq ?_
 refine ex_ord [1] (l := [0, 1]) rfl ?_
 refine pq 6 rfl (x_loadA rfl rfl rfl sz55 un55 ag55 rfl) ?_
 refine e0 rfl rfl rfl rfl rfl (b' := [some [.int .i64 v1.f_Quote, .sl false (List.map c_i64 v1.f_Lists), .int .i64 v1.f_Kind, .sl false []], some [.int .i64 v1.f_Quote, .sl false (List.map c_i64 v1.f_Lists), .int .i64 v1.f_Kind, .sl false []]]) (r' := []) (.store rfl rfl rfl sz55 rfl rfl rfl) rfl ?_
 refine we_nil ?_
 refine ex_ret ?_
 obtain rfl := Option.some.inj h
 exact finB (by first | exact .inr rfl | exact .inl rfl) (.refl _) [.agg [.int .i64 v1.f_Quote, .sl false (List.map c_i64 v1.f_Lists), .int .i64 v1.f_Kind, .sl false []]] [] [] (res_cons (res_cell rfl rfl sz55 un55 ag55 rfl) res_nil) rfl rfl rfl rfl rfl rfl rfl
theorem ok_slices_IndexFunc_apiLine {r : Int} {p0 : List (T_api_Line)} {p1 : T_api_Line → Option (Bool)} {g1 : FuncId} {cs1 : List DV} (hc1 : Cl prog g1 cs1) (hf1 : ∀ x0 r, p1 x0 = some r → OkB prog g1 ([.agg [.int .i64 x0.f_Quote, .sl false (List.map c_i64 x0.f_Lists), .int .i64 x0.f_Kind, .sl false (List.map c_api_Cell x0.f_Cells)]] ++ cs1) [] [] (.bool r) [] []) (h : slices_IndexFunc_apiLine p0 p1 = some r) : OkB prog 101 [.sl false (List.map c_api_Line p0), .fn g1 cs1] [] [] (.int .i64 r) [] [] := by
 unfold slices_IndexFunc_apiLine at h
 refine okB_of_exG func101 rfl rfl (s0 := [.sl false (List.map c_api_Line p0), .fn g1 cs1, Z, Z, Z, Z, Z, Z, Z, Z, Z, Z, Z, Z, Z, Z, Z, Z, Z]) (b0 := []) (r0 := []) rfl rfl rfl ?_
 show Ex _ _ _ ⟨[.sl false (List.map c_api_Line p0), .fn g1 cs1, Z, Z, Z, Z, Z, Z, Z, Z, Z, Z, Z, Z, Z, Z, Z, Z, Z], [], [], 0⟩ _
 refine ex_seq ?_
 refine ex_ord [] (l := [0]) rfl ?_
 refine pa 4 ?_
 refine we_nil ?_
 refine ex_seq ?_
 refine ex_seq ?_
 refine ex_ord [] (l := [0, 1, 2]) rfl ?_
 refine pm 6 ?_
 refine pq 7 rfl (x_len (f := c_api_Line) (l := p0) rfl rfl rfl el22) ?_
 refine pm 8 ?_
 refine we_nil ?_
 refine ex_block ?_
 obtain ⟨o5, hl, h⟩ := bindS h
 refine ex_gst ⟨[.sl false (List.map c_api_Line p0), .fn g1 cs1, Z, Z, Z, Z, Z, .int .i64 (p0.length : Int), .int .i64 0, Z, Z, Z, Z, Z, Z, Z, Z, Z, Z], [], [], 0⟩ (.re (rl [0, 2, 5, 2, 10]) [] [] rfl (.refl _)) rfl ?_
 refine ex_iterX (fun o => match o with | .inl _ => .ret | .inr _ => .exit 0) (fun s => ⟨[.sl false (List.map c_api_Line p0), .fn g1 cs1, Z, Z, Z, Z, Z, .int .i64 (p0.length : Int), .int .i64 s, Z, Z, Z, Z, Z, Z, Z, Z, Z, Z], [], [], 0⟩) (fun o => match o with | .inl o => ⟨[Z, Z, Z, Z, .int .i64 o, Z, Z, Z, Z, Z, Z, Z, Z, Z, Z, Z, Z, Z, Z], [], [], 0⟩ | .inr o => ⟨[Z, Z, Z, Z, Z, Z, Z, Z, Z, Z, Z, Z, Z, Z, Z, Z, Z, Z, Z], [], [], 0⟩) hl rfl ?_ ?_
 ·clear hl
  rcases o5 with k2 | _
  ·obtain rfl := Option.some.inj h
   exact finB (by first | exact .inr rfl | exact .inl rfl) (.refl _) [.int .i64 k2] [] [] (res_cons (res_tmp rfl) res_nil) rfl rfl rfl rfl rfl rfl rfl
  ·refine ex_seq ?_
   refine ex_ord [] (l := [0]) rfl ?_
   refine pa 4 ?_
   refine we_nil ?_
   refine ex_ret ?_
   obtain rfl := Option.some.inj h
   exact finB (by first | exact .inr rfl | exact .inl rfl) (.refl _) [.int .i64 (-1)] [] [] (res_cons (res_tmp rfl) res_nil) rfl rfl rfl rfl rfl rfl rfl
 ·clear hl h
  rintro n1 y h
  replace h : slices_IndexFunc_apiLine_l1 p0 p1 n1 = some y := h
  unfold slices_IndexFunc_apiLine_l1 at h
  show Ex _ _ _ ⟨[.sl false (List.map c_api_Line p0), .fn g1 cs1, Z, Z, Z, Z, Z, .int .i64 (p0.length : Int), .int .i64 n1, Z, Z, Z, Z, Z, Z, Z, Z, Z, Z], [], [], 0⟩ _
  refine ex_seq ?_
  refine ex_ord [] (l := [0]) rfl ?_
  refine pq 9 rfl (.bin rfl rfl rfl rfl) ?_
  refine we_nil ?_
  refine ex_seq ?_
  refine ex_if rfl ?_ ?_
  ·intro hc
   replace h := iteT h hc
   refine ex_skip ?_
   refine ex_seq ?_
   refine ex_block ?_
   refine ex_seq ?_
   refine ex_ord [] (l := [0, 1]) rfl ?_
   refine pm 10 ?_
   refine pa 5 ?_
   refine we_nil ?_
   refine ex_seq ?_
   refine ex_ord [] (l := [0, 1, 2, 3, 4, 5]) rfl ?_
   refine pm 11 ?_
   refine pm 12 ?_
   refine pm 13 ?_
   obtain ⟨v3, hv3, h⟩ := bindS h
   refine pq 14 rfl (x_idx (f := c_api_Line) (cs := [.int .i64 v3.f_Quote, .sl false (List.map c_i64 v3.f_Lists), .int .i64 v3.f_Kind, .sl false (List.map c_api_Cell v3.f_Cells)]) rfl rfl rfl el22 sz55 hv3 rfl rfl) ?_
   refine pq 15 rfl (x_loadA rfl rfl rfl sz55 un55 ag55 rfl) ?_
   obtain ⟨v4, hv4, h⟩ := bindS h
   refine pq 16 rfl (x_callP rfl rfl hc1.en (hf1 _ _ hv4) rfl rfl (all_app rfl hc1.ok) hc1.nt rfl) ?_
   refine we_nil ?_
   refine ex_if rfl ?_ ?_
   ·intro hc
    replace h := iteT h hc
    refine ex_seq ?_
    refine ex_ord [] (l := [0, 1]) rfl ?_
    refine pm 17 ?_
    refine pa 4 ?_
    refine we_nil ?_
    refine ex_ret ?_
    exact rnd_out (o := (.inl n1)) rfl (fun h => by cases h) h (.re (rl [4, 1, 14]) [] [] rfl (.refl _)) rfl
   ·intro hc
    replace h := iteF h hc
    refine ex_skip ?_
    refine ex_ord [] (l := [0, 1]) rfl ?_
    refine pq 18 rfl (.bin rfl rfl rfl rfl) ?_
    refine pm 8 ?_
    refine we_nil ?_
    exact rnd_on rfl h (.re (rl [0, 2, 5, 2, 10]) [] [] rfl (.refl _)) rfl
  ·intro hc
   replace h := iteF h hc
   refine ex_exit ?_
   exact rnd_out (o := (.inr ())) rfl (fun h => by cases h) h (.re (rl [19]) [] [] rfl (.refl _)) rfl
theorem ok_lines_May_1 {r : Bool} {p0 : Int} (h : lines_May_1 p0 = some r) : OkB prog 103 [.int .i64 p0] [] [] (.bool r) [] [] := by
 unfold lines_May_1 at h
 refine okB_of_exG func103 rfl rfl (s0 := [.int .i64 p0, Z, Z, Z, Z, Z, Z, Z, Z]) (b0 := []) (r0 := []) rfl rfl rfl ?_
 show Ex _ _ _ ⟨[.int .i64 p0, Z, Z, Z, Z, Z, Z, Z, Z], [], [], 0⟩ _
 refine ex_seq ?_
 refine ex_ord [] (l := [0]) rfl ?_
 refine pa 2 ?_
 refine we_nil ?_
 refine ex_seq ?_
 obtain ⟨q1, hq, h⟩ := bindS h
 refine ex_cut ⟨[Z, Z, .bool q1, Z, Z, Z, Z, Z, Z], [], [], 0⟩ ?_ ?_
 ·clear h
  have h := hq
  clear hq
  refine ex_ord [] (l := [0, 1, 2, 3, 4, 5, 6]) rfl ?_
  refine pm 3 ?_
  refine pif 4 rfl rfl rfl rfl (.bin rfl rfl rfl rfl) ?_ ?_
  ·intro hc
   replace h := iteT h hc
   refine pm 5 ?_
   refine pm 6 ?_
   refine pq 7 rfl (.bin rfl rfl rfl rfl) ?_
   refine pq 8 rfl (x_pickT rfl rfl rfl rfl) ?_
   refine pa 2 ?_
   refine we_nil ?_
   cases h
   exact ⟨rfl, _, .re (rl [2, 1, 6]) [] [] rfl (.refl _), rfl⟩
  ·intro hc
   replace h := iteF h hc
   refine pm 5 ?_
   refine kq 6 ?_
   refine kq 7 ?_
   refine pq 8 rfl (x_pickF rfl rfl rfl rfl) ?_
   refine pa 2 ?_
   refine we_nil ?_
   cases h
   exact ⟨rfl, _, .re (rl [2, 1, 6]) [] [] rfl (.refl _), rfl⟩
 ·clear hq
  refine ex_ret ?_
  obtain rfl := Option.some.inj h
  exact finB (by first | exact .inr rfl | exact .inl rfl) (.refl _) [.bool q1] [] [] (res_cons (res_tmp rfl) res_nil) rfl rfl rfl rfl rfl rfl rfl
theorem ok_cmp_isNaN_int {r : Bool} {p0 : Int} (h : cmp_isNaN_int p0 = some r) : OkB prog 104 [.int .i64 p0] [] [] (.bool r) [] [] := by
 unfold cmp_isNaN_int at h
 refine okB_of_exG func104 rfl rfl (s0 := [.int .i64 p0, Z, Z, Z, Z, Z]) (b0 := []) (r0 := []) rfl rfl rfl ?_
 show Ex _ _ _ ⟨[.int .i64 p0, Z, Z, Z, Z, Z], [], [], 0⟩ _
 refine ex_seq ?_
 refine ex_ord [] (l := [0]) rfl ?_
 refine pa 2 ?_
 refine we_nil ?_
 refine ex_seq ?_
 refine ex_ord [] (l := [0, 1, 2, 3]) rfl ?_
 refine pm 3 ?_
 refine pm 4 ?_
 refine pq 5 rfl (.bin rfl rfl rfl rfl) ?_
 refine pa 2 ?_
 refine we_nil ?_
 refine ex_ret ?_
 obtain rfl := Option.some.inj h
 exact finB (by first | exact .inr rfl | exact .inl rfl) (.refl _) [.bool ((p0 : Int) != p0)] [] [] (res_cons (res_tmp rfl) res_nil) rfl rfl rfl rfl rfl rfl rfl
theorem ok_css_Over {r : Int} {p0 : Int} {p1 : Int} {p2 : Int} (h : css_Over p0 p1 p2 = some r) : OkB prog 109 [.int .i64 p0, .int .i64 p1, .int .i64 p2] [] [] (.int .i64 r) [] [] := by
 unfold css_Over at h
 refine okB_of_exG func109 rfl rfl (s0 := [.int .i64 p0, .int .i64 p1, .int .i64 p2, Z, Z, Z, Z, Z, Z, Z, Z, Z]) (b0 := []) (r0 := []) rfl rfl rfl ?_
 show Ex _ _ _ ⟨[.int .i64 p0, .int .i64 p1, .int .i64 p2, Z, Z, Z, Z, Z, Z, Z, Z, Z], [], [], 0⟩ _
 refine ex_seq ?_
 refine ex_ord [] (l := [0]) rfl ?_
 refine pa 6 ?_
 refine we_nil ?_
 refine ex_seq ?_
 refine ex_ord [] (l := [0, 1, 2, 3, 4, 5]) rfl ?_
 refine pm 7 ?_
 refine pm 8 ?_
 refine pq 9 rfl (.bin rfl rfl rfl rfl) ?_
 refine pm 10 ?_
 refine pq 11 rfl (.bin rfl rfl rfl rfl) ?_
 refine pa 6 ?_
 refine we_nil ?_
 refine ex_ret ?_
 obtain rfl := Option.some.inj h
 exact finB (by first | exact .inr rfl | exact .inl rfl) (.refl _) [.int .i64 (bit_or .i64 (bit_andNot .i64 p0 p2) p1)] [] [] (res_cons (res_tmp rfl) res_nil) rfl rfl rfl rfl rfl rfl rfl
theorem tot_attrs_Target_1 : ∀ x : Int, 0 ≤ x → x ≤ 1114111 → ∃ y, attrs_Target_1 x = some y ∧ -2147483648 ≤ y ∧ y ≤ 2147483647 := by
 intro x h0 h1
 have e : IntKind.wrap .i32 (x + 32) = x + 32 := by rw [IntKind.wrap_i32]; omega
 unfold attrs_Target_1
 rw [e]
 by_cases a : x ≥ 65 <;> by_cases b : x ≤ 90 <;> simp [a, b] <;> omega
theorem ok_attrs_Target_1 {r : Int} {p0 : Int} (h : attrs_Target_1 p0 = some r) : OkB prog 112 [.int .i32 p0] [] [] (.int .i32 r) [] [] := by
 unfold attrs_Target_1 at h
 refine okB_of_exG func112 rfl rfl (s0 := [.int .i32 p0, Z, Z, Z, Z, Z, Z, Z, Z, Z, Z, Z]) (b0 := []) (r0 := []) rfl rfl rfl ?_
 show Ex _ _ _ ⟨[.int .i32 p0, Z, Z, Z, Z, Z, Z, Z, Z, Z, Z, Z], [], [], 0⟩ _
 refine ex_seq ?_
 refine ex_ord [] (l := [0]) rfl ?_
 refine pa 2 ?_
 refine we_nil ?_
 refine ex_seq ?_
 refine ex_seq ?_
 obtain ⟨q1, hq, h⟩ := bindS h
 refine ex_cut ⟨[.int .i32 p0, Z, Z, Z, Z, Z, Z, Z, .bool q1, Z, Z, Z], [], [], 0⟩ ?_ ?_
 ·clear h
  have h := hq
  clear hq
  refine ex_ord [] (l := [0, 1, 2, 3, 4, 5]) rfl ?_
  refine pm 3 ?_
  refine pif 4 rfl rfl rfl rfl (.bin rfl rfl rfl rfl) ?_ ?_
  ·intro hc
   replace h := iteT h hc
   refine pm 5 ?_
   refine pm 6 ?_
   refine pq 7 rfl (.bin rfl rfl rfl rfl) ?_
   refine pq 8 rfl (x_pickT rfl rfl rfl rfl) ?_
   refine we_nil ?_
   cases h
   exact ⟨rfl, _, .re (rl [0, 1, 7, 1, 3]) [] [] rfl (.refl _), rfl⟩
  ·intro hc
   replace h := iteF h hc
   refine pm 5 ?_
   refine kq 6 ?_
   refine kq 7 ?_
   refine pq 8 rfl (x_pickF rfl rfl rfl rfl) ?_
   refine we_nil ?_
   cases h
   exact ⟨rfl, _, .re (rl [0, 1, 7, 1, 3]) [] [] rfl (.refl _), rfl⟩
 ·clear hq
  refine ex_if rfl ?_ ?_
  ·intro hc
   replace h := iteT h hc
   refine ex_seq ?_
   refine ex_ord [] (l := [0, 1, 2]) rfl ?_
   refine pm 9 ?_
   refine pq 10 rfl (.bin rfl rfl rfl rfl) ?_
   refine pa 2 ?_
   refine we_nil ?_
   refine ex_ret ?_
   obtain rfl := Option.some.inj h
   exact finB (by first | exact .inr rfl | exact .inl rfl) (.refl _) [.int .i32 (IntKind.wrap .i32 (p0 + 32))] [] [] (res_cons (res_tmp rfl) res_nil) rfl rfl rfl rfl rfl rfl rfl
  ·intro hc
   replace h := iteF h hc
   refine ex_skip ?_
   refine ex_seq ?_
   refine ex_ord [] (l := [0, 1]) rfl ?_
   refine pm 11 ?_
   refine pa 2 ?_
   refine we_nil ?_
   refine ex_ret ?_
   obtain rfl := Option.some.inj h
   exact finB (by first | exact .inr rfl | exact .inl rfl) (.refl _) [.int .i32 p0] [] [] (res_cons (res_tmp rfl) res_nil) rfl rfl rfl rfl rfl rfl rfl
end Go.PM
