/-
  The walks: each Go function answers what its plain Lean function answers. Printed. Part 2 of 4. No condition but that the plain function answers.
-/
import Derived.Test.YtimlobidpkglkaaGreatDoorQDocPartsW1
set_option linter.unusedVariables false
set_option linter.unusedSimpArgs false
set_option linter.unusedSectionVars false
set_option linter.unnecessarySimpa false
namespace Go.PM
open Go.RowKit Go.Proofs.Tryz
set_option linter.unusedSimpArgs false
set_option linter.unusedVariables false
set_option maxRecDepth 4000
set_option maxHeartbeats 8000000 in
theorem ok_quillworkref01u_Class {r : Int} {p0 : Int} (h : quillworkref01u_Class p0 = some r) : OkB prog 117 [.int .i32 p0] [] [] (.int .i64 r) [] [] := by
 unfold quillworkref01u_Class at h
 refine okB_of_exG func117 rfl rfl (s0 := [.int .i32 p0, Z, Z, Z, Z, Z, Z, Z, Z, Z, Z, Z, Z, Z, Z, Z, Z, Z, Z, Z, Z, Z, Z, Z, Z, Z, Z, Z, Z, Z, Z, Z, Z, Z, Z, Z, Z, Z, Z, Z, Z, Z, Z, Z, Z, Z, Z, Z, Z, Z, Z, Z, Z, Z, Z, Z, Z]) (b0 := []) (r0 := []) rfl rfl rfl ?_
 show Ex _ _ _ ⟨[.int .i32 p0, Z, Z, Z, Z, Z, Z, Z, Z, Z, Z, Z, Z, Z, Z, Z, Z, Z, Z, Z, Z, Z, Z, Z, Z, Z, Z, Z, Z, Z, Z, Z, Z, Z, Z, Z, Z, Z, Z, Z, Z, Z, Z, Z, Z, Z, Z, Z, Z, Z, Z, Z, Z, Z, Z, Z, Z], [], [], 0⟩ _
 refine ex_seq ?_
 refine ex_ord [] (l := [0]) rfl ?_
 refine pa 2 ?_
 refine we_nil ?_
 refine ex_seq ?_
 refine ex_seq ?_
 obtain ⟨q1, hq, h⟩ := bindS h
 refine ex_cut ⟨[.int .i32 p0, Z, Z, Z, Z, Z, Z, Z, Z, Z, Z, Z, Z, Z, Z, Z, .bool q1, Z, Z, Z, Z, Z, Z, Z, Z, Z, Z, Z, Z, Z, Z, Z, Z, Z, Z, Z, Z, Z, Z, Z, Z, Z, Z, Z, Z, Z, Z, Z, Z, Z, Z, Z, Z, Z, Z, Z, Z], [], [], 0⟩ ?_ ?_
 ·clear h
  have h := hq
  clear hq
  refine ex_ord [] (l := [0, 1, 2, 3, 4, 5, 6, 7, 8, 9, 10, 11, 12, 13]) rfl ?_
  refine pm 3 ?_
  refine pif 4 rfl rfl rfl rfl (.bin rfl rfl rfl rfl) ?_ ?_
  ·intro hc
   replace h := iteT h hc
   refine pm 5 ?_
   refine kq 6 ?_
   refine kq 7 ?_
   refine pq 8 rfl (x_pickT rfl rfl rfl rfl) ?_
   refine pm 9 ?_
   refine kq 10 ?_
   refine kq 11 ?_
   refine kq 12 ?_
   refine kq 13 ?_
   refine kq 14 ?_
   refine kq 15 ?_
   refine pq 16 rfl (x_pickT rfl rfl rfl rfl) ?_
   refine we_nil ?_
   cases h
   exact ⟨rfl, _, .re (rl [0, 1, 15, 1, 40]) [] [] rfl (.refl _), rfl⟩
  ·intro hc
   replace h := iteF h hc
   refine pm 5 ?_
   refine pm 6 ?_
   refine pif 7 rfl rfl rfl rfl (.bin rfl rfl rfl rfl) ?_ ?_
   ·intro hc
    replace h := iteT h hc
    refine pq 8 rfl (x_pickF rfl rfl rfl rfl) ?_
    refine pm 9 ?_
    refine kq 10 ?_
    refine kq 11 ?_
    refine kq 12 ?_
    refine kq 13 ?_
    refine kq 14 ?_
    refine kq 15 ?_
    refine pq 16 rfl (x_pickT rfl rfl rfl rfl) ?_
    refine we_nil ?_
    cases h
    exact ⟨rfl, _, .re (rl [0, 1, 15, 1, 40]) [] [] rfl (.refl _), rfl⟩
   ·intro hc
    replace h := iteF h hc
    refine pq 8 rfl (x_pickF rfl rfl rfl rfl) ?_
    refine pm 9 ?_
    refine pm 10 ?_
    refine pif 11 rfl rfl rfl rfl (.bin rfl rfl rfl rfl) ?_ ?_
    ·intro hc
     replace h := iteT h hc
     refine pm 12 ?_
     refine pm 13 ?_
     refine pq 14 rfl (.bin rfl rfl rfl rfl) ?_
     refine pq 15 rfl (x_pickT rfl rfl rfl rfl) ?_
     refine pq 16 rfl (x_pickF rfl rfl rfl rfl) ?_
     refine we_nil ?_
     cases h
     exact ⟨rfl, _, .re (rl [0, 1, 15, 1, 40]) [] [] rfl (.refl _), rfl⟩
    ·intro hc
     replace h := iteF h hc
     refine pm 12 ?_
     refine kq 13 ?_
     refine kq 14 ?_
     refine pq 15 rfl (x_pickF rfl rfl rfl rfl) ?_
     refine pq 16 rfl (x_pickF rfl rfl rfl rfl) ?_
     refine we_nil ?_
     cases h
     exact ⟨rfl, _, .re (rl [0, 1, 15, 1, 40]) [] [] rfl (.refl _), rfl⟩
 ·clear hq
  refine ex_if rfl ?_ ?_
  ·intro hc
   replace h := iteT h hc
   refine ex_seq ?_
   refine ex_ord [] (l := [0]) rfl ?_
   refine pa 2 ?_
   refine we_nil ?_
   refine ex_ret ?_
   obtain rfl := Option.some.inj h
   exact finB (by first | exact .inr rfl | exact .inl rfl) (.refl _) [.int .i64 0] [] [] (res_cons (res_tmp rfl) res_nil) rfl rfl rfl rfl rfl rfl rfl
  ·intro hc
   replace h := iteF h hc
   refine ex_skip ?_
   refine ex_seq ?_
   refine ex_seq ?_
   obtain ⟨q2, hq, h⟩ := bindS h
   refine ex_cut ⟨[.int .i32 p0, Z, Z, Z, Z, Z, Z, Z, Z, Z, Z, Z, Z, Z, Z, Z, Z, Z, Z, Z, Z, Z, .bool q2, Z, Z, Z, Z, Z, Z, Z, Z, Z, Z, Z, Z, Z, Z, Z, Z, Z, Z, Z, Z, Z, Z, Z, Z, Z, Z, Z, Z, Z, Z, Z, Z, Z, Z], [], [], 0⟩ ?_ ?_
   ·clear h
    have h := hq
    clear hq
    refine ex_ord [] (l := [0, 1, 2, 3, 4, 5]) rfl ?_
    refine pm 17 ?_
    refine pif 18 rfl rfl rfl rfl (.bin rfl rfl rfl rfl) ?_ ?_
    ·intro hc
     replace h := iteT h hc
     refine pm 19 ?_
     refine kq 20 ?_
     refine kq 21 ?_
     refine pq 22 rfl (x_pickT rfl rfl rfl rfl) ?_
     refine we_nil ?_
     cases h
     exact ⟨rfl, _, .re (rl [0, 1, 21, 1, 34]) [] [] rfl (.refl _), rfl⟩
    ·intro hc
     replace h := iteF h hc
     refine pm 19 ?_
     refine pm 20 ?_
     refine pq 21 rfl (.bin rfl rfl rfl rfl) ?_
     refine pq 22 rfl (x_pickF rfl rfl rfl rfl) ?_
     refine we_nil ?_
     cases h
     exact ⟨rfl, _, .re (rl [0, 1, 21, 1, 34]) [] [] rfl (.refl _), rfl⟩
   ·clear hq
    refine ex_if rfl ?_ ?_
    ·intro hc
     replace h := iteT h hc
     refine ex_seq ?_
     refine ex_ord [] (l := [0]) rfl ?_
     refine pa 2 ?_
     refine we_nil ?_
     refine ex_ret ?_
     obtain rfl := Option.some.inj h
     exact finB (by first | exact .inr rfl | exact .inl rfl) (.refl _) [.int .i64 1] [] [] (res_cons (res_tmp rfl) res_nil) rfl rfl rfl rfl rfl rfl rfl
    ·intro hc
     replace h := iteF h hc
     refine ex_skip ?_
     refine ex_seq ?_
     refine ex_seq ?_
     obtain ⟨q3, hq, h⟩ := bindS h
     refine ex_cut ⟨[.int .i32 p0, Z, Z, Z, Z, Z, Z, Z, Z, Z, Z, Z, Z, Z, Z, Z, Z, Z, Z, Z, Z, Z, Z, Z, Z, Z, Z, Z, .bool q3, Z, Z, Z, Z, Z, Z, Z, Z, Z, Z, Z, Z, Z, Z, Z, Z, Z, Z, Z, Z, Z, Z, Z, Z, Z, Z, Z, Z], [], [], 0⟩ ?_ ?_
     ·clear h
      have h := hq
      clear hq
      refine ex_ord [] (l := [0, 1, 2, 3, 4, 5]) rfl ?_
      refine pm 23 ?_
      refine pif 24 rfl rfl rfl rfl (.bin rfl rfl rfl rfl) ?_ ?_
      ·intro hc
       replace h := iteT h hc
       refine pm 25 ?_
       refine kq 26 ?_
       refine kq 27 ?_
       refine pq 28 rfl (x_pickT rfl rfl rfl rfl) ?_
       refine we_nil ?_
       cases h
       exact ⟨rfl, _, .re (rl [0, 1, 27, 1, 28]) [] [] rfl (.refl _), rfl⟩
      ·intro hc
       replace h := iteF h hc
       refine pm 25 ?_
       refine pm 26 ?_
       refine pq 27 rfl (.bin rfl rfl rfl rfl) ?_
       refine pq 28 rfl (x_pickF rfl rfl rfl rfl) ?_
       refine we_nil ?_
       cases h
       exact ⟨rfl, _, .re (rl [0, 1, 27, 1, 28]) [] [] rfl (.refl _), rfl⟩
     ·clear hq
      refine ex_if rfl ?_ ?_
      ·intro hc
       replace h := iteT h hc
       refine ex_seq ?_
       refine ex_ord [] (l := [0]) rfl ?_
       refine pa 2 ?_
       refine we_nil ?_
       refine ex_ret ?_
       obtain rfl := Option.some.inj h
       exact finB (by first | exact .inr rfl | exact .inl rfl) (.refl _) [.int .i64 2] [] [] (res_cons (res_tmp rfl) res_nil) rfl rfl rfl rfl rfl rfl rfl
      ·intro hc
       replace h := iteF h hc
       refine ex_skip ?_
       refine ex_seq ?_
       refine ex_seq ?_
       obtain ⟨q4, hq, h⟩ := bindS h
       refine ex_cut ⟨[.int .i32 p0, Z, Z, Z, Z, Z, Z, Z, Z, Z, Z, Z, Z, Z, Z, Z, Z, Z, Z, Z, Z, Z, Z, Z, Z, Z, Z, Z, Z, Z, Z, Z, Z, Z, Z, Z, Z, Z, Z, Z, Z, Z, Z, Z, Z, Z, Z, Z, Z, Z, .bool q4, Z, Z, Z, Z, Z, Z], [], [], 0⟩ ?_ ?_
       ·clear h
        have h := hq
        clear hq
        refine ex_ord [] (l := [0, 1, 2, 3, 4, 5, 6, 7, 8, 9, 10, 11, 12, 13, 14, 15, 16, 17, 18, 19, 20, 21]) rfl ?_
        refine pm 29 ?_
        refine pif 30 rfl rfl rfl rfl (.bin rfl rfl rfl rfl) ?_ ?_
        ·intro hc
         replace h := iteT h hc
         refine pm 31 ?_
         refine pm 32 ?_
         refine pif 33 rfl rfl rfl rfl (.bin rfl rfl rfl rfl) ?_ ?_
         ·intro hc
          replace h := iteT h hc
          refine pq 34 rfl (x_pickT rfl rfl rfl rfl) ?_
          refine pm 35 ?_
          refine kq 36 ?_
          refine kq 37 ?_
          refine kq 38 ?_
          refine kq 39 ?_
          refine kq 40 ?_
          refine kq 41 ?_
          refine pq 42 rfl (x_pickT rfl rfl rfl rfl) ?_
          refine pm 43 ?_
          refine kq 44 ?_
          refine kq 45 ?_
          refine kq 46 ?_
          refine kq 47 ?_
          refine kq 48 ?_
          refine kq 49 ?_
          refine pq 50 rfl (x_pickT rfl rfl rfl rfl) ?_
          refine we_nil ?_
          cases h
          exact ⟨rfl, _, .re (rl [0, 1, 49, 1, 6]) [] [] rfl (.refl _), rfl⟩
         ·intro hc
          replace h := iteF h hc
          refine pq 34 rfl (x_pickT rfl rfl rfl rfl) ?_
          refine pm 35 ?_
          refine pm 36 ?_
          refine pif 37 rfl rfl rfl rfl (.bin rfl rfl rfl rfl) ?_ ?_
          ·intro hc
           replace h := iteT h hc
           refine pm 38 ?_
           refine pm 39 ?_
           refine pif 40 rfl rfl rfl rfl (.bin rfl rfl rfl rfl) ?_ ?_
           ·intro hc
            replace h := iteT h hc
            refine pq 41 rfl (x_pickT rfl rfl rfl rfl) ?_
            refine pq 42 rfl (x_pickF rfl rfl rfl rfl) ?_
            refine pm 43 ?_
            refine kq 44 ?_
            refine kq 45 ?_
            refine kq 46 ?_
            refine kq 47 ?_
            refine kq 48 ?_
            refine kq 49 ?_
            refine pq 50 rfl (x_pickT rfl rfl rfl rfl) ?_
            refine we_nil ?_
            cases h
            exact ⟨rfl, _, .re (rl [0, 1, 49, 1, 6]) [] [] rfl (.refl _), rfl⟩
           ·intro hc
            replace h := iteF h hc
            refine pq 41 rfl (x_pickT rfl rfl rfl rfl) ?_
            refine pq 42 rfl (x_pickF rfl rfl rfl rfl) ?_
            refine pm 43 ?_
            refine pm 44 ?_
            refine pif 45 rfl rfl rfl rfl (.bin rfl rfl rfl rfl) ?_ ?_
            ·intro hc
             replace h := iteT h hc
             refine pm 46 ?_
             refine pm 47 ?_
             refine pq 48 rfl (.bin rfl rfl rfl rfl) ?_
             refine pq 49 rfl (x_pickT rfl rfl rfl rfl) ?_
             refine pq 50 rfl (x_pickF rfl rfl rfl rfl) ?_
             refine we_nil ?_
             cases h
             exact ⟨rfl, _, .re (rl [0, 1, 49, 1, 6]) [] [] rfl (.refl _), rfl⟩
            ·intro hc
             replace h := iteF h hc
             refine pm 46 ?_
             refine kq 47 ?_
             refine kq 48 ?_
             refine pq 49 rfl (x_pickF rfl rfl rfl rfl) ?_
             refine pq 50 rfl (x_pickF rfl rfl rfl rfl) ?_
             refine we_nil ?_
             cases h
             exact ⟨rfl, _, .re (rl [0, 1, 49, 1, 6]) [] [] rfl (.refl _), rfl⟩
          ·intro hc
           replace h := iteF h hc
           refine pm 38 ?_
           refine kq 39 ?_
           refine kq 40 ?_
           refine pq 41 rfl (x_pickF rfl rfl rfl rfl) ?_
           refine pq 42 rfl (x_pickF rfl rfl rfl rfl) ?_
           refine pm 43 ?_
           refine pm 44 ?_
           refine pif 45 rfl rfl rfl rfl (.bin rfl rfl rfl rfl) ?_ ?_
           ·intro hc
            replace h := iteT h hc
            refine pm 46 ?_
            refine pm 47 ?_
            refine pq 48 rfl (.bin rfl rfl rfl rfl) ?_
            refine pq 49 rfl (x_pickT rfl rfl rfl rfl) ?_
            refine pq 50 rfl (x_pickF rfl rfl rfl rfl) ?_
            refine we_nil ?_
            cases h
            exact ⟨rfl, _, .re (rl [0, 1, 49, 1, 6]) [] [] rfl (.refl _), rfl⟩
           ·intro hc
            replace h := iteF h hc
            refine pm 46 ?_
            refine kq 47 ?_
            refine kq 48 ?_
            refine pq 49 rfl (x_pickF rfl rfl rfl rfl) ?_
            refine pq 50 rfl (x_pickF rfl rfl rfl rfl) ?_
            refine we_nil ?_
            cases h
            exact ⟨rfl, _, .re (rl [0, 1, 49, 1, 6]) [] [] rfl (.refl _), rfl⟩
        ·intro hc
         replace h := iteF h hc
         refine pm 31 ?_
         refine kq 32 ?_
         refine kq 33 ?_
         refine pq 34 rfl (x_pickF rfl rfl rfl rfl) ?_
         refine pm 35 ?_
         refine pm 36 ?_
         refine pif 37 rfl rfl rfl rfl (.bin rfl rfl rfl rfl) ?_ ?_
         ·intro hc
          replace h := iteT h hc
          refine pm 38 ?_
          refine pm 39 ?_
          refine pif 40 rfl rfl rfl rfl (.bin rfl rfl rfl rfl) ?_ ?_
          ·intro hc
           replace h := iteT h hc
           refine pq 41 rfl (x_pickT rfl rfl rfl rfl) ?_
           refine pq 42 rfl (x_pickF rfl rfl rfl rfl) ?_
           refine pm 43 ?_
           refine kq 44 ?_
           refine kq 45 ?_
           refine kq 46 ?_
           refine kq 47 ?_
           refine kq 48 ?_
           refine kq 49 ?_
           refine pq 50 rfl (x_pickT rfl rfl rfl rfl) ?_
           refine we_nil ?_
           cases h
           exact ⟨rfl, _, .re (rl [0, 1, 49, 1, 6]) [] [] rfl (.refl _), rfl⟩
          ·intro hc
           replace h := iteF h hc
           refine pq 41 rfl (x_pickT rfl rfl rfl rfl) ?_
           refine pq 42 rfl (x_pickF rfl rfl rfl rfl) ?_
           refine pm 43 ?_
           refine pm 44 ?_
           refine pif 45 rfl rfl rfl rfl (.bin rfl rfl rfl rfl) ?_ ?_
           ·intro hc
            replace h := iteT h hc
            refine pm 46 ?_
            refine pm 47 ?_
            refine pq 48 rfl (.bin rfl rfl rfl rfl) ?_
            refine pq 49 rfl (x_pickT rfl rfl rfl rfl) ?_
            refine pq 50 rfl (x_pickF rfl rfl rfl rfl) ?_
            refine we_nil ?_
            cases h
            exact ⟨rfl, _, .re (rl [0, 1, 49, 1, 6]) [] [] rfl (.refl _), rfl⟩
           ·intro hc
            replace h := iteF h hc
            refine pm 46 ?_
            refine kq 47 ?_
            refine kq 48 ?_
            refine pq 49 rfl (x_pickF rfl rfl rfl rfl) ?_
            refine pq 50 rfl (x_pickF rfl rfl rfl rfl) ?_
            refine we_nil ?_
            cases h
            exact ⟨rfl, _, .re (rl [0, 1, 49, 1, 6]) [] [] rfl (.refl _), rfl⟩
         ·intro hc
          replace h := iteF h hc
          refine pm 38 ?_
          refine kq 39 ?_
          refine kq 40 ?_
          refine pq 41 rfl (x_pickF rfl rfl rfl rfl) ?_
          refine pq 42 rfl (x_pickF rfl rfl rfl rfl) ?_
          refine pm 43 ?_
          refine pm 44 ?_
          refine pif 45 rfl rfl rfl rfl (.bin rfl rfl rfl rfl) ?_ ?_
          ·intro hc
           replace h := iteT h hc
           refine pm 46 ?_
           refine pm 47 ?_
           refine pq 48 rfl (.bin rfl rfl rfl rfl) ?_
           refine pq 49 rfl (x_pickT rfl rfl rfl rfl) ?_
           refine pq 50 rfl (x_pickF rfl rfl rfl rfl) ?_
           refine we_nil ?_
           cases h
           exact ⟨rfl, _, .re (rl [0, 1, 49, 1, 6]) [] [] rfl (.refl _), rfl⟩
          ·intro hc
           replace h := iteF h hc
           refine pm 46 ?_
           refine kq 47 ?_
           refine kq 48 ?_
           refine pq 49 rfl (x_pickF rfl rfl rfl rfl) ?_
           refine pq 50 rfl (x_pickF rfl rfl rfl rfl) ?_
           refine we_nil ?_
           cases h
           exact ⟨rfl, _, .re (rl [0, 1, 49, 1, 6]) [] [] rfl (.refl _), rfl⟩
       ·clear hq
        refine ex_if rfl ?_ ?_
        ·intro hc
         replace h := iteT h hc
         refine ex_seq ?_
         refine ex_ord [] (l := [0]) rfl ?_
         refine pa 2 ?_
         refine we_nil ?_
         refine ex_ret ?_
         obtain rfl := Option.some.inj h
         exact finB (by first | exact .inr rfl | exact .inl rfl) (.refl _) [.int .i64 3] [] [] (res_cons (res_tmp rfl) res_nil) rfl rfl rfl rfl rfl rfl rfl
        ·intro hc
         replace h := iteF h hc
         refine ex_skip ?_
         refine ex_seq ?_
         refine ex_seq ?_
         obtain ⟨q5, hq, h⟩ := bindS h
         refine ex_cut ⟨[Z, Z, Z, Z, Z, Z, Z, Z, Z, Z, Z, Z, Z, Z, Z, Z, Z, Z, Z, Z, Z, Z, Z, Z, Z, Z, Z, Z, Z, Z, Z, Z, Z, Z, Z, Z, Z, Z, Z, Z, Z, Z, Z, Z, Z, Z, Z, Z, Z, Z, Z, Z, Z, Z, Z, Z, .bool q5], [], [], 0⟩ ?_ ?_
         ·clear h
          have h := hq
          clear hq
          refine ex_ord [] (l := [0, 1, 2, 3, 4, 5]) rfl ?_
          refine pm 51 ?_
          refine pif 52 rfl rfl rfl rfl (.bin rfl rfl rfl rfl) ?_ ?_
          ·intro hc
           replace h := iteT h hc
           refine pm 53 ?_
           refine pm 54 ?_
           refine pq 55 rfl (.bin rfl rfl rfl rfl) ?_
           refine pq 56 rfl (x_pickT rfl rfl rfl rfl) ?_
           refine we_nil ?_
           cases h
           exact ⟨rfl, _, .re (rl [56, 1]) [] [] rfl (.refl _), rfl⟩
          ·intro hc
           replace h := iteF h hc
           refine pm 53 ?_
           refine kq 54 ?_
           refine kq 55 ?_
           refine pq 56 rfl (x_pickF rfl rfl rfl rfl) ?_
           refine we_nil ?_
           cases h
           exact ⟨rfl, _, .re (rl [56, 1]) [] [] rfl (.refl _), rfl⟩
         ·clear hq
          refine ex_if rfl ?_ ?_
          ·intro hc
           replace h := iteT h hc
           refine ex_seq ?_
           refine ex_ord [] (l := [0]) rfl ?_
           refine pa 2 ?_
           refine we_nil ?_
           refine ex_ret ?_
           obtain rfl := Option.some.inj h
           exact finB (by first | exact .inr rfl | exact .inl rfl) (.refl _) [.int .i64 4] [] [] (res_cons (res_tmp rfl) res_nil) rfl rfl rfl rfl rfl rfl rfl
          ·intro hc
           replace h := iteF h hc
           refine ex_skip ?_
           refine ex_seq ?_
           refine ex_ord [] (l := [0]) rfl ?_
           refine pa 2 ?_
           refine we_nil ?_
           refine ex_ret ?_
           obtain rfl := Option.some.inj h
           exact finB (by first | exact .inr rfl | exact .inl rfl) (.refl _) [.int .i64 5] [] [] (res_cons (res_tmp rfl) res_nil) rfl rfl rfl rfl rfl rfl rfl
theorem ok_slices_Equal_int {r : Bool} {p0 : List (Int)} {p1 : List (Int)} (h : slices_Equal_int p0 p1 = some r) : OkB prog 118 [.sl false (List.map c_i64 p0), .sl false (List.map c_i64 p1)] [] [] (.bool r) [] [] := by
 unfold slices_Equal_int at h
 refine okB_of_exG func118 rfl rfl (s0 := [.sl false (List.map c_i64 p0), .sl false (List.map c_i64 p1), Z, Z, Z, Z, Z, Z, Z, Z, Z, Z, Z, Z, Z, Z, Z, Z, Z, Z, Z, Z, Z, Z, Z, Z]) (b0 := []) (r0 := []) rfl rfl rfl ?_
 show Ex _ _ _ ⟨[.sl false (List.map c_i64 p0), .sl false (List.map c_i64 p1), Z, Z, Z, Z, Z, Z, Z, Z, Z, Z, Z, Z, Z, Z, Z, Z, Z, Z, Z, Z, Z, Z, Z, Z], [], [], 0⟩ _
 refine ex_seq ?_
 refine ex_ord [] (l := [0]) rfl ?_
 refine pa 4 ?_
 refine we_nil ?_
 refine ex_seq ?_
 refine ex_seq ?_
 refine ex_ord [] (l := [0, 1, 2, 3, 4]) rfl ?_
 refine pm 6 ?_
 refine pq 7 rfl (x_len (f := c_i64) (l := p0) rfl rfl rfl el53) ?_
 refine pm 8 ?_
 refine pq 9 rfl (x_len (f := c_i64) (l := p1) rfl rfl rfl el53) ?_
 refine pq 10 rfl (.bin rfl rfl rfl rfl) ?_
 refine we_nil ?_
 refine ex_if rfl ?_ ?_
 ·intro hc
  replace h := iteT h hc
  refine ex_seq ?_
  refine ex_ord [] (l := [0]) rfl ?_
  refine pa 4 ?_
  refine we_nil ?_
  refine ex_ret ?_
  obtain rfl := Option.some.inj h
  exact finB (by first | exact .inr rfl | exact .inl rfl) (.refl _) [.bool false] [] [] (res_cons (res_tmp rfl) res_nil) rfl rfl rfl rfl rfl rfl rfl
 ·intro hc
  replace h := iteF h hc
  refine ex_skip ?_
  refine ex_seq ?_
  refine ex_seq ?_
  refine ex_ord [] (l := [0, 1, 2]) rfl ?_
  refine pm 11 ?_
  refine pq 12 rfl (x_len (f := c_i64) (l := p0) rfl rfl rfl el53) ?_
  refine pm 13 ?_
  refine we_nil ?_
  refine ex_block ?_
  obtain ⟨o4, hl, h⟩ := bindS h
  refine ex_gst ⟨[.sl false (List.map c_i64 p0), .sl false (List.map c_i64 p1), Z, Z, Z, Z, Z, Z, Z, Z, Z, Z, .int .i64 (p0.length : Int), .int .i64 0, Z, Z, Z, Z, Z, Z, Z, Z, Z, Z, Z, Z], [], [], 0⟩ (.re (rl [0, 2, 10, 2, 12]) [] [] rfl (.refl _)) rfl ?_
  refine ex_iterX (fun o => match o with | .inl _ => .ret | .inr _ => .exit 0) (fun s => ⟨[.sl false (List.map c_i64 p0), .sl false (List.map c_i64 p1), Z, Z, Z, Z, Z, Z, Z, Z, Z, Z, .int .i64 (p0.length : Int), .int .i64 s, Z, Z, Z, Z, Z, Z, Z, Z, Z, Z, Z, Z], [], [], 0⟩) (fun o => match o with | .inl o => ⟨[Z, Z, Z, Z, .bool false, Z, Z, Z, Z, Z, Z, Z, Z, Z, Z, Z, Z, Z, Z, Z, Z, Z, Z, Z, Z, Z], [], [], 0⟩ | .inr o => ⟨[Z, Z, Z, Z, Z, Z, Z, Z, Z, Z, Z, Z, Z, Z, Z, Z, Z, Z, Z, Z, Z, Z, Z, Z, Z, Z], [], [], 0⟩) hl rfl ?_ ?_
  ·clear hl
   rcases o4 with _ | _
   ·obtain rfl := Option.some.inj h
    exact finB (by first | exact .inr rfl | exact .inl rfl) (.refl _) [.bool false] [] [] (res_cons (res_tmp rfl) res_nil) rfl rfl rfl rfl rfl rfl rfl
   ·refine ex_seq ?_
    refine ex_ord [] (l := [0]) rfl ?_
    refine pa 4 ?_
    refine we_nil ?_
    refine ex_ret ?_
    obtain rfl := Option.some.inj h
    exact finB (by first | exact .inr rfl | exact .inl rfl) (.refl _) [.bool true] [] [] (res_cons (res_tmp rfl) res_nil) rfl rfl rfl rfl rfl rfl rfl
  ·clear hl h
   rintro n1 y h
   replace h : slices_Equal_int_l1 p0 p1 n1 = some y := h
   unfold slices_Equal_int_l1 at h
   show Ex _ _ _ ⟨[.sl false (List.map c_i64 p0), .sl false (List.map c_i64 p1), Z, Z, Z, Z, Z, Z, Z, Z, Z, Z, .int .i64 (p0.length : Int), .int .i64 n1, Z, Z, Z, Z, Z, Z, Z, Z, Z, Z, Z, Z], [], [], 0⟩ _
   refine ex_seq ?_
   refine ex_ord [] (l := [0]) rfl ?_
   refine pq 14 rfl (.bin rfl rfl rfl rfl) ?_
   refine we_nil ?_
   refine ex_seq ?_
   refine ex_if rfl ?_ ?_
   ·intro hc
    replace h := iteT h hc
    refine ex_skip ?_
    refine ex_seq ?_
    refine ex_block ?_
    refine ex_seq ?_
    refine ex_ord [] (l := [0, 1]) rfl ?_
    refine pm 15 ?_
    refine pa 5 ?_
    refine we_nil ?_
    refine ex_seq ?_
    refine ex_drw mo [1002, 1003, 1006, 1007] (by kernel_rfl) (l := [0, 1, 2, 3, 4, 5, 6, 7, 8]) rfl ?_
    refine pm 16 ?_
    refine pm 17 ?_
    obtain ⟨v2, hv2, h⟩ := bindS h
    refine n_ 18 rfl rfl rfl (fun _ _ => x_idx (f := c_i64) (cs := [.int .i64 v2]) rfl rfl rfl el53 sz3 hv2 rfl rfl) ?_
    refine n_ 19 rfl rfl rfl (fun _ _ => x_load rfl rfl rfl sz3 un3 ag3 rfl) ?_
    refine pm 20 ?_
    refine pm 21 ?_
    obtain ⟨v3, hv3, h⟩ := bindS h
    refine n_ 22 rfl rfl rfl (fun _ _ => x_idx (f := c_i64) (cs := [.int .i64 v3]) rfl rfl rfl el53 sz3 hv3 rfl rfl) ?_
    refine n_ 23 rfl rfl rfl (fun _ _ => x_load rfl rfl rfl sz3 un3 ag3 rfl) ?_
    refine pq 24 rfl (.bin rfl rfl rfl rfl) ?_
    refine we_nil ?_
    refine ex_if rfl ?_ ?_
    ·intro hc
     replace h := iteT h hc
     refine ex_seq ?_
     refine ex_ord [] (l := [0]) rfl ?_
     refine pa 4 ?_
     refine we_nil ?_
     refine ex_ret ?_
     exact rnd_out (o := (.inl ())) rfl (fun h => by cases h) h (.re (rl [4, 1, 21]) [] [] rfl (.refl _)) rfl
    ·intro hc
     replace h := iteF h hc
     refine ex_skip ?_
     refine ex_ord [] (l := [0, 1]) rfl ?_
     refine pq 25 rfl (.bin rfl rfl rfl rfl) ?_
     refine pm 13 ?_
     refine we_nil ?_
     exact rnd_on rfl h (.re (rl [0, 2, 10, 2, 12]) [] [] rfl (.refl _)) rfl
   ·intro hc
    replace h := iteF h hc
    refine ex_exit ?_
    exact rnd_out (o := (.inr ())) rfl (fun h => by cases h) h (.re (rl [26]) [] [] rfl (.refl _)) rfl
theorem ok_slices_Grow_apiCell {r : (List (T_api_Cell))} {p0 : List (T_api_Cell)} {p1 : Int} (h : slices_Grow_apiCell p0 p1 = some r) : OkB prog 120 [.nil, .int .i64 p1] [] [] (.own 0) [] [⟨58, 3, List.map c_api_Cell r⟩] := by
 unfold slices_Grow_apiCell at h
 refine okB_of_exG func120 rfl rfl (s0 := [.nil, .int .i64 p1, Z, Z, Z, Z, Z, Z, Z, Z, Z, Z, Z, Z, Z, Z, Z, Z, Z, Z, Z, Z, Z, Z, Z, Z, Z]) (b0 := []) (r0 := []) rfl rfl rfl ?_
 show Ex _ _ _ ⟨[.nil, .int .i64 p1, Z, Z, Z, Z, Z, Z, Z, Z, Z, Z, Z, Z, Z, Z, Z, Z, Z, Z, Z, Z, Z, Z, Z, Z, Z], [], [], 0⟩ _
 refine ex_seq ?_
 refine ex_ord [0] (l := [0]) rfl ?_
 refine e_ (d := .own 0) 4 rfl rfl rfl rfl rfl (b' := []) (r' := [some ⟨58, 3, []⟩]) (.nilRow (.inr rfl) rfl 58 3) rfl ?_
 refine we_nil ?_
 refine ex_seq ?_
 refine ex_seq ?_
 refine ex_ord [] (l := [0, 1]) rfl ?_
 refine pm 5 ?_
 refine pq 6 rfl (.bin rfl rfl rfl rfl) ?_
 refine we_nil ?_
 obtain ⟨_, hq, h⟩ := bindS h
 refine ex_cut ⟨[.nil, .int .i64 p1, Z, Z, Z, Z, Z, Z, Z, Z, Z, Z, Z, Z, Z, Z, Z, Z, Z, Z, Z, Z, Z, Z, Z, Z, Z], [], [], 0⟩ ?_ ?_
 ·clear h
  have h := hq
  clear hq
  refine ex_if rfl ?_ ?_
  ·intro hc
   replace h := iteT h hc
   cases h
  ·intro hc
   replace h := iteF h hc
   refine ex_skip ?_
   cases h
   exact ⟨rfl, _, .re (rl [0, 2, 25]) [] [] rfl (.refl _), rfl⟩
 ·clear hq
  refine ex_seq ?_
  refine ex_seq ?_
  refine ex_ord [] (l := [0, 1, 2, 3, 4, 5, 6, 7]) rfl ?_
  refine pm 8 ?_
  refine pm 9 ?_
  refine pq 10 rfl (.capNil rfl rfl el46) ?_
  refine pm 11 ?_
  refine pq 12 rfl (x_len0 rfl rfl rfl el46) ?_
  refine pq 13 rfl (.bin rfl rfl rfl rfl) ?_
  refine pq 14 rfl (.bin rfl rfl rfl rfl) ?_
  refine pa 1 ?_
  refine we_nil ?_
  refine ex_seq ?_
  refine ex_ord [] (l := [0, 1]) rfl ?_
  refine pm 15 ?_
  refine pq 16 rfl (.bin rfl rfl rfl rfl) ?_
  refine we_nil ?_
  obtain ⟨q1, hq, h⟩ := bindS h
  refine ex_cut ⟨[.own 0, Z, Z, Z, Z, Z, Z, Z, Z, Z, Z, Z, Z, Z, Z, Z, Z, Z, Z, Z, Z, Z, Z, Z, Z, Z, Z], [], [some ⟨58, 3, List.map c_api_Cell q1⟩], 0⟩ ?_ ?_
  ·clear h
   have h := hq
   clear hq
   refine ex_if rfl ?_ ?_
   ·intro hc
    replace h := iteT h hc
    refine ex_ord [5, 8] (l := [0, 1, 2, 3, 4, 5, 6, 7, 8, 9]) rfl ?_
    refine pm 17 ?_
    refine pm 18 ?_
    refine pq 19 rfl (.capNil rfl rfl el46) ?_
    refine pq 20 rfl (.cutNil rfl rfl rfl el46 sz58) ?_
    refine pm 21 ?_
    obtain ⟨v2, hv2, h⟩ := bindS h
    refine e_ (d := .own 0) 22 rfl rfl rfl rfl rfl (b' := []) (r' := [some ⟨58, 3, List.map c_api_Cell v2⟩]) (x_appZ (f := c_api_Cell) (x0 := (T_api_Cell.mk (0) (0) ([]) : T_api_Cell)) rfl rfl rfl el46 ui3 rw58 ze58 rfl hv2) rfl ?_
    refine pm 23 ?_
    refine pq 24 rfl (x_len0 rfl rfl rfl el46) ?_
    obtain ⟨v3, hv3, h⟩ := bindS h
    refine e_ (d := .own 1) 25 rfl rfl rfl rfl rfl (b' := []) (r' := [none, some ⟨58, 3, List.map c_api_Cell v3⟩]) (x_cutO (f := c_api_Cell) (l := v2) rfl rfl rfl rfl el46 sz58 hv3) rfl ?_
    refine pa 0 ?_
    refine we_nil ?_
    cases h
    exact ⟨rfl, _, .re (rl [0, 1, 26]) [] [1] rfl (.refl _), rfl⟩
   ·intro hc
    replace h := iteF h hc
    refine ex_skip ?_
    cases h
    exact ⟨rfl, _, .nilOwn (i := 0) 58 3 rfl (.re (rl [0, 1, 26]) [] [0] rfl (.refl _)), rfl⟩
  ·clear hq
   refine ex_seq ?_
   refine ex_ord [] (l := [0, 1]) rfl ?_
   refine pm 26 ?_
   refine pa 4 ?_
   refine we_nil ?_
   refine ex_ret ?_
   obtain rfl := Option.some.inj h
   exact finB (by first | exact .inr rfl | exact .inl rfl) (.refl _) [.own 0] [0] [] (res_cons (res_tmp rfl) res_nil) rfl rfl rfl rfl rfl rfl rfl
theorem ok_cells_span {r : Bool} {p0 : List (T_api_Cell)} {p1 : Int} {p2 : Int} (h : cells_span p0 p1 p2 = some r) : OkB prog 126 [.sl false (List.map c_api_Cell p0), .int .i64 p1, .int .i64 p2] [] [] (.bool r) [] [] := by
 unfold cells_span at h
 refine okB_of_exG func126 rfl rfl (s0 := [.sl false (List.map c_api_Cell p0), .int .i64 p1, .int .i64 p2, Z, Z, Z, Z, Z, Z, Z, Z, Z, Z, Z, Z, Z, Z, Z, Z, Z]) (b0 := []) (r0 := []) rfl rfl rfl ?_
 show Ex _ _ _ ⟨[.sl false (List.map c_api_Cell p0), .int .i64 p1, .int .i64 p2, Z, Z, Z, Z, Z, Z, Z, Z, Z, Z, Z, Z, Z, Z, Z, Z, Z], [], [], 0⟩ _
 refine ex_seq ?_
 refine ex_ord [] (l := [0]) rfl ?_
 refine pa 6 ?_
 refine we_nil ?_
 refine ex_seq ?_
 obtain ⟨q1, hq, h⟩ := bindS h
 refine ex_cut ⟨[Z, Z, Z, Z, Z, Z, .bool q1, Z, Z, Z, Z, Z, Z, Z, Z, Z, Z, Z, Z, Z], [], [], 0⟩ ?_ ?_
 ·clear h
  have h := hq
  clear hq
  refine ex_ord [] (l := [0, 1, 2, 3, 4, 5, 6, 7, 8, 9, 10, 11, 12, 13]) rfl ?_
  refine pm 7 ?_
  refine pif 8 rfl rfl rfl rfl (.bin rfl rfl rfl rfl) ?_ ?_
  ·intro hc
   replace h := iteT h hc
   refine pm 9 ?_
   refine pm 10 ?_
   refine pm 11 ?_
   refine pif 12 rfl rfl rfl rfl (.bin rfl rfl rfl rfl) ?_ ?_
   ·intro hc
    replace h := iteT h hc
    refine pq 13 rfl (x_pickT rfl rfl rfl rfl) ?_
    refine pm 14 ?_
    refine pm 15 ?_
    refine pm 16 ?_
    refine pq 17 rfl (x_len (f := c_api_Cell) (l := p0) rfl rfl rfl el46) ?_
    refine pq 18 rfl (.bin rfl rfl rfl rfl) ?_
    refine pq 19 rfl (x_pickT rfl rfl rfl rfl) ?_
    refine pa 6 ?_
    refine we_nil ?_
    cases h
    exact ⟨rfl, _, .re (rl [6, 1, 13]) [] [] rfl (.refl _), rfl⟩
   ·intro hc
    replace h := iteF h hc
    refine pq 13 rfl (x_pickT rfl rfl rfl rfl) ?_
    refine pm 14 ?_
    refine kq 15 ?_
    refine kq 16 ?_
    refine kq 17 ?_
    refine kq 18 ?_
    refine pq 19 rfl (x_pickF rfl rfl rfl rfl) ?_
    refine pa 6 ?_
    refine we_nil ?_
    cases h
    exact ⟨rfl, _, .re (rl [6, 1, 13]) [] [] rfl (.refl _), rfl⟩
  ·intro hc
   replace h := iteF h hc
   refine pm 9 ?_
   refine kq 10 ?_
   refine kq 11 ?_
   refine kq 12 ?_
   refine pq 13 rfl (x_pickF rfl rfl rfl rfl) ?_
   refine pm 14 ?_
   refine kq 15 ?_
   refine kq 16 ?_
   refine kq 17 ?_
   refine kq 18 ?_
   refine pq 19 rfl (x_pickF rfl rfl rfl rfl) ?_
   refine pa 6 ?_
   refine we_nil ?_
   cases h
   exact ⟨rfl, _, .re (rl [6, 1, 13]) [] [] rfl (.refl _), rfl⟩
 ·clear hq
  refine ex_ret ?_
  obtain rfl := Option.some.inj h
  exact finB (by first | exact .inr rfl | exact .inl rfl) (.refl _) [.bool q1] [] [] (res_cons (res_tmp rfl) res_nil) rfl rfl rfl rfl rfl rfl rfl
theorem ok_slices_IndexFunc_int {r : Int} {p0 : List (Int)} {p1 : Int → Option (Bool)} {g1 : FuncId} {cs1 : List DV} (hc1 : Cl prog g1 cs1) (hf1 : ∀ x0 r, p1 x0 = some r → OkB prog g1 ([.int .i64 x0] ++ cs1) [] [] (.bool r) [] []) (h : slices_IndexFunc_int p0 p1 = some r) : OkB prog 130 [.sl false (List.map c_i64 p0), .fn g1 cs1] [] [] (.int .i64 r) [] [] := by
 unfold slices_IndexFunc_int at h
 refine okB_of_exG func130 rfl rfl (s0 := [.sl false (List.map c_i64 p0), .fn g1 cs1, Z, Z, Z, Z, Z, Z, Z, Z, Z, Z, Z, Z, Z, Z, Z, Z, Z]) (b0 := []) (r0 := []) rfl rfl rfl ?_
 show Ex _ _ _ ⟨[.sl false (List.map c_i64 p0), .fn g1 cs1, Z, Z, Z, Z, Z, Z, Z, Z, Z, Z, Z, Z, Z, Z, Z, Z, Z], [], [], 0⟩ _
 refine ex_seq ?_
 refine ex_ord [] (l := [0]) rfl ?_
 refine pa 4 ?_
 refine we_nil ?_
 refine ex_seq ?_
 refine ex_seq ?_
 refine ex_ord [] (l := [0, 1, 2]) rfl ?_
 refine pm 6 ?_
 refine pq 7 rfl (x_len (f := c_i64) (l := p0) rfl rfl rfl el53) ?_
 refine pm 8 ?_
 refine we_nil ?_
 refine ex_block ?_
 obtain ⟨o5, hl, h⟩ := bindS h
 refine ex_gst ⟨[.sl false (List.map c_i64 p0), .fn g1 cs1, Z, Z, Z, Z, Z, .int .i64 (p0.length : Int), .int .i64 0, Z, Z, Z, Z, Z, Z, Z, Z, Z, Z], [], [], 0⟩ (.re (rl [0, 2, 5, 2, 10]) [] [] rfl (.refl _)) rfl ?_
 refine ex_iterX (fun o => match o with | .inl _ => .ret | .inr _ => .exit 0) (fun s => ⟨[.sl false (List.map c_i64 p0), .fn g1 cs1, Z, Z, Z, Z, Z, .int .i64 (p0.length : Int), .int .i64 s, Z, Z, Z, Z, Z, Z, Z, Z, Z, Z], [], [], 0⟩) (fun o => match o with | .inl o => ⟨[Z, Z, Z, Z, .int .i64 o, Z, Z, Z, Z, Z, Z, Z, Z, Z, Z, Z, Z, Z, Z], [], [], 0⟩ | .inr o => ⟨[Z, Z, Z, Z, Z, Z, Z, Z, Z, Z, Z, Z, Z, Z, Z, Z, Z, Z, Z], [], [], 0⟩) hl rfl ?_ ?_
 ·clear hl
  rcases o5 with k2 | _
  ·obtain rfl := Option.some.inj h
   exact finB (by first | exact .inr rfl | exact .inl rfl) (.refl _) [.int .i64 k2] [] [] (res_cons (res_tmp rfl) res_nil) rfl rfl rfl rfl rfl rfl rfl
  ·refine ex_seq ?_
   refine ex_ord [] (l := [0]) rfl ?_
   refine pa 4 ?_
   refine we_nil ?_
   refine ex_ret ?_
   obtain rfl := Option.some.inj h
   exact finB (by first | exact .inr rfl | exact .inl rfl) (.refl _) [.int .i64 (-1)] [] [] (res_cons (res_tmp rfl) res_nil) rfl rfl rfl rfl rfl rfl rfl
 ·clear hl h
  rintro n1 y h
  replace h : slices_IndexFunc_int_l1 p0 p1 n1 = some y := h
  unfold slices_IndexFunc_int_l1 at h
  show Ex _ _ _ ⟨[.sl false (List.map c_i64 p0), .fn g1 cs1, Z, Z, Z, Z, Z, .int .i64 (p0.length : Int), .int .i64 n1, Z, Z, Z, Z, Z, Z, Z, Z, Z, Z], [], [], 0⟩ _
  refine ex_seq ?_
  refine ex_ord [] (l := [0]) rfl ?_
  refine pq 9 rfl (.bin rfl rfl rfl rfl) ?_
  refine we_nil ?_
  refine ex_seq ?_
  refine ex_if rfl ?_ ?_
  ·intro hc
   replace h := iteT h hc
   refine ex_skip ?_
   refine ex_seq ?_
   refine ex_block ?_
   refine ex_seq ?_
   refine ex_ord [] (l := [0, 1]) rfl ?_
   refine pm 10 ?_
   refine pa 5 ?_
   refine we_nil ?_
   refine ex_seq ?_
   refine ex_ord [] (l := [0, 1, 2, 3, 4, 5]) rfl ?_
   refine pm 11 ?_
   refine pm 12 ?_
   refine pm 13 ?_
   obtain ⟨v3, hv3, h⟩ := bindS h
   refine pq 14 rfl (x_idx (f := c_i64) (cs := [.int .i64 v3]) rfl rfl rfl el53 sz3 hv3 rfl rfl) ?_
   refine pq 15 rfl (x_load rfl rfl rfl sz3 un3 ag3 rfl) ?_
   obtain ⟨v4, hv4, h⟩ := bindS h
   refine pq 16 rfl (x_callP rfl rfl hc1.en (hf1 _ _ hv4) rfl rfl (all_app rfl hc1.ok) hc1.nt rfl) ?_
   refine we_nil ?_
   refine ex_if rfl ?_ ?_
   ·intro hc
    replace h := iteT h hc
    refine ex_seq ?_
    refine ex_ord [] (l := [0, 1]) rfl ?_
    refine pm 17 ?_
    refine pa 4 ?_
    refine we_nil ?_
    refine ex_ret ?_
    exact rnd_out (o := (.inl n1)) rfl (fun h => by cases h) h (.re (rl [4, 1, 14]) [] [] rfl (.refl _)) rfl
   ·intro hc
    replace h := iteF h hc
    refine ex_skip ?_
    refine ex_ord [] (l := [0, 1]) rfl ?_
    refine pq 18 rfl (.bin rfl rfl rfl rfl) ?_
    refine pm 8 ?_
    refine we_nil ?_
    exact rnd_on rfl h (.re (rl [0, 2, 5, 2, 10]) [] [] rfl (.refl _)) rfl
  ·intro hc
   replace h := iteF h hc
   refine ex_exit ?_
   exact rnd_out (o := (.inr ())) rfl (fun h => by cases h) h (.re (rl [19]) [] [] rfl (.refl _)) rfl
theorem ok_slices_Equal_apiCell {r : Bool} {p0 : List (T_api_Cell)} {p1 : List (T_api_Cell)} (h : slices_Equal_apiCell p0 p1 = some r) : OkB prog 142 [.sl false (List.map c_api_Cell p0), .sl false (List.map c_api_Cell p1)] [] [] (.bool r) [] [] := by
 unfold slices_Equal_apiCell at h
 refine okB_of_exG func142 rfl rfl (s0 := [.sl false (List.map c_api_Cell p0), .sl false (List.map c_api_Cell p1), Z, Z, Z, Z, Z, Z, Z, Z, Z, Z, Z, Z, Z, Z, Z, Z, Z, Z, Z, Z, Z, Z, Z, Z]) (b0 := []) (r0 := []) rfl rfl rfl ?_
 show Ex _ _ _ ⟨[.sl false (List.map c_api_Cell p0), .sl false (List.map c_api_Cell p1), Z, Z, Z, Z, Z, Z, Z, Z, Z, Z, Z, Z, Z, Z, Z, Z, Z, Z, Z, Z, Z, Z, Z, Z], [], [], 0⟩ _
 refine ex_seq ?_
 refine ex_ord [] (l := [0]) rfl ?_
 refine pa 4 ?_
 refine we_nil ?_
 refine ex_seq ?_
 refine ex_seq ?_
 refine ex_ord [] (l := [0, 1, 2, 3, 4]) rfl ?_
 refine pm 6 ?_
 refine pq 7 rfl (x_len (f := c_api_Cell) (l := p0) rfl rfl rfl el46) ?_
 refine pm 8 ?_
 refine pq 9 rfl (x_len (f := c_api_Cell) (l := p1) rfl rfl rfl el46) ?_
 refine pq 10 rfl (.bin rfl rfl rfl rfl) ?_
 refine we_nil ?_
 refine ex_if rfl ?_ ?_
 ·intro hc
  replace h := iteT h hc
  refine ex_seq ?_
  refine ex_ord [] (l := [0]) rfl ?_
  refine pa 4 ?_
  refine we_nil ?_
  refine ex_ret ?_
  obtain rfl := Option.some.inj h
  exact finB (by first | exact .inr rfl | exact .inl rfl) (.refl _) [.bool false] [] [] (res_cons (res_tmp rfl) res_nil) rfl rfl rfl rfl rfl rfl rfl
 ·intro hc
  replace h := iteF h hc
  refine ex_skip ?_
  refine ex_seq ?_
  refine ex_seq ?_
  refine ex_ord [] (l := [0, 1, 2]) rfl ?_
  refine pm 11 ?_
  refine pq 12 rfl (x_len (f := c_api_Cell) (l := p0) rfl rfl rfl el46) ?_
  refine pm 13 ?_
  refine we_nil ?_
  refine ex_block ?_
  obtain ⟨o4, hl, h⟩ := bindS h
  refine ex_gst ⟨[.sl false (List.map c_api_Cell p0), .sl false (List.map c_api_Cell p1), Z, Z, Z, Z, Z, Z, Z, Z, Z, Z, .int .i64 (p0.length : Int), .int .i64 0, Z, Z, Z, Z, Z, Z, Z, Z, Z, Z, Z, Z], [], [], 0⟩ (.re (rl [0, 2, 10, 2, 12]) [] [] rfl (.refl _)) rfl ?_
  refine ex_iterX (fun o => match o with | .inl _ => .ret | .inr _ => .exit 0) (fun s => ⟨[.sl false (List.map c_api_Cell p0), .sl false (List.map c_api_Cell p1), Z, Z, Z, Z, Z, Z, Z, Z, Z, Z, .int .i64 (p0.length : Int), .int .i64 s, Z, Z, Z, Z, Z, Z, Z, Z, Z, Z, Z, Z], [], [], 0⟩) (fun o => match o with | .inl o => ⟨[Z, Z, Z, Z, .bool false, Z, Z, Z, Z, Z, Z, Z, Z, Z, Z, Z, Z, Z, Z, Z, Z, Z, Z, Z, Z, Z], [], [], 0⟩ | .inr o => ⟨[Z, Z, Z, Z, Z, Z, Z, Z, Z, Z, Z, Z, Z, Z, Z, Z, Z, Z, Z, Z, Z, Z, Z, Z, Z, Z], [], [], 0⟩) hl rfl ?_ ?_
  ·clear hl
   rcases o4 with _ | _
   ·obtain rfl := Option.some.inj h
    exact finB (by first | exact .inr rfl | exact .inl rfl) (.refl _) [.bool false] [] [] (res_cons (res_tmp rfl) res_nil) rfl rfl rfl rfl rfl rfl rfl
   ·refine ex_seq ?_
    refine ex_ord [] (l := [0]) rfl ?_
    refine pa 4 ?_
    refine we_nil ?_
    refine ex_ret ?_
    obtain rfl := Option.some.inj h
    exact finB (by first | exact .inr rfl | exact .inl rfl) (.refl _) [.bool true] [] [] (res_cons (res_tmp rfl) res_nil) rfl rfl rfl rfl rfl rfl rfl
  ·clear hl h
   rintro n1 y h
   replace h : slices_Equal_apiCell_l1 p0 p1 n1 = some y := h
   unfold slices_Equal_apiCell_l1 at h
   show Ex _ _ _ ⟨[.sl false (List.map c_api_Cell p0), .sl false (List.map c_api_Cell p1), Z, Z, Z, Z, Z, Z, Z, Z, Z, Z, .int .i64 (p0.length : Int), .int .i64 n1, Z, Z, Z, Z, Z, Z, Z, Z, Z, Z, Z, Z], [], [], 0⟩ _
   refine ex_seq ?_
   refine ex_ord [] (l := [0]) rfl ?_
   refine pq 14 rfl (.bin rfl rfl rfl rfl) ?_
   refine we_nil ?_
   refine ex_seq ?_
   refine ex_if rfl ?_ ?_
   ·intro hc
    replace h := iteT h hc
    refine ex_skip ?_
    refine ex_seq ?_
    refine ex_block ?_
    refine ex_seq ?_
    refine ex_ord [] (l := [0, 1]) rfl ?_
    refine pm 15 ?_
    refine pa 5 ?_
    refine we_nil ?_
    refine ex_seq ?_
    refine ex_drw mo [1002, 1003, 1006, 1007] (by kernel_rfl) (l := [0, 1, 2, 3, 4, 5, 6, 7, 8]) rfl ?_
    refine pm 16 ?_
    refine pm 17 ?_
    obtain ⟨v2, hv2, h⟩ := bindS h
    refine n_ 18 rfl rfl rfl (fun _ _ => x_idx (f := c_api_Cell) (cs := [.int .i32 v2.f_R, .int .i64 v2.f_Bits, .str (bs v2.f_Href)]) rfl rfl rfl el46 sz58 hv2 rfl rfl) ?_
    refine n_ 19 rfl rfl rfl (fun _ _ => x_loadA rfl rfl rfl sz58 un58 ag58 rfl) ?_
    refine pm 20 ?_
    refine pm 21 ?_
    obtain ⟨v3, hv3, h⟩ := bindS h
    refine n_ 22 rfl rfl rfl (fun _ _ => x_idx (f := c_api_Cell) (cs := [.int .i32 v3.f_R, .int .i64 v3.f_Bits, .str (bs v3.f_Href)]) rfl rfl rfl el46 sz58 hv3 rfl rfl) ?_
    refine n_ 23 rfl rfl rfl (fun _ _ => x_loadA rfl rfl rfl sz58 un58 ag58 rfl) ?_
    refine pq 24 rfl (x_neG (b := !(((v2.f_R : Int) == v3.f_R) && (((v2.f_Bits : Int) == v3.f_Bits) && ((v2.f_Href == v3.f_Href) && true)))) rfl rfl rfl eq58 rfl (by simp only [List.all_cons, List.all_nil, bs_beq, id_eq])) ?_
    refine we_nil ?_
    refine ex_if rfl ?_ ?_
    ·intro hc
     replace h := iteT h hc
     refine ex_seq ?_
     refine ex_ord [] (l := [0]) rfl ?_
     refine pa 4 ?_
     refine we_nil ?_
     refine ex_ret ?_
     exact rnd_out (o := (.inl ())) rfl (fun h => by cases h) h (.re (rl [4, 1, 21]) [] [] rfl (.refl _)) rfl
    ·intro hc
     replace h := iteF h hc
     refine ex_skip ?_
     refine ex_ord [] (l := [0, 1]) rfl ?_
     refine pq 25 rfl (.bin rfl rfl rfl rfl) ?_
     refine pm 13 ?_
     refine we_nil ?_
     exact rnd_on rfl h (.re (rl [0, 2, 10, 2, 12]) [] [] rfl (.refl _)) rfl
   ·intro hc
    replace h := iteF h hc
    refine ex_exit ?_
    exact rnd_out (o := (.inr ())) rfl (fun h => by cases h) h (.re (rl [26]) [] [] rfl (.refl _)) rfl
theorem ok_slices_IndexFunc_apiCell {r : Int} {p0 : List (T_api_Cell)} {p1 : T_api_Cell → Option (Bool)} {g1 : FuncId} {cs1 : List DV} (hc1 : Cl prog g1 cs1) (hf1 : ∀ x0 r, p1 x0 = some r → OkB prog g1 ([.agg [.int .i32 x0.f_R, .int .i64 x0.f_Bits, .str (bs x0.f_Href)]] ++ cs1) [] [] (.bool r) [] []) (h : slices_IndexFunc_apiCell p0 p1 = some r) : OkB prog 144 [.sl false (List.map c_api_Cell p0), .fn g1 cs1] [] [] (.int .i64 r) [] [] := by
 unfold slices_IndexFunc_apiCell at h
 refine okB_of_exG func144 rfl rfl (s0 := [.sl false (List.map c_api_Cell p0), .fn g1 cs1, Z, Z, Z, Z, Z, Z, Z, Z, Z, Z, Z, Z, Z, Z, Z, Z, Z]) (b0 := []) (r0 := []) rfl rfl rfl ?_
 show Ex _ _ _ ⟨[.sl false (List.map c_api_Cell p0), .fn g1 cs1, Z, Z, Z, Z, Z, Z, Z, Z, Z, Z, Z, Z, Z, Z, Z, Z, Z], [], [], 0⟩ _
 refine ex_seq ?_
 refine ex_ord [] (l := [0]) rfl ?_
 refine pa 4 ?_
 refine we_nil ?_
 refine ex_seq ?_
 refine ex_seq ?_
 refine ex_ord [] (l := [0, 1, 2]) rfl ?_
 refine pm 6 ?_
 refine pq 7 rfl (x_len (f := c_api_Cell) (l := p0) rfl rfl rfl el46) ?_
 refine pm 8 ?_
 refine we_nil ?_
 refine ex_block ?_
 obtain ⟨o5, hl, h⟩ := bindS h
 refine ex_gst ⟨[.sl false (List.map c_api_Cell p0), .fn g1 cs1, Z, Z, Z, Z, Z, .int .i64 (p0.length : Int), .int .i64 0, Z, Z, Z, Z, Z, Z, Z, Z, Z, Z], [], [], 0⟩ (.re (rl [0, 2, 5, 2, 10]) [] [] rfl (.refl _)) rfl ?_
 refine ex_iterX (fun o => match o with | .inl _ => .ret | .inr _ => .exit 0) (fun s => ⟨[.sl false (List.map c_api_Cell p0), .fn g1 cs1, Z, Z, Z, Z, Z, .int .i64 (p0.length : Int), .int .i64 s, Z, Z, Z, Z, Z, Z, Z, Z, Z, Z], [], [], 0⟩) (fun o => match o with | .inl o => ⟨[Z, Z, Z, Z, .int .i64 o, Z, Z, Z, Z, Z, Z, Z, Z, Z, Z, Z, Z, Z, Z], [], [], 0⟩ | .inr o => ⟨[Z, Z, Z, Z, Z, Z, Z, Z, Z, Z, Z, Z, Z, Z, Z, Z, Z, Z, Z], [], [], 0⟩) hl rfl ?_ ?_
 ·clear hl
  rcases o5 with k2 | _
  ·obtain rfl := Option.some.inj h
   exact finB (by first | exact .inr rfl | exact .inl rfl) (.refl _) [.int .i64 k2] [] [] (res_cons (res_tmp rfl) res_nil) rfl rfl rfl rfl rfl rfl rfl
  ·refine ex_seq ?_
   refine ex_ord [] (l := [0]) rfl ?_
   refine pa 4 ?_
   refine we_nil ?_
   refine ex_ret ?_
   obtain rfl := Option.some.inj h
   exact finB (by first | exact .inr rfl | exact .inl rfl) (.refl _) [.int .i64 (-1)] [] [] (res_cons (res_tmp rfl) res_nil) rfl rfl rfl rfl rfl rfl rfl
 ·clear hl h
  rintro n1 y h
  replace h : slices_IndexFunc_apiCell_l1 p0 p1 n1 = some y := h
  unfold slices_IndexFunc_apiCell_l1 at h
  show Ex _ _ _ ⟨[.sl false (List.map c_api_Cell p0), .fn g1 cs1, Z, Z, Z, Z, Z, .int .i64 (p0.length : Int), .int .i64 n1, Z, Z, Z, Z, Z, Z, Z, Z, Z, Z], [], [], 0⟩ _
  refine ex_seq ?_
  refine ex_ord [] (l := [0]) rfl ?_
  refine pq 9 rfl (.bin rfl rfl rfl rfl) ?_
  refine we_nil ?_
  refine ex_seq ?_
  refine ex_if rfl ?_ ?_
  ·intro hc
   replace h := iteT h hc
   refine ex_skip ?_
   refine ex_seq ?_
   refine ex_block ?_
   refine ex_seq ?_
   refine ex_ord [] (l := [0, 1]) rfl ?_
   refine pm 10 ?_
   refine pa 5 ?_
   refine we_nil ?_
   refine ex_seq ?_
   refine ex_ord [] (l := [0, 1, 2, 3, 4, 5]) rfl ?_
   refine pm 11 ?_
   refine pm 12 ?_
   refine pm 13 ?_
   obtain ⟨v3, hv3, h⟩ := bindS h
   refine pq 14 rfl (x_idx (f := c_api_Cell) (cs := [.int .i32 v3.f_R, .int .i64 v3.f_Bits, .str (bs v3.f_Href)]) rfl rfl rfl el46 sz58 hv3 rfl rfl) ?_
   refine pq 15 rfl (x_loadA rfl rfl rfl sz58 un58 ag58 rfl) ?_
   obtain ⟨v4, hv4, h⟩ := bindS h
   refine pq 16 rfl (x_callP rfl rfl hc1.en (hf1 _ _ hv4) rfl rfl (all_app rfl hc1.ok) hc1.nt rfl) ?_
   refine we_nil ?_
   refine ex_if rfl ?_ ?_
   ·intro hc
    replace h := iteT h hc
    refine ex_seq ?_
    refine ex_ord [] (l := [0, 1]) rfl ?_
    refine pm 17 ?_
    refine pa 4 ?_
    refine we_nil ?_
    refine ex_ret ?_
    exact rnd_out (o := (.inl n1)) rfl (fun h => by cases h) h (.re (rl [4, 1, 14]) [] [] rfl (.refl _)) rfl
   ·intro hc
    replace h := iteF h hc
    refine ex_skip ?_
    refine ex_ord [] (l := [0, 1]) rfl ?_
    refine pq 18 rfl (.bin rfl rfl rfl rfl) ?_
    refine pm 8 ?_
    refine we_nil ?_
    exact rnd_on rfl h (.re (rl [0, 2, 5, 2, 10]) [] [] rfl (.refl _)) rfl
  ·intro hc
   replace h := iteF h hc
   refine ex_exit ?_
   exact rnd_out (o := (.inr ())) rfl (fun h => by cases h) h (.re (rl [19]) [] [] rfl (.refl _)) rfl
theorem ok_quillworkref01u_Runes {r : (List (Int))} {p0 : List UInt8} (h : quillworkref01u_Runes p0 = some r) : OkB prog 152 [.str (bs p0)] [] [] (.own 0) [] [⟨21, 1, List.map c_i32 r⟩] := by
 unfold quillworkref01u_Runes at h
 refine okB_of_exG func152 rfl rfl (s0 := [.str (bs p0), Z, Z, Z, Z]) (b0 := []) (r0 := []) rfl rfl rfl ?_
 show Ex _ _ _ ⟨[.str (bs p0), Z, Z, Z, Z], [], [], 0⟩ _
 refine ex_seq ?_
 refine ex_ord [0] (l := [0]) rfl ?_
 refine e_ (d := .own 0) 2 rfl rfl rfl rfl rfl (b' := []) (r' := [some ⟨21, 1, []⟩]) (.nilRow (.inr rfl) rfl 21 1) rfl ?_
 refine we_nil ?_
 refine ex_seq ?_
 refine ex_ord [1] (l := [0, 1, 2]) rfl ?_
 refine pm 3 ?_
 obtain ⟨v1, hv1, h⟩ := bindS h
 refine e_ (d := .own 1) 4 rfl rfl rfl rfl rfl (b' := []) (r' := [some ⟨21, 1, []⟩, some ⟨21, 1, List.map c_i32 v1⟩]) (x_runes (f := c_i32) (fun _ => rfl) rfl rfl us9 el149 ui21 hv1) rfl ?_
 refine pa 2 ?_
 refine we_nil ?_
 refine ex_ret ?_
 obtain rfl := Option.some.inj h
 exact finB (by first | exact .inr rfl | exact .inl rfl) (.refl _) [.own 1] [1] [] (res_cons (res_tmp rfl) res_nil) rfl rfl rfl rfl rfl rfl rfl
theorem ok_utf8u_ValidRune {r : Bool} {p0 : Int} (h : utf8u_ValidRune p0 = some r) : OkB prog 154 [.int .i32 p0] [] [] (.bool r) [] [] := by
 unfold utf8u_ValidRune at h
 refine okB_of_exG func154 rfl rfl (s0 := [.int .i32 p0, Z, Z, Z, Z, Z, Z, Z, Z, Z, Z, Z, Z, Z, Z, Z, Z]) (b0 := []) (r0 := []) rfl rfl rfl ?_
 show Ex _ _ _ ⟨[.int .i32 p0, Z, Z, Z, Z, Z, Z, Z, Z, Z, Z, Z, Z, Z, Z, Z, Z], [], [], 0⟩ _
 refine ex_seq ?_
 refine ex_ord [] (l := [0]) rfl ?_
 refine pa 2 ?_
 refine we_nil ?_
 refine ex_seq ?_
 refine ex_block ?_
 refine ex_seq ?_
 obtain ⟨q1, hq, h⟩ := bindS h
 refine ex_cut ⟨[.int .i32 p0, Z, Z, .bool q1, Z, Z, Z, Z, Z, Z, Z, Z, Z, Z, Z, Z, Z], [], [], 0⟩ ?_ ?_
 ·clear h
  have h := hq
  clear hq
  refine ex_ord [] (l := [0, 1, 2, 3, 4, 5, 6]) rfl ?_
  refine pm 4 ?_
  refine pif 5 rfl rfl rfl rfl (.bin rfl rfl rfl rfl) ?_ ?_
  ·intro hc
   replace h := iteT h hc
   refine pm 6 ?_
   refine pm 7 ?_
   refine pq 8 rfl (.bin rfl rfl rfl rfl) ?_
   refine pq 9 rfl (x_pickT rfl rfl rfl rfl) ?_
   refine pa 3 ?_
   refine we_nil ?_
   cases h
   exact ⟨rfl, _, .re (rl [0, 1, 2, 1, 13]) [] [] rfl (.refl _), rfl⟩
  ·intro hc
   replace h := iteF h hc
   refine pm 6 ?_
   refine kq 7 ?_
   refine kq 8 ?_
   refine pq 9 rfl (x_pickF rfl rfl rfl rfl) ?_
   refine pa 3 ?_
   refine we_nil ?_
   cases h
   exact ⟨rfl, _, .re (rl [0, 1, 2, 1, 13]) [] [] rfl (.refl _), rfl⟩
 ·clear hq
  refine ex_if rfl ?_ ?_
  ·intro hc
   replace h := iteT h hc
   refine ex_seq ?_
   refine ex_ord [] (l := [0]) rfl ?_
   refine pa 2 ?_
   refine we_nil ?_
   refine ex_ret ?_
   obtain rfl := Option.some.inj h
   exact finB (by first | exact .inr rfl | exact .inl rfl) (.refl _) [.bool true] [] [] (res_cons (res_tmp rfl) res_nil) rfl rfl rfl rfl rfl rfl rfl
  ·intro hc
   replace h := iteF h hc
   refine ex_seq ?_
   obtain ⟨q2, hq, h⟩ := bindS h
   refine ex_cut ⟨[Z, Z, Z, Z, Z, Z, Z, Z, Z, Z, .bool q2, Z, Z, Z, Z, Z, Z], [], [], 0⟩ ?_ ?_
   ·clear h
    have h := hq
    clear hq
    refine ex_ord [] (l := [0, 1, 2, 3, 4, 5, 6]) rfl ?_
    refine pm 11 ?_
    refine pif 12 rfl rfl rfl rfl (.bin rfl rfl rfl rfl) ?_ ?_
    ·intro hc
     replace h := iteT h hc
     refine pm 13 ?_
     refine pm 14 ?_
     refine pq 15 rfl (.bin rfl rfl rfl rfl) ?_
     refine pq 16 rfl (x_pickT rfl rfl rfl rfl) ?_
     refine pa 10 ?_
     refine we_nil ?_
     cases h
     exact ⟨rfl, _, .re (rl [10, 1, 6]) [] [] rfl (.refl _), rfl⟩
    ·intro hc
     replace h := iteF h hc
     refine pm 13 ?_
     refine kq 14 ?_
     refine kq 15 ?_
     refine pq 16 rfl (x_pickF rfl rfl rfl rfl) ?_
     refine pa 10 ?_
     refine we_nil ?_
     cases h
     exact ⟨rfl, _, .re (rl [10, 1, 6]) [] [] rfl (.refl _), rfl⟩
   ·clear hq
    refine ex_if rfl ?_ ?_
    ·intro hc
     replace h := iteT h hc
     refine ex_seq ?_
     refine ex_ord [] (l := [0]) rfl ?_
     refine pa 2 ?_
     refine we_nil ?_
     refine ex_ret ?_
     obtain rfl := Option.some.inj h
     exact finB (by first | exact .inr rfl | exact .inl rfl) (.refl _) [.bool true] [] [] (res_cons (res_tmp rfl) res_nil) rfl rfl rfl rfl rfl rfl rfl
    ·intro hc
     replace h := iteF h hc
     refine ex_skip ?_
     refine ex_seq ?_
     refine ex_ord [] (l := [0]) rfl ?_
     refine pa 2 ?_
     refine we_nil ?_
     refine ex_ret ?_
     obtain rfl := Option.some.inj h
     exact finB (by first | exact .inr rfl | exact .inl rfl) (.refl _) [.bool false] [] [] (res_cons (res_tmp rfl) res_nil) rfl rfl rfl rfl rfl rfl rfl
theorem ok_quillworklaw07u_long {r : Bool} {p0 : List (T_api_Line)} (h : quillworklaw07u_long p0 = some r) : OkB prog 10 [.sl false (List.map c_api_Line p0)] [] [] (.bool r) [] [] := by
 unfold quillworklaw07u_long at h
 refine okB_of_exG func10 rfl rfl (s0 := [.sl false (List.map c_api_Line p0), Z, Z, Z, Z]) (b0 := []) (r0 := []) rfl rfl rfl ?_
 show Ex _ _ _ ⟨[.sl false (List.map c_api_Line p0), Z, Z, Z, Z], [], [], 0⟩ _
 refine ex_seq ?_
 refine ex_ord [] (l := [0]) rfl ?_
 refine pa 2 ?_
 refine we_nil ?_
 refine ex_seq ?_
 refine ex_ord [] (l := [0, 1, 2]) rfl ?_
 refine pm 3 ?_
 obtain ⟨v1, hv1, h⟩ := bindS h
 refine pq 4 rfl (x_callP rfl rfl en59 (ok_quillworkref07u_Long hv1) rfl rfl rfl rfl rfl) ?_
 refine pa 2 ?_
 refine we_nil ?_
 refine ex_ret ?_
 obtain rfl := Option.some.inj h
 exact finB (by first | exact .inr rfl | exact .inl rfl) (.refl _) [.bool v1] [] [] (res_cons (res_tmp rfl) res_nil) rfl rfl rfl rfl rfl rfl rfl
theorem ok_doc_Own {r : (List (T_api_Line))} {p0 : List (T_api_Line)} (h : doc_Own p0 = some r) : OkB prog 32 [.sl false (List.map c_api_Line p0)] [] [] (.own 0) [] [⟨55, 4, List.map c_api_Line r⟩] := by
 unfold doc_Own at h
 refine okB_of_exG func32 rfl rfl (s0 := [.sl false (List.map c_api_Line p0), Z, Z, Z, Z, Z, Z, Z, Z, Z, Z, Z, Z, Z, Z, Z, Z, Z, Z]) (b0 := []) (r0 := []) rfl rfl rfl ?_
 show Ex _ _ _ ⟨[.sl false (List.map c_api_Line p0), Z, Z, Z, Z, Z, Z, Z, Z, Z, Z, Z, Z, Z, Z, Z, Z, Z, Z], [], [], 0⟩ _
 refine ex_seq ?_
 refine ex_ord [0] (l := [0]) rfl ?_
 refine e_ (d := .own 0) 2 rfl rfl rfl rfl rfl (b' := []) (r' := [some ⟨55, 4, []⟩]) (.nilRow (.inr rfl) rfl 55 4) rfl ?_
 refine we_nil ?_
 refine ex_seq ?_
 refine ex_ord [0] (l := [0]) rfl ?_
 refine e_ (d := .own 1) 3 rfl rfl rfl rfl rfl (b' := []) (r' := [some ⟨55, 4, []⟩, some ⟨55, 4, []⟩]) (.nilRow (.inr rfl) rfl 55 4) rfl ?_
 refine we_nil ?_
 refine ex_seq ?_
 refine ex_seq ?_
 refine ex_ord [] (l := [0, 1, 2]) rfl ?_
 refine pm 6 ?_
 refine pq 7 rfl (x_len (f := c_api_Line) (l := p0) rfl rfl rfl el22) ?_
 refine pm 8 ?_
 refine we_nil ?_
 refine ex_block ?_
 obtain ⟨k3, hl, h⟩ := bindS h
 refine ex_gst ⟨[Z, Z, Z, .own 0, Z, Z, .sl false (List.map c_api_Line p0), .int .i64 (p0.length : Int), .int .i64 0, Z, Z, Z, Z, Z, Z, Z, Z, Z, Z], [], [some ⟨55, 4, []⟩], 0⟩ (.re (rl [3, 1, 2, 3, 10]) [] [1] rfl (.refl _)) rfl ?_
 refine ex_iterX (fun _ => .exit 0) (fun s => ⟨[Z, Z, Z, .own 0, Z, Z, .sl false (List.map c_api_Line p0), .int .i64 (p0.length : Int), .int .i64 s.2, Z, Z, Z, Z, Z, Z, Z, Z, Z, Z], [], [some ⟨55, 4, List.map c_api_Line s.1⟩], 0⟩) (fun o => ⟨[Z, Z, Z, .own 0, Z, Z, Z, Z, Z, Z, Z, Z, Z, Z, Z, Z, Z, Z, Z], [], [some ⟨55, 4, List.map c_api_Line o⟩], 0⟩) hl rfl ?_ ?_
 ·clear hl
  refine ex_seq ?_
  refine ex_ord [] (l := [0, 1]) rfl ?_
  refine pm 18 ?_
  refine pa 2 ?_
  refine we_nil ?_
  refine ex_ret ?_
  obtain rfl := Option.some.inj h
  exact finB (by first | exact .inr rfl | exact .inl rfl) (.refl _) [.own 0] [0] [] (res_cons (res_tmp rfl) res_nil) rfl rfl rfl rfl rfl rfl rfl
 ·clear hl h
  rintro ⟨n1, n2⟩ y h
  replace h : doc_Own_l1 p0 n1 n2 = some y := h
  unfold doc_Own_l1 at h
  show Ex _ _ _ ⟨[Z, Z, Z, .own 0, Z, Z, .sl false (List.map c_api_Line p0), .int .i64 (p0.length : Int), .int .i64 n2, Z, Z, Z, Z, Z, Z, Z, Z, Z, Z], [], [some ⟨55, 4, List.map c_api_Line n1⟩], 0⟩ _
  refine ex_seq ?_
  refine ex_ord [] (l := [0]) rfl ?_
  refine pq 9 rfl (.bin rfl rfl rfl rfl) ?_
  refine we_nil ?_
  refine ex_seq ?_
  refine ex_if rfl ?_ ?_
  ·intro hc
   replace h := iteT h hc
   refine ex_skip ?_
   refine ex_seq ?_
   refine ex_block ?_
   refine ex_seq ?_
   refine ex_ord [2, 3] (l := [0, 1, 2, 3]) rfl ?_
   obtain ⟨v4, hv4, h⟩ := bindS h
   refine pq 10 rfl (x_idx (f := c_api_Line) (cs := [.int .i64 v4.f_Quote, .sl false (List.map c_i64 v4.f_Lists), .int .i64 v4.f_Kind, .sl false (List.map c_api_Cell v4.f_Cells)]) rfl rfl rfl el22 sz55 hv4 rfl rfl) ?_
   refine pq 11 rfl (x_loadA rfl rfl rfl sz55 un55 ag55 rfl) ?_
   refine e_ (d := .bx 0 0) 5 rfl rfl rfl rfl rfl (b' := [some [.int .i64 0, .sl false [], .int .i64 0, .sl false []]]) (r' := [some ⟨55, 4, List.map c_api_Line n1⟩]) (.alloc rfl ze55) rfl ?_
   refine e0 rfl rfl rfl rfl rfl (b' := [some [.int .i64 v4.f_Quote, .sl false (List.map c_i64 v4.f_Lists), .int .i64 v4.f_Kind, .sl false (List.map c_api_Cell v4.f_Cells)]]) (r' := [some ⟨55, 4, List.map c_api_Line n1⟩]) (.store rfl rfl rfl sz55 rfl rfl rfl) rfl ?_
   refine we_nil ?_
   refine ex_gst ⟨[Z, Z, Z, .own 0, Z, .cp [.int .i64 v4.f_Quote, .sl false (List.map c_i64 v4.f_Lists), .int .i64 v4.f_Kind, .sl false (List.map c_api_Cell v4.f_Cells)], .sl false (List.map c_api_Line p0), .int .i64 (p0.length : Int), .int .i64 n2, .bool (decide ((n2 : Int) < (p0.length : Int))), .cp [.int .i64 v4.f_Quote, .sl false (List.map c_i64 v4.f_Lists), .int .i64 v4.f_Kind, .sl false (List.map c_api_Cell v4.f_Cells)], .agg [.int .i64 v4.f_Quote, .sl false (List.map c_i64 v4.f_Lists), .int .i64 v4.f_Kind, .sl false (List.map c_api_Cell v4.f_Cells)], Z, Z, Z, Z, Z, Z, Z], [none], [some ⟨55, 4, List.map c_api_Line n1⟩], 0⟩ (.shutB (b := 0) rfl (fun d h => by simpa using List.all_eq_true.1 (rfl : List.all [.int .i64 v4.f_Quote, .sl false (List.map c_i64 v4.f_Lists), .int .i64 v4.f_Kind, .sl false (List.map c_api_Cell v4.f_Cells)] (fun d => !d.tok) = true) d h) (.refl _)) rfl ?_
   refine ex_ord [3, 4] (l := [0, 1, 2, 3, 4, 5]) rfl ?_
   refine pm 12 ?_
   refine pq 13 rfl (x_loadA rfl rfl rfl sz55 un55 ag55 rfl) ?_
   obtain ⟨v5, hv5, h⟩ := bindS h
   refine pq 14 rfl (x_callP rfl rfl en68 (ok_lines_Own hv5) rfl rfl rfl rfl rfl) ?_
   refine e_ (d := .own 1) 15 rfl rfl rfl rfl rfl (b' := [none]) (r' := [some ⟨55, 4, List.map c_api_Line n1⟩, some ⟨55, 4, List.map c_api_Line [v5]⟩]) (x_lit (f := c_api_Line) (l := [v5]) rfl el22 rw55 zs55 rfl rfl rfl (by decide) (by decide) fl_api_Line rfl) rfl ?_
   obtain ⟨v6, hv6, h⟩ := bindS h
   refine e_ (d := .own 2) 16 rfl rfl rfl rfl rfl (b' := [none]) (r' := [none, some ⟨55, 4, List.map c_api_Line [v5]⟩, some ⟨55, 4, List.map c_api_Line v6⟩]) (x_app (f := c_api_Line) (xs := n1) (ys := [v5]) rfl rfl rfl el22 rw55 rfl rfl rfl fl_api_Line hv6) rfl ?_
   refine pa 3 ?_
   refine we_nil ?_
   refine ex_ord [] (l := [0, 1]) rfl ?_
   refine pq 17 rfl (.bin rfl rfl rfl rfl) ?_
   refine pm 8 ?_
   refine we_nil ?_
   exact rnd_on rfl h (.re (rl [3, 1, 2, 3, 10]) [] [2] rfl (.refl _)) rfl
  ·intro hc
   replace h := iteF h hc
   refine ex_exit ?_
   exact rnd_out (o := n1) rfl (fun h => by cases h) h (.re (rl [3, 1, 15]) [] [0] rfl (.refl _)) rfl
theorem ok_slices_ContainsFunc_apiLine {r : Bool} {p0 : List (T_api_Line)} {p1 : T_api_Line → Option (Bool)} {g1 : FuncId} {cs1 : List DV} (hc1 : Cl prog g1 cs1) (hf1 : ∀ x0 r, p1 x0 = some r → OkB prog g1 ([.agg [.int .i64 x0.f_Quote, .sl false (List.map c_i64 x0.f_Lists), .int .i64 x0.f_Kind, .sl false (List.map c_api_Cell x0.f_Cells)]] ++ cs1) [] [] (.bool r) [] []) (h : slices_ContainsFunc_apiLine p0 p1 = some r) : OkB prog 60 [.sl false (List.map c_api_Line p0), .fn g1 cs1] [] [] (.bool r) [] [] := by
 unfold slices_ContainsFunc_apiLine at h
 refine okB_of_exG func60 rfl rfl (s0 := [.sl false (List.map c_api_Line p0), .fn g1 cs1, Z, Z, Z, Z, Z, Z, Z]) (b0 := []) (r0 := []) rfl rfl rfl ?_
 show Ex _ _ _ ⟨[.sl false (List.map c_api_Line p0), .fn g1 cs1, Z, Z, Z, Z, Z, Z, Z], [], [], 0⟩ _
 refine ex_seq ?_
 refine ex_ord [] (l := [0]) rfl ?_
 refine pa 4 ?_
 refine we_nil ?_
 refine ex_seq ?_
 refine ex_ord [] (l := [0, 1, 2, 3, 4]) rfl ?_
 refine pm 5 ?_
 refine pm 6 ?_
 obtain ⟨v1, hv1, h⟩ := bindS h
 refine pq 7 rfl (x_callP rfl rfl en101 (ok_slices_IndexFunc_apiLine hc1 hf1 hv1) rfl rfl rfl rfl rfl) ?_
 refine pq 8 rfl (.bin rfl rfl rfl rfl) ?_
 refine pa 4 ?_
 refine we_nil ?_
 refine ex_ret ?_
 obtain rfl := Option.some.inj h
 exact finB (by first | exact .inr rfl | exact .inl rfl) (.refl _) [.bool (decide ((v1 : Int) ≥ 0))] [] [] (res_cons (res_tmp rfl) res_nil) rfl rfl rfl rfl rfl rfl rfl
theorem ok_cmp_Compare_int {r : Int} {p0 : Int} {p1 : Int} (h : cmp_Compare_int p0 p1 = some r) : OkB prog 65 [.int .i64 p0, .int .i64 p1] [] [] (.int .i64 r) [] [] := by
 unfold cmp_Compare_int at h
 refine okB_of_exG func65 rfl rfl (s0 := [.int .i64 p0, .int .i64 p1, Z, Z, Z, Z, Z, Z, Z, Z, Z, Z, Z, Z, Z, Z, Z, Z, Z, Z]) (b0 := []) (r0 := []) rfl rfl rfl ?_
 show Ex _ _ _ ⟨[.int .i64 p0, .int .i64 p1, Z, Z, Z, Z, Z, Z, Z, Z, Z, Z, Z, Z, Z, Z, Z, Z, Z, Z], [], [], 0⟩ _
 refine ex_seq ?_
 refine ex_ord [] (l := [0]) rfl ?_
 refine pa 4 ?_
 refine we_nil ?_
 refine ex_seq ?_
 refine ex_ord [] (l := [0, 1, 2]) rfl ?_
 refine pm 7 ?_
 obtain ⟨v1, hv1, h⟩ := bindS h
 refine pq 8 rfl (x_callP rfl rfl en104 (ok_cmp_isNaN_int hv1) rfl rfl rfl rfl rfl) ?_
 refine pa 5 ?_
 refine we_nil ?_
 refine ex_seq ?_
 refine ex_ord [] (l := [0, 1, 2]) rfl ?_
 refine pm 9 ?_
 obtain ⟨v2, hv2, h⟩ := bindS h
 refine pq 10 rfl (x_callP rfl rfl en104 (ok_cmp_isNaN_int hv2) rfl rfl rfl rfl rfl) ?_
 refine pa 6 ?_
 refine we_nil ?_
 refine ex_seq ?_
 refine ex_seq ?_
 refine ex_ord [] (l := [0]) rfl ?_
 refine pm 11 ?_
 refine we_nil ?_
 refine ex_if rfl ?_ ?_
 ·intro hc
  replace h := iteT h hc
  refine ex_seq ?_
  refine ex_seq ?_
  refine ex_ord [] (l := [0]) rfl ?_
  refine pm 12 ?_
  refine we_nil ?_
  refine ex_if rfl ?_ ?_
  ·intro hc
   replace h := iteT h hc
   refine ex_seq ?_
   refine ex_ord [] (l := [0]) rfl ?_
   refine pa 4 ?_
   refine we_nil ?_
   refine ex_ret ?_
   obtain rfl := Option.some.inj h
   exact finB (by first | exact .inr rfl | exact .inl rfl) (.refl _) [.int .i64 0] [] [] (res_cons (res_tmp rfl) res_nil) rfl rfl rfl rfl rfl rfl rfl
  ·intro hc
   replace h := iteF h hc
   refine ex_skip ?_
   refine ex_seq ?_
   refine ex_ord [] (l := [0]) rfl ?_
   refine pa 4 ?_
   refine we_nil ?_
   refine ex_ret ?_
   obtain rfl := Option.some.inj h
   exact finB (by first | exact .inr rfl | exact .inl rfl) (.refl _) [.int .i64 (-1)] [] [] (res_cons (res_tmp rfl) res_nil) rfl rfl rfl rfl rfl rfl rfl
 ·intro hc
  replace h := iteF h hc
  refine ex_skip ?_
  refine ex_seq ?_
  refine ex_seq ?_
  refine ex_ord [] (l := [0]) rfl ?_
  refine pm 13 ?_
  refine we_nil ?_
  refine ex_if rfl ?_ ?_
  ·intro hc
   replace h := iteT h hc
   refine ex_seq ?_
   refine ex_ord [] (l := [0]) rfl ?_
   refine pa 4 ?_
   refine we_nil ?_
   refine ex_ret ?_
   obtain rfl := Option.some.inj h
   exact finB (by first | exact .inr rfl | exact .inl rfl) (.refl _) [.int .i64 1] [] [] (res_cons (res_tmp rfl) res_nil) rfl rfl rfl rfl rfl rfl rfl
  ·intro hc
   replace h := iteF h hc
   refine ex_skip ?_
   refine ex_seq ?_
   refine ex_seq ?_
   refine ex_ord [] (l := [0, 1, 2]) rfl ?_
   refine pm 14 ?_
   refine pm 15 ?_
   refine pq 16 rfl (.bin rfl rfl rfl rfl) ?_
   refine we_nil ?_
   refine ex_if rfl ?_ ?_
   ·intro hc
    replace h := iteT h hc
    refine ex_seq ?_
    refine ex_ord [] (l := [0]) rfl ?_
    refine pa 4 ?_
    refine we_nil ?_
    refine ex_ret ?_
    obtain rfl := Option.some.inj h
    exact finB (by first | exact .inr rfl | exact .inl rfl) (.refl _) [.int .i64 (-1)] [] [] (res_cons (res_tmp rfl) res_nil) rfl rfl rfl rfl rfl rfl rfl
   ·intro hc
    replace h := iteF h hc
    refine ex_skip ?_
    refine ex_seq ?_
    refine ex_seq ?_
    refine ex_ord [] (l := [0, 1, 2]) rfl ?_
    refine pm 17 ?_
    refine pm 18 ?_
    refine pq 19 rfl (.bin rfl rfl rfl rfl) ?_
    refine we_nil ?_
    refine ex_if rfl ?_ ?_
    ·intro hc
     replace h := iteT h hc
     refine ex_seq ?_
     refine ex_ord [] (l := [0]) rfl ?_
     refine pa 4 ?_
     refine we_nil ?_
     refine ex_ret ?_
     obtain rfl := Option.some.inj h
     exact finB (by first | exact .inr rfl | exact .inl rfl) (.refl _) [.int .i64 1] [] [] (res_cons (res_tmp rfl) res_nil) rfl rfl rfl rfl rfl rfl rfl
    ·intro hc
     replace h := iteF h hc
     refine ex_skip ?_
     refine ex_seq ?_
     refine ex_ord [] (l := [0]) rfl ?_
     refine pa 4 ?_
     refine we_nil ?_
     refine ex_ret ?_
     obtain rfl := Option.some.inj h
     exact finB (by first | exact .inr rfl | exact .inl rfl) (.refl _) [.int .i64 0] [] [] (res_cons (res_tmp rfl) res_nil) rfl rfl rfl rfl rfl rfl rfl
theorem ok_quillworkref01u_May {r : Bool} {p0 : Int} (h : quillworkref01u_May p0 = some r) : OkB prog 87 [.int .i32 p0] [] [] (.bool r) [] [] := by
 unfold quillworkref01u_May at h
 refine okB_of_exG func87 rfl rfl (s0 := [.int .i32 p0, Z, Z, Z, Z, Z]) (b0 := []) (r0 := []) rfl rfl rfl ?_
 show Ex _ _ _ ⟨[.int .i32 p0, Z, Z, Z, Z, Z], [], [], 0⟩ _
 refine ex_seq ?_
 refine ex_ord [] (l := [0]) rfl ?_
 refine pa 2 ?_
 refine we_nil ?_
 refine ex_seq ?_
 refine ex_ord [] (l := [0, 1, 2, 3]) rfl ?_
 refine pm 3 ?_
 obtain ⟨v1, hv1, h⟩ := bindS h
 refine pq 4 rfl (x_callP rfl rfl en117 (ok_quillworkref01u_Class hv1) rfl rfl rfl rfl rfl) ?_
 refine pq 5 rfl (.bin rfl rfl rfl rfl) ?_
 refine pa 2 ?_
 refine we_nil ?_
 refine ex_ret ?_
 obtain rfl := Option.some.inj h
 exact finB (by first | exact .inr rfl | exact .inl rfl) (.refl _) [.bool (decide ((v1 : Int) ≥ 2))] [] [] (res_cons (res_tmp rfl) res_nil) rfl rfl rfl rfl rfl rfl rfl
theorem ok_slices_Concat_apiCell {r : (List (T_api_Cell))} {p0 : List (List (T_api_Cell))} (h : slices_Concat_apiCell p0 = some r) : OkB prog 91 [.own 0] [] [⟨46, 1, List.map c_Lapi_Cell p0⟩] (.own 0) [] [⟨58, 3, List.map c_api_Cell r⟩] := by
 unfold slices_Concat_apiCell at h
 refine okB_of_exG func91 rfl rfl (s0 := [.own 0, Z, Z, Z, Z, Z, Z, Z, Z, Z, Z, Z, Z, Z, Z, Z, Z, Z, Z, Z, Z, Z, Z, Z, Z, Z, Z, Z, Z, Z, Z, Z, Z, Z, Z, Z]) (b0 := []) (r0 := [some ⟨46, 1, List.map c_Lapi_Cell p0⟩]) rfl rfl rfl ?_
 show Ex _ _ _ ⟨[.own 0, Z, Z, Z, Z, Z, Z, Z, Z, Z, Z, Z, Z, Z, Z, Z, Z, Z, Z, Z, Z, Z, Z, Z, Z, Z, Z, Z, Z, Z, Z, Z, Z, Z, Z, Z], [], [some ⟨46, 1, List.map c_Lapi_Cell p0⟩], 0⟩ _
 refine ex_seq ?_
 refine ex_ord [0] (l := [0]) rfl ?_
 refine e_ (d := .own 1) 2 rfl rfl rfl rfl rfl (b' := []) (r' := [some ⟨46, 1, List.map c_Lapi_Cell p0⟩, some ⟨58, 3, []⟩]) (.nilRow (.inr rfl) rfl 58 3) rfl ?_
 refine we_nil ?_
 refine ex_seq ?_
 refine ex_ord [] (l := [0]) rfl ?_
 refine pa 3 ?_
 refine we_nil ?_
 refine ex_seq ?_
 refine ex_seq ?_
 refine ex_ord [] (l := [0, 1, 2]) rfl ?_
 refine pm 9 ?_
 refine pq 10 rfl (x_len (f := c_Lapi_Cell) (l := p0) rfl rfl rfl el115) ?_
 refine pm 11 ?_
 refine we_nil ?_
 refine ex_block ?_
 obtain ⟨k3, hl, h⟩ := bindS h
 refine ex_gst ⟨[.own 0, Z, Z, .int .i64 0, Z, Z, Z, Z, Z, .own 0, .int .i64 (p0.length : Int), .int .i64 0, Z, Z, Z, Z, Z, Z, Z, Z, Z, Z, Z, Z, Z, Z, Z, Z, Z, Z, Z, Z, Z, Z, Z, Z], [], [some ⟨46, 1, List.map c_Lapi_Cell p0⟩], 0⟩ (.re (rl [0, 1, 2, 1, 5, 3, 24]) [] [0] rfl (.refl _)) rfl ?_
 refine ex_iterX (fun _ => .exit 0) (fun s => ⟨[.own 0, Z, Z, .int .i64 s.2, Z, Z, Z, Z, Z, .own 0, .int .i64 (p0.length : Int), .int .i64 s.1, Z, Z, Z, Z, Z, Z, Z, Z, Z, Z, Z, Z, Z, Z, Z, Z, Z, Z, Z, Z, Z, Z, Z, Z], [], [some ⟨46, 1, List.map c_Lapi_Cell p0⟩], 0⟩) (fun o => ⟨[.own 0, Z, Z, .int .i64 o, Z, Z, Z, Z, Z, Z, Z, Z, Z, Z, Z, Z, Z, Z, Z, Z, Z, Z, Z, Z, Z, Z, Z, Z, Z, Z, Z, Z, Z, Z, Z, Z], [], [some ⟨46, 1, List.map c_Lapi_Cell p0⟩], 0⟩) hl rfl ?_ ?_
 ·clear hl
  refine ex_seq ?_
  refine ex_ord [1] (l := [0, 1, 2]) rfl ?_
  refine pm 23 ?_
  obtain ⟨v7, hv7, h⟩ := bindS h
  refine e_ (d := .own 1) 24 rfl rfl rfl rfl rfl (b' := []) (r' := [some ⟨46, 1, List.map c_Lapi_Cell p0⟩, some ⟨58, 3, List.map c_api_Cell v7⟩]) (x_call [] [] rfl rfl en120 (ok_slices_Grow_apiCell hv7) rfl rfl rfl rfl rfl rfl rfl rfl rfl rfl rfl rfl rfl rfl) rfl ?_
  refine pa 6 ?_
  refine we_nil ?_
  refine ex_seq ?_
  refine ex_seq ?_
  refine ex_ord [] (l := [0, 1, 2]) rfl ?_
  refine pm 25 ?_
  refine pq 26 rfl (x_len (f := c_Lapi_Cell) (l := p0) rfl rfl rfl el115) ?_
  refine pm 27 ?_
  refine we_nil ?_
  refine ex_block ?_
  obtain ⟨k10, hl, h⟩ := bindS h
  refine ex_gst ⟨[Z, Z, Z, Z, Z, Z, .own 0, Z, Z, Z, Z, Z, Z, Z, Z, Z, Z, Z, Z, Z, Z, Z, Z, Z, Z, .own 1, .int .i64 (p0.length : Int), .int .i64 0, Z, Z, Z, Z, Z, Z, Z, Z], [], [some ⟨58, 3, List.map c_api_Cell v7⟩, some ⟨46, 1, List.map c_Lapi_Cell p0⟩], 0⟩ (.re (rl [6, 1, 18, 3, 8]) [] [1, 0] rfl (.refl _)) rfl ?_
  refine ex_iterX (fun _ => .exit 2) (fun s => ⟨[Z, Z, Z, Z, Z, Z, .own 0, Z, Z, Z, Z, Z, Z, Z, Z, Z, Z, Z, Z, Z, Z, Z, Z, Z, Z, .own 1, .int .i64 (p0.length : Int), .int .i64 s.2, Z, Z, Z, Z, Z, Z, Z, Z], [], [some ⟨58, 3, List.map c_api_Cell s.1⟩, some ⟨46, 1, List.map c_Lapi_Cell p0⟩], 0⟩) (fun o => ⟨[Z, Z, Z, Z, Z, Z, .own 0, Z, Z, Z, Z, Z, Z, Z, Z, Z, Z, Z, Z, Z, Z, Z, Z, Z, Z, Z, Z, Z, Z, Z, Z, Z, Z, Z, Z, Z], [], [some ⟨58, 3, List.map c_api_Cell o⟩], 0⟩) hl rfl ?_ ?_
  ·clear hl
   refine ex_seq ?_
   refine ex_ord [] (l := [0, 1]) rfl ?_
   refine pm 35 ?_
   refine pa 2 ?_
   refine we_nil ?_
   refine ex_ret ?_
   obtain rfl := Option.some.inj h
   exact finB (by first | exact .inr rfl | exact .inl rfl) (.refl _) [.own 0] [0] [] (res_cons (res_tmp rfl) res_nil) rfl rfl rfl rfl rfl rfl rfl
  ·clear hl h
   rintro ⟨n8, n9⟩ y h
   replace h : slices_Concat_apiCell_l2 p0 n8 n9 = some y := h
   unfold slices_Concat_apiCell_l2 at h
   show Ex _ _ _ ⟨[Z, Z, Z, Z, Z, Z, .own 0, Z, Z, Z, Z, Z, Z, Z, Z, Z, Z, Z, Z, Z, Z, Z, Z, Z, Z, .own 1, .int .i64 (p0.length : Int), .int .i64 n9, Z, Z, Z, Z, Z, Z, Z, Z], [], [some ⟨58, 3, List.map c_api_Cell n8⟩, some ⟨46, 1, List.map c_Lapi_Cell p0⟩], 0⟩ _
   refine ex_seq ?_
   refine ex_ord [] (l := [0]) rfl ?_
   refine pq 28 rfl (.bin rfl rfl rfl rfl) ?_
   refine we_nil ?_
   refine ex_seq ?_
   refine ex_if rfl ?_ ?_
   ·intro hc
    replace h := iteT h hc
    refine ex_skip ?_
    refine ex_seq ?_
    refine ex_block ?_
    refine ex_seq ?_
    refine ex_ord [] (l := [0, 1, 2]) rfl ?_
    obtain ⟨v11, hv11, h⟩ := bindS h
    refine pq 29 rfl (x_idxO (f := c_Lapi_Cell) (l := p0) rfl rfl rfl rfl rfl el115 sz46 hv11 rfl) ?_
    obtain ⟨v12, hv12, h⟩ := bindS h
    refine pq 30 rfl (x_load rfl rfl (at_ex (f := c_Lapi_Cell) (xs := p0) (c := [.sl false (List.map c_api_Cell v12)]) rfl rfl (getI_some hv12).2 rfl (Nat.le_of_ble_eq_true rfl)) sz46 un46 ag46 rfl) ?_
    refine pa 8 ?_
    refine we_nil ?_
    refine ex_ord [2] (l := [0, 1, 2, 3]) rfl ?_
    refine pm 31 ?_
    refine pm 32 ?_
    obtain ⟨v13, hv13, h⟩ := bindS h
    refine e_ (d := .own 2) 33 rfl rfl rfl rfl rfl (b' := []) (r' := [none, some ⟨46, 1, List.map c_Lapi_Cell p0⟩, some ⟨58, 3, List.map c_api_Cell v13⟩]) (x_app (f := c_api_Cell) (xs := n8) (ys := v12) rfl rfl rfl el46 rw58 rfl rfl rfl fl_api_Cell hv13) rfl ?_
    refine pa 6 ?_
    refine we_nil ?_
    refine ex_ord [] (l := [0, 1]) rfl ?_
    refine pq 34 rfl (.bin rfl rfl rfl rfl) ?_
    refine pm 27 ?_
    refine we_nil ?_
    exact rnd_on rfl h (.re (rl [6, 1, 18, 3, 8]) [] [2, 1] rfl (.refl _)) rfl
   ·intro hc
    replace h := iteF h hc
    refine ex_exit ?_
    exact rnd_out (o := n8) rfl (fun h => by cases h) h (.re (rl [6, 1, 29]) [] [0] rfl (.refl _)) rfl
 ·clear hl h
  rintro ⟨n1, n2⟩ y h
  replace h : slices_Concat_apiCell_l1 p0 n1 n2 = some y := h
  unfold slices_Concat_apiCell_l1 at h
  show Ex _ _ _ ⟨[.own 0, Z, Z, .int .i64 n2, Z, Z, Z, Z, Z, .own 0, .int .i64 (p0.length : Int), .int .i64 n1, Z, Z, Z, Z, Z, Z, Z, Z, Z, Z, Z, Z, Z, Z, Z, Z, Z, Z, Z, Z, Z, Z, Z, Z], [], [some ⟨46, 1, List.map c_Lapi_Cell p0⟩], 0⟩ _
  refine ex_seq ?_
  refine ex_ord [] (l := [0]) rfl ?_
  refine pq 12 rfl (.bin rfl rfl rfl rfl) ?_
  refine we_nil ?_
  refine ex_seq ?_
  refine ex_if rfl ?_ ?_
  ·intro hc
   replace h := iteT h hc
   refine ex_skip ?_
   refine ex_seq ?_
   refine ex_block ?_
   refine ex_seq ?_
   refine ex_ord [] (l := [0, 1, 2]) rfl ?_
   obtain ⟨v4, hv4, h⟩ := bindS h
   refine pq 13 rfl (x_idxO (f := c_Lapi_Cell) (l := p0) rfl rfl rfl rfl rfl el115 sz46 hv4 rfl) ?_
   obtain ⟨v5, hv5, h⟩ := bindS h
   refine pq 14 rfl (x_load rfl rfl (at_ex (f := c_Lapi_Cell) (xs := p0) (c := [.sl false (List.map c_api_Cell v5)]) rfl rfl (getI_some hv5).2 rfl (Nat.le_of_ble_eq_true rfl)) sz46 un46 ag46 rfl) ?_
   refine pa 5 ?_
   refine we_nil ?_
   refine ex_seq ?_
   refine ex_ord [] (l := [0, 1, 2, 3, 4]) rfl ?_
   refine pm 15 ?_
   refine pm 16 ?_
   refine pq 17 rfl (x_len (f := c_api_Cell) (l := v5) rfl rfl rfl el46) ?_
   refine pq 18 rfl (.bin rfl rfl rfl rfl) ?_
   refine pa 3 ?_
   refine we_nil ?_
   refine ex_seq ?_
   refine ex_ord [] (l := [0, 1]) rfl ?_
   refine pm 19 ?_
   refine pq 20 rfl (.bin rfl rfl rfl rfl) ?_
   refine we_nil ?_
   obtain ⟨_, hq, h⟩ := bindS h
   refine ex_cut ⟨[.own 0, Z, Z, .int .i64 (IntKind.wrap .i64 (n2 + (v5.length : Int))), Z, Z, Z, Z, Z, .own 0, .int .i64 (p0.length : Int), .int .i64 n1, Z, Z, Z, Z, Z, Z, Z, Z, Z, Z, Z, Z, Z, Z, Z, Z, Z, Z, Z, Z, Z, Z, Z, Z], [], [some ⟨46, 1, List.map c_Lapi_Cell p0⟩], 0⟩ ?_ ?_
   ·clear h
    have h := hq
    clear hq
    refine ex_if rfl ?_ ?_
    ·intro hc
     replace h := iteT h hc
     cases h
    ·intro hc
     replace h := iteF h hc
     refine ex_skip ?_
     cases h
     exact ⟨rfl, _, .re (rl [0, 1, 2, 1, 5, 3, 24]) [] [0] rfl (.refl _), rfl⟩
   ·clear hq
    refine ex_ord [] (l := [0, 1]) rfl ?_
    refine pq 22 rfl (.bin rfl rfl rfl rfl) ?_
    refine pm 11 ?_
    refine we_nil ?_
    exact rnd_on rfl h (.re (rl [0, 1, 2, 1, 5, 3, 24]) [] [0] rfl (.refl _)) rfl
  ·intro hc
   replace h := iteF h hc
   refine ex_exit ?_
   exact rnd_out (o := n2) rfl (fun h => by cases h) h (.re (rl [0, 1, 2, 1, 32]) [] [0] rfl (.refl _)) rfl
theorem ok_slices_ContainsFunc_int {r : Bool} {p0 : List (Int)} {p1 : Int → Option (Bool)} {g1 : FuncId} {cs1 : List DV} (hc1 : Cl prog g1 cs1) (hf1 : ∀ x0 r, p1 x0 = some r → OkB prog g1 ([.int .i64 x0] ++ cs1) [] [] (.bool r) [] []) (h : slices_ContainsFunc_int p0 p1 = some r) : OkB prog 102 [.sl false (List.map c_i64 p0), .fn g1 cs1] [] [] (.bool r) [] [] := by
 unfold slices_ContainsFunc_int at h
 refine okB_of_exG func102 rfl rfl (s0 := [.sl false (List.map c_i64 p0), .fn g1 cs1, Z, Z, Z, Z, Z, Z, Z]) (b0 := []) (r0 := []) rfl rfl rfl ?_
 show Ex _ _ _ ⟨[.sl false (List.map c_i64 p0), .fn g1 cs1, Z, Z, Z, Z, Z, Z, Z], [], [], 0⟩ _
 refine ex_seq ?_
 refine ex_ord [] (l := [0]) rfl ?_
 refine pa 4 ?_
 refine we_nil ?_
 refine ex_seq ?_
 refine ex_ord [] (l := [0, 1, 2, 3, 4]) rfl ?_
 refine pm 5 ?_
 refine pm 6 ?_
 obtain ⟨v1, hv1, h⟩ := bindS h
 refine pq 7 rfl (x_callP rfl rfl en130 (ok_slices_IndexFunc_int hc1 hf1 hv1) rfl rfl rfl rfl rfl) ?_
 refine pq 8 rfl (.bin rfl rfl rfl rfl) ?_
 refine pa 4 ?_
 refine we_nil ?_
 refine ex_ret ?_
 obtain rfl := Option.some.inj h
 exact finB (by first | exact .inr rfl | exact .inl rfl) (.refl _) [.bool (decide ((v1 : Int) ≥ 0))] [] [] (res_cons (res_tmp rfl) res_nil) rfl rfl rfl rfl rfl rfl rfl
theorem ok_cells_each {r : (List (T_api_Cell)) × Int} {p0 : List (T_api_Cell)} {p1 : Int} {p2 : Int} {p3 : T_api_Cell → Option (T_api_Cell)} {g3 : FuncId} {cs3 : List DV} (hc3 : Cl prog g3 cs3) (hf3 : ∀ x0 r, p3 x0 = some r → OkB prog g3 ([.bx 0 0] ++ cs3) [c_api_Cell x0] [] (.tup []) [c_api_Cell r] []) (h : cells_each p0 p1 p2 p3 = some r) : OkB prog 107 [.sl false (List.map c_api_Cell p0), .int .i64 p1, .int .i64 p2, .fn g3 cs3] [] [] (.tup [.own 0, .int .i64 r.2]) [] [⟨58, 3, List.map c_api_Cell r.1⟩] := by
 unfold cells_each at h
 refine okB_of_exG func107 rfl rfl (s0 := [.sl false (List.map c_api_Cell p0), .int .i64 p1, .int .i64 p2, .fn g3 cs3, Z, Z, Z, Z, Z, Z, Z, Z, Z, Z, Z, Z, Z, Z, Z, Z, Z, Z, Z, Z, Z, Z, Z, Z, Z, Z, Z]) (b0 := []) (r0 := []) rfl rfl rfl ?_
 show Ex _ _ _ ⟨[.sl false (List.map c_api_Cell p0), .int .i64 p1, .int .i64 p2, .fn g3 cs3, Z, Z, Z, Z, Z, Z, Z, Z, Z, Z, Z, Z, Z, Z, Z, Z, Z, Z, Z, Z, Z, Z, Z, Z, Z, Z, Z], [], [], 0⟩ _
 refine ex_seq ?_
 refine ex_ord [0] (l := [0, 1]) rfl ?_
 refine e_ (d := .own 0) 8 rfl rfl rfl rfl rfl (b' := []) (r' := [some ⟨58, 3, []⟩]) (.nilRow (.inr rfl) rfl 58 3) rfl ?_
 refine pa 9 ?_
 refine we_nil ?_
 refine ex_seq ?_
 refine ex_seq ?_
 refine ex_ord [] (l := [0, 1, 2, 3, 4]) rfl ?_
 refine pm 12 ?_
 refine pm 13 ?_
 refine pm 14 ?_
 obtain ⟨v1, hv1, h⟩ := bindS h
 refine pq 15 rfl (x_callP rfl rfl en126 (ok_cells_span hv1) rfl rfl rfl rfl rfl) ?_
 refine pq 16 rfl (.un rfl rfl rfl) ?_
 refine we_nil ?_
 refine ex_if rfl ?_ ?_
 ·intro hc
  replace h := iteT h hc
  refine ex_seq ?_
  refine ex_ord [0] (l := [0, 1]) rfl ?_
  refine e_ (d := .own 1) 8 rfl rfl rfl rfl rfl (b' := []) (r' := [some ⟨58, 3, []⟩, some ⟨58, 3, []⟩]) (.nilRow (.inr rfl) rfl 58 3) rfl ?_
  refine pa 9 ?_
  refine we_nil ?_
  refine ex_ret ?_
  obtain rfl := Option.some.inj h
  exact finB (by first | exact .inr rfl | exact .inl rfl) (.refl _) [.own 1, .int .i64 1] [1] [] (res_cons (res_tmp rfl) (res_cons (res_tmp rfl) res_nil)) rfl rfl rfl rfl rfl rfl rfl
 ·intro hc
  replace h := iteF h hc
  refine ex_skip ?_
  refine ex_seq ?_
  refine ex_ord [1] (l := [0, 1, 2]) rfl ?_
  refine pm 17 ?_
  obtain ⟨v2, hv2, h⟩ := bindS h
  refine e_ (d := .own 1) 18 rfl rfl rfl rfl rfl (b' := []) (r' := [some ⟨58, 3, []⟩, some ⟨58, 3, List.map c_api_Cell v2⟩]) (x_call [] [] rfl rfl en106 (ok_slices_Clone_apiCell hv2) rfl rfl rfl rfl rfl rfl rfl rfl rfl rfl rfl rfl rfl rfl) rfl ?_
  refine pa 10 ?_
  refine we_nil ?_
  refine ex_seq ?_
  refine ex_seq ?_
  refine ex_ord [] (l := [0, 1]) rfl ?_
  refine pm 19 ?_
  refine pa 11 ?_
  refine we_nil ?_
  refine ex_block ?_
  obtain ⟨k5, hl, h⟩ := bindS h
  refine ex_gst ⟨[Z, Z, .int .i64 p2, .fn g3 cs3, Z, Z, Z, Z, Z, Z, .own 0, .int .i64 p1, Z, Z, Z, Z, Z, Z, Z, Z, Z, Z, Z, Z, Z, Z, Z, Z, Z, Z, Z], [], [some ⟨58, 3, List.map c_api_Cell v2⟩], 0⟩ (.re (rl [2, 2, 6, 2, 19]) [] [1] rfl (.refl _)) rfl ?_
  refine ex_iterX (fun _ => .exit 0) (fun s => ⟨[Z, Z, .int .i64 p2, .fn g3 cs3, Z, Z, Z, Z, Z, Z, .own 0, .int .i64 s.2, Z, Z, Z, Z, Z, Z, Z, Z, Z, Z, Z, Z, Z, Z, Z, Z, Z, Z, Z], [], [some ⟨58, 3, List.map c_api_Cell s.1⟩], 0⟩) (fun o => ⟨[Z, Z, Z, Z, Z, Z, Z, Z, Z, Z, .own 0, Z, Z, Z, Z, Z, Z, Z, Z, Z, Z, Z, Z, Z, Z, Z, Z, Z, Z, Z, Z], [], [some ⟨58, 3, List.map c_api_Cell o⟩], 0⟩) hl rfl ?_ ?_
  ·clear hl
   refine ex_seq ?_
   refine ex_ord [] (l := [0, 1, 2]) rfl ?_
   refine pm 30 ?_
   refine pa 8 ?_
   refine pa 9 ?_
   refine we_nil ?_
   refine ex_ret ?_
   obtain rfl := Option.some.inj h
   exact finB (by first | exact .inr rfl | exact .inl rfl) (.refl _) [.own 0, .int .i64 0] [0] [] (res_cons (res_tmp rfl) (res_cons (res_tmp rfl) res_nil)) rfl rfl rfl rfl rfl rfl rfl
  ·clear hl h
   rintro ⟨n3, n4⟩ y h
   replace h : cells_each_l1 p2 p3 n3 n4 = some y := h
   unfold cells_each_l1 at h
   show Ex _ _ _ ⟨[Z, Z, .int .i64 p2, .fn g3 cs3, Z, Z, Z, Z, Z, Z, .own 0, .int .i64 n4, Z, Z, Z, Z, Z, Z, Z, Z, Z, Z, Z, Z, Z, Z, Z, Z, Z, Z, Z], [], [some ⟨58, 3, List.map c_api_Cell n3⟩], 0⟩ _
   refine ex_seq ?_
   refine ex_seq ?_
   refine ex_ord [] (l := [0, 1, 2]) rfl ?_
   refine pm 20 ?_
   refine pm 21 ?_
   refine pq 22 rfl (.bin rfl rfl rfl rfl) ?_
   refine we_nil ?_
   refine ex_if rfl ?_ ?_
   ·intro hc
    replace h := iteT h hc
    refine ex_skip ?_
    refine ex_seq ?_
    refine ex_block ?_
    refine ex_ord [4] (l := [0, 1, 2, 3, 4]) rfl ?_
    refine pm 25 ?_
    refine pm 26 ?_
    refine pm 27 ?_
    obtain ⟨v6, hv6, h⟩ := bindS h
    refine pq 28 rfl (x_idxO (f := c_api_Cell) (l := n3) rfl rfl rfl rfl rfl el46 sz58 hv6 rfl) ?_
    obtain ⟨v7, hv7, h⟩ := bindS h
    obtain ⟨v8, hv8, h⟩ := bindS h
    refine e_ (d := .tup []) 29 rfl rfl rfl rfl rfl (b' := []) (r' := [some ⟨58, 3, List.map c_api_Cell (setI n3 n4 v8)⟩]) (x_callEV (cf := c_api_Cell) (xs := n3) (c := v7) (c' := v8) (tk := 0) (i := Int.toNat n4) rfl rfl hc3 (hf3 _ _ hv8) rfl rfl rfl rfl (getI_some hv7).2 (by simp [argOkE]) rfl rfl) rfl ?_
    refine we_nil ?_
    refine ex_ord [] (l := [0, 1, 2]) rfl ?_
    refine pm 23 ?_
    refine pq 24 rfl (.bin rfl rfl rfl rfl) ?_
    refine pa 11 ?_
    refine we_nil ?_
    exact rnd_on rfl h (.re (rl [2, 2, 6, 2, 19]) [] [0] rfl (.refl _)) rfl
   ·intro hc
    replace h := iteF h hc
    refine ex_exit ?_
    exact rnd_out (o := n3) rfl (fun h => by cases h) h (.re (rl [10, 1, 20]) [] [0] rfl (.refl _)) rfl
theorem ok_cells_Set_1 {r : T_api_Cell} {p0 : T_api_Cell} {p1 : Int} {p2 : Int} (h : cells_Set_1 p0 p1 p2 = some r) : OkB prog 108 [.bx 0 0, .cp [.int .i64 p1], .cp [.int .i64 p2]] [[.int .i32 p0.f_R, .int .i64 p0.f_Bits, .str (bs p0.f_Href)]] [] (.tup []) [[.int .i32 r.f_R, .int .i64 r.f_Bits, .str (bs r.f_Href)]] [] := by
 unfold cells_Set_1 at h
 refine okB_of_exG func108 rfl rfl (s0 := [.bx 0 0, .cp [.int .i64 p1], .cp [.int .i64 p2], Z, Z, Z, Z, Z, Z, Z, Z, Z, Z, Z, Z, Z]) (b0 := [some [.int .i32 p0.f_R, .int .i64 p0.f_Bits, .str (bs p0.f_Href)]]) (r0 := []) rfl rfl rfl ?_
 show Ex _ _ _ ⟨[.bx 0 0, .cp [.int .i64 p1], .cp [.int .i64 p2], Z, Z, Z, Z, Z, Z, Z, Z, Z, Z, Z, Z, Z], [some [.int .i32 p0.f_R, .int .i64 p0.f_Bits, .str (bs p0.f_Href)]], [], 1⟩ _
 refine ex_drw mo [12, 1005, 1007, 1009, 2002, 2003, 2004, 2010, 2011, 3012, 300000, 400000, 500000, 1100000, 1200000, 1300000] (by kernel_rfl) (l := [0, 1, 2, 3, 4, 5, 6, 7, 8, 9, 10, 11, 12]) rfl ?_
 refine pm 4 ?_
 refine pm 5 ?_
 refine r_ 6 0 rfl rfl rfl rfl rfl rfl (fun _ _ hb => .nilCheck rfl rfl (live_bx hb)) ?_
 refine r_ 7 0 rfl rfl rfl rfl rfl rfl (fun _ _ hb => .fieldAddr rfl rfl (live_bx hb) fl58u_1 rfl) ?_
 refine r_ 8 0 rfl rfl rfl rfl rfl rfl (fun _ _ hb => x_load rfl rfl (at_bx hb rfl) sz3 un3 ag3 rfl) ?_
 refine n_ 9 rfl rfl rfl (fun _ _ => x_load rfl rfl rfl sz3 un3 ag3 rfl) ?_
 refine pq 10 rfl (.bin rfl rfl rfl rfl) ?_
 refine n_ 11 rfl rfl rfl (fun _ _ => x_load rfl rfl rfl sz3 un3 ag3 rfl) ?_
 refine pq 12 rfl (.bin rfl rfl rfl rfl) ?_
 obtain ⟨v1, hv1, h⟩ := bindS h
 refine n_ 13 rfl rfl rfl (fun _ _ => x_callP rfl rfl en109 (ok_css_Over hv1) rfl rfl rfl rfl rfl) ?_
 refine r_ 14 0 rfl rfl rfl rfl rfl rfl (fun _ _ hb => .nilCheck rfl rfl (live_bx hb)) ?_
 refine r_ 15 0 rfl rfl rfl rfl rfl rfl (fun _ _ hb => .fieldAddr rfl rfl (live_bx hb) fl58u_1 rfl) ?_
 refine e0 rfl rfl rfl rfl rfl (b' := [some [.int .i32 p0.f_R, .int .i64 v1, .str (bs p0.f_Href)]]) (r' := []) (hb := set_out 0 (some [.int .i32 p0.f_R, .int .i64 v1, .str (bs p0.f_Href)]) rfl rfl) (.store rfl rfl rfl sz3 rfl rfl rfl) rfl ?_
 refine we_nil ?_
 obtain rfl := Option.some.inj h
 exact finB (by first | exact .inr rfl | exact .inl rfl) (.refl _) [] [] [[.int .i32 p0.f_R, .int .i64 v1, .str (bs p0.f_Href)]] res_nil rfl rfl rfl rfl rfl rfl rfl
theorem ok_cells_Same {r : Bool} {p0 : List (T_api_Cell)} {p1 : List (T_api_Cell)} (h : cells_Same p0 p1 = some r) : OkB prog 119 [.sl false (List.map c_api_Cell p0), .sl false (List.map c_api_Cell p1)] [] [] (.bool r) [] [] := by
 unfold cells_Same at h
 refine okB_of_exG func119 rfl rfl (s0 := [.sl false (List.map c_api_Cell p0), .sl false (List.map c_api_Cell p1), Z, Z, Z, Z, Z, Z]) (b0 := []) (r0 := []) rfl rfl rfl ?_
 show Ex _ _ _ ⟨[.sl false (List.map c_api_Cell p0), .sl false (List.map c_api_Cell p1), Z, Z, Z, Z, Z, Z], [], [], 0⟩ _
 refine ex_seq ?_
 refine ex_ord [] (l := [0]) rfl ?_
 refine pa 4 ?_
 refine we_nil ?_
 refine ex_seq ?_
 refine ex_ord [] (l := [0, 1, 2, 3]) rfl ?_
 refine pm 5 ?_
 refine pm 6 ?_
 obtain ⟨v1, hv1, h⟩ := bindS h
 refine pq 7 rfl (x_callP rfl rfl en142 (ok_slices_Equal_apiCell hv1) rfl rfl rfl rfl rfl) ?_
 refine pa 4 ?_
 refine we_nil ?_
 refine ex_ret ?_
 obtain rfl := Option.some.inj h
 exact finB (by first | exact .inr rfl | exact .inl rfl) (.refl _) [.bool v1] [] [] (res_cons (res_tmp rfl) res_nil) rfl rfl rfl rfl rfl rfl rfl
theorem ok_slices_ContainsFunc_apiCell {r : Bool} {p0 : List (T_api_Cell)} {p1 : T_api_Cell → Option (Bool)} {g1 : FuncId} {cs1 : List DV} (hc1 : Cl prog g1 cs1) (hf1 : ∀ x0 r, p1 x0 = some r → OkB prog g1 ([.agg [.int .i32 x0.f_R, .int .i64 x0.f_Bits, .str (bs x0.f_Href)]] ++ cs1) [] [] (.bool r) [] []) (h : slices_ContainsFunc_apiCell p0 p1 = some r) : OkB prog 127 [.sl false (List.map c_api_Cell p0), .fn g1 cs1] [] [] (.bool r) [] [] := by
 unfold slices_ContainsFunc_apiCell at h
 refine okB_of_exG func127 rfl rfl (s0 := [.sl false (List.map c_api_Cell p0), .fn g1 cs1, Z, Z, Z, Z, Z, Z, Z]) (b0 := []) (r0 := []) rfl rfl rfl ?_
 show Ex _ _ _ ⟨[.sl false (List.map c_api_Cell p0), .fn g1 cs1, Z, Z, Z, Z, Z, Z, Z], [], [], 0⟩ _
 refine ex_seq ?_
 refine ex_ord [] (l := [0]) rfl ?_
 refine pa 4 ?_
 refine we_nil ?_
 refine ex_seq ?_
 refine ex_ord [] (l := [0, 1, 2, 3, 4]) rfl ?_
 refine pm 5 ?_
 refine pm 6 ?_
 obtain ⟨v1, hv1, h⟩ := bindS h
 refine pq 7 rfl (x_callP rfl rfl en144 (ok_slices_IndexFunc_apiCell hc1 hf1 hv1) rfl rfl rfl rfl rfl) ?_
 refine pq 8 rfl (.bin rfl rfl rfl rfl) ?_
 refine pa 4 ?_
 refine we_nil ?_
 refine ex_ret ?_
 obtain rfl := Option.some.inj h
 exact finB (by first | exact .inr rfl | exact .inl rfl) (.refl _) [.bool (decide ((v1 : Int) ≥ 0))] [] [] (res_cons (res_tmp rfl) res_nil) rfl rfl rfl rfl rfl rfl rfl
theorem ok_quillworkref03u_Value {r : Bool} {p0 : List UInt8} (h : quillworkref03u_Value p0 = some r) : OkB prog 141 [.str (bs p0)] [] [] (.bool r) [] [] := by
 unfold quillworkref03u_Value at h
 refine okB_of_exG func141 rfl rfl (s0 := [.str (bs p0), Z, Z, Z, Z, Z, Z, Z, Z, Z, Z, Z, Z, Z, Z, Z, Z, Z, Z, Z, Z, Z, Z, Z, Z, Z, Z, Z]) (b0 := []) (r0 := []) rfl rfl rfl ?_
 show Ex _ _ _ ⟨[.str (bs p0), Z, Z, Z, Z, Z, Z, Z, Z, Z, Z, Z, Z, Z, Z, Z, Z, Z, Z, Z, Z, Z, Z, Z, Z, Z, Z, Z], [], [], 0⟩ _
 refine ex_seq ?_
 refine ex_ord [] (l := [0]) rfl ?_
 refine pa 2 ?_
 refine we_nil ?_
 refine ex_seq ?_
 refine ex_ord [1] (l := [0, 1, 2]) rfl ?_
 refine pm 5 ?_
 obtain ⟨v1, hv1, h⟩ := bindS h
 refine e_ (d := .own 0) 6 rfl rfl rfl rfl rfl (b' := []) (r' := [some ⟨21, 1, List.map c_i32 v1⟩]) (x_call [] [] rfl rfl en152 (ok_quillworkref01u_Runes hv1) rfl rfl rfl rfl rfl rfl rfl rfl rfl rfl rfl rfl rfl rfl) rfl ?_
 refine pa 3 ?_
 refine we_nil ?_
 refine ex_seq ?_
 refine ex_seq ?_
 obtain ⟨q2, hq, h⟩ := bindS h
 refine ex_cut ⟨[Z, Z, Z, .own 0, Z, Z, Z, Z, Z, Z, Z, Z, Z, Z, Z, .bool q2, Z, Z, Z, Z, Z, Z, Z, Z, Z, Z, Z, Z], [], [some ⟨21, 1, List.map c_i32 v1⟩], 0⟩ ?_ ?_
 ·clear h
  have h := hq
  clear hq
  refine ex_ord [] (l := [0, 1, 2, 3, 4, 5, 6, 7, 8]) rfl ?_
  refine pm 7 ?_
  refine pq 8 rfl (x_lenS rfl rfl us9) ?_
  refine pif 9 rfl rfl rfl rfl (.bin rfl rfl rfl rfl) ?_ ?_
  ·intro hc
   replace h := iteT h hc
   refine pm 10 ?_
   refine kq 11 ?_
   refine kq 12 ?_
   refine kq 13 ?_
   refine kq 14 ?_
   refine pq 15 rfl (x_pickT rfl rfl rfl rfl) ?_
   refine we_nil ?_
   cases h
   exact ⟨rfl, _, .re (rl [3, 1, 11, 1, 12]) [] [0] rfl (.refl _), rfl⟩
  ·intro hc
   replace h := iteF h hc
   refine pm 10 ?_
   refine pm 11 ?_
   refine pq 12 rfl (x_convRS (f := c_i32) (ns := v1) (fun _ => rfl) rfl rfl rfl el149 ui21 us9) ?_
   refine pm 13 ?_
   refine pq 14 rfl (x_neS rfl rfl rfl) ?_
   refine pq 15 rfl (x_pickF rfl rfl rfl rfl) ?_
   refine we_nil ?_
   cases h
   exact ⟨rfl, _, .re (rl [3, 1, 11, 1, 12]) [] [0] rfl (.refl _), rfl⟩
 ·clear hq
  refine ex_if rfl ?_ ?_
  ·intro hc
   replace h := iteT h hc
   refine ex_seq ?_
   refine ex_ord [] (l := [0]) rfl ?_
   refine pa 2 ?_
   refine we_nil ?_
   refine ex_ret ?_
   obtain rfl := Option.some.inj h
   exact finB (by first | exact .inr rfl | exact .inl rfl) (.refl _) [.bool false] [] [] (res_cons (res_tmp rfl) res_nil) rfl rfl rfl rfl rfl rfl rfl
  ·intro hc
   replace h := iteF h hc
   refine ex_skip ?_
   refine ex_seq ?_
   refine ex_seq ?_
   refine ex_ord [] (l := [0]) rfl ?_
   refine pa 4 ?_
   refine we_nil ?_
   refine ex_block ?_
   obtain ⟨o7, hl, h⟩ := bindS h
   refine ex_gst ⟨[Z, Z, Z, .own 0, .int .i64 0, Z, Z, Z, Z, Z, Z, Z, Z, Z, Z, Z, Z, Z, Z, Z, Z, Z, Z, Z, Z, Z, Z, Z], [], [some ⟨21, 1, List.map c_i32 v1⟩], 0⟩ (.re (rl [3, 2, 23]) [] [0] rfl (.refl _)) rfl ?_
   refine ex_iterX (fun o => match o with | .inl _ => .ret | .inr _ => .exit 0) (fun s => ⟨[Z, Z, Z, .own 0, .int .i64 s, Z, Z, Z, Z, Z, Z, Z, Z, Z, Z, Z, Z, Z, Z, Z, Z, Z, Z, Z, Z, Z, Z, Z], [], [some ⟨21, 1, List.map c_i32 v1⟩], 0⟩) (fun o => match o with | .inl o => ⟨[Z, Z, .bool false, Z, Z, Z, Z, Z, Z, Z, Z, Z, Z, Z, Z, Z, Z, Z, Z, Z, Z, Z, Z, Z, Z, Z, Z, Z], [], [], 0⟩ | .inr o => ⟨[Z, Z, Z, Z, Z, Z, Z, Z, Z, Z, Z, Z, Z, Z, Z, Z, Z, Z, Z, Z, Z, Z, Z, Z, Z, Z, Z, Z], [], [], 0⟩) hl rfl ?_ ?_
   ·clear hl
    rcases o7 with _ | _
    ·obtain rfl := Option.some.inj h
     exact finB (by first | exact .inr rfl | exact .inl rfl) (.refl _) [.bool false] [] [] (res_cons (res_tmp rfl) res_nil) rfl rfl rfl rfl rfl rfl rfl
    ·refine ex_seq ?_
     refine ex_ord [] (l := [0]) rfl ?_
     refine pa 2 ?_
     refine we_nil ?_
     refine ex_ret ?_
     obtain rfl := Option.some.inj h
     exact finB (by first | exact .inr rfl | exact .inl rfl) (.refl _) [.bool true] [] [] (res_cons (res_tmp rfl) res_nil) rfl rfl rfl rfl rfl rfl rfl
   ·clear hl h
    rintro n3 y h
    replace h : quillworkref03u_Value_l1 v1 n3 = some y := h
    unfold quillworkref03u_Value_l1 at h
    show Ex _ _ _ ⟨[Z, Z, Z, .own 0, .int .i64 n3, Z, Z, Z, Z, Z, Z, Z, Z, Z, Z, Z, Z, Z, Z, Z, Z, Z, Z, Z, Z, Z, Z, Z], [], [some ⟨21, 1, List.map c_i32 v1⟩], 0⟩ _
    refine ex_seq ?_
    refine ex_seq ?_
    refine ex_ord [] (l := [0, 1, 2, 3]) rfl ?_
    refine pm 16 ?_
    refine pm 17 ?_
    refine pq 18 rfl (x_len (f := c_i32) (l := v1) rfl rfl rfl el149) ?_
    refine pq 19 rfl (.bin rfl rfl rfl rfl) ?_
    refine we_nil ?_
    refine ex_if rfl ?_ ?_
    ·intro hc
     replace h := iteT h hc
     refine ex_skip ?_
     refine ex_seq ?_
     refine ex_block ?_
     refine ex_seq ?_
     refine ex_ord [] (l := [0, 1, 2, 3, 4, 5]) rfl ?_
     refine pm 22 ?_
     refine pm 23 ?_
     obtain ⟨v4, hv4, h⟩ := bindS h
     refine pq 24 rfl (x_idxO (f := c_i32) (l := v1) rfl rfl rfl rfl rfl el149 sz21 hv4 rfl) ?_
     obtain ⟨v5, hv5, h⟩ := bindS h
     refine pq 25 rfl (x_load rfl rfl (at_ex (f := c_i32) (xs := v1) (c := [.int .i32 v5]) rfl rfl (getI_some hv5).2 rfl (Nat.le_of_ble_eq_true rfl)) sz21 un21 ag21 rfl) ?_
     obtain ⟨v6, hv6, h⟩ := bindS h
     refine pq 26 rfl (x_callP rfl rfl en87 (ok_quillworkref01u_May hv6) rfl rfl rfl rfl rfl) ?_
     refine pq 27 rfl (.un rfl rfl rfl) ?_
     refine we_nil ?_
     refine ex_if rfl ?_ ?_
     ·intro hc
      replace h := iteT h hc
      refine ex_seq ?_
      refine ex_ord [] (l := [0]) rfl ?_
      refine pa 2 ?_
      refine we_nil ?_
      refine ex_ret ?_
      exact rnd_out (o := (.inl ())) rfl (fun h => by cases h) h (.re (rl [2, 1, 25]) [] [] rfl (.refl _)) rfl
     ·intro hc
      replace h := iteF h hc
      refine ex_skip ?_
      refine ex_ord [] (l := [0, 1, 2]) rfl ?_
      refine pm 20 ?_
      refine pq 21 rfl (.bin rfl rfl rfl rfl) ?_
      refine pa 4 ?_
      refine we_nil ?_
      exact rnd_on rfl h (.re (rl [3, 2, 23]) [] [0] rfl (.refl _)) rfl
    ·intro hc
     replace h := iteF h hc
     refine ex_exit ?_
     exact rnd_out (o := (.inr ())) rfl (fun h => by cases h) h (.re (rl [28]) [] [] rfl (.refl _)) rfl
theorem ok_chars_Class {r : Int} {p0 : Int} (h : chars_Class p0 = some r) : OkB prog 145 [.int .i32 p0] [] [] (.int .i64 r) [] [] := by
 unfold chars_Class at h
 refine okB_of_exG func145 rfl rfl (s0 := [.int .i32 p0, Z, Z, Z, Z, Z, Z, Z, Z, Z, Z, Z, Z, Z, Z, Z, Z, Z, Z, Z, Z, Z, Z, Z, Z, Z, Z, Z, Z, Z, Z, Z, Z, Z, Z, Z, Z, Z, Z, Z, Z, Z, Z, Z, Z]) (b0 := []) (r0 := []) rfl rfl rfl ?_
 show Ex _ _ _ ⟨[.int .i32 p0, Z, Z, Z, Z, Z, Z, Z, Z, Z, Z, Z, Z, Z, Z, Z, Z, Z, Z, Z, Z, Z, Z, Z, Z, Z, Z, Z, Z, Z, Z, Z, Z, Z, Z, Z, Z, Z, Z, Z, Z, Z, Z, Z, Z], [], [], 0⟩ _
 refine ex_seq ?_
 refine ex_ord [] (l := [0]) rfl ?_
 refine pa 2 ?_
 refine we_nil ?_
 refine ex_seq ?_
 refine ex_block ?_
 refine ex_seq ?_
 refine ex_block ?_
 refine ex_seq ?_
 refine ex_block ?_
 refine ex_block ?_
 refine ex_block ?_
 refine ex_seq ?_
 refine ex_block ?_
 refine ex_seq ?_
 refine ex_block ?_
 refine ex_seq ?_
 refine ex_block ?_
 refine ex_block ?_
 refine ex_seq ?_
 refine ex_block ?_
 refine ex_seq ?_
 refine ex_seq ?_
 refine ex_seq ?_
 refine ex_ord [] (l := [0, 1, 2, 3]) rfl ?_
 refine pm 4 ?_
 obtain ⟨v1, hv1, h⟩ := bindS h
 refine pq 5 rfl (x_callP rfl rfl en154 (ok_utf8u_ValidRune hv1) rfl rfl rfl rfl rfl) ?_
 refine pq 6 rfl (.un rfl rfl rfl) ?_
 refine pa 3 ?_
 refine we_nil ?_
 refine ex_if rfl ?_ ?_
 ·intro hc
  replace h := iteT h hc
  refine ex_exit ?_
  refine ex_seq ?_
  refine ex_seq ?_
  refine ex_ord [] (l := [0]) rfl ?_
  refine pa 2 ?_
  refine we_nil ?_
  refine ex_ret ?_
  obtain rfl := Option.some.inj h
  exact finB (by first | exact .inr rfl | exact .inl rfl) (.refl _) [.int .i64 0] [] [] (res_cons (res_tmp rfl) res_nil) rfl rfl rfl rfl rfl rfl rfl
 ·intro hc
  replace h := iteF h hc
  refine ex_skip ?_
  refine ex_seq ?_
  refine ex_seq ?_
  refine ex_ord [] (l := [0, 1, 2]) rfl ?_
  refine pm 8 ?_
  refine pq 9 rfl (.bin rfl rfl rfl rfl) ?_
  refine pa 7 ?_
  refine we_nil ?_
  refine ex_if rfl ?_ ?_
  ·intro hc
   replace h := iteT h hc
   refine ex_exit ?_
   refine ex_seq ?_
   refine ex_seq ?_
   refine ex_ord [] (l := [0]) rfl ?_
   refine pa 2 ?_
   refine we_nil ?_
   refine ex_ret ?_
   obtain rfl := Option.some.inj h
   exact finB (by first | exact .inr rfl | exact .inl rfl) (.refl _) [.int .i64 1] [] [] (res_cons (res_tmp rfl) res_nil) rfl rfl rfl rfl rfl rfl rfl
  ·intro hc
   replace h := iteF h hc
   refine ex_skip ?_
   refine ex_seq ?_
   refine ex_seq ?_
   refine ex_ord [] (l := [0, 1, 2]) rfl ?_
   refine pm 11 ?_
   refine pq 12 rfl (.bin rfl rfl rfl rfl) ?_
   refine pa 10 ?_
   refine we_nil ?_
   refine ex_if rfl ?_ ?_
   ·intro hc
    replace h := iteT h hc
    refine ex_exit ?_
    refine ex_seq ?_
    refine ex_seq ?_
    refine ex_ord [] (l := [0]) rfl ?_
    refine pa 2 ?_
    refine we_nil ?_
    refine ex_ret ?_
    obtain rfl := Option.some.inj h
    exact finB (by first | exact .inr rfl | exact .inl rfl) (.refl _) [.int .i64 1] [] [] (res_cons (res_tmp rfl) res_nil) rfl rfl rfl rfl rfl rfl rfl
   ·intro hc
    replace h := iteF h hc
    refine ex_skip ?_
    refine ex_seq ?_
    refine ex_seq ?_
    refine ex_seq ?_
    refine ex_ord [] (l := [0, 1, 2]) rfl ?_
    refine pm 14 ?_
    refine pq 15 rfl (.bin rfl rfl rfl rfl) ?_
    refine pa 13 ?_
    refine we_nil ?_
    obtain ⟨q2, hq, h⟩ := bindS h
    refine ex_cut ⟨[.int .i32 p0, Z, Z, Z, Z, Z, Z, Z, Z, Z, Z, Z, Z, .bool q2, Z, Z, Z, Z, Z, Z, Z, Z, Z, Z, Z, Z, Z, Z, Z, Z, Z, Z, Z, Z, Z, Z, Z, Z, Z, Z, Z, Z, Z, Z, Z], [], [], 0⟩ ?_ ?_
    ·clear h
     have h := hq
     clear hq
     refine ex_if rfl ?_ ?_
     ·intro hc
      replace h := iteT h hc
      refine ex_skip ?_
      cases h
      exact ⟨rfl, _, .re (rl [0, 1, 12, 1, 31]) [] [] rfl (.refl _), rfl⟩
     ·intro hc
      replace h := iteF h hc
      refine ex_ord [] (l := [0, 1, 2]) rfl ?_
      refine pm 16 ?_
      refine pq 17 rfl (.bin rfl rfl rfl rfl) ?_
      refine pa 13 ?_
      refine we_nil ?_
      cases h
      exact ⟨rfl, _, .re (rl [0, 1, 12, 1, 31]) [] [] rfl (.refl _), rfl⟩
    ·clear hq
     refine ex_if rfl ?_ ?_
     ·intro hc
      replace h := iteT h hc
      refine ex_exit ?_
      refine ex_seq ?_
      refine ex_seq ?_
      refine ex_ord [] (l := [0]) rfl ?_
      refine pa 2 ?_
      refine we_nil ?_
      refine ex_ret ?_
      obtain rfl := Option.some.inj h
      exact finB (by first | exact .inr rfl | exact .inl rfl) (.refl _) [.int .i64 2] [] [] (res_cons (res_tmp rfl) res_nil) rfl rfl rfl rfl rfl rfl rfl
     ·intro hc
      replace h := iteF h hc
      refine ex_skip ?_
      refine ex_seq ?_
      refine ex_seq ?_
      refine ex_ord [] (l := [0, 1, 2]) rfl ?_
      refine pm 19 ?_
      refine pq 20 rfl (.bin rfl rfl rfl rfl) ?_
      refine pa 18 ?_
      refine we_nil ?_
      refine ex_if rfl ?_ ?_
      ·intro hc
       replace h := iteT h hc
       refine ex_exit ?_
       refine ex_seq ?_
       refine ex_seq ?_
       refine ex_ord [] (l := [0]) rfl ?_
       refine pa 2 ?_
       refine we_nil ?_
       refine ex_ret ?_
       obtain rfl := Option.some.inj h
       exact finB (by first | exact .inr rfl | exact .inl rfl) (.refl _) [.int .i64 5] [] [] (res_cons (res_tmp rfl) res_nil) rfl rfl rfl rfl rfl rfl rfl
      ·intro hc
       replace h := iteF h hc
       refine ex_skip ?_
       refine ex_seq ?_
       refine ex_seq ?_
       obtain ⟨q3, hq, h⟩ := bindS h
       refine ex_cut ⟨[.int .i32 p0, Z, Z, Z, Z, Z, Z, Z, Z, Z, Z, Z, Z, Z, Z, Z, Z, Z, Z, Z, Z, .bool q3, Z, Z, Z, Z, Z, Z, Z, Z, Z, Z, Z, Z, Z, Z, Z, Z, Z, Z, Z, Z, Z, Z, Z], [], [], 0⟩ ?_ ?_
       ·clear h
        have h := hq
        clear hq
        refine ex_ord [] (l := [0, 1, 2, 3, 4, 5, 6]) rfl ?_
        refine pm 22 ?_
        refine pif 23 rfl rfl rfl rfl (.bin rfl rfl rfl rfl) ?_ ?_
        ·intro hc
         replace h := iteT h hc
         refine pm 24 ?_
         refine pm 25 ?_
         refine pq 26 rfl (.bin rfl rfl rfl rfl) ?_
         refine pq 27 rfl (x_pickT rfl rfl rfl rfl) ?_
         refine pa 21 ?_
         refine we_nil ?_
         cases h
         exact ⟨rfl, _, .re (rl [0, 1, 20, 1, 23]) [] [] rfl (.refl _), rfl⟩
        ·intro hc
         replace h := iteF h hc
         refine pm 24 ?_
         refine kq 25 ?_
         refine kq 26 ?_
         refine pq 27 rfl (x_pickF rfl rfl rfl rfl) ?_
         refine pa 21 ?_
         refine we_nil ?_
         cases h
         exact ⟨rfl, _, .re (rl [0, 1, 20, 1, 23]) [] [] rfl (.refl _), rfl⟩
       ·clear hq
        refine ex_if rfl ?_ ?_
        ·intro hc
         replace h := iteT h hc
         refine ex_exit ?_
         refine ex_seq ?_
         refine ex_seq ?_
         refine ex_ord [] (l := [0]) rfl ?_
         refine pa 2 ?_
         refine we_nil ?_
         refine ex_ret ?_
         obtain rfl := Option.some.inj h
         exact finB (by first | exact .inr rfl | exact .inl rfl) (.refl _) [.int .i64 3] [] [] (res_cons (res_tmp rfl) res_nil) rfl rfl rfl rfl rfl rfl rfl
        ·intro hc
         replace h := iteF h hc
         refine ex_skip ?_
         refine ex_seq ?_
         refine ex_seq ?_
         obtain ⟨q4, hq, h⟩ := bindS h
         refine ex_cut ⟨[.int .i32 p0, Z, Z, Z, Z, Z, Z, Z, Z, Z, Z, Z, Z, Z, Z, Z, Z, Z, Z, Z, Z, Z, Z, Z, Z, Z, Z, Z, .bool q4, Z, Z, Z, Z, Z, Z, Z, Z, Z, Z, Z, Z, Z, Z, Z, Z], [], [], 0⟩ ?_ ?_
         ·clear h
          have h := hq
          clear hq
          refine ex_ord [] (l := [0, 1, 2, 3, 4, 5, 6]) rfl ?_
          refine pm 29 ?_
          refine pif 30 rfl rfl rfl rfl (.bin rfl rfl rfl rfl) ?_ ?_
          ·intro hc
           replace h := iteT h hc
           refine pm 31 ?_
           refine pm 32 ?_
           refine pq 33 rfl (.bin rfl rfl rfl rfl) ?_
           refine pq 34 rfl (x_pickT rfl rfl rfl rfl) ?_
           refine pa 28 ?_
           refine we_nil ?_
           cases h
           exact ⟨rfl, _, .re (rl [0, 1, 27, 1, 16]) [] [] rfl (.refl _), rfl⟩
          ·intro hc
           replace h := iteF h hc
           refine pm 31 ?_
           refine kq 32 ?_
           refine kq 33 ?_
           refine pq 34 rfl (x_pickF rfl rfl rfl rfl) ?_
           refine pa 28 ?_
           refine we_nil ?_
           cases h
           exact ⟨rfl, _, .re (rl [0, 1, 27, 1, 16]) [] [] rfl (.refl _), rfl⟩
         ·clear hq
          refine ex_if rfl ?_ ?_
          ·intro hc
           replace h := iteT h hc
           refine ex_exit ?_
           refine ex_seq ?_
           refine ex_seq ?_
           refine ex_ord [] (l := [0]) rfl ?_
           refine pa 2 ?_
           refine we_nil ?_
           refine ex_ret ?_
           obtain rfl := Option.some.inj h
           exact finB (by first | exact .inr rfl | exact .inl rfl) (.refl _) [.int .i64 3] [] [] (res_cons (res_tmp rfl) res_nil) rfl rfl rfl rfl rfl rfl rfl
          ·intro hc
           replace h := iteF h hc
           refine ex_skip ?_
           refine ex_seq ?_
           refine ex_seq ?_
           refine ex_ord [] (l := [0, 1, 2]) rfl ?_
           refine pm 36 ?_
           refine pq 37 rfl (.bin rfl rfl rfl rfl) ?_
           refine pa 35 ?_
           refine we_nil ?_
           refine ex_if rfl ?_ ?_
           ·intro hc
            replace h := iteT h hc
            refine ex_exit ?_
            refine ex_seq ?_
            refine ex_seq ?_
            refine ex_ord [] (l := [0]) rfl ?_
            refine pa 2 ?_
            refine we_nil ?_
            refine ex_ret ?_
            obtain rfl := Option.some.inj h
            exact finB (by first | exact .inr rfl | exact .inl rfl) (.refl _) [.int .i64 3] [] [] (res_cons (res_tmp rfl) res_nil) rfl rfl rfl rfl rfl rfl rfl
           ·intro hc
            replace h := iteF h hc
            refine ex_skip ?_
            refine ex_seq ?_
            obtain ⟨q5, hq, h⟩ := bindS h
            refine ex_cut ⟨[Z, Z, Z, Z, Z, Z, Z, Z, Z, Z, Z, Z, Z, Z, Z, Z, Z, Z, Z, Z, Z, Z, Z, Z, Z, Z, Z, Z, Z, Z, Z, Z, Z, Z, Z, Z, Z, Z, .bool q5, Z, Z, Z, Z, Z, Z], [], [], 0⟩ ?_ ?_
            ·clear h
             have h := hq
             clear hq
             refine ex_ord [] (l := [0, 1, 2, 3, 4, 5, 6]) rfl ?_
             refine pm 39 ?_
             refine pif 40 rfl rfl rfl rfl (.bin rfl rfl rfl rfl) ?_ ?_
             ·intro hc
              replace h := iteT h hc
              refine pm 41 ?_
              refine pm 42 ?_
              refine pq 43 rfl (.bin rfl rfl rfl rfl) ?_
              refine pq 44 rfl (x_pickT rfl rfl rfl rfl) ?_
              refine pa 38 ?_
              refine we_nil ?_
              cases h
              exact ⟨rfl, _, .re (rl [38, 1, 6]) [] [] rfl (.refl _), rfl⟩
             ·intro hc
              replace h := iteF h hc
              refine pm 41 ?_
              refine kq 42 ?_
              refine kq 43 ?_
              refine pq 44 rfl (x_pickF rfl rfl rfl rfl) ?_
              refine pa 38 ?_
              refine we_nil ?_
              cases h
              exact ⟨rfl, _, .re (rl [38, 1, 6]) [] [] rfl (.refl _), rfl⟩
            ·clear hq
             refine ex_if rfl ?_ ?_
             ·intro hc
              replace h := iteT h hc
              refine ex_exit ?_
              refine ex_seq ?_
              refine ex_seq ?_
              refine ex_ord [] (l := [0]) rfl ?_
              refine pa 2 ?_
              refine we_nil ?_
              refine ex_ret ?_
              obtain rfl := Option.some.inj h
              exact finB (by first | exact .inr rfl | exact .inl rfl) (.refl _) [.int .i64 4] [] [] (res_cons (res_tmp rfl) res_nil) rfl rfl rfl rfl rfl rfl rfl
             ·intro hc
              replace h := iteF h hc
              refine ex_skip ?_
              refine ex_exit ?_
              refine ex_seq ?_
              refine ex_ord [] (l := [0]) rfl ?_
              refine pa 2 ?_
              refine we_nil ?_
              refine ex_ret ?_
              obtain rfl := Option.some.inj h
              exact finB (by first | exact .inr rfl | exact .inl rfl) (.refl _) [.int .i64 5] [] [] (res_cons (res_tmp rfl) res_nil) rfl rfl rfl rfl rfl rfl rfl
theorem ok_doc_Cmp {r : Int} {p0 : T_api_Pos} {p1 : T_api_Pos} (h : doc_Cmp p0 p1 = some r) : OkB prog 23 [.agg [.int .i64 p0.f_Line, .int .i64 p0.f_At], .agg [.int .i64 p1.f_Line, .int .i64 p1.f_At]] [] [] (.int .i64 r) [] [] := by
 unfold doc_Cmp at h
 refine okB_of_exG func23 rfl rfl (s0 := [.agg [.int .i64 p0.f_Line, .int .i64 p0.f_At], .agg [.int .i64 p1.f_Line, .int .i64 p1.f_At], Z, Z, Z, Z, Z, Z, Z, Z, Z, Z, Z, Z, Z, Z, Z]) (b0 := []) (r0 := []) rfl rfl rfl ?_
 show Ex _ _ _ ⟨[.agg [.int .i64 p0.f_Line, .int .i64 p0.f_At], .agg [.int .i64 p1.f_Line, .int .i64 p1.f_At], Z, Z, Z, Z, Z, Z, Z, Z, Z, Z, Z, Z, Z, Z, Z], [], [], 0⟩ _
 refine ex_seq ?_
 refine ex_ord [0, 1] (l := [0, 1, 2]) rfl ?_
 refine e_ (d := .bx 0 0) 2 rfl rfl rfl rfl rfl (b' := [some [.int .i64 p0.f_Line, .int .i64 p0.f_At]]) (r' := []) (.box rfl rfl rfl) rfl ?_
 refine e_ (d := .bx 1 0) 3 rfl rfl rfl rfl rfl (b' := [some [.int .i64 p0.f_Line, .int .i64 p0.f_At], some [.int .i64 p1.f_Line, .int .i64 p1.f_At]]) (r' := []) (.box rfl rfl rfl) rfl ?_
 refine pa 4 ?_
 refine we_nil ?_
 refine ex_seq ?_
 refine ex_gst ⟨[.agg [.int .i64 p0.f_Line, .int .i64 p0.f_At], .agg [.int .i64 p1.f_Line, .int .i64 p1.f_At], .cp [.int .i64 p0.f_Line, .int .i64 p0.f_At], .bx 1 0, .int .i64 0, Z, Z, Z, Z, Z, Z, Z, Z, Z, Z, Z, Z], [none, some [.int .i64 p1.f_Line, .int .i64 p1.f_At]], [], 0⟩ (.shutB (b := 0) rfl (fun d h => by simpa using List.all_eq_true.1 (rfl : List.all [.int .i64 p0.f_Line, .int .i64 p0.f_At] (fun d => !d.tok) = true) d h) (.refl _)) rfl ?_
 refine ex_gst ⟨[.agg [.int .i64 p0.f_Line, .int .i64 p0.f_At], .agg [.int .i64 p1.f_Line, .int .i64 p1.f_At], .cp [.int .i64 p0.f_Line, .int .i64 p0.f_At], .cp [.int .i64 p1.f_Line, .int .i64 p1.f_At], .int .i64 0, Z, Z, Z, Z, Z, Z, Z, Z, Z, Z, Z, Z], [none, none], [], 0⟩ (.shutB (b := 1) rfl (fun d h => by simpa using List.all_eq_true.1 (rfl : List.all [.int .i64 p1.f_Line, .int .i64 p1.f_At] (fun d => !d.tok) = true) d h) (.refl _)) rfl ?_
 refine ex_drw mo [10, 11, 1000, 1001, 1002, 1003, 1004, 1005, 1006, 1007, 1008, 1009, 3010, 3011] (by kernel_rfl) (l := [0, 1, 2, 3, 4, 5, 6, 7, 8, 9, 10, 11, 12]) rfl ?_
 refine n_ 5 rfl rfl rfl (fun _ _ => .fieldAddr rfl rfl rfl fl24u_0 rfl) ?_
 refine n_ 6 rfl rfl rfl (fun _ _ => x_load rfl rfl rfl sz3 un3 ag3 rfl) ?_
 refine n_ 7 rfl rfl rfl (fun _ _ => .fieldAddr rfl rfl rfl fl24u_0 rfl) ?_
 refine n_ 8 rfl rfl rfl (fun _ _ => x_load rfl rfl rfl sz3 un3 ag3 rfl) ?_
 obtain ⟨v1, hv1, h⟩ := bindS h
 refine n_ 9 rfl rfl rfl (fun _ _ => x_callP rfl rfl en65 (ok_cmp_Compare_int hv1) rfl rfl rfl rfl rfl) ?_
 refine n_ 10 rfl rfl rfl (fun _ _ => .fieldAddr rfl rfl rfl fl24u_1 rfl) ?_
 refine n_ 11 rfl rfl rfl (fun _ _ => x_load rfl rfl rfl sz3 un3 ag3 rfl) ?_
 refine n_ 12 rfl rfl rfl (fun _ _ => .fieldAddr rfl rfl rfl fl24u_1 rfl) ?_
 refine n_ 13 rfl rfl rfl (fun _ _ => x_load rfl rfl rfl sz3 un3 ag3 rfl) ?_
 obtain ⟨v2, hv2, h⟩ := bindS h
 refine n_ 14 rfl rfl rfl (fun _ _ => x_callP rfl rfl en65 (ok_cmp_Compare_int hv2) rfl rfl rfl rfl rfl) ?_
 refine e_ (d := .own 0) 15 rfl rfl rfl rfl rfl (b' := [none, none]) (r' := [some ⟨3, 1, List.map c_i64 [v1, v2]⟩]) (x_lit (f := c_i64) (l := [v1, v2]) rfl el53 rw3 zs3 rfl rfl rfl (by decide) (by decide) fl_i64 rfl) rfl ?_
 obtain ⟨v3, hv3, h⟩ := bindS h
 refine e_ (d := .int .i64 v3) 16 rfl rfl rfl rfl rfl (b' := [none, none]) (r' := [none]) (x_call [] [0] rfl rfl en64 (ok_cmp_Or_int hv3) rfl rfl rfl rfl rfl rfl rfl rfl rfl rfl rfl rfl rfl rfl) rfl ?_
 refine pa 4 ?_
 refine we_nil ?_
 refine ex_ret ?_
 obtain rfl := Option.some.inj h
 exact finB (by first | exact .inr rfl | exact .inl rfl) (.refl _) [.int .i64 v3] [] [] (res_cons (res_tmp rfl) res_nil) rfl rfl rfl rfl rfl rfl rfl
theorem ok_cells_Set {r : (List (T_api_Cell)) × Int} {p0 : List (T_api_Cell)} {p1 : Int} {p2 : Int} {p3 : Int} {p4 : Int} (h : cells_Set p0 p1 p2 p3 p4 = some r) : OkB prog 71 [.sl false (List.map c_api_Cell p0), .int .i64 p1, .int .i64 p2, .int .i64 p3, .int .i64 p4] [] [] (.tup [.own 0, .int .i64 r.2]) [] [⟨58, 3, List.map c_api_Cell r.1⟩] := by
 unfold cells_Set at h
 refine okB_of_exG func71 rfl rfl (s0 := [.sl false (List.map c_api_Cell p0), .int .i64 p1, .int .i64 p2, .int .i64 p3, .int .i64 p4, Z, Z, Z, Z, Z, Z, Z, Z, Z, Z, Z, Z, Z, Z]) (b0 := []) (r0 := []) rfl rfl rfl ?_
 show Ex _ _ _ ⟨[.sl false (List.map c_api_Cell p0), .int .i64 p1, .int .i64 p2, .int .i64 p3, .int .i64 p4, Z, Z, Z, Z, Z, Z, Z, Z, Z, Z, Z, Z, Z, Z], [], [], 0⟩ _
 refine ex_seq ?_
 refine ex_ord [0, 1, 2] (l := [0, 1, 2, 3]) rfl ?_
 refine e_ (d := .bx 0 0) 8 rfl rfl rfl rfl rfl (b' := [some [.int .i64 p3]]) (r' := []) (.box rfl rfl rfl) rfl ?_
 refine e_ (d := .bx 1 0) 9 rfl rfl rfl rfl rfl (b' := [some [.int .i64 p3], some [.int .i64 p4]]) (r' := []) (.box rfl rfl rfl) rfl ?_
 refine e_ (d := .own 0) 10 rfl rfl rfl rfl rfl (b' := [some [.int .i64 p3], some [.int .i64 p4]]) (r' := [some ⟨58, 3, []⟩]) (.nilRow (.inr rfl) rfl 58 3) rfl ?_
 refine pa 11 ?_
 refine we_nil ?_
 refine ex_seq ?_
 refine ex_gst ⟨[.sl false (List.map c_api_Cell p0), .int .i64 p1, .int .i64 p2, .int .i64 p3, .int .i64 p4, Z, Z, Z, .cp [.int .i64 p3], .bx 1 0, .own 0, .int .i64 0, Z, Z, Z, Z, Z, Z, Z], [none, some [.int .i64 p4]], [some ⟨58, 3, []⟩], 0⟩ (.shutB (b := 0) rfl (fun d h => by simpa using List.all_eq_true.1 (rfl : List.all [.int .i64 p3] (fun d => !d.tok) = true) d h) (.refl _)) rfl ?_
 refine ex_gst ⟨[.sl false (List.map c_api_Cell p0), .int .i64 p1, .int .i64 p2, .int .i64 p3, .int .i64 p4, Z, Z, Z, .cp [.int .i64 p3], .cp [.int .i64 p4], .own 0, .int .i64 0, Z, Z, Z, Z, Z, Z, Z], [none, none], [some ⟨58, 3, []⟩], 0⟩ (.shutB (b := 1) rfl (fun d h => by simpa using List.all_eq_true.1 (rfl : List.all [.int .i64 p4] (fun d => !d.tok) = true) d h) (.refl _)) rfl ?_
 refine ex_ord [4] (l := [0, 1, 2, 3, 4, 5, 6, 7, 8]) rfl ?_
 refine pm 12 ?_
 refine pm 13 ?_
 refine pm 14 ?_
 refine pq 15 rfl (.func rfl rfl rfl) ?_
 obtain ⟨v1, hv1, h⟩ := bindS h
 refine e_ (d := .tup [.own 1, .int .i64 v1.2]) 16 rfl rfl rfl rfl rfl (b' := [none, none]) (r' := [some ⟨58, 3, []⟩, some ⟨58, 3, List.map c_api_Cell v1.1⟩]) (x_call [] [] rfl rfl en107 (ok_cells_each ⟨en108, rfl, rfl⟩ (fun _ _ h => ok_cells_Set_1 h) hv1) rfl rfl rfl rfl rfl rfl rfl rfl rfl rfl rfl rfl rfl rfl) rfl ?_
 refine pq 17 rfl (.extract rfl rfl rfl rfl) ?_
 refine pq 18 rfl (.extract rfl rfl rfl rfl) ?_
 refine pa 10 ?_
 refine pa 11 ?_
 refine we_nil ?_
 refine ex_ret ?_
 obtain rfl := Option.some.inj h
 exact finB (by first | exact .inr rfl | exact .inl rfl) (.refl _) [.own 1, .int .i64 v1.2] [1] [] (res_cons (res_tmp rfl) (res_cons (res_tmp rfl) res_nil)) rfl rfl rfl rfl rfl rfl rfl
theorem ok_lines_Same {r : Bool} {p0 : T_api_Line} {p1 : T_api_Line} (h : lines_Same p0 p1 = some r) : OkB prog 89 [.agg [.int .i64 p0.f_Quote, .sl false (List.map c_i64 p0.f_Lists), .int .i64 p0.f_Kind, .sl false (List.map c_api_Cell p0.f_Cells)], .agg [.int .i64 p1.f_Quote, .sl false (List.map c_i64 p1.f_Lists), .int .i64 p1.f_Kind, .sl false (List.map c_api_Cell p1.f_Cells)]] [] [] (.bool r) [] [] := by
 unfold lines_Same at h
 refine okB_of_exG func89 rfl rfl (s0 := [.agg [.int .i64 p0.f_Quote, .sl false (List.map c_i64 p0.f_Lists), .int .i64 p0.f_Kind, .sl false (List.map c_api_Cell p0.f_Cells)], .agg [.int .i64 p1.f_Quote, .sl false (List.map c_i64 p1.f_Lists), .int .i64 p1.f_Kind, .sl false (List.map c_api_Cell p1.f_Cells)], Z, Z, Z, Z, Z, Z, Z, Z, Z, Z, Z, Z, Z, Z, Z, Z, Z, Z, Z, Z, Z, Z, Z, Z, Z, Z, Z, Z, Z]) (b0 := []) (r0 := []) rfl rfl rfl ?_
 show Ex _ _ _ ⟨[.agg [.int .i64 p0.f_Quote, .sl false (List.map c_i64 p0.f_Lists), .int .i64 p0.f_Kind, .sl false (List.map c_api_Cell p0.f_Cells)], .agg [.int .i64 p1.f_Quote, .sl false (List.map c_i64 p1.f_Lists), .int .i64 p1.f_Kind, .sl false (List.map c_api_Cell p1.f_Cells)], Z, Z, Z, Z, Z, Z, Z, Z, Z, Z, Z, Z, Z, Z, Z, Z, Z, Z, Z, Z, Z, Z, Z, Z, Z, Z, Z, Z, Z], [], [], 0⟩ _
 refine ex_seq ?_
 refine ex_ord [0, 1] (l := [0, 1, 2]) rfl ?_
 refine e_ (d := .bx 0 0) 2 rfl rfl rfl rfl rfl (b' := [some [.int .i64 p0.f_Quote, .sl false (List.map c_i64 p0.f_Lists), .int .i64 p0.f_Kind, .sl false (List.map c_api_Cell p0.f_Cells)]]) (r' := []) (.box rfl rfl rfl) rfl ?_
 refine e_ (d := .bx 1 0) 3 rfl rfl rfl rfl rfl (b' := [some [.int .i64 p0.f_Quote, .sl false (List.map c_i64 p0.f_Lists), .int .i64 p0.f_Kind, .sl false (List.map c_api_Cell p0.f_Cells)], some [.int .i64 p1.f_Quote, .sl false (List.map c_i64 p1.f_Lists), .int .i64 p1.f_Kind, .sl false (List.map c_api_Cell p1.f_Cells)]]) (r' := []) (.box rfl rfl rfl) rfl ?_
 refine pa 4 ?_
 refine we_nil ?_
 refine ex_seq ?_
 refine ex_gst ⟨[.agg [.int .i64 p0.f_Quote, .sl false (List.map c_i64 p0.f_Lists), .int .i64 p0.f_Kind, .sl false (List.map c_api_Cell p0.f_Cells)], .agg [.int .i64 p1.f_Quote, .sl false (List.map c_i64 p1.f_Lists), .int .i64 p1.f_Kind, .sl false (List.map c_api_Cell p1.f_Cells)], .cp [.int .i64 p0.f_Quote, .sl false (List.map c_i64 p0.f_Lists), .int .i64 p0.f_Kind, .sl false (List.map c_api_Cell p0.f_Cells)], .bx 1 0, .bool false, Z, Z, Z, Z, Z, Z, Z, Z, Z, Z, Z, Z, Z, Z, Z, Z, Z, Z, Z, Z, Z, Z, Z, Z, Z, Z], [none, some [.int .i64 p1.f_Quote, .sl false (List.map c_i64 p1.f_Lists), .int .i64 p1.f_Kind, .sl false (List.map c_api_Cell p1.f_Cells)]], [], 0⟩ (.shutB (b := 0) rfl (fun d h => by simpa using List.all_eq_true.1 (rfl : List.all [.int .i64 p0.f_Quote, .sl false (List.map c_i64 p0.f_Lists), .int .i64 p0.f_Kind, .sl false (List.map c_api_Cell p0.f_Cells)] (fun d => !d.tok) = true) d h) (.refl _)) rfl ?_
 refine ex_gst ⟨[.agg [.int .i64 p0.f_Quote, .sl false (List.map c_i64 p0.f_Lists), .int .i64 p0.f_Kind, .sl false (List.map c_api_Cell p0.f_Cells)], .agg [.int .i64 p1.f_Quote, .sl false (List.map c_i64 p1.f_Lists), .int .i64 p1.f_Kind, .sl false (List.map c_api_Cell p1.f_Cells)], .cp [.int .i64 p0.f_Quote, .sl false (List.map c_i64 p0.f_Lists), .int .i64 p0.f_Kind, .sl false (List.map c_api_Cell p0.f_Cells)], .cp [.int .i64 p1.f_Quote, .sl false (List.map c_i64 p1.f_Lists), .int .i64 p1.f_Kind, .sl false (List.map c_api_Cell p1.f_Cells)], .bool false, Z, Z, Z, Z, Z, Z, Z, Z, Z, Z, Z, Z, Z, Z, Z, Z, Z, Z, Z, Z, Z, Z, Z, Z, Z, Z], [none, none], [], 0⟩ (.shutB (b := 1) rfl (fun d h => by simpa using List.all_eq_true.1 (rfl : List.all [.int .i64 p1.f_Quote, .sl false (List.map c_i64 p1.f_Lists), .int .i64 p1.f_Kind, .sl false (List.map c_api_Cell p1.f_Cells)] (fun d => !d.tok) = true) d h) (.refl _)) rfl ?_
 obtain ⟨q1, hq, h⟩ := bindS h
 refine ex_cut ⟨[Z, Z, Z, Z, .bool q1, Z, Z, Z, Z, Z, Z, Z, Z, Z, Z, Z, Z, Z, Z, Z, Z, Z, Z, Z, Z, Z, Z, Z, Z, Z, Z], [], [], 0⟩ ?_ ?_
 ·clear h
  have h := hq
  clear hq
  refine ex_ord [] (l := [0, 1, 2, 3, 4, 5, 6, 7, 8, 9, 10, 11, 12, 13, 14, 15, 16, 17, 18, 19, 20, 21, 22, 23, 24, 25, 26]) rfl ?_
  refine pq 5 rfl (.fieldAddr rfl rfl rfl fl55u_0 rfl) ?_
  refine pq 6 rfl (x_load rfl rfl rfl sz3 un3 ag3 rfl) ?_
  refine pq 7 rfl (.fieldAddr rfl rfl rfl fl55u_0 rfl) ?_
  refine pq 8 rfl (x_load rfl rfl rfl sz3 un3 ag3 rfl) ?_
  refine pif 9 rfl rfl rfl rfl (.bin rfl rfl rfl rfl) ?_ ?_
  ·intro hc
   replace h := iteT h hc
   refine pm 10 ?_
   refine pq 11 rfl (.fieldAddr rfl rfl rfl fl55u_2 rfl) ?_
   refine pq 12 rfl (x_load rfl rfl rfl sz3 un3 ag3 rfl) ?_
   refine pq 13 rfl (.fieldAddr rfl rfl rfl fl55u_2 rfl) ?_
   refine pq 14 rfl (x_load rfl rfl rfl sz3 un3 ag3 rfl) ?_
   refine pif 15 rfl rfl rfl rfl (.bin rfl rfl rfl rfl) ?_ ?_
   ·intro hc
    replace h := iteT h hc
    refine pq 16 rfl (x_pickT rfl rfl rfl rfl) ?_
    refine pm 17 ?_
    refine pq 18 rfl (.fieldAddr rfl rfl rfl fl55u_1 rfl) ?_
    refine pq 19 rfl (x_load rfl rfl rfl sz53 un53 ag53 rfl) ?_
    refine pq 20 rfl (.fieldAddr rfl rfl rfl fl55u_1 rfl) ?_
    refine pq 21 rfl (x_load rfl rfl rfl sz53 un53 ag53 rfl) ?_
    obtain ⟨v2, hv2, h⟩ := bindS h
    refine pif 22 rfl rfl rfl rfl (x_callP rfl rfl en118 (ok_slices_Equal_int hv2) rfl rfl rfl rfl rfl) ?_ ?_
    ·intro hc
     replace h := iteT h hc
     refine pq 23 rfl (x_pickT rfl rfl rfl rfl) ?_
     refine pm 24 ?_
     refine pq 25 rfl (.fieldAddr rfl rfl rfl fl55u_3 rfl) ?_
     refine pq 26 rfl (x_load rfl rfl rfl sz46 un46 ag46 rfl) ?_
     refine pq 27 rfl (.fieldAddr rfl rfl rfl fl55u_3 rfl) ?_
     refine pq 28 rfl (x_load rfl rfl rfl sz46 un46 ag46 rfl) ?_
     obtain ⟨v3, hv3, h⟩ := bindS h
     refine pq 29 rfl (x_callP rfl rfl en119 (ok_cells_Same hv3) rfl rfl rfl rfl rfl) ?_
     refine pq 30 rfl (x_pickT rfl rfl rfl rfl) ?_
     refine pa 4 ?_
     refine we_nil ?_
     cases h
     exact ⟨rfl, _, .re (rl [4, 1, 26]) [] [] rfl (.refl _), rfl⟩
    ·intro hc
     replace h := iteF h hc
     refine pq 23 rfl (x_pickT rfl rfl rfl rfl) ?_
     refine pm 24 ?_
     refine kq 25 ?_
     refine kq 26 ?_
     refine kq 27 ?_
     refine kq 28 ?_
     refine kq 29 ?_
     refine pq 30 rfl (x_pickF rfl rfl rfl rfl) ?_
     refine pa 4 ?_
     refine we_nil ?_
     cases h
     exact ⟨rfl, _, .re (rl [4, 1, 26]) [] [] rfl (.refl _), rfl⟩
   ·intro hc
    replace h := iteF h hc
    refine pq 16 rfl (x_pickT rfl rfl rfl rfl) ?_
    refine pm 17 ?_
    refine kq 18 ?_
    refine kq 19 ?_
    refine kq 20 ?_
    refine kq 21 ?_
    refine kq 22 ?_
    refine pq 23 rfl (x_pickF rfl rfl rfl rfl) ?_
    refine pm 24 ?_
    refine kq 25 ?_
    refine kq 26 ?_
    refine kq 27 ?_
    refine kq 28 ?_
    refine kq 29 ?_
    refine pq 30 rfl (x_pickF rfl rfl rfl rfl) ?_
    refine pa 4 ?_
    refine we_nil ?_
    cases h
    exact ⟨rfl, _, .re (rl [4, 1, 26]) [] [] rfl (.refl _), rfl⟩
  ·intro hc
   replace h := iteF h hc
   refine pm 10 ?_
   refine kq 11 ?_
   refine kq 12 ?_
   refine kq 13 ?_
   refine kq 14 ?_
   refine kq 15 ?_
   refine pq 16 rfl (x_pickF rfl rfl rfl rfl) ?_
   refine pm 17 ?_
   refine kq 18 ?_
   refine kq 19 ?_
   refine kq 20 ?_
   refine kq 21 ?_
   refine kq 22 ?_
   refine pq 23 rfl (x_pickF rfl rfl rfl rfl) ?_
   refine pm 24 ?_
   refine kq 25 ?_
   refine kq 26 ?_
   refine kq 27 ?_
   refine kq 28 ?_
   refine kq 29 ?_
   refine pq 30 rfl (x_pickF rfl rfl rfl rfl) ?_
   refine pa 4 ?_
   refine we_nil ?_
   cases h
   exact ⟨rfl, _, .re (rl [4, 1, 26]) [] [] rfl (.refl _), rfl⟩
 ·clear hq
  refine ex_ret ?_
  obtain rfl := Option.some.inj h
  exact finB (by first | exact .inr rfl | exact .inl rfl) (.refl _) [.bool q1] [] [] (res_cons (res_tmp rfl) res_nil) rfl rfl rfl rfl rfl rfl rfl
theorem ok_quillworkref03u_Target {r : Bool} {p0 : List UInt8} (h : quillworkref03u_Target p0 = some r) : OkB prog 116 [.str (bs p0)] [] [] (.bool r) [] [] := by
 unfold quillworkref03u_Target at h
 refine okB_of_exG func116 rfl rfl (s0 := [.str (bs p0), Z, Z, Z, Z, Z, Z, Z, Z, Z, Z, Z, Z, Z, Z, Z, Z, Z, Z, Z, Z, Z, Z, Z, Z, Z, Z, Z, Z, Z, Z, Z, Z, Z, Z, Z, Z, Z, Z, Z, Z, Z, Z, Z, Z, Z, Z, Z, Z, Z, Z, Z, Z, Z, Z, Z, Z, Z, Z, Z, Z, Z, Z, Z]) (b0 := []) (r0 := []) rfl rfl rfl ?_
 show Ex _ _ _ ⟨[.str (bs p0), Z, Z, Z, Z, Z, Z, Z, Z, Z, Z, Z, Z, Z, Z, Z, Z, Z, Z, Z, Z, Z, Z, Z, Z, Z, Z, Z, Z, Z, Z, Z, Z, Z, Z, Z, Z, Z, Z, Z, Z, Z, Z, Z, Z, Z, Z, Z, Z, Z, Z, Z, Z, Z, Z, Z, Z, Z, Z, Z, Z, Z, Z, Z], [], [], 0⟩ _
 refine ex_seq ?_
 refine ex_ord [] (l := [0]) rfl ?_
 refine pa 2 ?_
 refine we_nil ?_
 refine ex_seq ?_
 refine ex_seq ?_
 obtain ⟨q1, hq, h⟩ := bindS h
 refine ex_cut ⟨[.str (bs p0), Z, Z, Z, Z, Z, Z, Z, Z, Z, Z, Z, Z, Z, Z, Z, Z, Z, Z, Z, Z, Z, Z, Z, Z, Z, .bool q1, Z, Z, Z, Z, Z, Z, Z, Z, Z, Z, Z, Z, Z, Z, Z, Z, Z, Z, Z, Z, Z, Z, Z, Z, Z, Z, Z, Z, Z, Z, Z, Z, Z, Z, Z, Z, Z], [], [], 0⟩ ?_ ?_
 ·clear h
  have h := hq
  clear hq
  refine ex_ord [] (l := [0, 1, 2, 3, 4, 5, 6, 7, 8, 9, 10, 11, 12, 13, 14, 15, 16, 17, 18, 19]) rfl ?_
  refine pm 7 ?_
  obtain ⟨v2, hv2, h⟩ := bindS h
  refine pif 8 rfl rfl rfl rfl (x_callP rfl rfl en141 (ok_quillworkref03u_Value hv2) rfl rfl rfl rfl rfl) ?_ ?_
  ·intro hc
   replace h := iteT h hc
   refine pq 9 rfl (.un rfl rfl rfl) ?_
   refine pm 10 ?_
   refine pm 11 ?_
   refine pif 12 rfl rfl rfl rfl (x_eqS rfl rfl rfl) ?_ ?_
   ·intro hc
    replace h := iteT h hc
    refine pq 13 rfl (x_pickF rfl rfl rfl rfl) ?_
    refine pm 14 ?_
    refine kq 15 ?_
    refine kq 16 ?_
    refine kq 17 ?_
    refine pq 18 rfl (x_pickT rfl rfl rfl rfl) ?_
    refine pm 19 ?_
    refine kq 20 ?_
    refine kq 21 ?_
    refine kq 22 ?_
    refine kq 23 ?_
    refine kq 24 ?_
    refine kq 25 ?_
    refine pq 26 rfl (x_pickT rfl rfl rfl rfl) ?_
    refine we_nil ?_
    cases h
    exact ⟨rfl, _, .re (rl [0, 1, 25, 1, 37]) [] [] rfl (.refl _), rfl⟩
   ·intro hc
    replace h := iteF h hc
    refine pq 13 rfl (x_pickF rfl rfl rfl rfl) ?_
    refine pm 14 ?_
    refine pm 15 ?_
    obtain ⟨v3, hv3, h⟩ := bindS h
    refine pq 16 rfl (x_idxS rfl rfl rfl us9 hv3) ?_
    refine pif 17 rfl rfl rfl rfl (.bin rfl rfl rfl rfl) ?_ ?_
    ·intro hc
     replace h := iteT h hc
     refine pq 18 rfl (x_pickF rfl rfl rfl rfl) ?_
     refine pm 19 ?_
     refine kq 20 ?_
     refine kq 21 ?_
     refine kq 22 ?_
     refine kq 23 ?_
     refine kq 24 ?_
     refine kq 25 ?_
     refine pq 26 rfl (x_pickT rfl rfl rfl rfl) ?_
     refine we_nil ?_
     cases h
     exact ⟨rfl, _, .re (rl [0, 1, 25, 1, 37]) [] [] rfl (.refl _), rfl⟩
    ·intro hc
     replace h := iteF h hc
     refine pq 18 rfl (x_pickF rfl rfl rfl rfl) ?_
     refine pm 19 ?_
     refine pm 20 ?_
     refine pm 21 ?_
     refine pq 22 rfl (x_lenS rfl rfl us9) ?_
     refine pq 23 rfl (.bin rfl rfl rfl rfl) ?_
     obtain ⟨v4, hv4, h⟩ := bindS h
     refine pq 24 rfl (x_idxS rfl rfl rfl us9 hv4) ?_
     refine pq 25 rfl (.bin rfl rfl rfl rfl) ?_
     refine pq 26 rfl (x_pickF rfl rfl rfl rfl) ?_
     refine we_nil ?_
     cases h
     exact ⟨rfl, _, .re (rl [0, 1, 25, 1, 37]) [] [] rfl (.refl _), rfl⟩
  ·intro hc
   replace h := iteF h hc
   refine pq 9 rfl (.un rfl rfl rfl) ?_
   refine pm 10 ?_
   refine kq 11 ?_
   refine kq 12 ?_
   refine pq 13 rfl (x_pickT rfl rfl rfl rfl) ?_
   refine pm 14 ?_
   refine kq 15 ?_
   refine kq 16 ?_
   refine kq 17 ?_
   refine pq 18 rfl (x_pickT rfl rfl rfl rfl) ?_
   refine pm 19 ?_
   refine kq 20 ?_
   refine kq 21 ?_
   refine kq 22 ?_
   refine kq 23 ?_
   refine kq 24 ?_
   refine kq 25 ?_
   refine pq 26 rfl (x_pickT rfl rfl rfl rfl) ?_
   refine we_nil ?_
   cases h
   exact ⟨rfl, _, .re (rl [0, 1, 25, 1, 37]) [] [] rfl (.refl _), rfl⟩
 ·clear hq
  refine ex_if rfl ?_ ?_
  ·intro hc
   replace h := iteT h hc
   refine ex_seq ?_
   refine ex_ord [] (l := [0]) rfl ?_
   refine pa 2 ?_
   refine we_nil ?_
   refine ex_ret ?_
   obtain rfl := Option.some.inj h
   exact finB (by first | exact .inr rfl | exact .inl rfl) (.refl _) [.bool false] [] [] (res_cons (res_tmp rfl) res_nil) rfl rfl rfl rfl rfl rfl rfl
  ·intro hc
   replace h := iteF h hc
   refine ex_skip ?_
   refine ex_seq ?_
   refine ex_ord [] (l := [0]) rfl ?_
   refine pa 3 ?_
   refine we_nil ?_
   refine ex_seq ?_
   refine ex_ord [] (l := [0]) rfl ?_
   refine pa 4 ?_
   refine we_nil ?_
   refine ex_seq ?_
   refine ex_block ?_
   obtain ⟨k6, hl, h⟩ := bindS h
   refine ex_gst ⟨[.str (bs p0), Z, Z, .str (bs ([106, 97, 118, 97, 115, 99, 114, 105, 112, 116] : List UInt8)), .int .i64 0, Z, Z, Z, Z, Z, Z, Z, Z, Z, Z, Z, Z, Z, Z, Z, Z, Z, Z, Z, Z, Z, Z, Z, Z, Z, Z, Z, Z, Z, Z, Z, Z, Z, Z, Z, Z, Z, Z, Z, Z, Z, Z, Z, Z, Z, Z, Z, Z, Z, Z, Z, Z, Z, Z, Z, Z, Z, Z, Z], [], [], 0⟩ (.re (rl [0, 1, 2, 2, 59]) [] [] rfl (.refl _)) rfl ?_
   refine ex_iterX (fun _ => .exit 0) (fun s => ⟨[.str (bs p0), Z, Z, .str (bs ([106, 97, 118, 97, 115, 99, 114, 105, 112, 116] : List UInt8)), .int .i64 s, Z, Z, Z, Z, Z, Z, Z, Z, Z, Z, Z, Z, Z, Z, Z, Z, Z, Z, Z, Z, Z, Z, Z, Z, Z, Z, Z, Z, Z, Z, Z, Z, Z, Z, Z, Z, Z, Z, Z, Z, Z, Z, Z, Z, Z, Z, Z, Z, Z, Z, Z, Z, Z, Z, Z, Z, Z, Z, Z], [], [], 0⟩) (fun o => ⟨[.str (bs p0), Z, Z, .str (bs ([106, 97, 118, 97, 115, 99, 114, 105, 112, 116] : List UInt8)), .int .i64 o, Z, Z, Z, Z, Z, Z, Z, Z, Z, Z, Z, Z, Z, Z, Z, Z, Z, Z, Z, Z, Z, Z, Z, Z, Z, Z, Z, Z, Z, Z, Z, Z, Z, Z, Z, Z, Z, Z, Z, Z, Z, Z, Z, Z, Z, Z, Z, Z, Z, Z, Z, Z, Z, Z, Z, Z, Z, Z, Z], [], [], 0⟩) hl rfl ?_ ?_
   ·clear hl
    refine ex_seq ?_
    refine ex_seq ?_
    refine ex_ord [] (l := [0, 1, 2, 3]) rfl ?_
    refine pm 39 ?_
    refine pm 40 ?_
    refine pq 41 rfl (x_lenS rfl rfl us9) ?_
    refine pq 42 rfl (.bin rfl rfl rfl rfl) ?_
    refine we_nil ?_
    refine ex_if rfl ?_ ?_
    ·intro hc
     replace h := iteT h hc
     refine ex_seq ?_
     refine ex_ord [] (l := [0]) rfl ?_
     refine pa 2 ?_
     refine we_nil ?_
     refine ex_ret ?_
     obtain rfl := Option.some.inj h
     exact finB (by first | exact .inr rfl | exact .inl rfl) (.refl _) [.bool true] [] [] (res_cons (res_tmp rfl) res_nil) rfl rfl rfl rfl rfl rfl rfl
    ·intro hc
     replace h := iteF h hc
     refine ex_skip ?_
     refine ex_seq ?_
     refine ex_seq ?_
     refine ex_ord [] (l := [0]) rfl ?_
     refine pa 5 ?_
     refine we_nil ?_
     refine ex_block ?_
     obtain ⟨o15, hl, h⟩ := bindS h
     refine ex_gst ⟨[.str (bs p0), Z, Z, .str (bs ([106, 97, 118, 97, 115, 99, 114, 105, 112, 116] : List UInt8)), .int .i64 k6, .int .i64 0, Z, Z, Z, Z, Z, Z, Z, Z, Z, Z, Z, Z, Z, Z, Z, Z, Z, Z, Z, Z, Z, Z, Z, Z, Z, Z, Z, Z, Z, Z, Z, Z, Z, Z, Z, Z, Z, Z, Z, Z, Z, Z, Z, Z, Z, Z, Z, Z, Z, Z, Z, Z, Z, Z, Z, Z, Z, Z], [], [], 0⟩ (.re (rl [0, 1, 2, 3, 58]) [] [] rfl (.refl _)) rfl ?_
     refine ex_iterX (fun o => match o with | .inl _ => .ret | .inr _ => .exit 2) (fun s => ⟨[.str (bs p0), Z, Z, .str (bs ([106, 97, 118, 97, 115, 99, 114, 105, 112, 116] : List UInt8)), .int .i64 k6, .int .i64 s, Z, Z, Z, Z, Z, Z, Z, Z, Z, Z, Z, Z, Z, Z, Z, Z, Z, Z, Z, Z, Z, Z, Z, Z, Z, Z, Z, Z, Z, Z, Z, Z, Z, Z, Z, Z, Z, Z, Z, Z, Z, Z, Z, Z, Z, Z, Z, Z, Z, Z, Z, Z, Z, Z, Z, Z, Z, Z], [], [], 0⟩) (fun o => match o with | .inl o => ⟨[Z, Z, .bool true, Z, Z, Z, Z, Z, Z, Z, Z, Z, Z, Z, Z, Z, Z, Z, Z, Z, Z, Z, Z, Z, Z, Z, Z, Z, Z, Z, Z, Z, Z, Z, Z, Z, Z, Z, Z, Z, Z, Z, Z, Z, Z, Z, Z, Z, Z, Z, Z, Z, Z, Z, Z, Z, Z, Z, Z, Z, Z, Z, Z, Z], [], [], 0⟩ | .inr o => ⟨[Z, Z, Z, Z, Z, Z, Z, Z, Z, Z, Z, Z, Z, Z, Z, Z, Z, Z, Z, Z, Z, Z, Z, Z, Z, Z, Z, Z, Z, Z, Z, Z, Z, Z, Z, Z, Z, Z, Z, Z, Z, Z, Z, Z, Z, Z, Z, Z, Z, Z, Z, Z, Z, Z, Z, Z, Z, Z, Z, Z, Z, Z, Z, Z], [], [], 0⟩) hl rfl ?_ ?_
     ·clear hl
      rcases o15 with _ | _
      ·obtain rfl := Option.some.inj h
       exact finB (by first | exact .inr rfl | exact .inl rfl) (.refl _) [.bool true] [] [] (res_cons (res_tmp rfl) res_nil) rfl rfl rfl rfl rfl rfl rfl
      ·refine ex_seq ?_
       refine ex_ord [] (l := [0]) rfl ?_
       refine pa 2 ?_
       refine we_nil ?_
       refine ex_ret ?_
       obtain rfl := Option.some.inj h
       exact finB (by first | exact .inr rfl | exact .inl rfl) (.refl _) [.bool false] [] [] (res_cons (res_tmp rfl) res_nil) rfl rfl rfl rfl rfl rfl rfl
     ·clear hl h
      rintro n10 y h
      replace h : quillworkref03u_Target_l2 p0 k6 n10 = some y := h
      unfold quillworkref03u_Target_l2 at h
      show Ex _ _ _ ⟨[.str (bs p0), Z, Z, .str (bs ([106, 97, 118, 97, 115, 99, 114, 105, 112, 116] : List UInt8)), .int .i64 k6, .int .i64 n10, Z, Z, Z, Z, Z, Z, Z, Z, Z, Z, Z, Z, Z, Z, Z, Z, Z, Z, Z, Z, Z, Z, Z, Z, Z, Z, Z, Z, Z, Z, Z, Z, Z, Z, Z, Z, Z, Z, Z, Z, Z, Z, Z, Z, Z, Z, Z, Z, Z, Z, Z, Z, Z, Z, Z, Z, Z, Z], [], [], 0⟩ _
      refine ex_seq ?_
      refine ex_seq ?_
      refine ex_ord [] (l := [0, 1, 2]) rfl ?_
      refine pm 43 ?_
      refine pm 44 ?_
      refine pq 45 rfl (.bin rfl rfl rfl rfl) ?_
      refine we_nil ?_
      refine ex_if rfl ?_ ?_
      ·intro hc
       replace h := iteT h hc
       refine ex_skip ?_
       refine ex_seq ?_
       refine ex_block ?_
       refine ex_seq ?_
       refine ex_ord [] (l := [0, 1, 2, 3]) rfl ?_
       refine pm 48 ?_
       refine pm 49 ?_
       obtain ⟨v11, hv11, h⟩ := bindS h
       refine pq 50 rfl (x_idxS rfl rfl rfl us9 hv11) ?_
       refine pa 6 ?_
       refine we_nil ?_
       refine ex_seq ?_
       refine ex_seq ?_
       obtain ⟨q12, hq, h⟩ := bindS h
       refine ex_cut ⟨[.str (bs p0), Z, Z, .str (bs ([106, 97, 118, 97, 115, 99, 114, 105, 112, 116] : List UInt8)), .int .i64 k6, .int .i64 n10, .int .u8 (v11.toNat : Int), Z, Z, Z, Z, Z, Z, Z, Z, Z, Z, Z, Z, Z, Z, Z, Z, Z, Z, Z, Z, Z, Z, Z, Z, Z, Z, Z, Z, Z, Z, Z, Z, Z, Z, Z, Z, Z, Z, Z, Z, Z, Z, Z, Z, Z, Z, Z, Z, Z, .bool q12, Z, Z, Z, Z, Z, Z, Z], [], [], 0⟩ ?_ ?_
       ·clear h
        have h := hq
        clear hq
        refine ex_ord [] (l := [0, 1, 2, 3, 4, 5]) rfl ?_
        refine pm 51 ?_
        refine pif 52 rfl rfl rfl rfl (.bin rfl rfl rfl rfl) ?_ ?_
        ·intro hc
         replace h := iteT h hc
         refine pm 53 ?_
         refine pm 54 ?_
         refine pq 55 rfl (.bin rfl rfl rfl rfl) ?_
         refine pq 56 rfl (x_pickT rfl rfl rfl rfl) ?_
         refine we_nil ?_
         cases h
         exact ⟨rfl, _, .re (rl [0, 1, 2, 4, 49, 1, 7]) [] [] rfl (.refl _), rfl⟩
        ·intro hc
         replace h := iteF h hc
         refine pm 53 ?_
         refine kq 54 ?_
         refine kq 55 ?_
         refine pq 56 rfl (x_pickF rfl rfl rfl rfl) ?_
         refine we_nil ?_
         cases h
         exact ⟨rfl, _, .re (rl [0, 1, 2, 4, 49, 1, 7]) [] [] rfl (.refl _), rfl⟩
       ·clear hq
        obtain ⟨q13, hq, h⟩ := bindS h
        refine ex_cut ⟨[.str (bs p0), Z, Z, .str (bs ([106, 97, 118, 97, 115, 99, 114, 105, 112, 116] : List UInt8)), .int .i64 k6, .int .i64 n10, .int .u8 q13, Z, Z, Z, Z, Z, Z, Z, Z, Z, Z, Z, Z, Z, Z, Z, Z, Z, Z, Z, Z, Z, Z, Z, Z, Z, Z, Z, Z, Z, Z, Z, Z, Z, Z, Z, Z, Z, Z, Z, Z, Z, Z, Z, Z, Z, Z, Z, Z, Z, Z, Z, Z, Z, Z, Z, Z, Z], [], [], 0⟩ ?_ ?_
        ·clear h
         have h := hq
         clear hq
         refine ex_if rfl ?_ ?_
         ·intro hc
          replace h := iteT h hc
          refine ex_ord [] (l := [0, 1, 2]) rfl ?_
          refine pm 57 ?_
          refine pq 58 rfl (.bin rfl rfl rfl rfl) ?_
          refine pa 6 ?_
          refine we_nil ?_
          cases h
          exact ⟨rfl, _, .re (rl [0, 1, 2, 4, 57]) [] [] rfl (.refl _), rfl⟩
         ·intro hc
          replace h := iteF h hc
          refine ex_skip ?_
          cases h
          exact ⟨rfl, _, .re (rl [0, 1, 2, 4, 57]) [] [] rfl (.refl _), rfl⟩
        ·clear hq
         refine ex_seq ?_
         refine ex_ord [] (l := [0, 1, 2, 3, 4]) rfl ?_
         refine pm 59 ?_
         refine pm 60 ?_
         refine pm 61 ?_
         obtain ⟨v14, hv14, h⟩ := bindS h
         refine pq 62 rfl (x_idxS rfl rfl rfl us9 hv14) ?_
         refine pq 63 rfl (.bin rfl rfl rfl rfl) ?_
         refine we_nil ?_
         refine ex_if rfl ?_ ?_
         ·intro hc
          replace h := iteT h hc
          refine ex_seq ?_
          refine ex_ord [] (l := [0]) rfl ?_
          refine pa 2 ?_
          refine we_nil ?_
          refine ex_ret ?_
          exact rnd_out (o := (.inl ())) rfl (fun h => by cases h) h (.re (rl [2, 1, 61]) [] [] rfl (.refl _)) rfl
         ·intro hc
          replace h := iteF h hc
          refine ex_skip ?_
          refine ex_ord [] (l := [0, 1, 2]) rfl ?_
          refine pm 46 ?_
          refine pq 47 rfl (.bin rfl rfl rfl rfl) ?_
          refine pa 5 ?_
          refine we_nil ?_
          exact rnd_on rfl h (.re (rl [0, 1, 2, 3, 58]) [] [] rfl (.refl _)) rfl
      ·intro hc
       replace h := iteF h hc
       refine ex_exit ?_
       exact rnd_out (o := (.inr ())) rfl (fun h => by cases h) h (.re (rl [64]) [] [] rfl (.refl _)) rfl
   ·clear hl h
    rintro n5 y h
    replace h : quillworkref03u_Target_l1 p0 n5 = some y := h
    unfold quillworkref03u_Target_l1 at h
    show Ex _ _ _ ⟨[.str (bs p0), Z, Z, .str (bs ([106, 97, 118, 97, 115, 99, 114, 105, 112, 116] : List UInt8)), .int .i64 n5, Z, Z, Z, Z, Z, Z, Z, Z, Z, Z, Z, Z, Z, Z, Z, Z, Z, Z, Z, Z, Z, Z, Z, Z, Z, Z, Z, Z, Z, Z, Z, Z, Z, Z, Z, Z, Z, Z, Z, Z, Z, Z, Z, Z, Z, Z, Z, Z, Z, Z, Z, Z, Z, Z, Z, Z, Z, Z, Z], [], [], 0⟩ _
    refine ex_seq ?_
    refine ex_seq ?_
    obtain ⟨q7, hq, h⟩ := bindS h
    refine ex_cut ⟨[.str (bs p0), Z, Z, .str (bs ([106, 97, 118, 97, 115, 99, 114, 105, 112, 116] : List UInt8)), .int .i64 n5, Z, Z, Z, Z, Z, Z, Z, Z, Z, Z, Z, Z, Z, Z, Z, Z, Z, Z, Z, Z, Z, Z, Z, Z, Z, Z, Z, Z, Z, Z, Z, .bool q7, Z, Z, Z, Z, Z, Z, Z, Z, Z, Z, Z, Z, Z, Z, Z, Z, Z, Z, Z, Z, Z, Z, Z, Z, Z, Z, Z], [], [], 0⟩ ?_ ?_
    ·clear h
     have h := hq
     clear hq
     refine ex_ord [] (l := [0, 1, 2, 3, 4, 5, 6, 7, 8, 9]) rfl ?_
     refine pm 27 ?_
     refine pm 28 ?_
     refine pq 29 rfl (x_lenS rfl rfl us9) ?_
     refine pif 30 rfl rfl rfl rfl (.bin rfl rfl rfl rfl) ?_ ?_
     ·intro hc
      replace h := iteT h hc
      refine pm 31 ?_
      refine pm 32 ?_
      refine pm 33 ?_
      obtain ⟨v8, hv8, h⟩ := bindS h
      refine pq 34 rfl (x_idxS rfl rfl rfl us9 hv8) ?_
      refine pq 35 rfl (.bin rfl rfl rfl rfl) ?_
      refine pq 36 rfl (x_pickT rfl rfl rfl rfl) ?_
      refine we_nil ?_
      cases h
      exact ⟨rfl, _, .re (rl [0, 1, 2, 2, 31, 1, 27]) [] [] rfl (.refl _), rfl⟩
     ·intro hc
      replace h := iteF h hc
      refine pm 31 ?_
      refine kq 32 ?_
      refine kq 33 ?_
      refine kq 34 ?_
      refine kq 35 ?_
      refine pq 36 rfl (x_pickF rfl rfl rfl rfl) ?_
      refine we_nil ?_
      cases h
      exact ⟨rfl, _, .re (rl [0, 1, 2, 2, 31, 1, 27]) [] [] rfl (.refl _), rfl⟩
    ·clear hq
     refine ex_if rfl ?_ ?_
     ·intro hc
      replace h := iteT h hc
      refine ex_skip ?_
      refine ex_block ?_
      refine ex_ord [] (l := [0, 1, 2]) rfl ?_
      refine pm 37 ?_
      refine pq 38 rfl (.bin rfl rfl rfl rfl) ?_
      refine pa 4 ?_
      refine we_nil ?_
      exact rnd_on rfl h (.re (rl [0, 1, 2, 2, 59]) [] [] rfl (.refl _)) rfl
     ·intro hc
      replace h := iteF h hc
      refine ex_exit ?_
      exact rnd_out (o := n5) rfl (fun h => by cases h) h (.re (rl [0, 1, 2, 2, 59]) [] [] rfl (.refl _)) rfl
theorem ok_chars_May {r : Bool} {p0 : Int} (h : chars_May p0 = some r) : OkB prog 129 [.int .i32 p0] [] [] (.bool r) [] [] := by
 unfold chars_May at h
 refine okB_of_exG func129 rfl rfl (s0 := [.int .i32 p0, Z, Z, Z, Z, Z]) (b0 := []) (r0 := []) rfl rfl rfl ?_
 show Ex _ _ _ ⟨[.int .i32 p0, Z, Z, Z, Z, Z], [], [], 0⟩ _
 refine ex_seq ?_
 refine ex_ord [] (l := [0]) rfl ?_
 refine pa 2 ?_
 refine we_nil ?_
 refine ex_seq ?_
 refine ex_ord [] (l := [0, 1, 2, 3]) rfl ?_
 refine pm 3 ?_
 obtain ⟨v1, hv1, h⟩ := bindS h
 refine pq 4 rfl (x_callP rfl rfl en145 (ok_chars_Class hv1) rfl rfl rfl rfl rfl) ?_
 refine pq 5 rfl (.bin rfl rfl rfl rfl) ?_
 refine pa 2 ?_
 refine we_nil ?_
 refine ex_ret ?_
 obtain rfl := Option.some.inj h
 exact finB (by first | exact .inr rfl | exact .inl rfl) (.refl _) [.bool (decide ((v1 : Int) > 1))] [] [] (res_cons (res_tmp rfl) res_nil) rfl rfl rfl rfl rfl rfl rfl
theorem ok_doc_Same {r : Bool} {p0 : List (T_api_Line)} {p1 : List (T_api_Line)} (h : doc_Same p0 p1 = some r) : OkB prog 47 [.sl false (List.map c_api_Line p0), .sl false (List.map c_api_Line p1)] [] [] (.bool r) [] [] := by
 unfold doc_Same at h
 refine okB_of_exG func47 rfl rfl (s0 := [.sl false (List.map c_api_Line p0), .sl false (List.map c_api_Line p1), Z, Z, Z, Z, Z, Z]) (b0 := []) (r0 := []) rfl rfl rfl ?_
 show Ex _ _ _ ⟨[.sl false (List.map c_api_Line p0), .sl false (List.map c_api_Line p1), Z, Z, Z, Z, Z, Z], [], [], 0⟩ _
 refine ex_seq ?_
 refine ex_ord [] (l := [0]) rfl ?_
 refine pa 4 ?_
 refine we_nil ?_
 refine ex_seq ?_
 refine ex_ord [] (l := [0, 1, 2, 3]) rfl ?_
 refine pm 5 ?_
 refine pm 6 ?_
 obtain ⟨v1, hv1, h⟩ := bindS h
 refine pq 7 rfl (x_callP rfl rfl en88 (ok_slices_EqualFunc_apiLine_apiLine ⟨en89, rfl, rfl⟩ (fun _ _ _ h => ok_lines_Same h) hv1) rfl rfl rfl rfl rfl) ?_
 refine pa 4 ?_
 refine we_nil ?_
 refine ex_ret ?_
 obtain rfl := Option.some.inj h
 exact finB (by first | exact .inr rfl | exact .inl rfl) (.refl _) [.bool v1] [] [] (res_cons (res_tmp rfl) res_nil) rfl rfl rfl rfl rfl rfl rfl
theorem ok_doc_Set_1 {r : (List (T_api_Cell)) × Int} {p0 : List (T_api_Cell)} {p1 : Int} {p2 : Int} {p3 : Int} {p4 : Int} (h : doc_Set_1 p0 p1 p2 p3 p4 = some r) : OkB prog 70 [.sl false (List.map c_api_Cell p0), .int .i64 p1, .int .i64 p2, .cp [.int .i64 p3], .cp [.int .i64 p4]] [] [] (.tup [.own 0, .int .i64 r.2]) [] [⟨58, 3, List.map c_api_Cell r.1⟩] := by
 unfold doc_Set_1 at h
 refine okB_of_exG func70 rfl rfl (s0 := [.sl false (List.map c_api_Cell p0), .int .i64 p1, .int .i64 p2, .cp [.int .i64 p3], .cp [.int .i64 p4], Z, Z, Z, Z, Z, Z, Z, Z, Z, Z, Z, Z, Z]) (b0 := []) (r0 := []) rfl rfl rfl ?_
 show Ex _ _ _ ⟨[.sl false (List.map c_api_Cell p0), .int .i64 p1, .int .i64 p2, .cp [.int .i64 p3], .cp [.int .i64 p4], Z, Z, Z, Z, Z, Z, Z, Z, Z, Z, Z, Z, Z], [], [], 0⟩ _
 refine ex_seq ?_
 refine ex_ord [0] (l := [0, 1]) rfl ?_
 refine e_ (d := .own 0) 8 rfl rfl rfl rfl rfl (b' := []) (r' := [some ⟨58, 3, []⟩]) (.nilRow (.inr rfl) rfl 58 3) rfl ?_
 refine pa 9 ?_
 refine we_nil ?_
 refine ex_seq ?_
 refine ex_ord [5] (l := [0, 1, 2, 3, 4, 5, 6, 7, 8, 9]) rfl ?_
 refine pm 10 ?_
 refine pm 11 ?_
 refine pm 12 ?_
 refine pq 13 rfl (x_load rfl rfl rfl sz3 un3 ag3 rfl) ?_
 refine pq 14 rfl (x_load rfl rfl rfl sz3 un3 ag3 rfl) ?_
 obtain ⟨v1, hv1, h⟩ := bindS h
 refine e_ (d := .tup [.own 1, .int .i64 v1.2]) 15 rfl rfl rfl rfl rfl (b' := []) (r' := [some ⟨58, 3, []⟩, some ⟨58, 3, List.map c_api_Cell v1.1⟩]) (x_call [] [] rfl rfl en71 (ok_cells_Set hv1) rfl rfl rfl rfl rfl rfl rfl rfl rfl rfl rfl rfl rfl rfl) rfl ?_
 refine pq 16 rfl (.extract rfl rfl rfl rfl) ?_
 refine pq 17 rfl (.extract rfl rfl rfl rfl) ?_
 refine pa 8 ?_
 refine pa 9 ?_
 refine we_nil ?_
 refine ex_ret ?_
 obtain rfl := Option.some.inj h
 exact finB (by first | exact .inr rfl | exact .inl rfl) (.refl _) [.own 1, .int .i64 v1.2] [1] [] (res_cons (res_tmp rfl) (res_cons (res_tmp rfl) res_nil)) rfl rfl rfl rfl rfl rfl rfl
theorem ok_quillworkref05u_Link {r : Bool} {p0 : List UInt8} (h : quillworkref05u_Link p0 = some r) : OkB prog 79 [.str (bs p0)] [] [] (.bool r) [] [] := by
 unfold quillworkref05u_Link at h
 refine okB_of_exG func79 rfl rfl (s0 := [.str (bs p0), Z, Z, Z, Z, Z, Z, Z, Z]) (b0 := []) (r0 := []) rfl rfl rfl ?_
 show Ex _ _ _ ⟨[.str (bs p0), Z, Z, Z, Z, Z, Z, Z, Z], [], [], 0⟩ _
 refine ex_seq ?_
 refine ex_ord [] (l := [0]) rfl ?_
 refine pa 2 ?_
 refine we_nil ?_
 refine ex_seq ?_
 obtain ⟨q1, hq, h⟩ := bindS h
 refine ex_cut ⟨[Z, Z, .bool q1, Z, Z, Z, Z, Z, Z], [], [], 0⟩ ?_ ?_
 ·clear h
  have h := hq
  clear hq
  refine ex_ord [] (l := [0, 1, 2, 3, 4, 5, 6]) rfl ?_
  refine pm 3 ?_
  refine pif 4 rfl rfl rfl rfl (x_eqS rfl rfl rfl) ?_ ?_
  ·intro hc
   replace h := iteT h hc
   refine pm 5 ?_
   refine kq 6 ?_
   refine kq 7 ?_
   refine pq 8 rfl (x_pickT rfl rfl rfl rfl) ?_
   refine pa 2 ?_
   refine we_nil ?_
   cases h
   exact ⟨rfl, _, .re (rl [2, 1, 6]) [] [] rfl (.refl _), rfl⟩
  ·intro hc
   replace h := iteF h hc
   refine pm 5 ?_
   refine pm 6 ?_
   obtain ⟨v2, hv2, h⟩ := bindS h
   refine pq 7 rfl (x_callP rfl rfl en116 (ok_quillworkref03u_Target hv2) rfl rfl rfl rfl rfl) ?_
   refine pq 8 rfl (x_pickF rfl rfl rfl rfl) ?_
   refine pa 2 ?_
   refine we_nil ?_
   cases h
   exact ⟨rfl, _, .re (rl [2, 1, 6]) [] [] rfl (.refl _), rfl⟩
 ·clear hq
  refine ex_ret ?_
  obtain rfl := Option.some.inj h
  exact finB (by first | exact .inr rfl | exact .inl rfl) (.refl _) [.bool q1] [] [] (res_cons (res_tmp rfl) res_nil) rfl rfl rfl rfl rfl rfl rfl
theorem ok_attrs_Value {r : Bool} {p0 : List UInt8} (h : attrs_Value p0 = some r) : OkB prog 113 [.str (bs p0)] [] [] (.bool r) [] [] := by
 unfold attrs_Value at h
 refine okB_of_exG func113 rfl rfl (s0 := [.str (bs p0), Z, Z, Z, Z, Z, Z, Z, Z, Z, Z, Z, Z, Z, Z, Z, Z, Z, Z, Z]) (b0 := []) (r0 := []) rfl rfl rfl ?_
 show Ex _ _ _ ⟨[.str (bs p0), Z, Z, Z, Z, Z, Z, Z, Z, Z, Z, Z, Z, Z, Z, Z, Z, Z, Z, Z], [], [], 0⟩ _
 refine ex_seq ?_
 refine ex_ord [] (l := [0]) rfl ?_
 refine pa 2 ?_
 refine we_nil ?_
 refine ex_seq ?_
 obtain ⟨o2, hl, h⟩ := bindS h
 refine ex_rangeS (ρ := Unit) (effs := []) (l1 := [0]) (i1 := 1) (fun _ => .ret) (fun s => ⟨[.str (bs p0), Z, Z, Z, Z, Z, Z, Z, Z, Z, Z, Z, Z, Z, Z, Z, Z, Z, Z, Z], [], [], 0⟩) (fun o => ⟨[Z, Z, .bool false, Z, Z, Z, Z, Z, Z, Z, Z, Z, Z, Z, Z, Z, Z, Z, Z, Z], [], [], 0⟩) hl (fun _ => rfl) (fun _ => ⟨Nat.le_of_ble_eq_true rfl, Nat.le_of_ble_eq_true rfl⟩) rfl rfl rfl rfl rfl us9 rfl rfl rfl rfl rfl rfl rfl (by decide) rfl ?_ ?_ ?_ ?_
 ·refine pm 5 ?_
  refine we_nil ?_
  exact ⟨rfl, Nat.le_of_ble_eq_true rfl, .re (rl [0, 1, 5, 1, 13]) [] [] rfl (.refl _)⟩
 ·clear hl
  rintro _ rfl
  show Ex _ _ _ ⟨[.str (bs p0), Z, Z, Z, Z, Z, Z, .tup [.bool false], .bool false, Z, Z, Z, Z, Z, Z, Z, Z, Z, Z, Z], [], [], 0⟩ _
  refine ex_seq ?_
  obtain ⟨q3, hq, h⟩ := bindS h
  refine ex_cut ⟨[Z, Z, .bool q3, Z, Z, Z, Z, Z, Z, Z, Z, Z, Z, Z, Z, Z, Z, Z, Z, Z], [], [], 0⟩ ?_ ?_
  ·clear h
   have h := hq
   clear hq
   refine ex_ord [] (l := [0, 1, 2, 3, 4, 5, 6, 7]) rfl ?_
   refine pm 13 ?_
   refine pq 14 rfl (x_lenS rfl rfl us9) ?_
   refine pif 15 rfl rfl rfl rfl (.bin rfl rfl rfl rfl) ?_ ?_
   ·intro hc
    replace h := iteT h hc
    refine pm 16 ?_
    refine pm 17 ?_
    obtain ⟨v4, hv4, h⟩ := bindS h
    refine pq 18 rfl (x_callP rfl rfl en140 (ok_utf8u_ValidString hv4) rfl rfl rfl rfl rfl) ?_
    refine pq 19 rfl (x_pickT rfl rfl rfl rfl) ?_
    refine pa 2 ?_
    refine we_nil ?_
    cases h
    exact ⟨rfl, _, .re (rl [2, 1, 17]) [] [] rfl (.refl _), rfl⟩
   ·intro hc
    replace h := iteF h hc
    refine pm 16 ?_
    refine kq 17 ?_
    refine kq 18 ?_
    refine pq 19 rfl (x_pickF rfl rfl rfl rfl) ?_
    refine pa 2 ?_
    refine we_nil ?_
    cases h
    exact ⟨rfl, _, .re (rl [2, 1, 17]) [] [] rfl (.refl _), rfl⟩
  ·clear hq
   refine ex_ret ?_
   obtain rfl := Option.some.inj h
   exact finB (by first | exact .inr rfl | exact .inl rfl) (.refl _) [.bool q3] [] [] (res_cons (res_tmp rfl) res_nil) rfl rfl rfl rfl rfl rfl rfl
 ·clear hl
  rintro _ rfl
  obtain rfl := Option.some.inj h
  exact finB (by first | exact .inr rfl | exact .inl rfl) (.refl _) [.bool false] [] [] (res_cons (res_tmp rfl) res_nil) rfl rfl rfl rfl rfl rfl rfl
 ·clear hl h
  rintro x _ y h
  replace h : attrs_Value_s1 x = some y := h
  unfold attrs_Value_s1 at h
  show Ex _ _ _ ⟨[.str (bs p0), Z, Z, Z, Z, Z, Z, .tup [.bool true, .int .i64 x.1, .int .i32 x.2], .bool true, Z, Z, Z, Z, Z, Z, Z, Z, Z, Z, Z], [], [], 0⟩ _
  refine ex_block ?_
  refine ex_seq ?_
  refine ex_ord [] (l := [0, 1]) rfl ?_
  refine pq 9 rfl (.extract rfl rfl rfl rfl) ?_
  refine pa 4 ?_
  refine we_nil ?_
  refine ex_seq ?_
  refine ex_ord [] (l := [0, 1, 2]) rfl ?_
  refine pm 10 ?_
  obtain ⟨v1, hv1, h⟩ := bindS h
  refine pq 11 rfl (x_callP rfl rfl en129 (ok_chars_May hv1) rfl rfl rfl rfl rfl) ?_
  refine pq 12 rfl (.un rfl rfl rfl) ?_
  refine we_nil ?_
  refine ex_if rfl ?_ ?_
  ·intro hc
   replace h := iteT h hc
   refine ex_seq ?_
   refine ex_ord [] (l := [0]) rfl ?_
   refine pa 2 ?_
   refine we_nil ?_
   refine ex_ret ?_
   exact rnd_out (o := ()) rfl (fun h => by cases h) h (.re (rl [2, 1, 17]) [] [] rfl (.refl _)) rfl
  ·intro hc
   replace h := iteF h hc
   refine ex_skip ?_
   exact rnd_on rfl h (.re (rl [0, 1, 5, 1, 13]) [] [] rfl (.refl _)) rfl
theorem ok_quillworkref05u_May {r : Bool} {p0 : List (T_api_Cell)} (h : quillworkref05u_May p0 = some r) : OkB prog 46 [.sl false (List.map c_api_Cell p0)] [] [] (.bool r) [] [] := by
 unfold quillworkref05u_May at h
 refine okB_of_exG func46 rfl rfl (s0 := [.sl false (List.map c_api_Cell p0), Z, Z, Z, Z, Z, Z, Z, Z, Z, Z, Z, Z, Z, Z, Z, Z, Z, Z, Z, Z, Z, Z, Z, Z, Z, Z, Z, Z, Z, Z, Z, Z, Z, Z, Z, Z, Z, Z, Z]) (b0 := []) (r0 := []) rfl rfl rfl ?_
 show Ex _ _ _ ⟨[.sl false (List.map c_api_Cell p0), Z, Z, Z, Z, Z, Z, Z, Z, Z, Z, Z, Z, Z, Z, Z, Z, Z, Z, Z, Z, Z, Z, Z, Z, Z, Z, Z, Z, Z, Z, Z, Z, Z, Z, Z, Z, Z, Z, Z], [], [], 0⟩ _
 refine ex_seq ?_
 refine ex_ord [] (l := [0]) rfl ?_
 refine pa 2 ?_
 refine we_nil ?_
 refine ex_seq ?_
 refine ex_seq ?_
 refine ex_ord [] (l := [0]) rfl ?_
 refine pa 3 ?_
 refine we_nil ?_
 refine ex_block ?_
 obtain ⟨o7, hl, h⟩ := bindS h
 refine ex_gst ⟨[.sl false (List.map c_api_Cell p0), Z, Z, .int .i64 0, Z, Z, Z, Z, Z, Z, Z, Z, Z, Z, Z, Z, Z, Z, Z, Z, Z, Z, Z, Z, Z, Z, Z, Z, Z, Z, Z, Z, Z, Z, Z, Z, Z, Z, Z, Z], [], [], 0⟩ (.re (rl [0, 1, 2, 1, 36]) [] [] rfl (.refl _)) rfl ?_
 refine ex_iterX (fun o => match o with | .inl _ => .ret | .inr _ => .exit 0) (fun s => ⟨[.sl false (List.map c_api_Cell p0), Z, Z, .int .i64 s, Z, Z, Z, Z, Z, Z, Z, Z, Z, Z, Z, Z, Z, Z, Z, Z, Z, Z, Z, Z, Z, Z, Z, Z, Z, Z, Z, Z, Z, Z, Z, Z, Z, Z, Z, Z], [], [], 0⟩) (fun o => match o with | .inl o => ⟨[Z, Z, .bool false, Z, Z, Z, Z, Z, Z, Z, Z, Z, Z, Z, Z, Z, Z, Z, Z, Z, Z, Z, Z, Z, Z, Z, Z, Z, Z, Z, Z, Z, Z, Z, Z, Z, Z, Z, Z, Z], [], [], 0⟩ | .inr o => ⟨[Z, Z, Z, Z, Z, Z, Z, Z, Z, Z, Z, Z, Z, Z, Z, Z, Z, Z, Z, Z, Z, Z, Z, Z, Z, Z, Z, Z, Z, Z, Z, Z, Z, Z, Z, Z, Z, Z, Z, Z], [], [], 0⟩) hl rfl ?_ ?_
 ·clear hl
  rcases o7 with _ | _
  ·obtain rfl := Option.some.inj h
   exact finB (by first | exact .inr rfl | exact .inl rfl) (.refl _) [.bool false] [] [] (res_cons (res_tmp rfl) res_nil) rfl rfl rfl rfl rfl rfl rfl
  ·refine ex_seq ?_
   refine ex_ord [] (l := [0]) rfl ?_
   refine pa 2 ?_
   refine we_nil ?_
   refine ex_ret ?_
   obtain rfl := Option.some.inj h
   exact finB (by first | exact .inr rfl | exact .inl rfl) (.refl _) [.bool true] [] [] (res_cons (res_tmp rfl) res_nil) rfl rfl rfl rfl rfl rfl rfl
 ·clear hl h
  rintro n1 y h
  replace h : quillworkref05u_May_l1 p0 n1 = some y := h
  unfold quillworkref05u_May_l1 at h
  show Ex _ _ _ ⟨[.sl false (List.map c_api_Cell p0), Z, Z, .int .i64 n1, Z, Z, Z, Z, Z, Z, Z, Z, Z, Z, Z, Z, Z, Z, Z, Z, Z, Z, Z, Z, Z, Z, Z, Z, Z, Z, Z, Z, Z, Z, Z, Z, Z, Z, Z, Z], [], [], 0⟩ _
  refine ex_seq ?_
  refine ex_seq ?_
  refine ex_ord [] (l := [0, 1, 2, 3]) rfl ?_
  refine pm 5 ?_
  refine pm 6 ?_
  refine pq 7 rfl (x_len (f := c_api_Cell) (l := p0) rfl rfl rfl el46) ?_
  refine pq 8 rfl (.bin rfl rfl rfl rfl) ?_
  refine we_nil ?_
  refine ex_if rfl ?_ ?_
  ·intro hc
   replace h := iteT h hc
   refine ex_skip ?_
   refine ex_seq ?_
   refine ex_block ?_
   refine ex_seq ?_
   refine ex_ord [4, 5] (l := [0, 1, 2, 3, 4, 5]) rfl ?_
   refine pm 11 ?_
   refine pm 12 ?_
   obtain ⟨v2, hv2, h⟩ := bindS h
   refine pq 13 rfl (x_idx (f := c_api_Cell) (cs := [.int .i32 v2.f_R, .int .i64 v2.f_Bits, .str (bs v2.f_Href)]) rfl rfl rfl el46 sz58 hv2 rfl rfl) ?_
   refine pq 14 rfl (x_loadA rfl rfl rfl sz58 un58 ag58 rfl) ?_
   refine e_ (d := .bx 0 0) 4 rfl rfl rfl rfl rfl (b' := [some [.int .i32 0, .int .i64 0, .str (bs [])]]) (r' := []) (.alloc rfl ze58) rfl ?_
   refine e0 rfl rfl rfl rfl rfl (b' := [some [.int .i32 v2.f_R, .int .i64 v2.f_Bits, .str (bs v2.f_Href)]]) (r' := []) (.store rfl rfl rfl sz58 rfl rfl rfl) rfl ?_
   refine we_nil ?_
   refine ex_seq ?_
   refine ex_gst ⟨[.sl false (List.map c_api_Cell p0), Z, Z, .int .i64 n1, .cp [.int .i32 v2.f_R, .int .i64 v2.f_Bits, .str (bs v2.f_Href)], .int .i64 n1, .sl false (List.map c_api_Cell p0), .int .i64 (p0.length : Int), .bool (decide ((n1 : Int) < (p0.length : Int))), Z, Z, .sl false (List.map c_api_Cell p0), .int .i64 n1, .cp [.int .i32 v2.f_R, .int .i64 v2.f_Bits, .str (bs v2.f_Href)], .agg [.int .i32 v2.f_R, .int .i64 v2.f_Bits, .str (bs v2.f_Href)], Z, Z, Z, Z, Z, Z, Z, Z, Z, Z, Z, Z, Z, Z, Z, Z, Z, Z, Z, Z, Z, Z, Z, Z, Z], [none], [], 0⟩ (.shutB (b := 0) rfl (fun d h => by simpa using List.all_eq_true.1 (rfl : List.all [.int .i32 v2.f_R, .int .i64 v2.f_Bits, .str (bs v2.f_Href)] (fun d => !d.tok) = true) d h) (.refl _)) rfl ?_
   obtain ⟨q3, hq, h⟩ := bindS h
   refine ex_cut ⟨[.sl false (List.map c_api_Cell p0), Z, Z, .int .i64 n1, Z, Z, Z, Z, Z, Z, Z, Z, Z, Z, Z, Z, Z, Z, Z, Z, Z, Z, Z, Z, Z, Z, Z, Z, Z, Z, Z, Z, Z, Z, Z, Z, Z, Z, Z, .bool q3], [], [], 0⟩ ?_ ?_
   ·clear h
    have h := hq
    clear hq
    refine ex_ord [] (l := [0, 1, 2, 3, 4, 5, 6, 7, 8, 9, 10, 11, 12, 13, 14, 15, 16, 17, 18, 19, 20, 21, 22, 23, 24]) rfl ?_
    refine pq 15 rfl (.fieldAddr rfl rfl rfl fl58u_0 rfl) ?_
    refine pq 16 rfl (x_load rfl rfl rfl sz21 un21 ag21 rfl) ?_
    refine pif 17 rfl rfl rfl rfl (.bin rfl rfl rfl rfl) ?_ ?_
    ·intro hc
     replace h := iteT h hc
     refine pm 18 ?_
     refine pq 19 rfl (.fieldAddr rfl rfl rfl fl58u_0 rfl) ?_
     refine pq 20 rfl (x_load rfl rfl rfl sz21 un21 ag21 rfl) ?_
     obtain ⟨v4, hv4, h⟩ := bindS h
     refine pif 21 rfl rfl rfl rfl (x_callP rfl rfl en87 (ok_quillworkref01u_May hv4) rfl rfl rfl rfl rfl) ?_ ?_
     ·intro hc
      replace h := iteT h hc
      refine pq 22 rfl (.un rfl rfl rfl) ?_
      refine pq 23 rfl (x_pickT rfl rfl rfl rfl) ?_
      refine pm 24 ?_
      refine pq 25 rfl (.fieldAddr rfl rfl rfl fl58u_1 rfl) ?_
      refine pq 26 rfl (x_load rfl rfl rfl sz3 un3 ag3 rfl) ?_
      refine pif 27 rfl rfl rfl rfl (.bin rfl rfl rfl rfl) ?_ ?_
      ·intro hc
       replace h := iteT h hc
       refine pq 28 rfl (x_pickF rfl rfl rfl rfl) ?_
       refine pm 29 ?_
       refine kq 30 ?_
       refine kq 31 ?_
       refine kq 32 ?_
       refine pq 33 rfl (x_pickT rfl rfl rfl rfl) ?_
       refine pm 34 ?_
       refine kq 35 ?_
       refine kq 36 ?_
       refine kq 37 ?_
       refine kq 38 ?_
       refine pq 39 rfl (x_pickT rfl rfl rfl rfl) ?_
       refine we_nil ?_
       cases h
       exact ⟨rfl, _, .re (rl [0, 1, 2, 1, 35, 1]) [] [] rfl (.refl _), rfl⟩
      ·intro hc
       replace h := iteF h hc
       refine pq 28 rfl (x_pickF rfl rfl rfl rfl) ?_
       refine pm 29 ?_
       refine pq 30 rfl (.fieldAddr rfl rfl rfl fl58u_1 rfl) ?_
       refine pq 31 rfl (x_load rfl rfl rfl sz3 un3 ag3 rfl) ?_
       refine pif 32 rfl rfl rfl rfl (.bin rfl rfl rfl rfl) ?_ ?_
       ·intro hc
        replace h := iteT h hc
        refine pq 33 rfl (x_pickF rfl rfl rfl rfl) ?_
        refine pm 34 ?_
        refine kq 35 ?_
        refine kq 36 ?_
        refine kq 37 ?_
        refine kq 38 ?_
        refine pq 39 rfl (x_pickT rfl rfl rfl rfl) ?_
        refine we_nil ?_
        cases h
        exact ⟨rfl, _, .re (rl [0, 1, 2, 1, 35, 1]) [] [] rfl (.refl _), rfl⟩
       ·intro hc
        replace h := iteF h hc
        refine pq 33 rfl (x_pickF rfl rfl rfl rfl) ?_
        refine pm 34 ?_
        refine pq 35 rfl (.fieldAddr rfl rfl rfl fl58u_2 rfl) ?_
        refine pq 36 rfl (x_load rfl rfl rfl sz9 un9 ag9 rfl) ?_
        obtain ⟨v5, hv5, h⟩ := bindS h
        refine pq 37 rfl (x_callP rfl rfl en79 (ok_quillworkref05u_Link hv5) rfl rfl rfl rfl rfl) ?_
        refine pq 38 rfl (.un rfl rfl rfl) ?_
        refine pq 39 rfl (x_pickF rfl rfl rfl rfl) ?_
        refine we_nil ?_
        cases h
        exact ⟨rfl, _, .re (rl [0, 1, 2, 1, 35, 1]) [] [] rfl (.refl _), rfl⟩
     ·intro hc
      replace h := iteF h hc
      refine pq 22 rfl (.un rfl rfl rfl) ?_
      refine pq 23 rfl (x_pickT rfl rfl rfl rfl) ?_
      refine pm 24 ?_
      refine kq 25 ?_
      refine kq 26 ?_
      refine kq 27 ?_
      refine pq 28 rfl (x_pickT rfl rfl rfl rfl) ?_
      refine pm 29 ?_
      refine kq 30 ?_
      refine kq 31 ?_
      refine kq 32 ?_
      refine pq 33 rfl (x_pickT rfl rfl rfl rfl) ?_
      refine pm 34 ?_
      refine kq 35 ?_
      refine kq 36 ?_
      refine kq 37 ?_
      refine kq 38 ?_
      refine pq 39 rfl (x_pickT rfl rfl rfl rfl) ?_
      refine we_nil ?_
      cases h
      exact ⟨rfl, _, .re (rl [0, 1, 2, 1, 35, 1]) [] [] rfl (.refl _), rfl⟩
    ·intro hc
     replace h := iteF h hc
     refine pm 18 ?_
     refine kq 19 ?_
     refine kq 20 ?_
     refine kq 21 ?_
     refine kq 22 ?_
     refine pq 23 rfl (x_pickF rfl rfl rfl rfl) ?_
     refine pm 24 ?_
     refine pq 25 rfl (.fieldAddr rfl rfl rfl fl58u_1 rfl) ?_
     refine pq 26 rfl (x_load rfl rfl rfl sz3 un3 ag3 rfl) ?_
     refine pif 27 rfl rfl rfl rfl (.bin rfl rfl rfl rfl) ?_ ?_
     ·intro hc
      replace h := iteT h hc
      refine pq 28 rfl (x_pickF rfl rfl rfl rfl) ?_
      refine pm 29 ?_
      refine kq 30 ?_
      refine kq 31 ?_
      refine kq 32 ?_
      refine pq 33 rfl (x_pickT rfl rfl rfl rfl) ?_
      refine pm 34 ?_
      refine kq 35 ?_
      refine kq 36 ?_
      refine kq 37 ?_
      refine kq 38 ?_
      refine pq 39 rfl (x_pickT rfl rfl rfl rfl) ?_
      refine we_nil ?_
      cases h
      exact ⟨rfl, _, .re (rl [0, 1, 2, 1, 35, 1]) [] [] rfl (.refl _), rfl⟩
     ·intro hc
      replace h := iteF h hc
      refine pq 28 rfl (x_pickF rfl rfl rfl rfl) ?_
      refine pm 29 ?_
      refine pq 30 rfl (.fieldAddr rfl rfl rfl fl58u_1 rfl) ?_
      refine pq 31 rfl (x_load rfl rfl rfl sz3 un3 ag3 rfl) ?_
      refine pif 32 rfl rfl rfl rfl (.bin rfl rfl rfl rfl) ?_ ?_
      ·intro hc
       replace h := iteT h hc
       refine pq 33 rfl (x_pickF rfl rfl rfl rfl) ?_
       refine pm 34 ?_
       refine kq 35 ?_
       refine kq 36 ?_
       refine kq 37 ?_
       refine kq 38 ?_
       refine pq 39 rfl (x_pickT rfl rfl rfl rfl) ?_
       refine we_nil ?_
       cases h
       exact ⟨rfl, _, .re (rl [0, 1, 2, 1, 35, 1]) [] [] rfl (.refl _), rfl⟩
      ·intro hc
       replace h := iteF h hc
       refine pq 33 rfl (x_pickF rfl rfl rfl rfl) ?_
       refine pm 34 ?_
       refine pq 35 rfl (.fieldAddr rfl rfl rfl fl58u_2 rfl) ?_
       refine pq 36 rfl (x_load rfl rfl rfl sz9 un9 ag9 rfl) ?_
       obtain ⟨v6, hv6, h⟩ := bindS h
       refine pq 37 rfl (x_callP rfl rfl en79 (ok_quillworkref05u_Link hv6) rfl rfl rfl rfl rfl) ?_
       refine pq 38 rfl (.un rfl rfl rfl) ?_
       refine pq 39 rfl (x_pickF rfl rfl rfl rfl) ?_
       refine we_nil ?_
       cases h
       exact ⟨rfl, _, .re (rl [0, 1, 2, 1, 35, 1]) [] [] rfl (.refl _), rfl⟩
   ·clear hq
    refine ex_if rfl ?_ ?_
    ·intro hc
     replace h := iteT h hc
     refine ex_seq ?_
     refine ex_ord [] (l := [0]) rfl ?_
     refine pa 2 ?_
     refine we_nil ?_
     refine ex_ret ?_
     exact rnd_out (o := (.inl ())) rfl (fun h => by cases h) h (.re (rl [2, 1, 37]) [] [] rfl (.refl _)) rfl
    ·intro hc
     replace h := iteF h hc
     refine ex_skip ?_
     refine ex_ord [] (l := [0, 1, 2]) rfl ?_
     refine pm 9 ?_
     refine pq 10 rfl (.bin rfl rfl rfl rfl) ?_
     refine pa 3 ?_
     refine we_nil ?_
     exact rnd_on rfl h (.re (rl [0, 1, 2, 1, 36]) [] [] rfl (.refl _)) rfl
  ·intro hc
   replace h := iteF h hc
   refine ex_exit ?_
   exact rnd_out (o := (.inr ())) rfl (fun h => by cases h) h (.re (rl [40]) [] [] rfl (.refl _)) rfl
theorem ok_quillworkref06u_May {r : Bool} {p0 : T_api_Line} (h : quillworkref06u_May p0 = some r) : OkB prog 63 [.agg [.int .i64 p0.f_Quote, .sl false (List.map c_i64 p0.f_Lists), .int .i64 p0.f_Kind, .sl false (List.map c_api_Cell p0.f_Cells)]] [] [] (.bool r) [] [] := by
 unfold quillworkref06u_May at h
 refine okB_of_exG func63 rfl rfl (s0 := [.agg [.int .i64 p0.f_Quote, .sl false (List.map c_i64 p0.f_Lists), .int .i64 p0.f_Kind, .sl false (List.map c_api_Cell p0.f_Cells)], Z, Z, Z, Z, Z, Z, Z, Z, Z, Z, Z, Z, Z, Z, Z, Z, Z, Z, Z, Z, Z, Z, Z, Z, Z, Z, Z, Z, Z, Z, Z, Z, Z, Z, Z, Z, Z, Z, Z, Z, Z, Z, Z, Z, Z, Z, Z, Z, Z, Z, Z, Z, Z, Z, Z, Z]) (b0 := []) (r0 := []) rfl rfl rfl ?_
 show Ex _ _ _ ⟨[.agg [.int .i64 p0.f_Quote, .sl false (List.map c_i64 p0.f_Lists), .int .i64 p0.f_Kind, .sl false (List.map c_api_Cell p0.f_Cells)], Z, Z, Z, Z, Z, Z, Z, Z, Z, Z, Z, Z, Z, Z, Z, Z, Z, Z, Z, Z, Z, Z, Z, Z, Z, Z, Z, Z, Z, Z, Z, Z, Z, Z, Z, Z, Z, Z, Z, Z, Z, Z, Z, Z, Z, Z, Z, Z, Z, Z, Z, Z, Z, Z, Z, Z], [], [], 0⟩ _
 refine ex_seq ?_
 refine ex_ord [0] (l := [0, 1]) rfl ?_
 refine e_ (d := .bx 0 0) 1 rfl rfl rfl rfl rfl (b' := [some [.int .i64 p0.f_Quote, .sl false (List.map c_i64 p0.f_Lists), .int .i64 p0.f_Kind, .sl false (List.map c_api_Cell p0.f_Cells)]]) (r' := []) (.box rfl rfl rfl) rfl ?_
 refine pa 2 ?_
 refine we_nil ?_
 refine ex_seq ?_
 refine ex_seq ?_
 refine ex_gst ⟨[.agg [.int .i64 p0.f_Quote, .sl false (List.map c_i64 p0.f_Lists), .int .i64 p0.f_Kind, .sl false (List.map c_api_Cell p0.f_Cells)], .cp [.int .i64 p0.f_Quote, .sl false (List.map c_i64 p0.f_Lists), .int .i64 p0.f_Kind, .sl false (List.map c_api_Cell p0.f_Cells)], .bool false, Z, Z, Z, Z, Z, Z, Z, Z, Z, Z, Z, Z, Z, Z, Z, Z, Z, Z, Z, Z, Z, Z, Z, Z, Z, Z, Z, Z, Z, Z, Z, Z, Z, Z, Z, Z, Z, Z, Z, Z, Z, Z, Z, Z, Z, Z, Z, Z, Z, Z, Z, Z, Z, Z], [none], [], 0⟩ (.shutB (b := 0) rfl (fun d h => by simpa using List.all_eq_true.1 (rfl : List.all [.int .i64 p0.f_Quote, .sl false (List.map c_i64 p0.f_Lists), .int .i64 p0.f_Kind, .sl false (List.map c_api_Cell p0.f_Cells)] (fun d => !d.tok) = true) d h) (.refl _)) rfl ?_
 obtain ⟨q1, hq, h⟩ := bindS h
 refine ex_cut ⟨[Z, .cp [.int .i64 p0.f_Quote, .sl false (List.map c_i64 p0.f_Lists), .int .i64 p0.f_Kind, .sl false (List.map c_api_Cell p0.f_Cells)], Z, Z, Z, Z, Z, Z, Z, Z, Z, Z, Z, Z, Z, Z, Z, Z, Z, Z, Z, Z, Z, Z, Z, Z, Z, .bool q1, Z, Z, Z, Z, Z, Z, Z, Z, Z, Z, Z, Z, Z, Z, Z, Z, Z, Z, Z, Z, Z, Z, Z, Z, Z, Z, Z, Z, Z], [], [], 0⟩ ?_ ?_
 ·clear h
  have h := hq
  clear hq
  refine ex_ord [] (l := [0, 1, 2, 3, 4, 5, 6, 7, 8, 9, 10, 11, 12, 13, 14, 15, 16, 17, 18, 19, 20, 21, 22, 23]) rfl ?_
  refine pq 4 rfl (.fieldAddr rfl rfl rfl fl55u_0 rfl) ?_
  refine pq 5 rfl (x_load rfl rfl rfl sz3 un3 ag3 rfl) ?_
  refine pif 6 rfl rfl rfl rfl (.bin rfl rfl rfl rfl) ?_ ?_
  ·intro hc
   replace h := iteT h hc
   refine pm 7 ?_
   refine kq 8 ?_
   refine kq 9 ?_
   refine kq 10 ?_
   refine pq 11 rfl (x_pickT rfl rfl rfl rfl) ?_
   refine pm 12 ?_
   refine kq 13 ?_
   refine kq 14 ?_
   refine kq 15 ?_
   refine kq 16 ?_
   refine pq 17 rfl (x_pickT rfl rfl rfl rfl) ?_
   refine pm 18 ?_
   refine kq 19 ?_
   refine kq 20 ?_
   refine kq 21 ?_
   refine pq 22 rfl (x_pickT rfl rfl rfl rfl) ?_
   refine pm 23 ?_
   refine kq 24 ?_
   refine kq 25 ?_
   refine kq 26 ?_
   refine pq 27 rfl (x_pickT rfl rfl rfl rfl) ?_
   refine we_nil ?_
   cases h
   exact ⟨rfl, _, .re (rl [1, 1, 25, 1, 29]) [] [] rfl (.refl _), rfl⟩
  ·intro hc
   replace h := iteF h hc
   refine pm 7 ?_
   refine pq 8 rfl (.fieldAddr rfl rfl rfl fl55u_0 rfl) ?_
   refine pq 9 rfl (x_load rfl rfl rfl sz3 un3 ag3 rfl) ?_
   refine pif 10 rfl rfl rfl rfl (.bin rfl rfl rfl rfl) ?_ ?_
   ·intro hc
    replace h := iteT h hc
    refine pq 11 rfl (x_pickF rfl rfl rfl rfl) ?_
    refine pm 12 ?_
    refine kq 13 ?_
    refine kq 14 ?_
    refine kq 15 ?_
    refine kq 16 ?_
    refine pq 17 rfl (x_pickT rfl rfl rfl rfl) ?_
    refine pm 18 ?_
    refine kq 19 ?_
    refine kq 20 ?_
    refine kq 21 ?_
    refine pq 22 rfl (x_pickT rfl rfl rfl rfl) ?_
    refine pm 23 ?_
    refine kq 24 ?_
    refine kq 25 ?_
    refine kq 26 ?_
    refine pq 27 rfl (x_pickT rfl rfl rfl rfl) ?_
    refine we_nil ?_
    cases h
    exact ⟨rfl, _, .re (rl [1, 1, 25, 1, 29]) [] [] rfl (.refl _), rfl⟩
   ·intro hc
    replace h := iteF h hc
    refine pq 11 rfl (x_pickF rfl rfl rfl rfl) ?_
    refine pm 12 ?_
    refine pq 13 rfl (.fieldAddr rfl rfl rfl fl55u_1 rfl) ?_
    refine pq 14 rfl (x_load rfl rfl rfl sz53 un53 ag53 rfl) ?_
    refine pq 15 rfl (x_len (f := c_i64) (l := p0.f_Lists) rfl rfl rfl el53) ?_
    refine pif 16 rfl rfl rfl rfl (.bin rfl rfl rfl rfl) ?_ ?_
    ·intro hc
     replace h := iteT h hc
     refine pq 17 rfl (x_pickF rfl rfl rfl rfl) ?_
     refine pm 18 ?_
     refine kq 19 ?_
     refine kq 20 ?_
     refine kq 21 ?_
     refine pq 22 rfl (x_pickT rfl rfl rfl rfl) ?_
     refine pm 23 ?_
     refine kq 24 ?_
     refine kq 25 ?_
     refine kq 26 ?_
     refine pq 27 rfl (x_pickT rfl rfl rfl rfl) ?_
     refine we_nil ?_
     cases h
     exact ⟨rfl, _, .re (rl [1, 1, 25, 1, 29]) [] [] rfl (.refl _), rfl⟩
    ·intro hc
     replace h := iteF h hc
     refine pq 17 rfl (x_pickF rfl rfl rfl rfl) ?_
     refine pm 18 ?_
     refine pq 19 rfl (.fieldAddr rfl rfl rfl fl55u_2 rfl) ?_
     refine pq 20 rfl (x_load rfl rfl rfl sz3 un3 ag3 rfl) ?_
     refine pif 21 rfl rfl rfl rfl (.bin rfl rfl rfl rfl) ?_ ?_
     ·intro hc
      replace h := iteT h hc
      refine pq 22 rfl (x_pickF rfl rfl rfl rfl) ?_
      refine pm 23 ?_
      refine kq 24 ?_
      refine kq 25 ?_
      refine kq 26 ?_
      refine pq 27 rfl (x_pickT rfl rfl rfl rfl) ?_
      refine we_nil ?_
      cases h
      exact ⟨rfl, _, .re (rl [1, 1, 25, 1, 29]) [] [] rfl (.refl _), rfl⟩
     ·intro hc
      replace h := iteF h hc
      refine pq 22 rfl (x_pickF rfl rfl rfl rfl) ?_
      refine pm 23 ?_
      refine pq 24 rfl (.fieldAddr rfl rfl rfl fl55u_2 rfl) ?_
      refine pq 25 rfl (x_load rfl rfl rfl sz3 un3 ag3 rfl) ?_
      refine pq 26 rfl (.bin rfl rfl rfl rfl) ?_
      refine pq 27 rfl (x_pickF rfl rfl rfl rfl) ?_
      refine we_nil ?_
      cases h
      exact ⟨rfl, _, .re (rl [1, 1, 25, 1, 29]) [] [] rfl (.refl _), rfl⟩
 ·clear hq
  refine ex_if rfl ?_ ?_
  ·intro hc
   replace h := iteT h hc
   refine ex_seq ?_
   refine ex_ord [] (l := [0]) rfl ?_
   refine pa 2 ?_
   refine we_nil ?_
   refine ex_ret ?_
   obtain rfl := Option.some.inj h
   exact finB (by first | exact .inr rfl | exact .inl rfl) (.refl _) [.bool false] [] [] (res_cons (res_tmp rfl) res_nil) rfl rfl rfl rfl rfl rfl rfl
  ·intro hc
   replace h := iteF h hc
   refine ex_skip ?_
   refine ex_seq ?_
   refine ex_seq ?_
   refine ex_ord [] (l := [0]) rfl ?_
   refine pa 3 ?_
   refine we_nil ?_
   refine ex_block ?_
   obtain ⟨o6, hl, h⟩ := bindS h
   refine ex_gst ⟨[Z, .cp [.int .i64 p0.f_Quote, .sl false (List.map c_i64 p0.f_Lists), .int .i64 p0.f_Kind, .sl false (List.map c_api_Cell p0.f_Cells)], Z, .int .i64 0, Z, Z, Z, Z, Z, Z, Z, Z, Z, Z, Z, Z, Z, Z, Z, Z, Z, Z, Z, Z, Z, Z, Z, Z, Z, Z, Z, Z, Z, Z, Z, Z, Z, Z, Z, Z, Z, Z, Z, Z, Z, Z, Z, Z, Z, Z, Z, Z, Z, Z, Z, Z, Z], [], [], 0⟩ (.re (rl [1, 1, 1, 1, 53]) [] [] rfl (.refl _)) rfl ?_
   refine ex_iterX (fun o => match o with | .inl _ => .ret | .inr _ => .exit 0) (fun s => ⟨[Z, .cp [.int .i64 p0.f_Quote, .sl false (List.map c_i64 p0.f_Lists), .int .i64 p0.f_Kind, .sl false (List.map c_api_Cell p0.f_Cells)], Z, .int .i64 s, Z, Z, Z, Z, Z, Z, Z, Z, Z, Z, Z, Z, Z, Z, Z, Z, Z, Z, Z, Z, Z, Z, Z, Z, Z, Z, Z, Z, Z, Z, Z, Z, Z, Z, Z, Z, Z, Z, Z, Z, Z, Z, Z, Z, Z, Z, Z, Z, Z, Z, Z, Z, Z], [], [], 0⟩) (fun o => match o with | .inl o => ⟨[Z, Z, .bool false, Z, Z, Z, Z, Z, Z, Z, Z, Z, Z, Z, Z, Z, Z, Z, Z, Z, Z, Z, Z, Z, Z, Z, Z, Z, Z, Z, Z, Z, Z, Z, Z, Z, Z, Z, Z, Z, Z, Z, Z, Z, Z, Z, Z, Z, Z, Z, Z, Z, Z, Z, Z, Z, Z], [], [], 0⟩ | .inr o => ⟨[Z, .cp [.int .i64 p0.f_Quote, .sl false (List.map c_i64 p0.f_Lists), .int .i64 p0.f_Kind, .sl false (List.map c_api_Cell p0.f_Cells)], Z, Z, Z, Z, Z, Z, Z, Z, Z, Z, Z, Z, Z, Z, Z, Z, Z, Z, Z, Z, Z, Z, Z, Z, Z, Z, Z, Z, Z, Z, Z, Z, Z, Z, Z, Z, Z, Z, Z, Z, Z, Z, Z, Z, Z, Z, Z, Z, Z, Z, Z, Z, Z, Z, Z], [], [], 0⟩) hl rfl ?_ ?_
   ·clear hl
    rcases o6 with _ | _
    ·obtain rfl := Option.some.inj h
     exact finB (by first | exact .inr rfl | exact .inl rfl) (.refl _) [.bool false] [] [] (res_cons (res_tmp rfl) res_nil) rfl rfl rfl rfl rfl rfl rfl
    ·refine ex_seq ?_
     refine ex_ord [] (l := [0, 1, 2, 3]) rfl ?_
     refine pq 54 rfl (.fieldAddr rfl rfl rfl fl55u_3 rfl) ?_
     refine pq 55 rfl (x_load rfl rfl rfl sz46 un46 ag46 rfl) ?_
     obtain ⟨v7, hv7, h⟩ := bindS h
     refine pq 56 rfl (x_callP rfl rfl en46 (ok_quillworkref05u_May hv7) rfl rfl rfl rfl rfl) ?_
     refine pa 2 ?_
     refine we_nil ?_
     refine ex_ret ?_
     obtain rfl := Option.some.inj h
     exact finB (by first | exact .inr rfl | exact .inl rfl) (.refl _) [.bool v7] [] [] (res_cons (res_tmp rfl) res_nil) rfl rfl rfl rfl rfl rfl rfl
   ·clear hl h
    rintro n2 y h
    replace h : quillworkref06u_May_l1 p0 n2 = some y := h
    unfold quillworkref06u_May_l1 at h
    show Ex _ _ _ ⟨[Z, .cp [.int .i64 p0.f_Quote, .sl false (List.map c_i64 p0.f_Lists), .int .i64 p0.f_Kind, .sl false (List.map c_api_Cell p0.f_Cells)], Z, .int .i64 n2, Z, Z, Z, Z, Z, Z, Z, Z, Z, Z, Z, Z, Z, Z, Z, Z, Z, Z, Z, Z, Z, Z, Z, Z, Z, Z, Z, Z, Z, Z, Z, Z, Z, Z, Z, Z, Z, Z, Z, Z, Z, Z, Z, Z, Z, Z, Z, Z, Z, Z, Z, Z, Z], [], [], 0⟩ _
    refine ex_seq ?_
    refine ex_seq ?_
    refine ex_ord [] (l := [0, 1, 2, 3, 4]) rfl ?_
    refine pm 28 ?_
    refine pq 29 rfl (.fieldAddr rfl rfl rfl fl55u_1 rfl) ?_
    refine pq 30 rfl (x_load rfl rfl rfl sz53 un53 ag53 rfl) ?_
    refine pq 31 rfl (x_len (f := c_i64) (l := p0.f_Lists) rfl rfl rfl el53) ?_
    refine pq 32 rfl (.bin rfl rfl rfl rfl) ?_
    refine we_nil ?_
    refine ex_if rfl ?_ ?_
    ·intro hc
     replace h := iteT h hc
     refine ex_skip ?_
     refine ex_seq ?_
     refine ex_block ?_
     refine ex_seq ?_
     obtain ⟨q3, hq, h⟩ := bindS h
     refine ex_cut ⟨[Z, .cp [.int .i64 p0.f_Quote, .sl false (List.map c_i64 p0.f_Lists), .int .i64 p0.f_Kind, .sl false (List.map c_api_Cell p0.f_Cells)], Z, .int .i64 n2, Z, Z, Z, Z, Z, Z, Z, Z, Z, Z, Z, Z, Z, Z, Z, Z, Z, Z, Z, Z, Z, Z, Z, Z, Z, Z, Z, Z, Z, Z, Z, Z, Z, Z, Z, Z, Z, Z, Z, Z, Z, Z, Z, Z, Z, Z, Z, Z, Z, .bool q3, Z, Z, Z], [], [], 0⟩ ?_ ?_
     ·clear h
      have h := hq
      clear hq
      refine ex_ord [] (l := [0, 1, 2, 3, 4, 5, 6, 7, 8, 9, 10, 11, 12, 13, 14, 15, 16, 17, 18]) rfl ?_
      refine pq 35 rfl (.fieldAddr rfl rfl rfl fl55u_1 rfl) ?_
      refine pq 36 rfl (x_load rfl rfl rfl sz53 un53 ag53 rfl) ?_
      refine pm 37 ?_
      obtain ⟨v4, hv4, h⟩ := bindS h
      refine pq 38 rfl (x_idx (f := c_i64) (cs := [.int .i64 v4]) rfl rfl rfl el53 sz3 hv4 rfl rfl) ?_
      refine pq 39 rfl (x_load rfl rfl rfl sz3 un3 ag3 rfl) ?_
      refine pif 40 rfl rfl rfl rfl (.bin rfl rfl rfl rfl) ?_ ?_
      ·intro hc
       replace h := iteT h hc
       refine pm 41 ?_
       refine pq 42 rfl (.fieldAddr rfl rfl rfl fl55u_1 rfl) ?_
       refine pq 43 rfl (x_load rfl rfl rfl sz53 un53 ag53 rfl) ?_
       refine pm 44 ?_
       obtain ⟨v5, hv5, h⟩ := bindS h
       refine pq 45 rfl (x_idx (f := c_i64) (cs := [.int .i64 v5]) rfl rfl rfl el53 sz3 hv5 rfl rfl) ?_
       refine pq 46 rfl (x_load rfl rfl rfl sz3 un3 ag3 rfl) ?_
       refine pif 47 rfl rfl rfl rfl (.bin rfl rfl rfl rfl) ?_ ?_
       ·intro hc
        replace h := iteT h hc
        refine pq 48 rfl (x_pickT rfl rfl rfl rfl) ?_
        refine pm 49 ?_
        refine kq 50 ?_
        refine kq 51 ?_
        refine kq 52 ?_
        refine pq 53 rfl (x_pickT rfl rfl rfl rfl) ?_
        refine we_nil ?_
        cases h
        exact ⟨rfl, _, .re (rl [1, 1, 1, 1, 49, 1, 3]) [] [] rfl (.refl _), rfl⟩
       ·intro hc
        replace h := iteF h hc
        refine pq 48 rfl (x_pickT rfl rfl rfl rfl) ?_
        refine pm 49 ?_
        refine pq 50 rfl (.fieldAddr rfl rfl rfl fl55u_2 rfl) ?_
        refine pq 51 rfl (x_load rfl rfl rfl sz3 un3 ag3 rfl) ?_
        refine pq 52 rfl (.bin rfl rfl rfl rfl) ?_
        refine pq 53 rfl (x_pickF rfl rfl rfl rfl) ?_
        refine we_nil ?_
        cases h
        exact ⟨rfl, _, .re (rl [1, 1, 1, 1, 49, 1, 3]) [] [] rfl (.refl _), rfl⟩
      ·intro hc
       replace h := iteF h hc
       refine pm 41 ?_
       refine kq 42 ?_
       refine kq 43 ?_
       refine kq 44 ?_
       refine kq 45 ?_
       refine kq 46 ?_
       refine kq 47 ?_
       refine pq 48 rfl (x_pickF rfl rfl rfl rfl) ?_
       refine pm 49 ?_
       refine pq 50 rfl (.fieldAddr rfl rfl rfl fl55u_2 rfl) ?_
       refine pq 51 rfl (x_load rfl rfl rfl sz3 un3 ag3 rfl) ?_
       refine pq 52 rfl (.bin rfl rfl rfl rfl) ?_
       refine pq 53 rfl (x_pickF rfl rfl rfl rfl) ?_
       refine we_nil ?_
       cases h
       exact ⟨rfl, _, .re (rl [1, 1, 1, 1, 49, 1, 3]) [] [] rfl (.refl _), rfl⟩
     ·clear hq
      refine ex_if rfl ?_ ?_
      ·intro hc
       replace h := iteT h hc
       refine ex_seq ?_
       refine ex_ord [] (l := [0]) rfl ?_
       refine pa 2 ?_
       refine we_nil ?_
       refine ex_ret ?_
       exact rnd_out (o := (.inl ())) rfl (fun h => by cases h) h (.re (rl [2, 1, 54]) [] [] rfl (.refl _)) rfl
      ·intro hc
       replace h := iteF h hc
       refine ex_skip ?_
       refine ex_ord [] (l := [0, 1, 2]) rfl ?_
       refine pm 33 ?_
       refine pq 34 rfl (.bin rfl rfl rfl rfl) ?_
       refine pa 3 ?_
       refine we_nil ?_
       exact rnd_on rfl h (.re (rl [1, 1, 1, 1, 53]) [] [] rfl (.refl _)) rfl
    ·intro hc
     replace h := iteF h hc
     refine ex_exit ?_
     exact rnd_out (o := (.inr ())) rfl (fun h => by cases h) h (.re (rl [1, 1, 55]) [] [] rfl (.refl _)) rfl
theorem ok_attrs_Target {r : Bool} {p0 : List UInt8} (h : attrs_Target p0 = some r) : OkB prog 76 [.str (bs p0)] [] [] (.bool r) [] [] := by
 unfold attrs_Target at h
 refine okB_of_exG func76 rfl rfl (s0 := [.str (bs p0), Z, Z, Z, Z, Z, Z, Z, Z, Z, Z, Z, Z, Z, Z, Z, Z, Z, Z, Z, Z, Z, Z, Z, Z, Z, Z, Z, Z, Z, Z, Z, Z, Z, Z, Z, Z, Z, Z]) (b0 := []) (r0 := []) rfl rfl rfl ?_
 show Ex _ _ _ ⟨[.str (bs p0), Z, Z, Z, Z, Z, Z, Z, Z, Z, Z, Z, Z, Z, Z, Z, Z, Z, Z, Z, Z, Z, Z, Z, Z, Z, Z, Z, Z, Z, Z, Z, Z, Z, Z, Z, Z, Z, Z], [], [], 0⟩ _
 refine ex_seq ?_
 refine ex_ord [] (l := [0]) rfl ?_
 refine pa 2 ?_
 refine we_nil ?_
 refine ex_seq ?_
 refine ex_ord [] (l := [0, 1, 2, 3, 4, 5, 6, 7, 8]) rfl ?_
 refine pm 8 ?_
 obtain ⟨v1, hv1, h⟩ := bindS h
 refine pq 9 rfl (x_callP rfl rfl en110 (ok_strings_Cut hv1) rfl rfl rfl rfl rfl) ?_
 refine pm 7 ?_
 refine pq 10 rfl (.extract rfl rfl rfl rfl) ?_
 refine pq 11 rfl (.extract rfl rfl rfl rfl) ?_
 refine pq 12 rfl (.extract rfl rfl rfl rfl) ?_
 refine pa 3 ?_
 refine pa 4 ?_
 refine pa 5 ?_
 refine we_nil ?_
 refine ex_seq ?_
 refine ex_ord [] (l := [0, 1, 2, 3]) rfl ?_
 refine pm 13 ?_
 obtain ⟨v2, hv2, h⟩ := bindS h
 refine pq 14 rfl (x_callP rfl rfl en111 (ok_strings_Map ⟨en112, rfl, rfl⟩ (fun _ _ h => ok_attrs_Target_1 h) tot_attrs_Target_1 hv2) rfl rfl rfl rfl rfl) ?_
 refine pq 15 rfl (x_eqS rfl rfl rfl) ?_
 refine pa 6 ?_
 refine we_nil ?_
 refine ex_seq ?_
 obtain ⟨q3, hq, h⟩ := bindS h
 refine ex_cut ⟨[Z, Z, .bool q3, Z, Z, Z, Z, Z, Z, Z, Z, Z, Z, Z, Z, Z, Z, Z, Z, Z, Z, Z, Z, Z, Z, Z, Z, Z, Z, Z, Z, Z, Z, Z, Z, Z, Z, Z, Z], [], [], 0⟩ ?_ ?_
 ·clear h
  have h := hq
  clear hq
  refine ex_ord [] (l := [0, 1, 2, 3, 4, 5, 6, 7, 8, 9, 10, 11, 12, 13, 14, 15, 16, 17, 18, 19, 20, 21, 22, 23]) rfl ?_
  refine pm 16 ?_
  obtain ⟨v4, hv4, h⟩ := bindS h
  refine pif 17 rfl rfl rfl rfl (x_callP rfl rfl en113 (ok_attrs_Value hv4) rfl rfl rfl rfl rfl) ?_ ?_
  ·intro hc
   replace h := iteT h hc
   refine pm 18 ?_
   refine pm 19 ?_
   refine pif 20 rfl rfl rfl rfl (x_neS rfl rfl rfl) ?_ ?_
   ·intro hc
    replace h := iteT h hc
    refine pq 21 rfl (x_pickT rfl rfl rfl rfl) ?_
    refine pm 22 ?_
    refine pm 23 ?_
    obtain ⟨v5, hv5, h⟩ := bindS h
    refine pq 24 rfl (x_idxS rfl rfl rfl us9 hv5) ?_
    refine pif 25 rfl rfl rfl rfl (.bin rfl rfl rfl rfl) ?_ ?_
    ·intro hc
     replace h := iteT h hc
     refine pq 26 rfl (x_pickT rfl rfl rfl rfl) ?_
     refine pm 27 ?_
     refine pm 28 ?_
     refine pm 29 ?_
     refine pq 30 rfl (x_lenS rfl rfl us9) ?_
     refine pq 31 rfl (.bin rfl rfl rfl rfl) ?_
     obtain ⟨v6, hv6, h⟩ := bindS h
     refine pq 32 rfl (x_idxS rfl rfl rfl us9 hv6) ?_
     refine pif 33 rfl rfl rfl rfl (.bin rfl rfl rfl rfl) ?_ ?_
     ·intro hc
      replace h := iteT h hc
      refine pq 34 rfl (x_pickT rfl rfl rfl rfl) ?_
      refine pm 35 ?_
      refine pm 36 ?_
      refine pq 37 rfl (.un rfl rfl rfl) ?_
      refine pq 38 rfl (x_pickT rfl rfl rfl rfl) ?_
      refine pa 2 ?_
      refine we_nil ?_
      cases h
      exact ⟨rfl, _, .re (rl [2, 1, 36]) [] [] rfl (.refl _), rfl⟩
     ·intro hc
      replace h := iteF h hc
      refine pq 34 rfl (x_pickT rfl rfl rfl rfl) ?_
      refine pm 35 ?_
      refine kq 36 ?_
      refine kq 37 ?_
      refine pq 38 rfl (x_pickF rfl rfl rfl rfl) ?_
      refine pa 2 ?_
      refine we_nil ?_
      cases h
      exact ⟨rfl, _, .re (rl [2, 1, 36]) [] [] rfl (.refl _), rfl⟩
    ·intro hc
     replace h := iteF h hc
     refine pq 26 rfl (x_pickT rfl rfl rfl rfl) ?_
     refine pm 27 ?_
     refine kq 28 ?_
     refine kq 29 ?_
     refine kq 30 ?_
     refine kq 31 ?_
     refine kq 32 ?_
     refine kq 33 ?_
     refine pq 34 rfl (x_pickF rfl rfl rfl rfl) ?_
     refine pm 35 ?_
     refine kq 36 ?_
     refine kq 37 ?_
     refine pq 38 rfl (x_pickF rfl rfl rfl rfl) ?_
     refine pa 2 ?_
     refine we_nil ?_
     cases h
     exact ⟨rfl, _, .re (rl [2, 1, 36]) [] [] rfl (.refl _), rfl⟩
   ·intro hc
    replace h := iteF h hc
    refine pq 21 rfl (x_pickT rfl rfl rfl rfl) ?_
    refine pm 22 ?_
    refine kq 23 ?_
    refine kq 24 ?_
    refine kq 25 ?_
    refine pq 26 rfl (x_pickF rfl rfl rfl rfl) ?_
    refine pm 27 ?_
    refine kq 28 ?_
    refine kq 29 ?_
    refine kq 30 ?_
    refine kq 31 ?_
    refine kq 32 ?_
    refine kq 33 ?_
    refine pq 34 rfl (x_pickF rfl rfl rfl rfl) ?_
    refine pm 35 ?_
    refine kq 36 ?_
    refine kq 37 ?_
    refine pq 38 rfl (x_pickF rfl rfl rfl rfl) ?_
    refine pa 2 ?_
    refine we_nil ?_
    cases h
    exact ⟨rfl, _, .re (rl [2, 1, 36]) [] [] rfl (.refl _), rfl⟩
  ·intro hc
   replace h := iteF h hc
   refine pm 18 ?_
   refine kq 19 ?_
   refine kq 20 ?_
   refine pq 21 rfl (x_pickF rfl rfl rfl rfl) ?_
   refine pm 22 ?_
   refine kq 23 ?_
   refine kq 24 ?_
   refine kq 25 ?_
   refine pq 26 rfl (x_pickF rfl rfl rfl rfl) ?_
   refine pm 27 ?_
   refine kq 28 ?_
   refine kq 29 ?_
   refine kq 30 ?_
   refine kq 31 ?_
   refine kq 32 ?_
   refine kq 33 ?_
   refine pq 34 rfl (x_pickF rfl rfl rfl rfl) ?_
   refine pm 35 ?_
   refine kq 36 ?_
   refine kq 37 ?_
   refine pq 38 rfl (x_pickF rfl rfl rfl rfl) ?_
   refine pa 2 ?_
   refine we_nil ?_
   cases h
   exact ⟨rfl, _, .re (rl [2, 1, 36]) [] [] rfl (.refl _), rfl⟩
 ·clear hq
  refine ex_ret ?_
  obtain rfl := Option.some.inj h
  exact finB (by first | exact .inr rfl | exact .inl rfl) (.refl _) [.bool q3] [] [] (res_cons (res_tmp rfl) res_nil) rfl rfl rfl rfl rfl rfl rfl
theorem ok_cells_link {r : Bool} {p0 : List UInt8} (h : cells_link p0 = some r) : OkB prog 114 [.str (bs p0)] [] [] (.bool r) [] [] := by
 unfold cells_link at h
 refine okB_of_exG func114 rfl rfl (s0 := [.str (bs p0), Z, Z, Z, Z, Z, Z, Z, Z]) (b0 := []) (r0 := []) rfl rfl rfl ?_
 show Ex _ _ _ ⟨[.str (bs p0), Z, Z, Z, Z, Z, Z, Z, Z], [], [], 0⟩ _
 refine ex_seq ?_
 refine ex_ord [] (l := [0]) rfl ?_
 refine pa 2 ?_
 refine we_nil ?_
 refine ex_seq ?_
 obtain ⟨q1, hq, h⟩ := bindS h
 refine ex_cut ⟨[Z, Z, .bool q1, Z, Z, Z, Z, Z, Z], [], [], 0⟩ ?_ ?_
 ·clear h
  have h := hq
  clear hq
  refine ex_ord [] (l := [0, 1, 2, 3, 4, 5, 6]) rfl ?_
  refine pm 3 ?_
  refine pif 4 rfl rfl rfl rfl (x_eqS rfl rfl rfl) ?_ ?_
  ·intro hc
   replace h := iteT h hc
   refine pm 5 ?_
   refine kq 6 ?_
   refine kq 7 ?_
   refine pq 8 rfl (x_pickT rfl rfl rfl rfl) ?_
   refine pa 2 ?_
   refine we_nil ?_
   cases h
   exact ⟨rfl, _, .re (rl [2, 1, 6]) [] [] rfl (.refl _), rfl⟩
  ·intro hc
   replace h := iteF h hc
   refine pm 5 ?_
   refine pm 6 ?_
   obtain ⟨v2, hv2, h⟩ := bindS h
   refine pq 7 rfl (x_callP rfl rfl en76 (ok_attrs_Target hv2) rfl rfl rfl rfl rfl) ?_
   refine pq 8 rfl (x_pickF rfl rfl rfl rfl) ?_
   refine pa 2 ?_
   refine we_nil ?_
   cases h
   exact ⟨rfl, _, .re (rl [2, 1, 6]) [] [] rfl (.refl _), rfl⟩
 ·clear hq
  refine ex_ret ?_
  obtain rfl := Option.some.inj h
  exact finB (by first | exact .inr rfl | exact .inl rfl) (.refl _) [.bool q1] [] [] (res_cons (res_tmp rfl) res_nil) rfl rfl rfl rfl rfl rfl rfl
theorem ok_cells_May_1 {r : Bool} {p0 : T_api_Cell} (h : cells_May_1 p0 = some r) : OkB prog 128 [.agg [.int .i32 p0.f_R, .int .i64 p0.f_Bits, .str (bs p0.f_Href)]] [] [] (.bool r) [] [] := by
 unfold cells_May_1 at h
 refine okB_of_exG func128 rfl rfl (s0 := [.agg [.int .i32 p0.f_R, .int .i64 p0.f_Bits, .str (bs p0.f_Href)], Z, Z, Z, Z, Z, Z, Z, Z, Z, Z, Z, Z, Z, Z, Z, Z, Z, Z, Z, Z, Z, Z, Z, Z, Z, Z, Z]) (b0 := []) (r0 := []) rfl rfl rfl ?_
 show Ex _ _ _ ⟨[.agg [.int .i32 p0.f_R, .int .i64 p0.f_Bits, .str (bs p0.f_Href)], Z, Z, Z, Z, Z, Z, Z, Z, Z, Z, Z, Z, Z, Z, Z, Z, Z, Z, Z, Z, Z, Z, Z, Z, Z, Z, Z], [], [], 0⟩ _
 refine ex_seq ?_
 refine ex_ord [0] (l := [0, 1]) rfl ?_
 refine e_ (d := .bx 0 0) 1 rfl rfl rfl rfl rfl (b' := [some [.int .i32 p0.f_R, .int .i64 p0.f_Bits, .str (bs p0.f_Href)]]) (r' := []) (.box rfl rfl rfl) rfl ?_
 refine pa 2 ?_
 refine we_nil ?_
 refine ex_seq ?_
 refine ex_gst ⟨[.agg [.int .i32 p0.f_R, .int .i64 p0.f_Bits, .str (bs p0.f_Href)], .cp [.int .i32 p0.f_R, .int .i64 p0.f_Bits, .str (bs p0.f_Href)], .bool false, Z, Z, Z, Z, Z, Z, Z, Z, Z, Z, Z, Z, Z, Z, Z, Z, Z, Z, Z, Z, Z, Z, Z, Z, Z], [none], [], 0⟩ (.shutB (b := 0) rfl (fun d h => by simpa using List.all_eq_true.1 (rfl : List.all [.int .i32 p0.f_R, .int .i64 p0.f_Bits, .str (bs p0.f_Href)] (fun d => !d.tok) = true) d h) (.refl _)) rfl ?_
 obtain ⟨q1, hq, h⟩ := bindS h
 refine ex_cut ⟨[Z, Z, .bool q1, Z, Z, Z, Z, Z, Z, Z, Z, Z, Z, Z, Z, Z, Z, Z, Z, Z, Z, Z, Z, Z, Z, Z, Z, Z], [], [], 0⟩ ?_ ?_
 ·clear h
  have h := hq
  clear hq
  refine ex_ord [] (l := [0, 1, 2, 3, 4, 5, 6, 7, 8, 9, 10, 11, 12, 13, 14, 15, 16, 17, 18, 19, 20, 21, 22, 23, 24, 25]) rfl ?_
  refine pq 3 rfl (.fieldAddr rfl rfl rfl fl58u_0 rfl) ?_
  refine pq 4 rfl (x_load rfl rfl rfl sz21 un21 ag21 rfl) ?_
  obtain ⟨v2, hv2, h⟩ := bindS h
  refine pif 5 rfl rfl rfl rfl (x_callP rfl rfl en129 (ok_chars_May hv2) rfl rfl rfl rfl rfl) ?_ ?_
  ·intro hc
   replace h := iteT h hc
   refine pq 6 rfl (.un rfl rfl rfl) ?_
   refine pm 7 ?_
   refine kq 8 ?_
   refine kq 9 ?_
   refine kq 10 ?_
   refine pq 11 rfl (x_pickF rfl rfl rfl rfl) ?_
   refine pm 12 ?_
   refine pq 13 rfl (.fieldAddr rfl rfl rfl fl58u_1 rfl) ?_
   refine pq 14 rfl (x_load rfl rfl rfl sz3 un3 ag3 rfl) ?_
   refine pif 15 rfl rfl rfl rfl (.bin rfl rfl rfl rfl) ?_ ?_
   ·intro hc
    replace h := iteT h hc
    refine pq 16 rfl (x_pickF rfl rfl rfl rfl) ?_
    refine pm 17 ?_
    refine kq 18 ?_
    refine kq 19 ?_
    refine kq 20 ?_
    refine pq 21 rfl (x_pickT rfl rfl rfl rfl) ?_
    refine pm 22 ?_
    refine kq 23 ?_
    refine kq 24 ?_
    refine kq 25 ?_
    refine kq 26 ?_
    refine pq 27 rfl (x_pickT rfl rfl rfl rfl) ?_
    refine pa 2 ?_
    refine we_nil ?_
    cases h
    exact ⟨rfl, _, .re (rl [2, 1, 25]) [] [] rfl (.refl _), rfl⟩
   ·intro hc
    replace h := iteF h hc
    refine pq 16 rfl (x_pickF rfl rfl rfl rfl) ?_
    refine pm 17 ?_
    refine pq 18 rfl (.fieldAddr rfl rfl rfl fl58u_1 rfl) ?_
    refine pq 19 rfl (x_load rfl rfl rfl sz3 un3 ag3 rfl) ?_
    refine pif 20 rfl rfl rfl rfl (.bin rfl rfl rfl rfl) ?_ ?_
    ·intro hc
     replace h := iteT h hc
     refine pq 21 rfl (x_pickF rfl rfl rfl rfl) ?_
     refine pm 22 ?_
     refine kq 23 ?_
     refine kq 24 ?_
     refine kq 25 ?_
     refine kq 26 ?_
     refine pq 27 rfl (x_pickT rfl rfl rfl rfl) ?_
     refine pa 2 ?_
     refine we_nil ?_
     cases h
     exact ⟨rfl, _, .re (rl [2, 1, 25]) [] [] rfl (.refl _), rfl⟩
    ·intro hc
     replace h := iteF h hc
     refine pq 21 rfl (x_pickF rfl rfl rfl rfl) ?_
     refine pm 22 ?_
     refine pq 23 rfl (.fieldAddr rfl rfl rfl fl58u_2 rfl) ?_
     refine pq 24 rfl (x_load rfl rfl rfl sz9 un9 ag9 rfl) ?_
     obtain ⟨v3, hv3, h⟩ := bindS h
     refine pq 25 rfl (x_callP rfl rfl en114 (ok_cells_link hv3) rfl rfl rfl rfl rfl) ?_
     refine pq 26 rfl (.un rfl rfl rfl) ?_
     refine pq 27 rfl (x_pickF rfl rfl rfl rfl) ?_
     refine pa 2 ?_
     refine we_nil ?_
     cases h
     exact ⟨rfl, _, .re (rl [2, 1, 25]) [] [] rfl (.refl _), rfl⟩
  ·intro hc
   replace h := iteF h hc
   refine pq 6 rfl (.un rfl rfl rfl) ?_
   refine pm 7 ?_
   refine pq 8 rfl (.fieldAddr rfl rfl rfl fl58u_0 rfl) ?_
   refine pq 9 rfl (x_load rfl rfl rfl sz21 un21 ag21 rfl) ?_
   refine pif 10 rfl rfl rfl rfl (.bin rfl rfl rfl rfl) ?_ ?_
   ·intro hc
    replace h := iteT h hc
    refine pq 11 rfl (x_pickT rfl rfl rfl rfl) ?_
    refine pm 12 ?_
    refine kq 13 ?_
    refine kq 14 ?_
    refine kq 15 ?_
    refine pq 16 rfl (x_pickT rfl rfl rfl rfl) ?_
    refine pm 17 ?_
    refine kq 18 ?_
    refine kq 19 ?_
    refine kq 20 ?_
    refine pq 21 rfl (x_pickT rfl rfl rfl rfl) ?_
    refine pm 22 ?_
    refine kq 23 ?_
    refine kq 24 ?_
    refine kq 25 ?_
    refine kq 26 ?_
    refine pq 27 rfl (x_pickT rfl rfl rfl rfl) ?_
    refine pa 2 ?_
    refine we_nil ?_
    cases h
    exact ⟨rfl, _, .re (rl [2, 1, 25]) [] [] rfl (.refl _), rfl⟩
   ·intro hc
    replace h := iteF h hc
    refine pq 11 rfl (x_pickT rfl rfl rfl rfl) ?_
    refine pm 12 ?_
    refine pq 13 rfl (.fieldAddr rfl rfl rfl fl58u_1 rfl) ?_
    refine pq 14 rfl (x_load rfl rfl rfl sz3 un3 ag3 rfl) ?_
    refine pif 15 rfl rfl rfl rfl (.bin rfl rfl rfl rfl) ?_ ?_
    ·intro hc
     replace h := iteT h hc
     refine pq 16 rfl (x_pickF rfl rfl rfl rfl) ?_
     refine pm 17 ?_
     refine kq 18 ?_
     refine kq 19 ?_
     refine kq 20 ?_
     refine pq 21 rfl (x_pickT rfl rfl rfl rfl) ?_
     refine pm 22 ?_
     refine kq 23 ?_
     refine kq 24 ?_
     refine kq 25 ?_
     refine kq 26 ?_
     refine pq 27 rfl (x_pickT rfl rfl rfl rfl) ?_
     refine pa 2 ?_
     refine we_nil ?_
     cases h
     exact ⟨rfl, _, .re (rl [2, 1, 25]) [] [] rfl (.refl _), rfl⟩
    ·intro hc
     replace h := iteF h hc
     refine pq 16 rfl (x_pickF rfl rfl rfl rfl) ?_
     refine pm 17 ?_
     refine pq 18 rfl (.fieldAddr rfl rfl rfl fl58u_1 rfl) ?_
     refine pq 19 rfl (x_load rfl rfl rfl sz3 un3 ag3 rfl) ?_
     refine pif 20 rfl rfl rfl rfl (.bin rfl rfl rfl rfl) ?_ ?_
     ·intro hc
      replace h := iteT h hc
      refine pq 21 rfl (x_pickF rfl rfl rfl rfl) ?_
      refine pm 22 ?_
      refine kq 23 ?_
      refine kq 24 ?_
      refine kq 25 ?_
      refine kq 26 ?_
      refine pq 27 rfl (x_pickT rfl rfl rfl rfl) ?_
      refine pa 2 ?_
      refine we_nil ?_
      cases h
      exact ⟨rfl, _, .re (rl [2, 1, 25]) [] [] rfl (.refl _), rfl⟩
     ·intro hc
      replace h := iteF h hc
      refine pq 21 rfl (x_pickF rfl rfl rfl rfl) ?_
      refine pm 22 ?_
      refine pq 23 rfl (.fieldAddr rfl rfl rfl fl58u_2 rfl) ?_
      refine pq 24 rfl (x_load rfl rfl rfl sz9 un9 ag9 rfl) ?_
      obtain ⟨v4, hv4, h⟩ := bindS h
      refine pq 25 rfl (x_callP rfl rfl en114 (ok_cells_link hv4) rfl rfl rfl rfl rfl) ?_
      refine pq 26 rfl (.un rfl rfl rfl) ?_
      refine pq 27 rfl (x_pickF rfl rfl rfl rfl) ?_
      refine pa 2 ?_
      refine we_nil ?_
      cases h
      exact ⟨rfl, _, .re (rl [2, 1, 25]) [] [] rfl (.refl _), rfl⟩
 ·clear hq
  refine ex_ret ?_
  obtain rfl := Option.some.inj h
  exact finB (by first | exact .inr rfl | exact .inl rfl) (.refl _) [.bool q1] [] [] (res_cons (res_tmp rfl) res_nil) rfl rfl rfl rfl rfl rfl rfl
theorem ok_quillworkref07u_May {r : Bool} {p0 : List (T_api_Line)} (h : quillworkref07u_May p0 = some r) : OkB prog 14 [.sl false (List.map c_api_Line p0)] [] [] (.bool r) [] [] := by
 unfold quillworkref07u_May at h
 refine okB_of_exG func14 rfl rfl (s0 := [.sl false (List.map c_api_Line p0), Z, Z, Z, Z, Z, Z, Z, Z, Z, Z, Z, Z, Z, Z, Z, Z, Z, Z, Z, Z, Z, Z, Z, Z, Z, Z, Z, Z]) (b0 := []) (r0 := []) rfl rfl rfl ?_
 show Ex _ _ _ ⟨[.sl false (List.map c_api_Line p0), Z, Z, Z, Z, Z, Z, Z, Z, Z, Z, Z, Z, Z, Z, Z, Z, Z, Z, Z, Z, Z, Z, Z, Z, Z, Z, Z, Z], [], [], 0⟩ _
 refine ex_seq ?_
 refine ex_ord [] (l := [0]) rfl ?_
 refine pa 2 ?_
 refine we_nil ?_
 refine ex_seq ?_
 refine ex_seq ?_
 obtain ⟨q1, hq, h⟩ := bindS h
 refine ex_cut ⟨[.sl false (List.map c_api_Line p0), Z, Z, Z, Z, Z, Z, Z, Z, Z, Z, Z, Z, Z, Z, Z, .bool q1, Z, Z, Z, Z, Z, Z, Z, Z, Z, Z, Z, Z], [], [], 0⟩ ?_ ?_
 ·clear h
  have h := hq
  clear hq
  refine ex_ord [] (l := [0, 1, 2, 3, 4, 5, 6, 7, 8, 9, 10, 11, 12]) rfl ?_
  refine pm 4 ?_
  refine pq 5 rfl (x_len (f := c_api_Line) (l := p0) rfl rfl rfl el22) ?_
  refine pif 6 rfl rfl rfl rfl (.bin rfl rfl rfl rfl) ?_ ?_
  ·intro hc
   replace h := iteT h hc
   refine pm 7 ?_
   refine kq 8 ?_
   refine kq 9 ?_
   refine kq 10 ?_
   refine pq 11 rfl (x_pickT rfl rfl rfl rfl) ?_
   refine pm 12 ?_
   refine kq 13 ?_
   refine kq 14 ?_
   refine kq 15 ?_
   refine pq 16 rfl (x_pickT rfl rfl rfl rfl) ?_
   refine we_nil ?_
   cases h
   exact ⟨rfl, _, .re (rl [0, 1, 15, 1, 12]) [] [] rfl (.refl _), rfl⟩
  ·intro hc
   replace h := iteF h hc
   refine pm 7 ?_
   refine pm 8 ?_
   refine pq 9 rfl (x_len (f := c_api_Line) (l := p0) rfl rfl rfl el22) ?_
   refine pif 10 rfl rfl rfl rfl (.bin rfl rfl rfl rfl) ?_ ?_
   ·intro hc
    replace h := iteT h hc
    refine pq 11 rfl (x_pickF rfl rfl rfl rfl) ?_
    refine pm 12 ?_
    refine kq 13 ?_
    refine kq 14 ?_
    refine kq 15 ?_
    refine pq 16 rfl (x_pickT rfl rfl rfl rfl) ?_
    refine we_nil ?_
    cases h
    exact ⟨rfl, _, .re (rl [0, 1, 15, 1, 12]) [] [] rfl (.refl _), rfl⟩
   ·intro hc
    replace h := iteF h hc
    refine pq 11 rfl (x_pickF rfl rfl rfl rfl) ?_
    refine pm 12 ?_
    refine pm 13 ?_
    obtain ⟨v2, hv2, h⟩ := bindS h
    refine pq 14 rfl (x_callP rfl rfl en16 (ok_quillworkref07u_Size hv2) rfl rfl rfl rfl rfl) ?_
    refine pq 15 rfl (.bin rfl rfl rfl rfl) ?_
    refine pq 16 rfl (x_pickF rfl rfl rfl rfl) ?_
    refine we_nil ?_
    cases h
    exact ⟨rfl, _, .re (rl [0, 1, 15, 1, 12]) [] [] rfl (.refl _), rfl⟩
 ·clear hq
  refine ex_if rfl ?_ ?_
  ·intro hc
   replace h := iteT h hc
   refine ex_seq ?_
   refine ex_ord [] (l := [0]) rfl ?_
   refine pa 2 ?_
   refine we_nil ?_
   refine ex_ret ?_
   obtain rfl := Option.some.inj h
   exact finB (by first | exact .inr rfl | exact .inl rfl) (.refl _) [.bool false] [] [] (res_cons (res_tmp rfl) res_nil) rfl rfl rfl rfl rfl rfl rfl
  ·intro hc
   replace h := iteF h hc
   refine ex_skip ?_
   refine ex_seq ?_
   refine ex_seq ?_
   refine ex_ord [] (l := [0]) rfl ?_
   refine pa 3 ?_
   refine we_nil ?_
   refine ex_block ?_
   obtain ⟨o6, hl, h⟩ := bindS h
   refine ex_gst ⟨[.sl false (List.map c_api_Line p0), Z, Z, .int .i64 0, Z, Z, Z, Z, Z, Z, Z, Z, Z, Z, Z, Z, Z, Z, Z, Z, Z, Z, Z, Z, Z, Z, Z, Z, Z], [], [], 0⟩ (.re (rl [0, 1, 2, 1, 25]) [] [] rfl (.refl _)) rfl ?_
   refine ex_iterX (fun o => match o with | .inl _ => .ret | .inr _ => .exit 0) (fun s => ⟨[.sl false (List.map c_api_Line p0), Z, Z, .int .i64 s, Z, Z, Z, Z, Z, Z, Z, Z, Z, Z, Z, Z, Z, Z, Z, Z, Z, Z, Z, Z, Z, Z, Z, Z, Z], [], [], 0⟩) (fun o => match o with | .inl o => ⟨[Z, Z, .bool false, Z, Z, Z, Z, Z, Z, Z, Z, Z, Z, Z, Z, Z, Z, Z, Z, Z, Z, Z, Z, Z, Z, Z, Z, Z, Z], [], [], 0⟩ | .inr o => ⟨[Z, Z, Z, Z, Z, Z, Z, Z, Z, Z, Z, Z, Z, Z, Z, Z, Z, Z, Z, Z, Z, Z, Z, Z, Z, Z, Z, Z, Z], [], [], 0⟩) hl rfl ?_ ?_
   ·clear hl
    rcases o6 with _ | _
    ·obtain rfl := Option.some.inj h
     exact finB (by first | exact .inr rfl | exact .inl rfl) (.refl _) [.bool false] [] [] (res_cons (res_tmp rfl) res_nil) rfl rfl rfl rfl rfl rfl rfl
    ·refine ex_seq ?_
     refine ex_ord [] (l := [0]) rfl ?_
     refine pa 2 ?_
     refine we_nil ?_
     refine ex_ret ?_
     obtain rfl := Option.some.inj h
     exact finB (by first | exact .inr rfl | exact .inl rfl) (.refl _) [.bool true] [] [] (res_cons (res_tmp rfl) res_nil) rfl rfl rfl rfl rfl rfl rfl
   ·clear hl h
    rintro n3 y h
    replace h : quillworkref07u_May_l1 p0 n3 = some y := h
    unfold quillworkref07u_May_l1 at h
    show Ex _ _ _ ⟨[.sl false (List.map c_api_Line p0), Z, Z, .int .i64 n3, Z, Z, Z, Z, Z, Z, Z, Z, Z, Z, Z, Z, Z, Z, Z, Z, Z, Z, Z, Z, Z, Z, Z, Z, Z], [], [], 0⟩ _
    refine ex_seq ?_
    refine ex_seq ?_
    refine ex_ord [] (l := [0, 1, 2, 3]) rfl ?_
    refine pm 17 ?_
    refine pm 18 ?_
    refine pq 19 rfl (x_len (f := c_api_Line) (l := p0) rfl rfl rfl el22) ?_
    refine pq 20 rfl (.bin rfl rfl rfl rfl) ?_
    refine we_nil ?_
    refine ex_if rfl ?_ ?_
    ·intro hc
     replace h := iteT h hc
     refine ex_skip ?_
     refine ex_seq ?_
     refine ex_block ?_
     refine ex_seq ?_
     refine ex_ord [] (l := [0, 1, 2, 3, 4, 5]) rfl ?_
     refine pm 23 ?_
     refine pm 24 ?_
     obtain ⟨v4, hv4, h⟩ := bindS h
     refine pq 25 rfl (x_idx (f := c_api_Line) (cs := [.int .i64 v4.f_Quote, .sl false (List.map c_i64 v4.f_Lists), .int .i64 v4.f_Kind, .sl false (List.map c_api_Cell v4.f_Cells)]) rfl rfl rfl el22 sz55 hv4 rfl rfl) ?_
     refine pq 26 rfl (x_loadA rfl rfl rfl sz55 un55 ag55 rfl) ?_
     obtain ⟨v5, hv5, h⟩ := bindS h
     refine pq 27 rfl (x_callP rfl rfl en63 (ok_quillworkref06u_May hv5) rfl rfl rfl rfl rfl) ?_
     refine pq 28 rfl (.un rfl rfl rfl) ?_
     refine we_nil ?_
     refine ex_if rfl ?_ ?_
     ·intro hc
      replace h := iteT h hc
      refine ex_seq ?_
      refine ex_ord [] (l := [0]) rfl ?_
      refine pa 2 ?_
      refine we_nil ?_
      refine ex_ret ?_
      exact rnd_out (o := (.inl ())) rfl (fun h => by cases h) h (.re (rl [2, 1, 26]) [] [] rfl (.refl _)) rfl
     ·intro hc
      replace h := iteF h hc
      refine ex_skip ?_
      refine ex_ord [] (l := [0, 1, 2]) rfl ?_
      refine pm 21 ?_
      refine pq 22 rfl (.bin rfl rfl rfl rfl) ?_
      refine pa 3 ?_
      refine we_nil ?_
      exact rnd_on rfl h (.re (rl [0, 1, 2, 1, 25]) [] [] rfl (.refl _)) rfl
    ·intro hc
     replace h := iteF h hc
     refine ex_exit ?_
     exact rnd_out (o := (.inr ())) rfl (fun h => by cases h) h (.re (rl [29]) [] [] rfl (.refl _)) rfl
theorem ok_quillworkref07u_Span {r : Bool} {p0 : List (T_api_Line)} {p1 : T_api_Pos} {p2 : T_api_Pos} (h : quillworkref07u_Span p0 p1 p2 = some r) : OkB prog 72 [.sl false (List.map c_api_Line p0), .agg [.int .i64 p1.f_Line, .int .i64 p1.f_At], .agg [.int .i64 p2.f_Line, .int .i64 p2.f_At]] [] [] (.bool r) [] [] := by
 unfold quillworkref07u_Span at h
 refine okB_of_exG func72 rfl rfl (s0 := [.sl false (List.map c_api_Line p0), .agg [.int .i64 p1.f_Line, .int .i64 p1.f_At], .agg [.int .i64 p2.f_Line, .int .i64 p2.f_At], Z, Z, Z, Z, Z, Z, Z, Z, Z, Z, Z, Z, Z, Z, Z, Z, Z, Z, Z, Z, Z, Z]) (b0 := []) (r0 := []) rfl rfl rfl ?_
 show Ex _ _ _ ⟨[.sl false (List.map c_api_Line p0), .agg [.int .i64 p1.f_Line, .int .i64 p1.f_At], .agg [.int .i64 p2.f_Line, .int .i64 p2.f_At], Z, Z, Z, Z, Z, Z, Z, Z, Z, Z, Z, Z, Z, Z, Z, Z, Z, Z, Z, Z, Z, Z], [], [], 0⟩ _
 refine ex_seq ?_
 refine ex_ord [0, 1] (l := [0, 1, 2]) rfl ?_
 refine e_ (d := .bx 0 0) 4 rfl rfl rfl rfl rfl (b' := [some [.int .i64 p1.f_Line, .int .i64 p1.f_At]]) (r' := []) (.box rfl rfl rfl) rfl ?_
 refine e_ (d := .bx 1 0) 5 rfl rfl rfl rfl rfl (b' := [some [.int .i64 p1.f_Line, .int .i64 p1.f_At], some [.int .i64 p2.f_Line, .int .i64 p2.f_At]]) (r' := []) (.box rfl rfl rfl) rfl ?_
 refine pa 6 ?_
 refine we_nil ?_
 refine ex_seq ?_
 refine ex_gst ⟨[.sl false (List.map c_api_Line p0), .agg [.int .i64 p1.f_Line, .int .i64 p1.f_At], .agg [.int .i64 p2.f_Line, .int .i64 p2.f_At], Z, .cp [.int .i64 p1.f_Line, .int .i64 p1.f_At], .bx 1 0, .bool false, Z, Z, Z, Z, Z, Z, Z, Z, Z, Z, Z, Z, Z, Z, Z, Z, Z, Z], [none, some [.int .i64 p2.f_Line, .int .i64 p2.f_At]], [], 0⟩ (.shutB (b := 0) rfl (fun d h => by simpa using List.all_eq_true.1 (rfl : List.all [.int .i64 p1.f_Line, .int .i64 p1.f_At] (fun d => !d.tok) = true) d h) (.refl _)) rfl ?_
 refine ex_gst ⟨[.sl false (List.map c_api_Line p0), .agg [.int .i64 p1.f_Line, .int .i64 p1.f_At], .agg [.int .i64 p2.f_Line, .int .i64 p2.f_At], Z, .cp [.int .i64 p1.f_Line, .int .i64 p1.f_At], .cp [.int .i64 p2.f_Line, .int .i64 p2.f_At], .bool false, Z, Z, Z, Z, Z, Z, Z, Z, Z, Z, Z, Z, Z, Z, Z, Z, Z, Z], [none, none], [], 0⟩ (.shutB (b := 1) rfl (fun d h => by simpa using List.all_eq_true.1 (rfl : List.all [.int .i64 p2.f_Line, .int .i64 p2.f_At] (fun d => !d.tok) = true) d h) (.refl _)) rfl ?_
 obtain ⟨q1, hq, h⟩ := bindS h
 refine ex_cut ⟨[Z, Z, Z, Z, Z, Z, .bool q1, Z, Z, Z, Z, Z, Z, Z, Z, Z, Z, Z, Z, Z, Z, Z, Z, Z, Z], [], [], 0⟩ ?_ ?_
 ·clear h
  have h := hq
  clear hq
  refine ex_ord [] (l := [0, 1, 2, 3, 4, 5, 6, 7, 8, 9, 10, 11, 12, 13, 14, 15, 16, 17, 18]) rfl ?_
  refine pm 7 ?_
  obtain ⟨v2, hv2, h⟩ := bindS h
  refine pif 8 rfl rfl rfl rfl (x_callP rfl rfl en14 (ok_quillworkref07u_May hv2) rfl rfl rfl rfl rfl) ?_ ?_
  ·intro hc
   replace h := iteT h hc
   refine pm 9 ?_
   refine pm 10 ?_
   refine pq 11 rfl (x_loadA rfl rfl rfl sz24 un24 ag24 rfl) ?_
   obtain ⟨v3, hv3, h⟩ := bindS h
   refine pif 12 rfl rfl rfl rfl (x_callP rfl rfl en20 (ok_quillworkref07u_Is hv3) rfl rfl rfl rfl rfl) ?_ ?_
   ·intro hc
    replace h := iteT h hc
    refine pq 13 rfl (x_pickT rfl rfl rfl rfl) ?_
    refine pm 14 ?_
    refine pm 15 ?_
    refine pq 16 rfl (x_loadA rfl rfl rfl sz24 un24 ag24 rfl) ?_
    obtain ⟨v4, hv4, h⟩ := bindS h
    refine pif 17 rfl rfl rfl rfl (x_callP rfl rfl en20 (ok_quillworkref07u_Is hv4) rfl rfl rfl rfl rfl) ?_ ?_
    ·intro hc
     replace h := iteT h hc
     refine pq 18 rfl (x_pickT rfl rfl rfl rfl) ?_
     refine pm 19 ?_
     refine pq 20 rfl (x_loadA rfl rfl rfl sz24 un24 ag24 rfl) ?_
     refine pq 21 rfl (x_loadA rfl rfl rfl sz24 un24 ag24 rfl) ?_
     obtain ⟨v5, hv5, h⟩ := bindS h
     refine pq 22 rfl (x_callP rfl rfl en24 (ok_quillworkref07u_Cmp hv5) rfl rfl rfl rfl rfl) ?_
     refine pq 23 rfl (.bin rfl rfl rfl rfl) ?_
     refine pq 24 rfl (x_pickT rfl rfl rfl rfl) ?_
     refine pa 6 ?_
     refine we_nil ?_
     cases h
     exact ⟨rfl, _, .re (rl [6, 1, 18]) [] [] rfl (.refl _), rfl⟩
    ·intro hc
     replace h := iteF h hc
     refine pq 18 rfl (x_pickT rfl rfl rfl rfl) ?_
     refine pm 19 ?_
     refine kq 20 ?_
     refine kq 21 ?_
     refine kq 22 ?_
     refine kq 23 ?_
     refine pq 24 rfl (x_pickF rfl rfl rfl rfl) ?_
     refine pa 6 ?_
     refine we_nil ?_
     cases h
     exact ⟨rfl, _, .re (rl [6, 1, 18]) [] [] rfl (.refl _), rfl⟩
   ·intro hc
    replace h := iteF h hc
    refine pq 13 rfl (x_pickT rfl rfl rfl rfl) ?_
    refine pm 14 ?_
    refine kq 15 ?_
    refine kq 16 ?_
    refine kq 17 ?_
    refine pq 18 rfl (x_pickF rfl rfl rfl rfl) ?_
    refine pm 19 ?_
    refine kq 20 ?_
    refine kq 21 ?_
    refine kq 22 ?_
    refine kq 23 ?_
    refine pq 24 rfl (x_pickF rfl rfl rfl rfl) ?_
    refine pa 6 ?_
    refine we_nil ?_
    cases h
    exact ⟨rfl, _, .re (rl [6, 1, 18]) [] [] rfl (.refl _), rfl⟩
  ·intro hc
   replace h := iteF h hc
   refine pm 9 ?_
   refine kq 10 ?_
   refine kq 11 ?_
   refine kq 12 ?_
   refine pq 13 rfl (x_pickF rfl rfl rfl rfl) ?_
   refine pm 14 ?_
   refine kq 15 ?_
   refine kq 16 ?_
   refine kq 17 ?_
   refine pq 18 rfl (x_pickF rfl rfl rfl rfl) ?_
   refine pm 19 ?_
   refine kq 20 ?_
   refine kq 21 ?_
   refine kq 22 ?_
   refine kq 23 ?_
   refine pq 24 rfl (x_pickF rfl rfl rfl rfl) ?_
   refine pa 6 ?_
   refine we_nil ?_
   cases h
   exact ⟨rfl, _, .re (rl [6, 1, 18]) [] [] rfl (.refl _), rfl⟩
 ·clear hq
  refine ex_ret ?_
  obtain rfl := Option.some.inj h
  exact finB (by first | exact .inr rfl | exact .inl rfl) (.refl _) [.bool q1] [] [] (res_cons (res_tmp rfl) res_nil) rfl rfl rfl rfl rfl rfl rfl
theorem ok_cells_May {r : Bool} {p0 : List (T_api_Cell)} (h : cells_May p0 = some r) : OkB prog 96 [.sl false (List.map c_api_Cell p0)] [] [] (.bool r) [] [] := by
 unfold cells_May at h
 refine okB_of_exG func96 rfl rfl (s0 := [.sl false (List.map c_api_Cell p0), Z, Z, Z, Z, Z]) (b0 := []) (r0 := []) rfl rfl rfl ?_
 show Ex _ _ _ ⟨[.sl false (List.map c_api_Cell p0), Z, Z, Z, Z, Z], [], [], 0⟩ _
 refine ex_seq ?_
 refine ex_ord [] (l := [0]) rfl ?_
 refine pa 2 ?_
 refine we_nil ?_
 refine ex_seq ?_
 refine ex_ord [] (l := [0, 1, 2, 3]) rfl ?_
 refine pm 3 ?_
 obtain ⟨v1, hv1, h⟩ := bindS h
 refine pq 4 rfl (x_callP rfl rfl en127 (ok_slices_ContainsFunc_apiCell ⟨en128, rfl, rfl⟩ (fun _ _ h => ok_cells_May_1 h) hv1) rfl rfl rfl rfl rfl) ?_
 refine pq 5 rfl (.un rfl rfl rfl) ?_
 refine pa 2 ?_
 refine we_nil ?_
 refine ex_ret ?_
 obtain rfl := Option.some.inj h
 exact finB (by first | exact .inr rfl | exact .inl rfl) (.refl _) [.bool (!v1)] [] [] (res_cons (res_tmp rfl) res_nil) rfl rfl rfl rfl rfl rfl rfl
end Go.PM
