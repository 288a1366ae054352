/-
  The walks: each Go function answers what its plain Lean function answers. Printed. Part 2 of 3. No condition but that the plain function answers.
-/
import Derived.Test.YtimlobidpkglkaaGreatDoorQDocSameW1
set_option linter.unusedVariables false
set_option linter.unusedSimpArgs false
set_option linter.unusedSectionVars false
set_option linter.unnecessarySimpa false
namespace Go.PM
open Go.RowKit Go.Proofs.Tryz
set_option linter.unusedSimpArgs false
set_option linter.unusedVariables false
set_option maxRecDepth 4000
theorem ok_slices_Equal_apiCell {r : Bool} {p0 : List (T_api_Cell)} {p1 : List (T_api_Cell)} (h : slices_Equal_apiCell p0 p1 = some r) : OkB prog 142 [.sl false (List.map c_api_Cell p0), .sl false (List.map c_api_Cell p1)] [] [] (.bool r) [] [] := by
  unfold slices_Equal_apiCell at h
  refine okB_of_exG func142 rfl rfl (s0 := [.sl false (List.map c_api_Cell p0), .sl false (List.map c_api_Cell p1), .top, .top, .top, .top, .top, .top, .top, .top, .top, .top, .top, .top, .top, .top, .top, .top, .top, .top, .top, .top, .top, .top, .top, .top]) (b0 := []) (r0 := []) rfl rfl rfl ?_
  show Ex _ _ _ ⟨[.sl false (List.map c_api_Cell p0), .sl false (List.map c_api_Cell p1), .top, .top, .top, .top, .top, .top, .top, .top, .top, .top, .top, .top, .top, .top, .top, .top, .top, .top, .top, .top, .top, .top, .top, .top], [], [], 0⟩ _
  refine ex_seq ?_
  refine ex_ord [] (l := [0]) rfl ?_
  refine p_ 4 rfl rfl rfl rfl (.assign rfl rfl) ?_
  refine we_nil ?_
  refine ex_seq ?_
  refine ex_seq ?_
  refine ex_ord [] (l := [0, 1, 2, 3, 4]) rfl ?_
  refine p_ 6 rfl rfl rfl rfl (.move rfl rfl) ?_
  refine p_ 7 rfl rfl rfl rfl (x_len (f := c_api_Cell) (l := p0) rfl rfl rfl el46) ?_
  refine p_ 8 rfl rfl rfl rfl (.move rfl rfl) ?_
  refine p_ 9 rfl rfl rfl rfl (x_len (f := c_api_Cell) (l := p1) rfl rfl rfl el46) ?_
  refine p_ 10 rfl rfl rfl rfl (.bin rfl rfl rfl rfl) ?_
  refine we_nil ?_
  refine ex_if rfl ?_ ?_
  · intro hc
    replace h := iteT h hc
    refine ex_seq ?_
    refine ex_ord [] (l := [0]) rfl ?_
    refine p_ 4 rfl rfl rfl rfl (.assign rfl rfl) ?_
    refine we_nil ?_
    refine ex_ret ?_
    obtain rfl := Option.some.inj h
    exact finB (by first | exact .inr rfl | exact .inl rfl) (.refl _) [.bool false] [] [] (res_cons (res_tmp rfl) res_nil) rfl rfl rfl rfl rfl rfl rfl
  · intro hc
    replace h := iteF h hc
    refine ex_skip ?_
    refine ex_seq ?_
    refine ex_seq ?_
    refine ex_ord [] (l := [0, 1, 2]) rfl ?_
    refine p_ 11 rfl rfl rfl rfl (.move rfl rfl) ?_
    refine p_ 12 rfl rfl rfl rfl (x_len (f := c_api_Cell) (l := p0) rfl rfl rfl el46) ?_
    refine p_ 13 rfl rfl rfl rfl (.move rfl rfl) ?_
    refine we_nil ?_
    refine ex_block ?_
    obtain ⟨o4, hl, h⟩ := bindS h
    refine ex_gst ⟨[.sl false (List.map c_api_Cell p0), .sl false (List.map c_api_Cell p1), .top, .top, .top, .top, .top, .top, .top, .top, .top, .top, .int .i64 (p0.length : Int), .int .i64 0, .top, .top, .top, .top, .top, .top, .top, .top, .top, .top, .top, .top], [], [], 0⟩ (.re [true, true, false, false, false, false, false, false, false, false, false, false, true, true, false, false, false, false, false, false, false, false, false, false, false, false] [] [] rfl (.refl _)) rfl ?_
    refine ex_iterX (fun o => match o with | .inl _ => .ret | .inr _ => .exit 0) (fun s => ⟨[.sl false (List.map c_api_Cell p0), .sl false (List.map c_api_Cell p1), .top, .top, .top, .top, .top, .top, .top, .top, .top, .top, .int .i64 (p0.length : Int), .int .i64 s, .top, .top, .top, .top, .top, .top, .top, .top, .top, .top, .top, .top], [], [], 0⟩) (fun o => match o with | .inl o => ⟨[.top, .top, .top, .top, .bool false, .top, .top, .top, .top, .top, .top, .top, .top, .top, .top, .top, .top, .top, .top, .top, .top, .top, .top, .top, .top, .top], [], [], 0⟩ | .inr o => ⟨[.top, .top, .top, .top, .top, .top, .top, .top, .top, .top, .top, .top, .top, .top, .top, .top, .top, .top, .top, .top, .top, .top, .top, .top, .top, .top], [], [], 0⟩) hl rfl ?_ ?_
    · clear hl
      rcases o4 with _ | _
      · obtain rfl := Option.some.inj h
        exact finB (by first | exact .inr rfl | exact .inl rfl) (.refl _) [.bool false] [] [] (res_cons (res_tmp rfl) res_nil) rfl rfl rfl rfl rfl rfl rfl
      · refine ex_seq ?_
        refine ex_ord [] (l := [0]) rfl ?_
        refine p_ 4 rfl rfl rfl rfl (.assign rfl rfl) ?_
        refine we_nil ?_
        refine ex_ret ?_
        obtain rfl := Option.some.inj h
        exact finB (by first | exact .inr rfl | exact .inl rfl) (.refl _) [.bool true] [] [] (res_cons (res_tmp rfl) res_nil) rfl rfl rfl rfl rfl rfl rfl
    · clear hl h
      rintro n1 y h
      replace h : slices_Equal_apiCell_l1 p0 p1 n1 = some y := h
      unfold slices_Equal_apiCell_l1 at h
      show Ex _ _ _ ⟨[.sl false (List.map c_api_Cell p0), .sl false (List.map c_api_Cell p1), .top, .top, .top, .top, .top, .top, .top, .top, .top, .top, .int .i64 (p0.length : Int), .int .i64 n1, .top, .top, .top, .top, .top, .top, .top, .top, .top, .top, .top, .top], [], [], 0⟩ _
      refine ex_seq ?_
      refine ex_ord [] (l := [0]) rfl ?_
      refine p_ 14 rfl rfl rfl rfl (.bin rfl rfl rfl rfl) ?_
      refine we_nil ?_
      refine ex_seq ?_
      refine ex_if rfl ?_ ?_
      · intro hc
        replace h := iteT h hc
        refine ex_skip ?_
        refine ex_seq ?_
        refine ex_block ?_
        refine ex_seq ?_
        refine ex_ord [] (l := [0, 1]) rfl ?_
        refine p_ 15 rfl rfl rfl rfl (.move rfl rfl) ?_
        refine p_ 5 rfl rfl rfl rfl (.assign rfl rfl) ?_
        refine we_nil ?_
        refine ex_seq ?_
        refine ex_drw mo [1002, 1003, 1006, 1007] (by kernel_rfl) (l := [0, 1, 2, 3, 4, 5, 6, 7, 8]) rfl ?_
        refine p_ 16 rfl rfl rfl rfl (.move rfl rfl) ?_
        refine p_ 17 rfl rfl rfl rfl (.move rfl rfl) ?_
        obtain ⟨v2, hv2, h⟩ := bindS h
        refine n_ 18 rfl rfl rfl (fun _ _ => x_idx (f := c_api_Cell) (cs := [.int .i32 v2.f_R, .int .i64 v2.f_Bits, .str (bs v2.f_Href)]) rfl rfl rfl el46 sz58 hv2 rfl rfl) ?_
        refine n_ 19 rfl rfl rfl (fun _ _ => x_loadA rfl rfl rfl sz58 un58 ag58 rfl) ?_
        refine p_ 20 rfl rfl rfl rfl (.move rfl rfl) ?_
        refine p_ 21 rfl rfl rfl rfl (.move rfl rfl) ?_
        obtain ⟨v3, hv3, h⟩ := bindS h
        refine n_ 22 rfl rfl rfl (fun _ _ => x_idx (f := c_api_Cell) (cs := [.int .i32 v3.f_R, .int .i64 v3.f_Bits, .str (bs v3.f_Href)]) rfl rfl rfl el46 sz58 hv3 rfl rfl) ?_
        refine n_ 23 rfl rfl rfl (fun _ _ => x_loadA rfl rfl rfl sz58 un58 ag58 rfl) ?_
        refine p_ 24 rfl rfl rfl rfl (x_neG (b := !(((v2.f_R : Int) == v3.f_R) && (((v2.f_Bits : Int) == v3.f_Bits) && ((v2.f_Href == v3.f_Href) && true)))) rfl rfl rfl eq58 rfl (by simp only [List.all_cons, List.all_nil, bs_beq, id_eq])) ?_
        refine we_nil ?_
        refine ex_if rfl ?_ ?_
        · intro hc
          replace h := iteT h hc
          refine ex_seq ?_
          refine ex_ord [] (l := [0]) rfl ?_
          refine p_ 4 rfl rfl rfl rfl (.assign rfl rfl) ?_
          refine we_nil ?_
          refine ex_ret ?_
          exact rnd_out (o := (.inl ())) rfl (fun h => by cases h) h (.re [false, false, false, false, true, false, false, false, false, false, false, false, false, false, false, false, false, false, false, false, false, false, false, false, false, false] [] [] rfl (.refl _)) rfl
        · intro hc
          replace h := iteF h hc
          refine ex_skip ?_
          refine ex_ord [] (l := [0, 1]) rfl ?_
          refine p_ 25 rfl rfl rfl rfl (.bin rfl rfl rfl rfl) ?_
          refine p_ 13 rfl rfl rfl rfl (.move rfl rfl) ?_
          refine we_nil ?_
          exact rnd_on rfl h (.re [true, true, false, false, false, false, false, false, false, false, false, false, true, true, false, false, false, false, false, false, false, false, false, false, false, false] [] [] rfl (.refl _)) rfl
      · intro hc
        replace h := iteF h hc
        refine ex_exit ?_
        exact rnd_out (o := (.inr ())) rfl (fun h => by cases h) h (.re [false, false, false, false, false, false, false, false, false, false, false, false, false, false, false, false, false, false, false, false, false, false, false, false, false, false] [] [] rfl (.refl _)) rfl
theorem ok_slices_IndexFunc_apiCell {r : Int} {p0 : List (T_api_Cell)} {p1 : T_api_Cell → Option (Bool)} {g1 : FuncId} {cs1 : List DV} (hc1 : Cl prog g1 cs1) (hf1 : ∀ x0 r, p1 x0 = some r → OkB prog g1 ([.agg [.int .i32 x0.f_R, .int .i64 x0.f_Bits, .str (bs x0.f_Href)]] ++ cs1) [] [] (.bool r) [] []) (h : slices_IndexFunc_apiCell p0 p1 = some r) : OkB prog 144 [.sl false (List.map c_api_Cell p0), .fn g1 cs1] [] [] (.int .i64 r) [] [] := by
  unfold slices_IndexFunc_apiCell at h
  refine okB_of_exG func144 rfl rfl (s0 := [.sl false (List.map c_api_Cell p0), .fn g1 cs1, .top, .top, .top, .top, .top, .top, .top, .top, .top, .top, .top, .top, .top, .top, .top, .top, .top]) (b0 := []) (r0 := []) rfl rfl rfl ?_
  show Ex _ _ _ ⟨[.sl false (List.map c_api_Cell p0), .fn g1 cs1, .top, .top, .top, .top, .top, .top, .top, .top, .top, .top, .top, .top, .top, .top, .top, .top, .top], [], [], 0⟩ _
  refine ex_seq ?_
  refine ex_ord [] (l := [0]) rfl ?_
  refine p_ 4 rfl rfl rfl rfl (.assign rfl rfl) ?_
  refine we_nil ?_
  refine ex_seq ?_
  refine ex_seq ?_
  refine ex_ord [] (l := [0, 1, 2]) rfl ?_
  refine p_ 6 rfl rfl rfl rfl (.move rfl rfl) ?_
  refine p_ 7 rfl rfl rfl rfl (x_len (f := c_api_Cell) (l := p0) rfl rfl rfl el46) ?_
  refine p_ 8 rfl rfl rfl rfl (.move rfl rfl) ?_
  refine we_nil ?_
  refine ex_block ?_
  obtain ⟨o5, hl, h⟩ := bindS h
  refine ex_gst ⟨[.sl false (List.map c_api_Cell p0), .fn g1 cs1, .top, .top, .top, .top, .top, .int .i64 (p0.length : Int), .int .i64 0, .top, .top, .top, .top, .top, .top, .top, .top, .top, .top], [], [], 0⟩ (.re [true, true, false, false, false, false, false, true, true, false, false, false, false, false, false, false, false, false, false] [] [] rfl (.refl _)) rfl ?_
  refine ex_iterX (fun o => match o with | .inl _ => .ret | .inr _ => .exit 0) (fun s => ⟨[.sl false (List.map c_api_Cell p0), .fn g1 cs1, .top, .top, .top, .top, .top, .int .i64 (p0.length : Int), .int .i64 s, .top, .top, .top, .top, .top, .top, .top, .top, .top, .top], [], [], 0⟩) (fun o => match o with | .inl o => ⟨[.top, .top, .top, .top, .int .i64 o, .top, .top, .top, .top, .top, .top, .top, .top, .top, .top, .top, .top, .top, .top], [], [], 0⟩ | .inr o => ⟨[.top, .top, .top, .top, .top, .top, .top, .top, .top, .top, .top, .top, .top, .top, .top, .top, .top, .top, .top], [], [], 0⟩) hl rfl ?_ ?_
  · clear hl
    rcases o5 with k2 | _
    · obtain rfl := Option.some.inj h
      exact finB (by first | exact .inr rfl | exact .inl rfl) (.refl _) [.int .i64 k2] [] [] (res_cons (res_tmp rfl) res_nil) rfl rfl rfl rfl rfl rfl rfl
    · refine ex_seq ?_
      refine ex_ord [] (l := [0]) rfl ?_
      refine p_ 4 rfl rfl rfl rfl (.assign rfl rfl) ?_
      refine we_nil ?_
      refine ex_ret ?_
      obtain rfl := Option.some.inj h
      exact finB (by first | exact .inr rfl | exact .inl rfl) (.refl _) [.int .i64 (-1)] [] [] (res_cons (res_tmp rfl) res_nil) rfl rfl rfl rfl rfl rfl rfl
  · clear hl h
    rintro n1 y h
    replace h : slices_IndexFunc_apiCell_l1 p0 p1 n1 = some y := h
    unfold slices_IndexFunc_apiCell_l1 at h
    show Ex _ _ _ ⟨[.sl false (List.map c_api_Cell p0), .fn g1 cs1, .top, .top, .top, .top, .top, .int .i64 (p0.length : Int), .int .i64 n1, .top, .top, .top, .top, .top, .top, .top, .top, .top, .top], [], [], 0⟩ _
    refine ex_seq ?_
    refine ex_ord [] (l := [0]) rfl ?_
    refine p_ 9 rfl rfl rfl rfl (.bin rfl rfl rfl rfl) ?_
    refine we_nil ?_
    refine ex_seq ?_
    refine ex_if rfl ?_ ?_
    · intro hc
      replace h := iteT h hc
      refine ex_skip ?_
      refine ex_seq ?_
      refine ex_block ?_
      refine ex_seq ?_
      refine ex_ord [] (l := [0, 1]) rfl ?_
      refine p_ 10 rfl rfl rfl rfl (.move rfl rfl) ?_
      refine p_ 5 rfl rfl rfl rfl (.assign rfl rfl) ?_
      refine we_nil ?_
      refine ex_seq ?_
      refine ex_ord [] (l := [0, 1, 2, 3, 4, 5]) rfl ?_
      refine p_ 11 rfl rfl rfl rfl (.move rfl rfl) ?_
      refine p_ 12 rfl rfl rfl rfl (.move rfl rfl) ?_
      refine p_ 13 rfl rfl rfl rfl (.move rfl rfl) ?_
      obtain ⟨v3, hv3, h⟩ := bindS h
      refine p_ 14 rfl rfl rfl rfl (x_idx (f := c_api_Cell) (cs := [.int .i32 v3.f_R, .int .i64 v3.f_Bits, .str (bs v3.f_Href)]) rfl rfl rfl el46 sz58 hv3 rfl rfl) ?_
      refine p_ 15 rfl rfl rfl rfl (x_loadA rfl rfl rfl sz58 un58 ag58 rfl) ?_
      obtain ⟨v4, hv4, h⟩ := bindS h
      refine p_ 16 rfl rfl rfl rfl (x_callP rfl rfl hc1.en (hf1 _ _ hv4) rfl rfl (all_app rfl hc1.ok) hc1.nt rfl) ?_
      refine we_nil ?_
      refine ex_if rfl ?_ ?_
      · intro hc
        replace h := iteT h hc
        refine ex_seq ?_
        refine ex_ord [] (l := [0, 1]) rfl ?_
        refine p_ 17 rfl rfl rfl rfl (.move rfl rfl) ?_
        refine p_ 4 rfl rfl rfl rfl (.assign rfl rfl) ?_
        refine we_nil ?_
        refine ex_ret ?_
        exact rnd_out (o := (.inl n1)) rfl (fun h => by cases h) h (.re [false, false, false, false, true, false, false, false, false, false, false, false, false, false, false, false, false, false, false] [] [] rfl (.refl _)) rfl
      · intro hc
        replace h := iteF h hc
        refine ex_skip ?_
        refine ex_ord [] (l := [0, 1]) rfl ?_
        refine p_ 18 rfl rfl rfl rfl (.bin rfl rfl rfl rfl) ?_
        refine p_ 8 rfl rfl rfl rfl (.move rfl rfl) ?_
        refine we_nil ?_
        exact rnd_on rfl h (.re [true, true, false, false, false, false, false, true, true, false, false, false, false, false, false, false, false, false, false] [] [] rfl (.refl _)) rfl
    · intro hc
      replace h := iteF h hc
      refine ex_exit ?_
      exact rnd_out (o := (.inr ())) rfl (fun h => by cases h) h (.re [false, false, false, false, false, false, false, false, false, false, false, false, false, false, false, false, false, false, false] [] [] rfl (.refl _)) rfl
theorem ok_utf8u_ValidRune {r : Bool} {p0 : Int} (h : utf8u_ValidRune p0 = some r) : OkB prog 154 [.int .i32 p0] [] [] (.bool r) [] [] := by
  unfold utf8u_ValidRune at h
  refine okB_of_exG func154 rfl rfl (s0 := [.int .i32 p0, .top, .top, .top, .top, .top, .top, .top, .top, .top, .top, .top, .top, .top, .top, .top, .top]) (b0 := []) (r0 := []) rfl rfl rfl ?_
  show Ex _ _ _ ⟨[.int .i32 p0, .top, .top, .top, .top, .top, .top, .top, .top, .top, .top, .top, .top, .top, .top, .top, .top], [], [], 0⟩ _
  refine ex_seq ?_
  refine ex_ord [] (l := [0]) rfl ?_
  refine p_ 2 rfl rfl rfl rfl (.assign rfl rfl) ?_
  refine we_nil ?_
  refine ex_seq ?_
  refine ex_block ?_
  refine ex_seq ?_
  obtain ⟨q1, hq, h⟩ := bindS h
  refine ex_cut ⟨[.int .i32 p0, .top, .top, .bool q1, .top, .top, .top, .top, .top, .top, .top, .top, .top, .top, .top, .top, .top], [], [], 0⟩ ?_ ?_
  · clear h
    have h := hq
    clear hq
    refine ex_ord [] (l := [0, 1, 2, 3, 4, 5, 6]) rfl ?_
    refine p_ 4 rfl rfl rfl rfl (.move rfl rfl) ?_
    refine pif 5 rfl rfl rfl rfl (.bin rfl rfl rfl rfl) ?_ ?_
    · intro hc
      replace h := iteT h hc
      refine p_ 6 rfl rfl rfl rfl (.move rfl rfl) ?_
      refine p_ 7 rfl rfl rfl rfl (.move rfl rfl) ?_
      refine p_ 8 rfl rfl rfl rfl (.bin rfl rfl rfl rfl) ?_
      refine p_ 9 rfl rfl rfl rfl (x_pickT rfl rfl rfl rfl) ?_
      refine p_ 3 rfl rfl rfl rfl (.assign rfl rfl) ?_
      refine we_nil ?_
      cases h
      exact ⟨rfl, _, .re [true, false, false, true, false, false, false, false, false, false, false, false, false, false, false, false, false] [] [] rfl (.refl _), rfl⟩
    · intro hc
      replace h := iteF h hc
      refine p_ 6 rfl rfl rfl rfl (.move rfl rfl) ?_
      refine k_ 7 rfl rfl rfl ?_
      refine k_ 8 rfl rfl rfl ?_
      refine p_ 9 rfl rfl rfl rfl (x_pickF rfl rfl rfl rfl) ?_
      refine p_ 3 rfl rfl rfl rfl (.assign rfl rfl) ?_
      refine we_nil ?_
      cases h
      exact ⟨rfl, _, .re [true, false, false, true, false, false, false, false, false, false, false, false, false, false, false, false, false] [] [] rfl (.refl _), rfl⟩
  · clear hq
    refine ex_if rfl ?_ ?_
    · intro hc
      replace h := iteT h hc
      refine ex_seq ?_
      refine ex_ord [] (l := [0]) rfl ?_
      refine p_ 2 rfl rfl rfl rfl (.assign rfl rfl) ?_
      refine we_nil ?_
      refine ex_ret ?_
      obtain rfl := Option.some.inj h
      exact finB (by first | exact .inr rfl | exact .inl rfl) (.refl _) [.bool true] [] [] (res_cons (res_tmp rfl) res_nil) rfl rfl rfl rfl rfl rfl rfl
    · intro hc
      replace h := iteF h hc
      refine ex_seq ?_
      obtain ⟨q2, hq, h⟩ := bindS h
      refine ex_cut ⟨[.top, .top, .top, .top, .top, .top, .top, .top, .top, .top, .bool q2, .top, .top, .top, .top, .top, .top], [], [], 0⟩ ?_ ?_
      · clear h
        have h := hq
        clear hq
        refine ex_ord [] (l := [0, 1, 2, 3, 4, 5, 6]) rfl ?_
        refine p_ 11 rfl rfl rfl rfl (.move rfl rfl) ?_
        refine pif 12 rfl rfl rfl rfl (.bin rfl rfl rfl rfl) ?_ ?_
        · intro hc
          replace h := iteT h hc
          refine p_ 13 rfl rfl rfl rfl (.move rfl rfl) ?_
          refine p_ 14 rfl rfl rfl rfl (.move rfl rfl) ?_
          refine p_ 15 rfl rfl rfl rfl (.bin rfl rfl rfl rfl) ?_
          refine p_ 16 rfl rfl rfl rfl (x_pickT rfl rfl rfl rfl) ?_
          refine p_ 10 rfl rfl rfl rfl (.assign rfl rfl) ?_
          refine we_nil ?_
          cases h
          exact ⟨rfl, _, .re [false, false, false, false, false, false, false, false, false, false, true, false, false, false, false, false, false] [] [] rfl (.refl _), rfl⟩
        · intro hc
          replace h := iteF h hc
          refine p_ 13 rfl rfl rfl rfl (.move rfl rfl) ?_
          refine k_ 14 rfl rfl rfl ?_
          refine k_ 15 rfl rfl rfl ?_
          refine p_ 16 rfl rfl rfl rfl (x_pickF rfl rfl rfl rfl) ?_
          refine p_ 10 rfl rfl rfl rfl (.assign rfl rfl) ?_
          refine we_nil ?_
          cases h
          exact ⟨rfl, _, .re [false, false, false, false, false, false, false, false, false, false, true, false, false, false, false, false, false] [] [] rfl (.refl _), rfl⟩
      · clear hq
        refine ex_if rfl ?_ ?_
        · intro hc
          replace h := iteT h hc
          refine ex_seq ?_
          refine ex_ord [] (l := [0]) rfl ?_
          refine p_ 2 rfl rfl rfl rfl (.assign rfl rfl) ?_
          refine we_nil ?_
          refine ex_ret ?_
          obtain rfl := Option.some.inj h
          exact finB (by first | exact .inr rfl | exact .inl rfl) (.refl _) [.bool true] [] [] (res_cons (res_tmp rfl) res_nil) rfl rfl rfl rfl rfl rfl rfl
        · intro hc
          replace h := iteF h hc
          refine ex_skip ?_
          refine ex_seq ?_
          refine ex_ord [] (l := [0]) rfl ?_
          refine p_ 2 rfl rfl rfl rfl (.assign rfl rfl) ?_
          refine we_nil ?_
          refine ex_ret ?_
          obtain rfl := Option.some.inj h
          exact finB (by first | exact .inr rfl | exact .inl rfl) (.refl _) [.bool false] [] [] (res_cons (res_tmp rfl) res_nil) rfl rfl rfl rfl rfl rfl rfl
theorem ok_quillworklaw07u_long {r : Bool} {p0 : List (T_api_Line)} (h : quillworklaw07u_long p0 = some r) : OkB prog 10 [.sl false (List.map c_api_Line p0)] [] [] (.bool r) [] [] := by
  unfold quillworklaw07u_long at h
  refine okB_of_exG func10 rfl rfl (s0 := [.sl false (List.map c_api_Line p0), .top, .top, .top, .top]) (b0 := []) (r0 := []) rfl rfl rfl ?_
  show Ex _ _ _ ⟨[.sl false (List.map c_api_Line p0), .top, .top, .top, .top], [], [], 0⟩ _
  refine ex_seq ?_
  refine ex_ord [] (l := [0]) rfl ?_
  refine p_ 2 rfl rfl rfl rfl (.assign rfl rfl) ?_
  refine we_nil ?_
  refine ex_seq ?_
  refine ex_ord [] (l := [0, 1, 2]) rfl ?_
  refine p_ 3 rfl rfl rfl rfl (.move rfl rfl) ?_
  obtain ⟨v1, hv1, h⟩ := bindS h
  refine p_ 4 rfl rfl rfl rfl (x_callP rfl rfl en59 (ok_quillworkref07u_Long hv1) rfl rfl rfl rfl rfl) ?_
  refine p_ 2 rfl rfl rfl rfl (.assign rfl rfl) ?_
  refine we_nil ?_
  refine ex_ret ?_
  obtain rfl := Option.some.inj h
  exact finB (by first | exact .inr rfl | exact .inl rfl) (.refl _) [.bool v1] [] [] (res_cons (res_tmp rfl) res_nil) rfl rfl rfl rfl rfl rfl rfl
theorem ok_doc_Own {r : (List (T_api_Line))} {p0 : List (T_api_Line)} (h : doc_Own p0 = some r) : OkB prog 32 [.sl false (List.map c_api_Line p0)] [] [] (.own 0) [] [⟨55, 4, List.map c_api_Line r⟩] := by
  unfold doc_Own at h
  refine okB_of_exG func32 rfl rfl (s0 := [.sl false (List.map c_api_Line p0), .top, .top, .top, .top, .top, .top, .top, .top, .top, .top, .top, .top, .top, .top, .top, .top, .top, .top]) (b0 := []) (r0 := []) rfl rfl rfl ?_
  show Ex _ _ _ ⟨[.sl false (List.map c_api_Line p0), .top, .top, .top, .top, .top, .top, .top, .top, .top, .top, .top, .top, .top, .top, .top, .top, .top, .top], [], [], 0⟩ _
  refine ex_seq ?_
  refine ex_ord [0] (l := [0]) rfl ?_
  refine e_ (d := .own 0) 2 rfl rfl rfl rfl rfl (b' := []) (r' := [some ⟨55, 4, []⟩]) (.nilRow (.inr rfl) rfl 55 4) rfl ?_
  refine we_nil ?_
  refine ex_seq ?_
  refine ex_ord [0] (l := [0]) rfl ?_
  refine e_ (d := .own 1) 3 rfl rfl rfl rfl rfl (b' := []) (r' := [some ⟨55, 4, []⟩, some ⟨55, 4, []⟩]) (.nilRow (.inr rfl) rfl 55 4) rfl ?_
  refine we_nil ?_
  refine ex_seq ?_
  refine ex_seq ?_
  refine ex_ord [] (l := [0, 1, 2]) rfl ?_
  refine p_ 6 rfl rfl rfl rfl (.move rfl rfl) ?_
  refine p_ 7 rfl rfl rfl rfl (x_len (f := c_api_Line) (l := p0) rfl rfl rfl el22) ?_
  refine p_ 8 rfl rfl rfl rfl (.move rfl rfl) ?_
  refine we_nil ?_
  refine ex_block ?_
  obtain ⟨k3, hl, h⟩ := bindS h
  refine ex_gst ⟨[.top, .top, .top, .own 0, .top, .top, .sl false (List.map c_api_Line p0), .int .i64 (p0.length : Int), .int .i64 0, .top, .top, .top, .top, .top, .top, .top, .top, .top, .top], [], [some ⟨55, 4, []⟩], 0⟩ (.re [false, false, false, true, false, false, true, true, true, false, false, false, false, false, false, false, false, false, false] [] [1] rfl (.refl _)) rfl ?_
  refine ex_iterX (fun _ => .exit 0) (fun s => ⟨[.top, .top, .top, .own 0, .top, .top, .sl false (List.map c_api_Line p0), .int .i64 (p0.length : Int), .int .i64 s.2, .top, .top, .top, .top, .top, .top, .top, .top, .top, .top], [], [some ⟨55, 4, List.map c_api_Line s.1⟩], 0⟩) (fun o => ⟨[.top, .top, .top, .own 0, .top, .top, .top, .top, .top, .top, .top, .top, .top, .top, .top, .top, .top, .top, .top], [], [some ⟨55, 4, List.map c_api_Line o⟩], 0⟩) hl rfl ?_ ?_
  · clear hl
    refine ex_seq ?_
    refine ex_ord [] (l := [0, 1]) rfl ?_
    refine p_ 18 rfl rfl rfl rfl (.move rfl rfl) ?_
    refine p_ 2 rfl rfl rfl rfl (.assign rfl rfl) ?_
    refine we_nil ?_
    refine ex_ret ?_
    obtain rfl := Option.some.inj h
    exact finB (by first | exact .inr rfl | exact .inl rfl) (.refl _) [.own 0] [0] [] (res_cons (res_tmp rfl) res_nil) rfl rfl rfl rfl rfl rfl rfl
  · clear hl h
    rintro ⟨n1, n2⟩ y h
    replace h : doc_Own_l1 p0 n1 n2 = some y := h
    unfold doc_Own_l1 at h
    show Ex _ _ _ ⟨[.top, .top, .top, .own 0, .top, .top, .sl false (List.map c_api_Line p0), .int .i64 (p0.length : Int), .int .i64 n2, .top, .top, .top, .top, .top, .top, .top, .top, .top, .top], [], [some ⟨55, 4, List.map c_api_Line n1⟩], 0⟩ _
    refine ex_seq ?_
    refine ex_ord [] (l := [0]) rfl ?_
    refine p_ 9 rfl rfl rfl rfl (.bin rfl rfl rfl rfl) ?_
    refine we_nil ?_
    refine ex_seq ?_
    refine ex_if rfl ?_ ?_
    · intro hc
      replace h := iteT h hc
      refine ex_skip ?_
      refine ex_seq ?_
      refine ex_block ?_
      refine ex_seq ?_
      refine ex_ord [2, 3] (l := [0, 1, 2, 3]) rfl ?_
      obtain ⟨v4, hv4, h⟩ := bindS h
      refine p_ 10 rfl rfl rfl rfl (x_idx (f := c_api_Line) (cs := [.int .i64 v4.f_Quote, .sl false (List.map c_i64 v4.f_Lists), .int .i64 v4.f_Kind, .sl false (List.map c_api_Cell v4.f_Cells)]) rfl rfl rfl el22 sz55 hv4 rfl rfl) ?_
      refine p_ 11 rfl rfl rfl rfl (x_loadA rfl rfl rfl sz55 un55 ag55 rfl) ?_
      refine e_ (d := .bx 0 0) 5 rfl rfl rfl rfl rfl (b' := [some [.int .i64 0, .sl false [], .int .i64 0, .sl false []]]) (r' := [some ⟨55, 4, List.map c_api_Line n1⟩]) (.alloc rfl ze55) rfl ?_
      refine e0 rfl rfl rfl rfl rfl (b' := [some [.int .i64 v4.f_Quote, .sl false (List.map c_i64 v4.f_Lists), .int .i64 v4.f_Kind, .sl false (List.map c_api_Cell v4.f_Cells)]]) (r' := [some ⟨55, 4, List.map c_api_Line n1⟩]) (.store rfl rfl rfl sz55 rfl rfl rfl) rfl ?_
      refine we_nil ?_
      refine ex_gst ⟨[.top, .top, .top, .own 0, .top, .cp [.int .i64 v4.f_Quote, .sl false (List.map c_i64 v4.f_Lists), .int .i64 v4.f_Kind, .sl false (List.map c_api_Cell v4.f_Cells)], .sl false (List.map c_api_Line p0), .int .i64 (p0.length : Int), .int .i64 n2, .bool (decide ((n2 : Int) < (p0.length : Int))), .cp [.int .i64 v4.f_Quote, .sl false (List.map c_i64 v4.f_Lists), .int .i64 v4.f_Kind, .sl false (List.map c_api_Cell v4.f_Cells)], .agg [.int .i64 v4.f_Quote, .sl false (List.map c_i64 v4.f_Lists), .int .i64 v4.f_Kind, .sl false (List.map c_api_Cell v4.f_Cells)], .top, .top, .top, .top, .top, .top, .top], [none], [some ⟨55, 4, List.map c_api_Line n1⟩], 0⟩ (.shutB (b := 0) rfl (fun d h => by simpa using List.all_eq_true.1 (rfl : List.all [.int .i64 v4.f_Quote, .sl false (List.map c_i64 v4.f_Lists), .int .i64 v4.f_Kind, .sl false (List.map c_api_Cell v4.f_Cells)] (fun d => !d.tok) = true) d h) (.refl _)) rfl ?_
      refine ex_ord [3, 4] (l := [0, 1, 2, 3, 4, 5]) rfl ?_
      refine p_ 12 rfl rfl rfl rfl (.move rfl rfl) ?_
      refine p_ 13 rfl rfl rfl rfl (x_loadA rfl rfl rfl sz55 un55 ag55 rfl) ?_
      obtain ⟨v5, hv5, h⟩ := bindS h
      refine p_ 14 rfl rfl rfl rfl (x_callP rfl rfl en68 (ok_lines_Own hv5) rfl rfl rfl rfl rfl) ?_
      refine e_ (d := .own 1) 15 rfl rfl rfl rfl rfl (b' := [none]) (r' := [some ⟨55, 4, List.map c_api_Line n1⟩, some ⟨55, 4, List.map c_api_Line [v5]⟩]) (x_lit (f := c_api_Line) (l := [v5]) rfl el22 rw55 zs55 rfl rfl rfl (by decide) (by decide) fl_api_Line rfl) rfl ?_
      obtain ⟨v6, hv6, h⟩ := bindS h
      refine e_ (d := .own 2) 16 rfl rfl rfl rfl rfl (b' := [none]) (r' := [none, some ⟨55, 4, List.map c_api_Line [v5]⟩, some ⟨55, 4, List.map c_api_Line v6⟩]) (x_app (f := c_api_Line) (xs := n1) (ys := [v5]) rfl rfl rfl el22 rw55 rfl rfl rfl fl_api_Line hv6) rfl ?_
      refine p_ 3 rfl rfl rfl rfl (.assign rfl rfl) ?_
      refine we_nil ?_
      refine ex_ord [] (l := [0, 1]) rfl ?_
      refine p_ 17 rfl rfl rfl rfl (.bin rfl rfl rfl rfl) ?_
      refine p_ 8 rfl rfl rfl rfl (.move rfl rfl) ?_
      refine we_nil ?_
      exact rnd_on rfl h (.re [false, false, false, true, false, false, true, true, true, false, false, false, false, false, false, false, false, false, false] [] [2] rfl (.refl _)) rfl
    · intro hc
      replace h := iteF h hc
      refine ex_exit ?_
      exact rnd_out (o := n1) rfl (fun h => by cases h) h (.re [false, false, false, true, false, false, false, false, false, false, false, false, false, false, false, false, false, false, false] [] [0] rfl (.refl _)) rfl
theorem ok_quillworkref06u_Same {r : Bool} {p0 : T_api_Line} {p1 : T_api_Line} (h : quillworkref06u_Same p0 p1 = some r) : OkB prog 44 [.agg [.int .i64 p0.f_Quote, .sl false (List.map c_i64 p0.f_Lists), .int .i64 p0.f_Kind, .sl false (List.map c_api_Cell p0.f_Cells)], .agg [.int .i64 p1.f_Quote, .sl false (List.map c_i64 p1.f_Lists), .int .i64 p1.f_Kind, .sl false (List.map c_api_Cell p1.f_Cells)]] [] [] (.bool r) [] [] := by
  unfold quillworkref06u_Same at h
  refine okB_of_exG func44 rfl rfl (s0 := [.agg [.int .i64 p0.f_Quote, .sl false (List.map c_i64 p0.f_Lists), .int .i64 p0.f_Kind, .sl false (List.map c_api_Cell p0.f_Cells)], .agg [.int .i64 p1.f_Quote, .sl false (List.map c_i64 p1.f_Lists), .int .i64 p1.f_Kind, .sl false (List.map c_api_Cell p1.f_Cells)], .top, .top, .top, .top, .top, .top, .top, .top, .top, .top, .top, .top, .top, .top, .top, .top, .top, .top, .top, .top, .top, .top, .top, .top, .top, .top, .top, .top, .top]) (b0 := []) (r0 := []) rfl rfl rfl ?_
  show Ex _ _ _ ⟨[.agg [.int .i64 p0.f_Quote, .sl false (List.map c_i64 p0.f_Lists), .int .i64 p0.f_Kind, .sl false (List.map c_api_Cell p0.f_Cells)], .agg [.int .i64 p1.f_Quote, .sl false (List.map c_i64 p1.f_Lists), .int .i64 p1.f_Kind, .sl false (List.map c_api_Cell p1.f_Cells)], .top, .top, .top, .top, .top, .top, .top, .top, .top, .top, .top, .top, .top, .top, .top, .top, .top, .top, .top, .top, .top, .top, .top, .top, .top, .top, .top, .top, .top], [], [], 0⟩ _
  refine ex_seq ?_
  refine ex_ord [0, 1] (l := [0, 1, 2]) rfl ?_
  refine e_ (d := .bx 0 0) 2 rfl rfl rfl rfl rfl (b' := [some [.int .i64 p0.f_Quote, .sl false (List.map c_i64 p0.f_Lists), .int .i64 p0.f_Kind, .sl false (List.map c_api_Cell p0.f_Cells)]]) (r' := []) (.box rfl rfl rfl) rfl ?_
  refine e_ (d := .bx 1 0) 3 rfl rfl rfl rfl rfl (b' := [some [.int .i64 p0.f_Quote, .sl false (List.map c_i64 p0.f_Lists), .int .i64 p0.f_Kind, .sl false (List.map c_api_Cell p0.f_Cells)], some [.int .i64 p1.f_Quote, .sl false (List.map c_i64 p1.f_Lists), .int .i64 p1.f_Kind, .sl false (List.map c_api_Cell p1.f_Cells)]]) (r' := []) (.box rfl rfl rfl) rfl ?_
  refine p_ 4 rfl rfl rfl rfl (.assign rfl rfl) ?_
  refine we_nil ?_
  refine ex_seq ?_
  refine ex_gst ⟨[.agg [.int .i64 p0.f_Quote, .sl false (List.map c_i64 p0.f_Lists), .int .i64 p0.f_Kind, .sl false (List.map c_api_Cell p0.f_Cells)], .agg [.int .i64 p1.f_Quote, .sl false (List.map c_i64 p1.f_Lists), .int .i64 p1.f_Kind, .sl false (List.map c_api_Cell p1.f_Cells)], .cp [.int .i64 p0.f_Quote, .sl false (List.map c_i64 p0.f_Lists), .int .i64 p0.f_Kind, .sl false (List.map c_api_Cell p0.f_Cells)], .bx 1 0, .bool false, .top, .top, .top, .top, .top, .top, .top, .top, .top, .top, .top, .top, .top, .top, .top, .top, .top, .top, .top, .top, .top, .top, .top, .top, .top, .top], [none, some [.int .i64 p1.f_Quote, .sl false (List.map c_i64 p1.f_Lists), .int .i64 p1.f_Kind, .sl false (List.map c_api_Cell p1.f_Cells)]], [], 0⟩ (.shutB (b := 0) rfl (fun d h => by simpa using List.all_eq_true.1 (rfl : List.all [.int .i64 p0.f_Quote, .sl false (List.map c_i64 p0.f_Lists), .int .i64 p0.f_Kind, .sl false (List.map c_api_Cell p0.f_Cells)] (fun d => !d.tok) = true) d h) (.refl _)) rfl ?_
  refine ex_gst ⟨[.agg [.int .i64 p0.f_Quote, .sl false (List.map c_i64 p0.f_Lists), .int .i64 p0.f_Kind, .sl false (List.map c_api_Cell p0.f_Cells)], .agg [.int .i64 p1.f_Quote, .sl false (List.map c_i64 p1.f_Lists), .int .i64 p1.f_Kind, .sl false (List.map c_api_Cell p1.f_Cells)], .cp [.int .i64 p0.f_Quote, .sl false (List.map c_i64 p0.f_Lists), .int .i64 p0.f_Kind, .sl false (List.map c_api_Cell p0.f_Cells)], .cp [.int .i64 p1.f_Quote, .sl false (List.map c_i64 p1.f_Lists), .int .i64 p1.f_Kind, .sl false (List.map c_api_Cell p1.f_Cells)], .bool false, .top, .top, .top, .top, .top, .top, .top, .top, .top, .top, .top, .top, .top, .top, .top, .top, .top, .top, .top, .top, .top, .top, .top, .top, .top, .top], [none, none], [], 0⟩ (.shutB (b := 1) rfl (fun d h => by simpa using List.all_eq_true.1 (rfl : List.all [.int .i64 p1.f_Quote, .sl false (List.map c_i64 p1.f_Lists), .int .i64 p1.f_Kind, .sl false (List.map c_api_Cell p1.f_Cells)] (fun d => !d.tok) = true) d h) (.refl _)) rfl ?_
  obtain ⟨q1, hq, h⟩ := bindS h
  refine ex_cut ⟨[.top, .top, .top, .top, .bool q1, .top, .top, .top, .top, .top, .top, .top, .top, .top, .top, .top, .top, .top, .top, .top, .top, .top, .top, .top, .top, .top, .top, .top, .top, .top, .top], [], [], 0⟩ ?_ ?_
  · clear h
    have h := hq
    clear hq
    refine ex_ord [] (l := [0, 1, 2, 3, 4, 5, 6, 7, 8, 9, 10, 11, 12, 13, 14, 15, 16, 17, 18, 19, 20, 21, 22, 23, 24, 25, 26]) rfl ?_
    refine p_ 5 rfl rfl rfl rfl (.fieldAddr rfl rfl rfl fl55u_0 rfl) ?_
    refine p_ 6 rfl rfl rfl rfl (x_load rfl rfl rfl sz3 un3 ag3 rfl) ?_
    refine p_ 7 rfl rfl rfl rfl (.fieldAddr rfl rfl rfl fl55u_0 rfl) ?_
    refine p_ 8 rfl rfl rfl rfl (x_load rfl rfl rfl sz3 un3 ag3 rfl) ?_
    refine pif 9 rfl rfl rfl rfl (.bin rfl rfl rfl rfl) ?_ ?_
    · intro hc
      replace h := iteT h hc
      refine p_ 10 rfl rfl rfl rfl (.move rfl rfl) ?_
      refine p_ 11 rfl rfl rfl rfl (.fieldAddr rfl rfl rfl fl55u_1 rfl) ?_
      refine p_ 12 rfl rfl rfl rfl (x_load rfl rfl rfl sz53 un53 ag53 rfl) ?_
      refine p_ 13 rfl rfl rfl rfl (.fieldAddr rfl rfl rfl fl55u_1 rfl) ?_
      refine p_ 14 rfl rfl rfl rfl (x_load rfl rfl rfl sz53 un53 ag53 rfl) ?_
      obtain ⟨v2, hv2, h⟩ := bindS h
      refine pif 15 rfl rfl rfl rfl (x_callP rfl rfl en86 (ok_quillworkref06u_ints hv2) rfl rfl rfl rfl rfl) ?_ ?_
      · intro hc
        replace h := iteT h hc
        refine p_ 16 rfl rfl rfl rfl (x_pickT rfl rfl rfl rfl) ?_
        refine p_ 17 rfl rfl rfl rfl (.move rfl rfl) ?_
        refine p_ 18 rfl rfl rfl rfl (.fieldAddr rfl rfl rfl fl55u_2 rfl) ?_
        refine p_ 19 rfl rfl rfl rfl (x_load rfl rfl rfl sz3 un3 ag3 rfl) ?_
        refine p_ 20 rfl rfl rfl rfl (.fieldAddr rfl rfl rfl fl55u_2 rfl) ?_
        refine p_ 21 rfl rfl rfl rfl (x_load rfl rfl rfl sz3 un3 ag3 rfl) ?_
        refine pif 22 rfl rfl rfl rfl (.bin rfl rfl rfl rfl) ?_ ?_
        · intro hc
          replace h := iteT h hc
          refine p_ 23 rfl rfl rfl rfl (x_pickT rfl rfl rfl rfl) ?_
          refine p_ 24 rfl rfl rfl rfl (.move rfl rfl) ?_
          refine p_ 25 rfl rfl rfl rfl (.fieldAddr rfl rfl rfl fl55u_3 rfl) ?_
          refine p_ 26 rfl rfl rfl rfl (x_load rfl rfl rfl sz46 un46 ag46 rfl) ?_
          refine p_ 27 rfl rfl rfl rfl (.fieldAddr rfl rfl rfl fl55u_3 rfl) ?_
          refine p_ 28 rfl rfl rfl rfl (x_load rfl rfl rfl sz46 un46 ag46 rfl) ?_
          obtain ⟨v3, hv3, h⟩ := bindS h
          refine p_ 29 rfl rfl rfl rfl (x_callP rfl rfl en48 (ok_quillworkref05u_Same hv3) rfl rfl rfl rfl rfl) ?_
          refine p_ 30 rfl rfl rfl rfl (x_pickT rfl rfl rfl rfl) ?_
          refine p_ 4 rfl rfl rfl rfl (.assign rfl rfl) ?_
          refine we_nil ?_
          cases h
          exact ⟨rfl, _, .re [false, false, false, false, true, false, false, false, false, false, false, false, false, false, false, false, false, false, false, false, false, false, false, false, false, false, false, false, false, false, false] [] [] rfl (.refl _), rfl⟩
        · intro hc
          replace h := iteF h hc
          refine p_ 23 rfl rfl rfl rfl (x_pickT rfl rfl rfl rfl) ?_
          refine p_ 24 rfl rfl rfl rfl (.move rfl rfl) ?_
          refine k_ 25 rfl rfl rfl ?_
          refine k_ 26 rfl rfl rfl ?_
          refine k_ 27 rfl rfl rfl ?_
          refine k_ 28 rfl rfl rfl ?_
          refine k_ 29 rfl rfl rfl ?_
          refine p_ 30 rfl rfl rfl rfl (x_pickF rfl rfl rfl rfl) ?_
          refine p_ 4 rfl rfl rfl rfl (.assign rfl rfl) ?_
          refine we_nil ?_
          cases h
          exact ⟨rfl, _, .re [false, false, false, false, true, false, false, false, false, false, false, false, false, false, false, false, false, false, false, false, false, false, false, false, false, false, false, false, false, false, false] [] [] rfl (.refl _), rfl⟩
      · intro hc
        replace h := iteF h hc
        refine p_ 16 rfl rfl rfl rfl (x_pickT rfl rfl rfl rfl) ?_
        refine p_ 17 rfl rfl rfl rfl (.move rfl rfl) ?_
        refine k_ 18 rfl rfl rfl ?_
        refine k_ 19 rfl rfl rfl ?_
        refine k_ 20 rfl rfl rfl ?_
        refine k_ 21 rfl rfl rfl ?_
        refine k_ 22 rfl rfl rfl ?_
        refine p_ 23 rfl rfl rfl rfl (x_pickF rfl rfl rfl rfl) ?_
        refine p_ 24 rfl rfl rfl rfl (.move rfl rfl) ?_
        refine k_ 25 rfl rfl rfl ?_
        refine k_ 26 rfl rfl rfl ?_
        refine k_ 27 rfl rfl rfl ?_
        refine k_ 28 rfl rfl rfl ?_
        refine k_ 29 rfl rfl rfl ?_
        refine p_ 30 rfl rfl rfl rfl (x_pickF rfl rfl rfl rfl) ?_
        refine p_ 4 rfl rfl rfl rfl (.assign rfl rfl) ?_
        refine we_nil ?_
        cases h
        exact ⟨rfl, _, .re [false, false, false, false, true, false, false, false, false, false, false, false, false, false, false, false, false, false, false, false, false, false, false, false, false, false, false, false, false, false, false] [] [] rfl (.refl _), rfl⟩
    · intro hc
      replace h := iteF h hc
      refine p_ 10 rfl rfl rfl rfl (.move rfl rfl) ?_
      refine k_ 11 rfl rfl rfl ?_
      refine k_ 12 rfl rfl rfl ?_
      refine k_ 13 rfl rfl rfl ?_
      refine k_ 14 rfl rfl rfl ?_
      refine k_ 15 rfl rfl rfl ?_
      refine p_ 16 rfl rfl rfl rfl (x_pickF rfl rfl rfl rfl) ?_
      refine p_ 17 rfl rfl rfl rfl (.move rfl rfl) ?_
      refine k_ 18 rfl rfl rfl ?_
      refine k_ 19 rfl rfl rfl ?_
      refine k_ 20 rfl rfl rfl ?_
      refine k_ 21 rfl rfl rfl ?_
      refine k_ 22 rfl rfl rfl ?_
      refine p_ 23 rfl rfl rfl rfl (x_pickF rfl rfl rfl rfl) ?_
      refine p_ 24 rfl rfl rfl rfl (.move rfl rfl) ?_
      refine k_ 25 rfl rfl rfl ?_
      refine k_ 26 rfl rfl rfl ?_
      refine k_ 27 rfl rfl rfl ?_
      refine k_ 28 rfl rfl rfl ?_
      refine k_ 29 rfl rfl rfl ?_
      refine p_ 30 rfl rfl rfl rfl (x_pickF rfl rfl rfl rfl) ?_
      refine p_ 4 rfl rfl rfl rfl (.assign rfl rfl) ?_
      refine we_nil ?_
      cases h
      exact ⟨rfl, _, .re [false, false, false, false, true, false, false, false, false, false, false, false, false, false, false, false, false, false, false, false, false, false, false, false, false, false, false, false, false, false, false] [] [] rfl (.refl _), rfl⟩
  · clear hq
    refine ex_ret ?_
    obtain rfl := Option.some.inj h
    exact finB (by first | exact .inr rfl | exact .inl rfl) (.refl _) [.bool q1] [] [] (res_cons (res_tmp rfl) res_nil) rfl rfl rfl rfl rfl rfl rfl
theorem ok_slices_ContainsFunc_apiLine {r : Bool} {p0 : List (T_api_Line)} {p1 : T_api_Line → Option (Bool)} {g1 : FuncId} {cs1 : List DV} (hc1 : Cl prog g1 cs1) (hf1 : ∀ x0 r, p1 x0 = some r → OkB prog g1 ([.agg [.int .i64 x0.f_Quote, .sl false (List.map c_i64 x0.f_Lists), .int .i64 x0.f_Kind, .sl false (List.map c_api_Cell x0.f_Cells)]] ++ cs1) [] [] (.bool r) [] []) (h : slices_ContainsFunc_apiLine p0 p1 = some r) : OkB prog 60 [.sl false (List.map c_api_Line p0), .fn g1 cs1] [] [] (.bool r) [] [] := by
  unfold slices_ContainsFunc_apiLine at h
  refine okB_of_exG func60 rfl rfl (s0 := [.sl false (List.map c_api_Line p0), .fn g1 cs1, .top, .top, .top, .top, .top, .top, .top]) (b0 := []) (r0 := []) rfl rfl rfl ?_
  show Ex _ _ _ ⟨[.sl false (List.map c_api_Line p0), .fn g1 cs1, .top, .top, .top, .top, .top, .top, .top], [], [], 0⟩ _
  refine ex_seq ?_
  refine ex_ord [] (l := [0]) rfl ?_
  refine p_ 4 rfl rfl rfl rfl (.assign rfl rfl) ?_
  refine we_nil ?_
  refine ex_seq ?_
  refine ex_ord [] (l := [0, 1, 2, 3, 4]) rfl ?_
  refine p_ 5 rfl rfl rfl rfl (.move rfl rfl) ?_
  refine p_ 6 rfl rfl rfl rfl (.move rfl rfl) ?_
  obtain ⟨v1, hv1, h⟩ := bindS h
  refine p_ 7 rfl rfl rfl rfl (x_callP rfl rfl en101 (ok_slices_IndexFunc_apiLine hc1 hf1 hv1) rfl rfl rfl rfl rfl) ?_
  refine p_ 8 rfl rfl rfl rfl (.bin rfl rfl rfl rfl) ?_
  refine p_ 4 rfl rfl rfl rfl (.assign rfl rfl) ?_
  refine we_nil ?_
  refine ex_ret ?_
  obtain rfl := Option.some.inj h
  exact finB (by first | exact .inr rfl | exact .inl rfl) (.refl _) [.bool (decide ((v1 : Int) ≥ 0))] [] [] (res_cons (res_tmp rfl) res_nil) rfl rfl rfl rfl rfl rfl rfl
theorem ok_cmp_Compare_int {r : Int} {p0 : Int} {p1 : Int} (h : cmp_Compare_int p0 p1 = some r) : OkB prog 65 [.int .i64 p0, .int .i64 p1] [] [] (.int .i64 r) [] [] := by
  unfold cmp_Compare_int at h
  refine okB_of_exG func65 rfl rfl (s0 := [.int .i64 p0, .int .i64 p1, .top, .top, .top, .top, .top, .top, .top, .top, .top, .top, .top, .top, .top, .top, .top, .top, .top, .top]) (b0 := []) (r0 := []) rfl rfl rfl ?_
  show Ex _ _ _ ⟨[.int .i64 p0, .int .i64 p1, .top, .top, .top, .top, .top, .top, .top, .top, .top, .top, .top, .top, .top, .top, .top, .top, .top, .top], [], [], 0⟩ _
  refine ex_seq ?_
  refine ex_ord [] (l := [0]) rfl ?_
  refine p_ 4 rfl rfl rfl rfl (.assign rfl rfl) ?_
  refine we_nil ?_
  refine ex_seq ?_
  refine ex_ord [] (l := [0, 1, 2]) rfl ?_
  refine p_ 7 rfl rfl rfl rfl (.move rfl rfl) ?_
  obtain ⟨v1, hv1, h⟩ := bindS h
  refine p_ 8 rfl rfl rfl rfl (x_callP rfl rfl en104 (ok_cmp_isNaN_int hv1) rfl rfl rfl rfl rfl) ?_
  refine p_ 5 rfl rfl rfl rfl (.assign rfl rfl) ?_
  refine we_nil ?_
  refine ex_seq ?_
  refine ex_ord [] (l := [0, 1, 2]) rfl ?_
  refine p_ 9 rfl rfl rfl rfl (.move rfl rfl) ?_
  obtain ⟨v2, hv2, h⟩ := bindS h
  refine p_ 10 rfl rfl rfl rfl (x_callP rfl rfl en104 (ok_cmp_isNaN_int hv2) rfl rfl rfl rfl rfl) ?_
  refine p_ 6 rfl rfl rfl rfl (.assign rfl rfl) ?_
  refine we_nil ?_
  refine ex_seq ?_
  refine ex_seq ?_
  refine ex_ord [] (l := [0]) rfl ?_
  refine p_ 11 rfl rfl rfl rfl (.move rfl rfl) ?_
  refine we_nil ?_
  refine ex_if rfl ?_ ?_
  · intro hc
    replace h := iteT h hc
    refine ex_seq ?_
    refine ex_seq ?_
    refine ex_ord [] (l := [0]) rfl ?_
    refine p_ 12 rfl rfl rfl rfl (.move rfl rfl) ?_
    refine we_nil ?_
    refine ex_if rfl ?_ ?_
    · intro hc
      replace h := iteT h hc
      refine ex_seq ?_
      refine ex_ord [] (l := [0]) rfl ?_
      refine p_ 4 rfl rfl rfl rfl (.assign rfl rfl) ?_
      refine we_nil ?_
      refine ex_ret ?_
      obtain rfl := Option.some.inj h
      exact finB (by first | exact .inr rfl | exact .inl rfl) (.refl _) [.int .i64 0] [] [] (res_cons (res_tmp rfl) res_nil) rfl rfl rfl rfl rfl rfl rfl
    · intro hc
      replace h := iteF h hc
      refine ex_skip ?_
      refine ex_seq ?_
      refine ex_ord [] (l := [0]) rfl ?_
      refine p_ 4 rfl rfl rfl rfl (.assign rfl rfl) ?_
      refine we_nil ?_
      refine ex_ret ?_
      obtain rfl := Option.some.inj h
      exact finB (by first | exact .inr rfl | exact .inl rfl) (.refl _) [.int .i64 (-1)] [] [] (res_cons (res_tmp rfl) res_nil) rfl rfl rfl rfl rfl rfl rfl
  · intro hc
    replace h := iteF h hc
    refine ex_skip ?_
    refine ex_seq ?_
    refine ex_seq ?_
    refine ex_ord [] (l := [0]) rfl ?_
    refine p_ 13 rfl rfl rfl rfl (.move rfl rfl) ?_
    refine we_nil ?_
    refine ex_if rfl ?_ ?_
    · intro hc
      replace h := iteT h hc
      refine ex_seq ?_
      refine ex_ord [] (l := [0]) rfl ?_
      refine p_ 4 rfl rfl rfl rfl (.assign rfl rfl) ?_
      refine we_nil ?_
      refine ex_ret ?_
      obtain rfl := Option.some.inj h
      exact finB (by first | exact .inr rfl | exact .inl rfl) (.refl _) [.int .i64 1] [] [] (res_cons (res_tmp rfl) res_nil) rfl rfl rfl rfl rfl rfl rfl
    · intro hc
      replace h := iteF h hc
      refine ex_skip ?_
      refine ex_seq ?_
      refine ex_seq ?_
      refine ex_ord [] (l := [0, 1, 2]) rfl ?_
      refine p_ 14 rfl rfl rfl rfl (.move rfl rfl) ?_
      refine p_ 15 rfl rfl rfl rfl (.move rfl rfl) ?_
      refine p_ 16 rfl rfl rfl rfl (.bin rfl rfl rfl rfl) ?_
      refine we_nil ?_
      refine ex_if rfl ?_ ?_
      · intro hc
        replace h := iteT h hc
        refine ex_seq ?_
        refine ex_ord [] (l := [0]) rfl ?_
        refine p_ 4 rfl rfl rfl rfl (.assign rfl rfl) ?_
        refine we_nil ?_
        refine ex_ret ?_
        obtain rfl := Option.some.inj h
        exact finB (by first | exact .inr rfl | exact .inl rfl) (.refl _) [.int .i64 (-1)] [] [] (res_cons (res_tmp rfl) res_nil) rfl rfl rfl rfl rfl rfl rfl
      · intro hc
        replace h := iteF h hc
        refine ex_skip ?_
        refine ex_seq ?_
        refine ex_seq ?_
        refine ex_ord [] (l := [0, 1, 2]) rfl ?_
        refine p_ 17 rfl rfl rfl rfl (.move rfl rfl) ?_
        refine p_ 18 rfl rfl rfl rfl (.move rfl rfl) ?_
        refine p_ 19 rfl rfl rfl rfl (.bin rfl rfl rfl rfl) ?_
        refine we_nil ?_
        refine ex_if rfl ?_ ?_
        · intro hc
          replace h := iteT h hc
          refine ex_seq ?_
          refine ex_ord [] (l := [0]) rfl ?_
          refine p_ 4 rfl rfl rfl rfl (.assign rfl rfl) ?_
          refine we_nil ?_
          refine ex_ret ?_
          obtain rfl := Option.some.inj h
          exact finB (by first | exact .inr rfl | exact .inl rfl) (.refl _) [.int .i64 1] [] [] (res_cons (res_tmp rfl) res_nil) rfl rfl rfl rfl rfl rfl rfl
        · intro hc
          replace h := iteF h hc
          refine ex_skip ?_
          refine ex_seq ?_
          refine ex_ord [] (l := [0]) rfl ?_
          refine p_ 4 rfl rfl rfl rfl (.assign rfl rfl) ?_
          refine we_nil ?_
          refine ex_ret ?_
          obtain rfl := Option.some.inj h
          exact finB (by first | exact .inr rfl | exact .inl rfl) (.refl _) [.int .i64 0] [] [] (res_cons (res_tmp rfl) res_nil) rfl rfl rfl rfl rfl rfl rfl
theorem ok_slices_Concat_apiCell {r : (List (T_api_Cell))} {p0 : List (List (T_api_Cell))} (h : slices_Concat_apiCell p0 = some r) : OkB prog 91 [.own 0] [] [⟨46, 1, List.map c_Lapi_Cell p0⟩] (.own 0) [] [⟨58, 3, List.map c_api_Cell r⟩] := by
  unfold slices_Concat_apiCell at h
  refine okB_of_exG func91 rfl rfl (s0 := [.own 0, .top, .top, .top, .top, .top, .top, .top, .top, .top, .top, .top, .top, .top, .top, .top, .top, .top, .top, .top, .top, .top, .top, .top, .top, .top, .top, .top, .top, .top, .top, .top, .top, .top, .top, .top]) (b0 := []) (r0 := [some ⟨46, 1, List.map c_Lapi_Cell p0⟩]) rfl rfl rfl ?_
  show Ex _ _ _ ⟨[.own 0, .top, .top, .top, .top, .top, .top, .top, .top, .top, .top, .top, .top, .top, .top, .top, .top, .top, .top, .top, .top, .top, .top, .top, .top, .top, .top, .top, .top, .top, .top, .top, .top, .top, .top, .top], [], [some ⟨46, 1, List.map c_Lapi_Cell p0⟩], 0⟩ _
  refine ex_seq ?_
  refine ex_ord [0] (l := [0]) rfl ?_
  refine e_ (d := .own 1) 2 rfl rfl rfl rfl rfl (b' := []) (r' := [some ⟨46, 1, List.map c_Lapi_Cell p0⟩, some ⟨58, 3, []⟩]) (.nilRow (.inr rfl) rfl 58 3) rfl ?_
  refine we_nil ?_
  refine ex_seq ?_
  refine ex_ord [] (l := [0]) rfl ?_
  refine p_ 3 rfl rfl rfl rfl (.assign rfl rfl) ?_
  refine we_nil ?_
  refine ex_seq ?_
  refine ex_seq ?_
  refine ex_ord [] (l := [0, 1, 2]) rfl ?_
  refine p_ 9 rfl rfl rfl rfl (.move rfl rfl) ?_
  refine p_ 10 rfl rfl rfl rfl (x_len (f := c_Lapi_Cell) (l := p0) rfl rfl rfl el115) ?_
  refine p_ 11 rfl rfl rfl rfl (.move rfl rfl) ?_
  refine we_nil ?_
  refine ex_block ?_
  obtain ⟨k3, hl, h⟩ := bindS h
  refine ex_gst ⟨[.own 0, .top, .top, .int .i64 0, .top, .top, .top, .top, .top, .own 0, .int .i64 (p0.length : Int), .int .i64 0, .top, .top, .top, .top, .top, .top, .top, .top, .top, .top, .top, .top, .top, .top, .top, .top, .top, .top, .top, .top, .top, .top, .top, .top], [], [some ⟨46, 1, List.map c_Lapi_Cell p0⟩], 0⟩ (.re [true, false, false, true, false, false, false, false, false, true, true, true, false, false, false, false, false, false, false, false, false, false, false, false, false, false, false, false, false, false, false, false, false, false, false, false] [] [0] rfl (.refl _)) rfl ?_
  refine ex_iterX (fun _ => .exit 0) (fun s => ⟨[.own 0, .top, .top, .int .i64 s.2, .top, .top, .top, .top, .top, .own 0, .int .i64 (p0.length : Int), .int .i64 s.1, .top, .top, .top, .top, .top, .top, .top, .top, .top, .top, .top, .top, .top, .top, .top, .top, .top, .top, .top, .top, .top, .top, .top, .top], [], [some ⟨46, 1, List.map c_Lapi_Cell p0⟩], 0⟩) (fun o => ⟨[.own 0, .top, .top, .int .i64 o, .top, .top, .top, .top, .top, .top, .top, .top, .top, .top, .top, .top, .top, .top, .top, .top, .top, .top, .top, .top, .top, .top, .top, .top, .top, .top, .top, .top, .top, .top, .top, .top], [], [some ⟨46, 1, List.map c_Lapi_Cell p0⟩], 0⟩) hl rfl ?_ ?_
  · clear hl
    refine ex_seq ?_
    refine ex_ord [1] (l := [0, 1, 2]) rfl ?_
    refine p_ 23 rfl rfl rfl rfl (.move rfl rfl) ?_
    obtain ⟨v7, hv7, h⟩ := bindS h
    refine e_ (d := .own 1) 24 rfl rfl rfl rfl rfl (b' := []) (r' := [some ⟨46, 1, List.map c_Lapi_Cell p0⟩, some ⟨58, 3, List.map c_api_Cell v7⟩]) (x_call [] [] rfl rfl en120 (ok_slices_Grow_apiCell hv7) rfl rfl rfl rfl rfl rfl rfl rfl rfl rfl rfl rfl rfl rfl) rfl ?_
    refine p_ 6 rfl rfl rfl rfl (.assign rfl rfl) ?_
    refine we_nil ?_
    refine ex_seq ?_
    refine ex_seq ?_
    refine ex_ord [] (l := [0, 1, 2]) rfl ?_
    refine p_ 25 rfl rfl rfl rfl (.move rfl rfl) ?_
    refine p_ 26 rfl rfl rfl rfl (x_len (f := c_Lapi_Cell) (l := p0) rfl rfl rfl el115) ?_
    refine p_ 27 rfl rfl rfl rfl (.move rfl rfl) ?_
    refine we_nil ?_
    refine ex_block ?_
    obtain ⟨k10, hl, h⟩ := bindS h
    refine ex_gst ⟨[.top, .top, .top, .top, .top, .top, .own 0, .top, .top, .top, .top, .top, .top, .top, .top, .top, .top, .top, .top, .top, .top, .top, .top, .top, .top, .own 1, .int .i64 (p0.length : Int), .int .i64 0, .top, .top, .top, .top, .top, .top, .top, .top], [], [some ⟨58, 3, List.map c_api_Cell v7⟩, some ⟨46, 1, List.map c_Lapi_Cell p0⟩], 0⟩ (.re [false, false, false, false, false, false, true, false, false, false, false, false, false, false, false, false, false, false, false, false, false, false, false, false, false, true, true, true, false, false, false, false, false, false, false, false] [] [1, 0] rfl (.refl _)) rfl ?_
    refine ex_iterX (fun _ => .exit 2) (fun s => ⟨[.top, .top, .top, .top, .top, .top, .own 0, .top, .top, .top, .top, .top, .top, .top, .top, .top, .top, .top, .top, .top, .top, .top, .top, .top, .top, .own 1, .int .i64 (p0.length : Int), .int .i64 s.2, .top, .top, .top, .top, .top, .top, .top, .top], [], [some ⟨58, 3, List.map c_api_Cell s.1⟩, some ⟨46, 1, List.map c_Lapi_Cell p0⟩], 0⟩) (fun o => ⟨[.top, .top, .top, .top, .top, .top, .own 0, .top, .top, .top, .top, .top, .top, .top, .top, .top, .top, .top, .top, .top, .top, .top, .top, .top, .top, .top, .top, .top, .top, .top, .top, .top, .top, .top, .top, .top], [], [some ⟨58, 3, List.map c_api_Cell o⟩], 0⟩) hl rfl ?_ ?_
    · clear hl
      refine ex_seq ?_
      refine ex_ord [] (l := [0, 1]) rfl ?_
      refine p_ 35 rfl rfl rfl rfl (.move rfl rfl) ?_
      refine p_ 2 rfl rfl rfl rfl (.assign rfl rfl) ?_
      refine we_nil ?_
      refine ex_ret ?_
      obtain rfl := Option.some.inj h
      exact finB (by first | exact .inr rfl | exact .inl rfl) (.refl _) [.own 0] [0] [] (res_cons (res_tmp rfl) res_nil) rfl rfl rfl rfl rfl rfl rfl
    · clear hl h
      rintro ⟨n8, n9⟩ y h
      replace h : slices_Concat_apiCell_l2 p0 n8 n9 = some y := h
      unfold slices_Concat_apiCell_l2 at h
      show Ex _ _ _ ⟨[.top, .top, .top, .top, .top, .top, .own 0, .top, .top, .top, .top, .top, .top, .top, .top, .top, .top, .top, .top, .top, .top, .top, .top, .top, .top, .own 1, .int .i64 (p0.length : Int), .int .i64 n9, .top, .top, .top, .top, .top, .top, .top, .top], [], [some ⟨58, 3, List.map c_api_Cell n8⟩, some ⟨46, 1, List.map c_Lapi_Cell p0⟩], 0⟩ _
      refine ex_seq ?_
      refine ex_ord [] (l := [0]) rfl ?_
      refine p_ 28 rfl rfl rfl rfl (.bin rfl rfl rfl rfl) ?_
      refine we_nil ?_
      refine ex_seq ?_
      refine ex_if rfl ?_ ?_
      · intro hc
        replace h := iteT h hc
        refine ex_skip ?_
        refine ex_seq ?_
        refine ex_block ?_
        refine ex_seq ?_
        refine ex_ord [] (l := [0, 1, 2]) rfl ?_
        obtain ⟨v11, hv11, h⟩ := bindS h
        refine p_ 29 rfl rfl rfl rfl (x_idxO (f := c_Lapi_Cell) (l := p0) rfl rfl rfl rfl rfl el115 sz46 hv11 rfl) ?_
        obtain ⟨v12, hv12, h⟩ := bindS h
        refine p_ 30 rfl rfl rfl rfl (x_load rfl rfl (at_ex (f := c_Lapi_Cell) (xs := p0) (c := [.sl false (List.map c_api_Cell v12)]) rfl rfl (getI_some hv12).2 rfl (Nat.le_of_ble_eq_true rfl)) sz46 un46 ag46 rfl) ?_
        refine p_ 8 rfl rfl rfl rfl (.assign rfl rfl) ?_
        refine we_nil ?_
        refine ex_ord [2] (l := [0, 1, 2, 3]) rfl ?_
        refine p_ 31 rfl rfl rfl rfl (.move rfl rfl) ?_
        refine p_ 32 rfl rfl rfl rfl (.move rfl rfl) ?_
        obtain ⟨v13, hv13, h⟩ := bindS h
        refine e_ (d := .own 2) 33 rfl rfl rfl rfl rfl (b' := []) (r' := [none, some ⟨46, 1, List.map c_Lapi_Cell p0⟩, some ⟨58, 3, List.map c_api_Cell v13⟩]) (x_app (f := c_api_Cell) (xs := n8) (ys := v12) rfl rfl rfl el46 rw58 rfl rfl rfl fl_api_Cell hv13) rfl ?_
        refine p_ 6 rfl rfl rfl rfl (.assign rfl rfl) ?_
        refine we_nil ?_
        refine ex_ord [] (l := [0, 1]) rfl ?_
        refine p_ 34 rfl rfl rfl rfl (.bin rfl rfl rfl rfl) ?_
        refine p_ 27 rfl rfl rfl rfl (.move rfl rfl) ?_
        refine we_nil ?_
        exact rnd_on rfl h (.re [false, false, false, false, false, false, true, false, false, false, false, false, false, false, false, false, false, false, false, false, false, false, false, false, false, true, true, true, false, false, false, false, false, false, false, false] [] [2, 1] rfl (.refl _)) rfl
      · intro hc
        replace h := iteF h hc
        refine ex_exit ?_
        exact rnd_out (o := n8) rfl (fun h => by cases h) h (.re [false, false, false, false, false, false, true, false, false, false, false, false, false, false, false, false, false, false, false, false, false, false, false, false, false, false, false, false, false, false, false, false, false, false, false, false] [] [0] rfl (.refl _)) rfl
  · clear hl h
    rintro ⟨n1, n2⟩ y h
    replace h : slices_Concat_apiCell_l1 p0 n1 n2 = some y := h
    unfold slices_Concat_apiCell_l1 at h
    show Ex _ _ _ ⟨[.own 0, .top, .top, .int .i64 n2, .top, .top, .top, .top, .top, .own 0, .int .i64 (p0.length : Int), .int .i64 n1, .top, .top, .top, .top, .top, .top, .top, .top, .top, .top, .top, .top, .top, .top, .top, .top, .top, .top, .top, .top, .top, .top, .top, .top], [], [some ⟨46, 1, List.map c_Lapi_Cell p0⟩], 0⟩ _
    refine ex_seq ?_
    refine ex_ord [] (l := [0]) rfl ?_
    refine p_ 12 rfl rfl rfl rfl (.bin rfl rfl rfl rfl) ?_
    refine we_nil ?_
    refine ex_seq ?_
    refine ex_if rfl ?_ ?_
    · intro hc
      replace h := iteT h hc
      refine ex_skip ?_
      refine ex_seq ?_
      refine ex_block ?_
      refine ex_seq ?_
      refine ex_ord [] (l := [0, 1, 2]) rfl ?_
      obtain ⟨v4, hv4, h⟩ := bindS h
      refine p_ 13 rfl rfl rfl rfl (x_idxO (f := c_Lapi_Cell) (l := p0) rfl rfl rfl rfl rfl el115 sz46 hv4 rfl) ?_
      obtain ⟨v5, hv5, h⟩ := bindS h
      refine p_ 14 rfl rfl rfl rfl (x_load rfl rfl (at_ex (f := c_Lapi_Cell) (xs := p0) (c := [.sl false (List.map c_api_Cell v5)]) rfl rfl (getI_some hv5).2 rfl (Nat.le_of_ble_eq_true rfl)) sz46 un46 ag46 rfl) ?_
      refine p_ 5 rfl rfl rfl rfl (.assign rfl rfl) ?_
      refine we_nil ?_
      refine ex_seq ?_
      refine ex_ord [] (l := [0, 1, 2, 3, 4]) rfl ?_
      refine p_ 15 rfl rfl rfl rfl (.move rfl rfl) ?_
      refine p_ 16 rfl rfl rfl rfl (.move rfl rfl) ?_
      refine p_ 17 rfl rfl rfl rfl (x_len (f := c_api_Cell) (l := v5) rfl rfl rfl el46) ?_
      refine p_ 18 rfl rfl rfl rfl (.bin rfl rfl rfl rfl) ?_
      refine p_ 3 rfl rfl rfl rfl (.assign rfl rfl) ?_
      refine we_nil ?_
      refine ex_seq ?_
      refine ex_ord [] (l := [0, 1]) rfl ?_
      refine p_ 19 rfl rfl rfl rfl (.move rfl rfl) ?_
      refine p_ 20 rfl rfl rfl rfl (.bin rfl rfl rfl rfl) ?_
      refine we_nil ?_
      obtain ⟨_, hq, h⟩ := bindS h
      refine ex_cut ⟨[.own 0, .top, .top, .int .i64 (IntKind.wrap .i64 (n2 + (v5.length : Int))), .top, .top, .top, .top, .top, .own 0, .int .i64 (p0.length : Int), .int .i64 n1, .top, .top, .top, .top, .top, .top, .top, .top, .top, .top, .top, .top, .top, .top, .top, .top, .top, .top, .top, .top, .top, .top, .top, .top], [], [some ⟨46, 1, List.map c_Lapi_Cell p0⟩], 0⟩ ?_ ?_
      · clear h
        have h := hq
        clear hq
        refine ex_if rfl ?_ ?_
        · intro hc
          replace h := iteT h hc
          cases h
        · intro hc
          replace h := iteF h hc
          refine ex_skip ?_
          cases h
          exact ⟨rfl, _, .re [true, false, false, true, false, false, false, false, false, true, true, true, false, false, false, false, false, false, false, false, false, false, false, false, false, false, false, false, false, false, false, false, false, false, false, false] [] [0] rfl (.refl _), rfl⟩
      · clear hq
        refine ex_ord [] (l := [0, 1]) rfl ?_
        refine p_ 22 rfl rfl rfl rfl (.bin rfl rfl rfl rfl) ?_
        refine p_ 11 rfl rfl rfl rfl (.move rfl rfl) ?_
        refine we_nil ?_
        exact rnd_on rfl h (.re [true, false, false, true, false, false, false, false, false, true, true, true, false, false, false, false, false, false, false, false, false, false, false, false, false, false, false, false, false, false, false, false, false, false, false, false] [] [0] rfl (.refl _)) rfl
    · intro hc
      replace h := iteF h hc
      refine ex_exit ?_
      exact rnd_out (o := n2) rfl (fun h => by cases h) h (.re [true, false, false, true, false, false, false, false, false, false, false, false, false, false, false, false, false, false, false, false, false, false, false, false, false, false, false, false, false, false, false, false, false, false, false, false] [] [0] rfl (.refl _)) rfl
theorem ok_slices_ContainsFunc_int {r : Bool} {p0 : List (Int)} {p1 : Int → Option (Bool)} {g1 : FuncId} {cs1 : List DV} (hc1 : Cl prog g1 cs1) (hf1 : ∀ x0 r, p1 x0 = some r → OkB prog g1 ([.int .i64 x0] ++ cs1) [] [] (.bool r) [] []) (h : slices_ContainsFunc_int p0 p1 = some r) : OkB prog 102 [.sl false (List.map c_i64 p0), .fn g1 cs1] [] [] (.bool r) [] [] := by
  unfold slices_ContainsFunc_int at h
  refine okB_of_exG func102 rfl rfl (s0 := [.sl false (List.map c_i64 p0), .fn g1 cs1, .top, .top, .top, .top, .top, .top, .top]) (b0 := []) (r0 := []) rfl rfl rfl ?_
  show Ex _ _ _ ⟨[.sl false (List.map c_i64 p0), .fn g1 cs1, .top, .top, .top, .top, .top, .top, .top], [], [], 0⟩ _
  refine ex_seq ?_
  refine ex_ord [] (l := [0]) rfl ?_
  refine p_ 4 rfl rfl rfl rfl (.assign rfl rfl) ?_
  refine we_nil ?_
  refine ex_seq ?_
  refine ex_ord [] (l := [0, 1, 2, 3, 4]) rfl ?_
  refine p_ 5 rfl rfl rfl rfl (.move rfl rfl) ?_
  refine p_ 6 rfl rfl rfl rfl (.move rfl rfl) ?_
  obtain ⟨v1, hv1, h⟩ := bindS h
  refine p_ 7 rfl rfl rfl rfl (x_callP rfl rfl en130 (ok_slices_IndexFunc_int hc1 hf1 hv1) rfl rfl rfl rfl rfl) ?_
  refine p_ 8 rfl rfl rfl rfl (.bin rfl rfl rfl rfl) ?_
  refine p_ 4 rfl rfl rfl rfl (.assign rfl rfl) ?_
  refine we_nil ?_
  refine ex_ret ?_
  obtain rfl := Option.some.inj h
  exact finB (by first | exact .inr rfl | exact .inl rfl) (.refl _) [.bool (decide ((v1 : Int) ≥ 0))] [] [] (res_cons (res_tmp rfl) res_nil) rfl rfl rfl rfl rfl rfl rfl
theorem ok_cells_each {r : (List (T_api_Cell)) × Int} {p0 : List (T_api_Cell)} {p1 : Int} {p2 : Int} {p3 : T_api_Cell → Option (T_api_Cell)} {g3 : FuncId} {cs3 : List DV} (hc3 : Cl prog g3 cs3) (hf3 : ∀ x0 r, p3 x0 = some r → OkB prog g3 ([.bx 0 0] ++ cs3) [c_api_Cell x0] [] (.tup []) [c_api_Cell r] []) (h : cells_each p0 p1 p2 p3 = some r) : OkB prog 107 [.sl false (List.map c_api_Cell p0), .int .i64 p1, .int .i64 p2, .fn g3 cs3] [] [] (.tup [.own 0, .int .i64 r.2]) [] [⟨58, 3, List.map c_api_Cell r.1⟩] := by
  unfold cells_each at h
  refine okB_of_exG func107 rfl rfl (s0 := [.sl false (List.map c_api_Cell p0), .int .i64 p1, .int .i64 p2, .fn g3 cs3, .top, .top, .top, .top, .top, .top, .top, .top, .top, .top, .top, .top, .top, .top, .top, .top, .top, .top, .top, .top, .top, .top, .top, .top, .top, .top, .top]) (b0 := []) (r0 := []) rfl rfl rfl ?_
  show Ex _ _ _ ⟨[.sl false (List.map c_api_Cell p0), .int .i64 p1, .int .i64 p2, .fn g3 cs3, .top, .top, .top, .top, .top, .top, .top, .top, .top, .top, .top, .top, .top, .top, .top, .top, .top, .top, .top, .top, .top, .top, .top, .top, .top, .top, .top], [], [], 0⟩ _
  refine ex_seq ?_
  refine ex_ord [0] (l := [0, 1]) rfl ?_
  refine e_ (d := .own 0) 8 rfl rfl rfl rfl rfl (b' := []) (r' := [some ⟨58, 3, []⟩]) (.nilRow (.inr rfl) rfl 58 3) rfl ?_
  refine p_ 9 rfl rfl rfl rfl (.assign rfl rfl) ?_
  refine we_nil ?_
  refine ex_seq ?_
  refine ex_seq ?_
  refine ex_ord [] (l := [0, 1, 2, 3, 4]) rfl ?_
  refine p_ 12 rfl rfl rfl rfl (.move rfl rfl) ?_
  refine p_ 13 rfl rfl rfl rfl (.move rfl rfl) ?_
  refine p_ 14 rfl rfl rfl rfl (.move rfl rfl) ?_
  obtain ⟨v1, hv1, h⟩ := bindS h
  refine p_ 15 rfl rfl rfl rfl (x_callP rfl rfl en126 (ok_cells_span hv1) rfl rfl rfl rfl rfl) ?_
  refine p_ 16 rfl rfl rfl rfl (.un rfl rfl rfl) ?_
  refine we_nil ?_
  refine ex_if rfl ?_ ?_
  · intro hc
    replace h := iteT h hc
    refine ex_seq ?_
    refine ex_ord [0] (l := [0, 1]) rfl ?_
    refine e_ (d := .own 1) 8 rfl rfl rfl rfl rfl (b' := []) (r' := [some ⟨58, 3, []⟩, some ⟨58, 3, []⟩]) (.nilRow (.inr rfl) rfl 58 3) rfl ?_
    refine p_ 9 rfl rfl rfl rfl (.assign rfl rfl) ?_
    refine we_nil ?_
    refine ex_ret ?_
    obtain rfl := Option.some.inj h
    exact finB (by first | exact .inr rfl | exact .inl rfl) (.refl _) [.own 1, .int .i64 1] [1] [] (res_cons (res_tmp rfl) (res_cons (res_tmp rfl) res_nil)) rfl rfl rfl rfl rfl rfl rfl
  · intro hc
    replace h := iteF h hc
    refine ex_skip ?_
    refine ex_seq ?_
    refine ex_ord [1] (l := [0, 1, 2]) rfl ?_
    refine p_ 17 rfl rfl rfl rfl (.move rfl rfl) ?_
    obtain ⟨v2, hv2, h⟩ := bindS h
    refine e_ (d := .own 1) 18 rfl rfl rfl rfl rfl (b' := []) (r' := [some ⟨58, 3, []⟩, some ⟨58, 3, List.map c_api_Cell v2⟩]) (x_call [] [] rfl rfl en106 (ok_slices_Clone_apiCell hv2) rfl rfl rfl rfl rfl rfl rfl rfl rfl rfl rfl rfl rfl rfl) rfl ?_
    refine p_ 10 rfl rfl rfl rfl (.assign rfl rfl) ?_
    refine we_nil ?_
    refine ex_seq ?_
    refine ex_seq ?_
    refine ex_ord [] (l := [0, 1]) rfl ?_
    refine p_ 19 rfl rfl rfl rfl (.move rfl rfl) ?_
    refine p_ 11 rfl rfl rfl rfl (.assign rfl rfl) ?_
    refine we_nil ?_
    refine ex_block ?_
    obtain ⟨k5, hl, h⟩ := bindS h
    refine ex_gst ⟨[.top, .top, .int .i64 p2, .fn g3 cs3, .top, .top, .top, .top, .top, .top, .own 0, .int .i64 p1, .top, .top, .top, .top, .top, .top, .top, .top, .top, .top, .top, .top, .top, .top, .top, .top, .top, .top, .top], [], [some ⟨58, 3, List.map c_api_Cell v2⟩], 0⟩ (.re [false, false, true, true, false, false, false, false, false, false, true, true, false, false, false, false, false, false, false, false, false, false, false, false, false, false, false, false, false, false, false] [] [1] rfl (.refl _)) rfl ?_
    refine ex_iterX (fun _ => .exit 0) (fun s => ⟨[.top, .top, .int .i64 p2, .fn g3 cs3, .top, .top, .top, .top, .top, .top, .own 0, .int .i64 s.2, .top, .top, .top, .top, .top, .top, .top, .top, .top, .top, .top, .top, .top, .top, .top, .top, .top, .top, .top], [], [some ⟨58, 3, List.map c_api_Cell s.1⟩], 0⟩) (fun o => ⟨[.top, .top, .top, .top, .top, .top, .top, .top, .top, .top, .own 0, .top, .top, .top, .top, .top, .top, .top, .top, .top, .top, .top, .top, .top, .top, .top, .top, .top, .top, .top, .top], [], [some ⟨58, 3, List.map c_api_Cell o⟩], 0⟩) hl rfl ?_ ?_
    · clear hl
      refine ex_seq ?_
      refine ex_ord [] (l := [0, 1, 2]) rfl ?_
      refine p_ 30 rfl rfl rfl rfl (.move rfl rfl) ?_
      refine p_ 8 rfl rfl rfl rfl (.assign rfl rfl) ?_
      refine p_ 9 rfl rfl rfl rfl (.assign rfl rfl) ?_
      refine we_nil ?_
      refine ex_ret ?_
      obtain rfl := Option.some.inj h
      exact finB (by first | exact .inr rfl | exact .inl rfl) (.refl _) [.own 0, .int .i64 0] [0] [] (res_cons (res_tmp rfl) (res_cons (res_tmp rfl) res_nil)) rfl rfl rfl rfl rfl rfl rfl
    · clear hl h
      rintro ⟨n3, n4⟩ y h
      replace h : cells_each_l1 p2 p3 n3 n4 = some y := h
      unfold cells_each_l1 at h
      show Ex _ _ _ ⟨[.top, .top, .int .i64 p2, .fn g3 cs3, .top, .top, .top, .top, .top, .top, .own 0, .int .i64 n4, .top, .top, .top, .top, .top, .top, .top, .top, .top, .top, .top, .top, .top, .top, .top, .top, .top, .top, .top], [], [some ⟨58, 3, List.map c_api_Cell n3⟩], 0⟩ _
      refine ex_seq ?_
      refine ex_seq ?_
      refine ex_ord [] (l := [0, 1, 2]) rfl ?_
      refine p_ 20 rfl rfl rfl rfl (.move rfl rfl) ?_
      refine p_ 21 rfl rfl rfl rfl (.move rfl rfl) ?_
      refine p_ 22 rfl rfl rfl rfl (.bin rfl rfl rfl rfl) ?_
      refine we_nil ?_
      refine ex_if rfl ?_ ?_
      · intro hc
        replace h := iteT h hc
        refine ex_skip ?_
        refine ex_seq ?_
        refine ex_block ?_
        refine ex_ord [4] (l := [0, 1, 2, 3, 4]) rfl ?_
        refine p_ 25 rfl rfl rfl rfl (.move rfl rfl) ?_
        refine p_ 26 rfl rfl rfl rfl (.move rfl rfl) ?_
        refine p_ 27 rfl rfl rfl rfl (.move rfl rfl) ?_
        obtain ⟨v6, hv6, h⟩ := bindS h
        refine p_ 28 rfl rfl rfl rfl (x_idxO (f := c_api_Cell) (l := n3) rfl rfl rfl rfl rfl el46 sz58 hv6 rfl) ?_
        obtain ⟨v7, hv7, h⟩ := bindS h
        obtain ⟨v8, hv8, h⟩ := bindS h
        refine e_ (d := .tup []) 29 rfl rfl rfl rfl rfl (b' := []) (r' := [some ⟨58, 3, List.map c_api_Cell (setI n3 n4 v8)⟩]) (x_callEV (cf := c_api_Cell) (xs := n3) (c := v7) (c' := v8) (tk := 0) (i := Int.toNat n4) rfl rfl hc3 (hf3 _ _ hv8) rfl rfl rfl rfl (getI_some hv7).2 (by simp [argOkE]) rfl rfl) rfl ?_
        refine we_nil ?_
        refine ex_ord [] (l := [0, 1, 2]) rfl ?_
        refine p_ 23 rfl rfl rfl rfl (.move rfl rfl) ?_
        refine p_ 24 rfl rfl rfl rfl (.bin rfl rfl rfl rfl) ?_
        refine p_ 11 rfl rfl rfl rfl (.assign rfl rfl) ?_
        refine we_nil ?_
        exact rnd_on rfl h (.re [false, false, true, true, false, false, false, false, false, false, true, true, false, false, false, false, false, false, false, false, false, false, false, false, false, false, false, false, false, false, false] [] [0] rfl (.refl _)) rfl
      · intro hc
        replace h := iteF h hc
        refine ex_exit ?_
        exact rnd_out (o := n3) rfl (fun h => by cases h) h (.re [false, false, false, false, false, false, false, false, false, false, true, false, false, false, false, false, false, false, false, false, false, false, false, false, false, false, false, false, false, false, false] [] [0] rfl (.refl _)) rfl
theorem ok_cells_Set_1 {r : T_api_Cell} {p0 : T_api_Cell} {p1 : Int} {p2 : Int} (h : cells_Set_1 p0 p1 p2 = some r) : OkB prog 108 [.bx 0 0, .cp [.int .i64 p1], .cp [.int .i64 p2]] [[.int .i32 p0.f_R, .int .i64 p0.f_Bits, .str (bs p0.f_Href)]] [] (.tup []) [[.int .i32 r.f_R, .int .i64 r.f_Bits, .str (bs r.f_Href)]] [] := by
  unfold cells_Set_1 at h
  refine okB_of_exG func108 rfl rfl (s0 := [.bx 0 0, .cp [.int .i64 p1], .cp [.int .i64 p2], .top, .top, .top, .top, .top, .top, .top, .top, .top, .top, .top, .top, .top]) (b0 := [some [.int .i32 p0.f_R, .int .i64 p0.f_Bits, .str (bs p0.f_Href)]]) (r0 := []) rfl rfl rfl ?_
  show Ex _ _ _ ⟨[.bx 0 0, .cp [.int .i64 p1], .cp [.int .i64 p2], .top, .top, .top, .top, .top, .top, .top, .top, .top, .top, .top, .top, .top], [some [.int .i32 p0.f_R, .int .i64 p0.f_Bits, .str (bs p0.f_Href)]], [], 1⟩ _
  refine ex_drw mo [12, 1005, 1007, 1009, 2002, 2003, 2004, 2010, 2011, 3012, 300000, 400000, 500000, 1100000, 1200000, 1300000] (by kernel_rfl) (l := [0, 1, 2, 3, 4, 5, 6, 7, 8, 9, 10, 11, 12]) rfl ?_
  refine p_ 4 rfl rfl rfl rfl (.move rfl rfl) ?_
  refine p_ 5 rfl rfl rfl rfl (.move rfl rfl) ?_
  refine r_ 6 0 rfl rfl rfl rfl rfl rfl (fun _ _ hb => .nilCheck rfl rfl (live_bx hb)) ?_
  refine r_ 7 0 rfl rfl rfl rfl rfl rfl (fun _ _ hb => .fieldAddr rfl rfl (live_bx hb) fl58u_1 rfl) ?_
  refine r_ 8 0 rfl rfl rfl rfl rfl rfl (fun _ _ hb => x_load rfl rfl (at_bx hb rfl) sz3 un3 ag3 rfl) ?_
  refine n_ 9 rfl rfl rfl (fun _ _ => x_load rfl rfl rfl sz3 un3 ag3 rfl) ?_
  refine p_ 10 rfl rfl rfl rfl (.bin rfl rfl rfl rfl) ?_
  refine n_ 11 rfl rfl rfl (fun _ _ => x_load rfl rfl rfl sz3 un3 ag3 rfl) ?_
  refine p_ 12 rfl rfl rfl rfl (.bin rfl rfl rfl rfl) ?_
  obtain ⟨v1, hv1, h⟩ := bindS h
  refine n_ 13 rfl rfl rfl (fun _ _ => x_callP rfl rfl en109 (ok_css_Over hv1) rfl rfl rfl rfl rfl) ?_
  refine r_ 14 0 rfl rfl rfl rfl rfl rfl (fun _ _ hb => .nilCheck rfl rfl (live_bx hb)) ?_
  refine r_ 15 0 rfl rfl rfl rfl rfl rfl (fun _ _ hb => .fieldAddr rfl rfl (live_bx hb) fl58u_1 rfl) ?_
  refine e0 rfl rfl rfl rfl rfl (b' := [some [.int .i32 p0.f_R, .int .i64 v1, .str (bs p0.f_Href)]]) (r' := []) (hb := set_out 0 (some [.int .i32 p0.f_R, .int .i64 v1, .str (bs p0.f_Href)]) rfl rfl) (.store rfl rfl rfl sz3 rfl rfl rfl) rfl ?_
  refine we_nil ?_
  obtain rfl := Option.some.inj h
  exact finB (by first | exact .inr rfl | exact .inl rfl) (.refl _) [] [] [[.int .i32 p0.f_R, .int .i64 v1, .str (bs p0.f_Href)]] res_nil rfl rfl rfl rfl rfl rfl rfl
theorem ok_cells_Same {r : Bool} {p0 : List (T_api_Cell)} {p1 : List (T_api_Cell)} (h : cells_Same p0 p1 = some r) : OkB prog 119 [.sl false (List.map c_api_Cell p0), .sl false (List.map c_api_Cell p1)] [] [] (.bool r) [] [] := by
  unfold cells_Same at h
  refine okB_of_exG func119 rfl rfl (s0 := [.sl false (List.map c_api_Cell p0), .sl false (List.map c_api_Cell p1), .top, .top, .top, .top, .top, .top]) (b0 := []) (r0 := []) rfl rfl rfl ?_
  show Ex _ _ _ ⟨[.sl false (List.map c_api_Cell p0), .sl false (List.map c_api_Cell p1), .top, .top, .top, .top, .top, .top], [], [], 0⟩ _
  refine ex_seq ?_
  refine ex_ord [] (l := [0]) rfl ?_
  refine p_ 4 rfl rfl rfl rfl (.assign rfl rfl) ?_
  refine we_nil ?_
  refine ex_seq ?_
  refine ex_ord [] (l := [0, 1, 2, 3]) rfl ?_
  refine p_ 5 rfl rfl rfl rfl (.move rfl rfl) ?_
  refine p_ 6 rfl rfl rfl rfl (.move rfl rfl) ?_
  obtain ⟨v1, hv1, h⟩ := bindS h
  refine p_ 7 rfl rfl rfl rfl (x_callP rfl rfl en142 (ok_slices_Equal_apiCell hv1) rfl rfl rfl rfl rfl) ?_
  refine p_ 4 rfl rfl rfl rfl (.assign rfl rfl) ?_
  refine we_nil ?_
  refine ex_ret ?_
  obtain rfl := Option.some.inj h
  exact finB (by first | exact .inr rfl | exact .inl rfl) (.refl _) [.bool v1] [] [] (res_cons (res_tmp rfl) res_nil) rfl rfl rfl rfl rfl rfl rfl
theorem ok_slices_ContainsFunc_apiCell {r : Bool} {p0 : List (T_api_Cell)} {p1 : T_api_Cell → Option (Bool)} {g1 : FuncId} {cs1 : List DV} (hc1 : Cl prog g1 cs1) (hf1 : ∀ x0 r, p1 x0 = some r → OkB prog g1 ([.agg [.int .i32 x0.f_R, .int .i64 x0.f_Bits, .str (bs x0.f_Href)]] ++ cs1) [] [] (.bool r) [] []) (h : slices_ContainsFunc_apiCell p0 p1 = some r) : OkB prog 127 [.sl false (List.map c_api_Cell p0), .fn g1 cs1] [] [] (.bool r) [] [] := by
  unfold slices_ContainsFunc_apiCell at h
  refine okB_of_exG func127 rfl rfl (s0 := [.sl false (List.map c_api_Cell p0), .fn g1 cs1, .top, .top, .top, .top, .top, .top, .top]) (b0 := []) (r0 := []) rfl rfl rfl ?_
  show Ex _ _ _ ⟨[.sl false (List.map c_api_Cell p0), .fn g1 cs1, .top, .top, .top, .top, .top, .top, .top], [], [], 0⟩ _
  refine ex_seq ?_
  refine ex_ord [] (l := [0]) rfl ?_
  refine p_ 4 rfl rfl rfl rfl (.assign rfl rfl) ?_
  refine we_nil ?_
  refine ex_seq ?_
  refine ex_ord [] (l := [0, 1, 2, 3, 4]) rfl ?_
  refine p_ 5 rfl rfl rfl rfl (.move rfl rfl) ?_
  refine p_ 6 rfl rfl rfl rfl (.move rfl rfl) ?_
  obtain ⟨v1, hv1, h⟩ := bindS h
  refine p_ 7 rfl rfl rfl rfl (x_callP rfl rfl en144 (ok_slices_IndexFunc_apiCell hc1 hf1 hv1) rfl rfl rfl rfl rfl) ?_
  refine p_ 8 rfl rfl rfl rfl (.bin rfl rfl rfl rfl) ?_
  refine p_ 4 rfl rfl rfl rfl (.assign rfl rfl) ?_
  refine we_nil ?_
  refine ex_ret ?_
  obtain rfl := Option.some.inj h
  exact finB (by first | exact .inr rfl | exact .inl rfl) (.refl _) [.bool (decide ((v1 : Int) ≥ 0))] [] [] (res_cons (res_tmp rfl) res_nil) rfl rfl rfl rfl rfl rfl rfl
theorem ok_chars_Class {r : Int} {p0 : Int} (h : chars_Class p0 = some r) : OkB prog 145 [.int .i32 p0] [] [] (.int .i64 r) [] [] := by
  unfold chars_Class at h
  refine okB_of_exG func145 rfl rfl (s0 := [.int .i32 p0, .top, .top, .top, .top, .top, .top, .top, .top, .top, .top, .top, .top, .top, .top, .top, .top, .top, .top, .top, .top, .top, .top, .top, .top, .top, .top, .top, .top, .top, .top, .top, .top, .top, .top, .top, .top, .top, .top, .top, .top, .top, .top, .top, .top]) (b0 := []) (r0 := []) rfl rfl rfl ?_
  show Ex _ _ _ ⟨[.int .i32 p0, .top, .top, .top, .top, .top, .top, .top, .top, .top, .top, .top, .top, .top, .top, .top, .top, .top, .top, .top, .top, .top, .top, .top, .top, .top, .top, .top, .top, .top, .top, .top, .top, .top, .top, .top, .top, .top, .top, .top, .top, .top, .top, .top, .top], [], [], 0⟩ _
  refine ex_seq ?_
  refine ex_ord [] (l := [0]) rfl ?_
  refine p_ 2 rfl rfl rfl rfl (.assign rfl rfl) ?_
  refine we_nil ?_
  refine ex_seq ?_
  refine ex_block ?_
  refine ex_seq ?_
  refine ex_block ?_
  refine ex_seq ?_
  refine ex_block ?_
  refine ex_block ?_
  refine ex_block ?_
  refine ex_seq ?_
  refine ex_block ?_
  refine ex_seq ?_
  refine ex_block ?_
  refine ex_seq ?_
  refine ex_block ?_
  refine ex_block ?_
  refine ex_seq ?_
  refine ex_block ?_
  refine ex_seq ?_
  refine ex_seq ?_
  refine ex_seq ?_
  refine ex_ord [] (l := [0, 1, 2, 3]) rfl ?_
  refine p_ 4 rfl rfl rfl rfl (.move rfl rfl) ?_
  obtain ⟨v1, hv1, h⟩ := bindS h
  refine p_ 5 rfl rfl rfl rfl (x_callP rfl rfl en154 (ok_utf8u_ValidRune hv1) rfl rfl rfl rfl rfl) ?_
  refine p_ 6 rfl rfl rfl rfl (.un rfl rfl rfl) ?_
  refine p_ 3 rfl rfl rfl rfl (.assign rfl rfl) ?_
  refine we_nil ?_
  refine ex_if rfl ?_ ?_
  · intro hc
    replace h := iteT h hc
    refine ex_exit ?_
    refine ex_seq ?_
    refine ex_seq ?_
    refine ex_ord [] (l := [0]) rfl ?_
    refine p_ 2 rfl rfl rfl rfl (.assign rfl rfl) ?_
    refine we_nil ?_
    refine ex_ret ?_
    obtain rfl := Option.some.inj h
    exact finB (by first | exact .inr rfl | exact .inl rfl) (.refl _) [.int .i64 0] [] [] (res_cons (res_tmp rfl) res_nil) rfl rfl rfl rfl rfl rfl rfl
  · intro hc
    replace h := iteF h hc
    refine ex_skip ?_
    refine ex_seq ?_
    refine ex_seq ?_
    refine ex_ord [] (l := [0, 1, 2]) rfl ?_
    refine p_ 8 rfl rfl rfl rfl (.move rfl rfl) ?_
    refine p_ 9 rfl rfl rfl rfl (.bin rfl rfl rfl rfl) ?_
    refine p_ 7 rfl rfl rfl rfl (.assign rfl rfl) ?_
    refine we_nil ?_
    refine ex_if rfl ?_ ?_
    · intro hc
      replace h := iteT h hc
      refine ex_exit ?_
      refine ex_seq ?_
      refine ex_seq ?_
      refine ex_ord [] (l := [0]) rfl ?_
      refine p_ 2 rfl rfl rfl rfl (.assign rfl rfl) ?_
      refine we_nil ?_
      refine ex_ret ?_
      obtain rfl := Option.some.inj h
      exact finB (by first | exact .inr rfl | exact .inl rfl) (.refl _) [.int .i64 1] [] [] (res_cons (res_tmp rfl) res_nil) rfl rfl rfl rfl rfl rfl rfl
    · intro hc
      replace h := iteF h hc
      refine ex_skip ?_
      refine ex_seq ?_
      refine ex_seq ?_
      refine ex_ord [] (l := [0, 1, 2]) rfl ?_
      refine p_ 11 rfl rfl rfl rfl (.move rfl rfl) ?_
      refine p_ 12 rfl rfl rfl rfl (.bin rfl rfl rfl rfl) ?_
      refine p_ 10 rfl rfl rfl rfl (.assign rfl rfl) ?_
      refine we_nil ?_
      refine ex_if rfl ?_ ?_
      · intro hc
        replace h := iteT h hc
        refine ex_exit ?_
        refine ex_seq ?_
        refine ex_seq ?_
        refine ex_ord [] (l := [0]) rfl ?_
        refine p_ 2 rfl rfl rfl rfl (.assign rfl rfl) ?_
        refine we_nil ?_
        refine ex_ret ?_
        obtain rfl := Option.some.inj h
        exact finB (by first | exact .inr rfl | exact .inl rfl) (.refl _) [.int .i64 1] [] [] (res_cons (res_tmp rfl) res_nil) rfl rfl rfl rfl rfl rfl rfl
      · intro hc
        replace h := iteF h hc
        refine ex_skip ?_
        refine ex_seq ?_
        refine ex_seq ?_
        refine ex_seq ?_
        refine ex_ord [] (l := [0, 1, 2]) rfl ?_
        refine p_ 14 rfl rfl rfl rfl (.move rfl rfl) ?_
        refine p_ 15 rfl rfl rfl rfl (.bin rfl rfl rfl rfl) ?_
        refine p_ 13 rfl rfl rfl rfl (.assign rfl rfl) ?_
        refine we_nil ?_
        obtain ⟨q2, hq, h⟩ := bindS h
        refine ex_cut ⟨[.int .i32 p0, .top, .top, .top, .top, .top, .top, .top, .top, .top, .top, .top, .top, .bool q2, .top, .top, .top, .top, .top, .top, .top, .top, .top, .top, .top, .top, .top, .top, .top, .top, .top, .top, .top, .top, .top, .top, .top, .top, .top, .top, .top, .top, .top, .top, .top], [], [], 0⟩ ?_ ?_
        · clear h
          have h := hq
          clear hq
          refine ex_if rfl ?_ ?_
          · intro hc
            replace h := iteT h hc
            refine ex_skip ?_
            cases h
            exact ⟨rfl, _, .re [true, false, false, false, false, false, false, false, false, false, false, false, false, true, false, false, false, false, false, false, false, false, false, false, false, false, false, false, false, false, false, false, false, false, false, false, false, false, false, false, false, false, false, false, false] [] [] rfl (.refl _), rfl⟩
          · intro hc
            replace h := iteF h hc
            refine ex_ord [] (l := [0, 1, 2]) rfl ?_
            refine p_ 16 rfl rfl rfl rfl (.move rfl rfl) ?_
            refine p_ 17 rfl rfl rfl rfl (.bin rfl rfl rfl rfl) ?_
            refine p_ 13 rfl rfl rfl rfl (.assign rfl rfl) ?_
            refine we_nil ?_
            cases h
            exact ⟨rfl, _, .re [true, false, false, false, false, false, false, false, false, false, false, false, false, true, false, false, false, false, false, false, false, false, false, false, false, false, false, false, false, false, false, false, false, false, false, false, false, false, false, false, false, false, false, false, false] [] [] rfl (.refl _), rfl⟩
        · clear hq
          refine ex_if rfl ?_ ?_
          · intro hc
            replace h := iteT h hc
            refine ex_exit ?_
            refine ex_seq ?_
            refine ex_seq ?_
            refine ex_ord [] (l := [0]) rfl ?_
            refine p_ 2 rfl rfl rfl rfl (.assign rfl rfl) ?_
            refine we_nil ?_
            refine ex_ret ?_
            obtain rfl := Option.some.inj h
            exact finB (by first | exact .inr rfl | exact .inl rfl) (.refl _) [.int .i64 2] [] [] (res_cons (res_tmp rfl) res_nil) rfl rfl rfl rfl rfl rfl rfl
          · intro hc
            replace h := iteF h hc
            refine ex_skip ?_
            refine ex_seq ?_
            refine ex_seq ?_
            refine ex_ord [] (l := [0, 1, 2]) rfl ?_
            refine p_ 19 rfl rfl rfl rfl (.move rfl rfl) ?_
            refine p_ 20 rfl rfl rfl rfl (.bin rfl rfl rfl rfl) ?_
            refine p_ 18 rfl rfl rfl rfl (.assign rfl rfl) ?_
            refine we_nil ?_
            refine ex_if rfl ?_ ?_
            · intro hc
              replace h := iteT h hc
              refine ex_exit ?_
              refine ex_seq ?_
              refine ex_seq ?_
              refine ex_ord [] (l := [0]) rfl ?_
              refine p_ 2 rfl rfl rfl rfl (.assign rfl rfl) ?_
              refine we_nil ?_
              refine ex_ret ?_
              obtain rfl := Option.some.inj h
              exact finB (by first | exact .inr rfl | exact .inl rfl) (.refl _) [.int .i64 5] [] [] (res_cons (res_tmp rfl) res_nil) rfl rfl rfl rfl rfl rfl rfl
            · intro hc
              replace h := iteF h hc
              refine ex_skip ?_
              refine ex_seq ?_
              refine ex_seq ?_
              obtain ⟨q3, hq, h⟩ := bindS h
              refine ex_cut ⟨[.int .i32 p0, .top, .top, .top, .top, .top, .top, .top, .top, .top, .top, .top, .top, .top, .top, .top, .top, .top, .top, .top, .top, .bool q3, .top, .top, .top, .top, .top, .top, .top, .top, .top, .top, .top, .top, .top, .top, .top, .top, .top, .top, .top, .top, .top, .top, .top], [], [], 0⟩ ?_ ?_
              · clear h
                have h := hq
                clear hq
                refine ex_ord [] (l := [0, 1, 2, 3, 4, 5, 6]) rfl ?_
                refine p_ 22 rfl rfl rfl rfl (.move rfl rfl) ?_
                refine pif 23 rfl rfl rfl rfl (.bin rfl rfl rfl rfl) ?_ ?_
                · intro hc
                  replace h := iteT h hc
                  refine p_ 24 rfl rfl rfl rfl (.move rfl rfl) ?_
                  refine p_ 25 rfl rfl rfl rfl (.move rfl rfl) ?_
                  refine p_ 26 rfl rfl rfl rfl (.bin rfl rfl rfl rfl) ?_
                  refine p_ 27 rfl rfl rfl rfl (x_pickT rfl rfl rfl rfl) ?_
                  refine p_ 21 rfl rfl rfl rfl (.assign rfl rfl) ?_
                  refine we_nil ?_
                  cases h
                  exact ⟨rfl, _, .re [true, false, false, false, false, false, false, false, false, false, false, false, false, false, false, false, false, false, false, false, false, true, false, false, false, false, false, false, false, false, false, false, false, false, false, false, false, false, false, false, false, false, false, false, false] [] [] rfl (.refl _), rfl⟩
                · intro hc
                  replace h := iteF h hc
                  refine p_ 24 rfl rfl rfl rfl (.move rfl rfl) ?_
                  refine k_ 25 rfl rfl rfl ?_
                  refine k_ 26 rfl rfl rfl ?_
                  refine p_ 27 rfl rfl rfl rfl (x_pickF rfl rfl rfl rfl) ?_
                  refine p_ 21 rfl rfl rfl rfl (.assign rfl rfl) ?_
                  refine we_nil ?_
                  cases h
                  exact ⟨rfl, _, .re [true, false, false, false, false, false, false, false, false, false, false, false, false, false, false, false, false, false, false, false, false, true, false, false, false, false, false, false, false, false, false, false, false, false, false, false, false, false, false, false, false, false, false, false, false] [] [] rfl (.refl _), rfl⟩
              · clear hq
                refine ex_if rfl ?_ ?_
                · intro hc
                  replace h := iteT h hc
                  refine ex_exit ?_
                  refine ex_seq ?_
                  refine ex_seq ?_
                  refine ex_ord [] (l := [0]) rfl ?_
                  refine p_ 2 rfl rfl rfl rfl (.assign rfl rfl) ?_
                  refine we_nil ?_
                  refine ex_ret ?_
                  obtain rfl := Option.some.inj h
                  exact finB (by first | exact .inr rfl | exact .inl rfl) (.refl _) [.int .i64 3] [] [] (res_cons (res_tmp rfl) res_nil) rfl rfl rfl rfl rfl rfl rfl
                · intro hc
                  replace h := iteF h hc
                  refine ex_skip ?_
                  refine ex_seq ?_
                  refine ex_seq ?_
                  obtain ⟨q4, hq, h⟩ := bindS h
                  refine ex_cut ⟨[.int .i32 p0, .top, .top, .top, .top, .top, .top, .top, .top, .top, .top, .top, .top, .top, .top, .top, .top, .top, .top, .top, .top, .top, .top, .top, .top, .top, .top, .top, .bool q4, .top, .top, .top, .top, .top, .top, .top, .top, .top, .top, .top, .top, .top, .top, .top, .top], [], [], 0⟩ ?_ ?_
                  · clear h
                    have h := hq
                    clear hq
                    refine ex_ord [] (l := [0, 1, 2, 3, 4, 5, 6]) rfl ?_
                    refine p_ 29 rfl rfl rfl rfl (.move rfl rfl) ?_
                    refine pif 30 rfl rfl rfl rfl (.bin rfl rfl rfl rfl) ?_ ?_
                    · intro hc
                      replace h := iteT h hc
                      refine p_ 31 rfl rfl rfl rfl (.move rfl rfl) ?_
                      refine p_ 32 rfl rfl rfl rfl (.move rfl rfl) ?_
                      refine p_ 33 rfl rfl rfl rfl (.bin rfl rfl rfl rfl) ?_
                      refine p_ 34 rfl rfl rfl rfl (x_pickT rfl rfl rfl rfl) ?_
                      refine p_ 28 rfl rfl rfl rfl (.assign rfl rfl) ?_
                      refine we_nil ?_
                      cases h
                      exact ⟨rfl, _, .re [true, false, false, false, false, false, false, false, false, false, false, false, false, false, false, false, false, false, false, false, false, false, false, false, false, false, false, false, true, false, false, false, false, false, false, false, false, false, false, false, false, false, false, false, false] [] [] rfl (.refl _), rfl⟩
                    · intro hc
                      replace h := iteF h hc
                      refine p_ 31 rfl rfl rfl rfl (.move rfl rfl) ?_
                      refine k_ 32 rfl rfl rfl ?_
                      refine k_ 33 rfl rfl rfl ?_
                      refine p_ 34 rfl rfl rfl rfl (x_pickF rfl rfl rfl rfl) ?_
                      refine p_ 28 rfl rfl rfl rfl (.assign rfl rfl) ?_
                      refine we_nil ?_
                      cases h
                      exact ⟨rfl, _, .re [true, false, false, false, false, false, false, false, false, false, false, false, false, false, false, false, false, false, false, false, false, false, false, false, false, false, false, false, true, false, false, false, false, false, false, false, false, false, false, false, false, false, false, false, false] [] [] rfl (.refl _), rfl⟩
                  · clear hq
                    refine ex_if rfl ?_ ?_
                    · intro hc
                      replace h := iteT h hc
                      refine ex_exit ?_
                      refine ex_seq ?_
                      refine ex_seq ?_
                      refine ex_ord [] (l := [0]) rfl ?_
                      refine p_ 2 rfl rfl rfl rfl (.assign rfl rfl) ?_
                      refine we_nil ?_
                      refine ex_ret ?_
                      obtain rfl := Option.some.inj h
                      exact finB (by first | exact .inr rfl | exact .inl rfl) (.refl _) [.int .i64 3] [] [] (res_cons (res_tmp rfl) res_nil) rfl rfl rfl rfl rfl rfl rfl
                    · intro hc
                      replace h := iteF h hc
                      refine ex_skip ?_
                      refine ex_seq ?_
                      refine ex_seq ?_
                      refine ex_ord [] (l := [0, 1, 2]) rfl ?_
                      refine p_ 36 rfl rfl rfl rfl (.move rfl rfl) ?_
                      refine p_ 37 rfl rfl rfl rfl (.bin rfl rfl rfl rfl) ?_
                      refine p_ 35 rfl rfl rfl rfl (.assign rfl rfl) ?_
                      refine we_nil ?_
                      refine ex_if rfl ?_ ?_
                      · intro hc
                        replace h := iteT h hc
                        refine ex_exit ?_
                        refine ex_seq ?_
                        refine ex_seq ?_
                        refine ex_ord [] (l := [0]) rfl ?_
                        refine p_ 2 rfl rfl rfl rfl (.assign rfl rfl) ?_
                        refine we_nil ?_
                        refine ex_ret ?_
                        obtain rfl := Option.some.inj h
                        exact finB (by first | exact .inr rfl | exact .inl rfl) (.refl _) [.int .i64 3] [] [] (res_cons (res_tmp rfl) res_nil) rfl rfl rfl rfl rfl rfl rfl
                      · intro hc
                        replace h := iteF h hc
                        refine ex_skip ?_
                        refine ex_seq ?_
                        obtain ⟨q5, hq, h⟩ := bindS h
                        refine ex_cut ⟨[.top, .top, .top, .top, .top, .top, .top, .top, .top, .top, .top, .top, .top, .top, .top, .top, .top, .top, .top, .top, .top, .top, .top, .top, .top, .top, .top, .top, .top, .top, .top, .top, .top, .top, .top, .top, .top, .top, .bool q5, .top, .top, .top, .top, .top, .top], [], [], 0⟩ ?_ ?_
                        · clear h
                          have h := hq
                          clear hq
                          refine ex_ord [] (l := [0, 1, 2, 3, 4, 5, 6]) rfl ?_
                          refine p_ 39 rfl rfl rfl rfl (.move rfl rfl) ?_
                          refine pif 40 rfl rfl rfl rfl (.bin rfl rfl rfl rfl) ?_ ?_
                          · intro hc
                            replace h := iteT h hc
                            refine p_ 41 rfl rfl rfl rfl (.move rfl rfl) ?_
                            refine p_ 42 rfl rfl rfl rfl (.move rfl rfl) ?_
                            refine p_ 43 rfl rfl rfl rfl (.bin rfl rfl rfl rfl) ?_
                            refine p_ 44 rfl rfl rfl rfl (x_pickT rfl rfl rfl rfl) ?_
                            refine p_ 38 rfl rfl rfl rfl (.assign rfl rfl) ?_
                            refine we_nil ?_
                            cases h
                            exact ⟨rfl, _, .re [false, false, false, false, false, false, false, false, false, false, false, false, false, false, false, false, false, false, false, false, false, false, false, false, false, false, false, false, false, false, false, false, false, false, false, false, false, false, true, false, false, false, false, false, false] [] [] rfl (.refl _), rfl⟩
                          · intro hc
                            replace h := iteF h hc
                            refine p_ 41 rfl rfl rfl rfl (.move rfl rfl) ?_
                            refine k_ 42 rfl rfl rfl ?_
                            refine k_ 43 rfl rfl rfl ?_
                            refine p_ 44 rfl rfl rfl rfl (x_pickF rfl rfl rfl rfl) ?_
                            refine p_ 38 rfl rfl rfl rfl (.assign rfl rfl) ?_
                            refine we_nil ?_
                            cases h
                            exact ⟨rfl, _, .re [false, false, false, false, false, false, false, false, false, false, false, false, false, false, false, false, false, false, false, false, false, false, false, false, false, false, false, false, false, false, false, false, false, false, false, false, false, false, true, false, false, false, false, false, false] [] [] rfl (.refl _), rfl⟩
                        · clear hq
                          refine ex_if rfl ?_ ?_
                          · intro hc
                            replace h := iteT h hc
                            refine ex_exit ?_
                            refine ex_seq ?_
                            refine ex_seq ?_
                            refine ex_ord [] (l := [0]) rfl ?_
                            refine p_ 2 rfl rfl rfl rfl (.assign rfl rfl) ?_
                            refine we_nil ?_
                            refine ex_ret ?_
                            obtain rfl := Option.some.inj h
                            exact finB (by first | exact .inr rfl | exact .inl rfl) (.refl _) [.int .i64 4] [] [] (res_cons (res_tmp rfl) res_nil) rfl rfl rfl rfl rfl rfl rfl
                          · intro hc
                            replace h := iteF h hc
                            refine ex_skip ?_
                            refine ex_exit ?_
                            refine ex_seq ?_
                            refine ex_ord [] (l := [0]) rfl ?_
                            refine p_ 2 rfl rfl rfl rfl (.assign rfl rfl) ?_
                            refine we_nil ?_
                            refine ex_ret ?_
                            obtain rfl := Option.some.inj h
                            exact finB (by first | exact .inr rfl | exact .inl rfl) (.refl _) [.int .i64 5] [] [] (res_cons (res_tmp rfl) res_nil) rfl rfl rfl rfl rfl rfl rfl
theorem ok_doc_Cmp {r : Int} {p0 : T_api_Pos} {p1 : T_api_Pos} (h : doc_Cmp p0 p1 = some r) : OkB prog 23 [.agg [.int .i64 p0.f_Line, .int .i64 p0.f_At], .agg [.int .i64 p1.f_Line, .int .i64 p1.f_At]] [] [] (.int .i64 r) [] [] := by
  unfold doc_Cmp at h
  refine okB_of_exG func23 rfl rfl (s0 := [.agg [.int .i64 p0.f_Line, .int .i64 p0.f_At], .agg [.int .i64 p1.f_Line, .int .i64 p1.f_At], .top, .top, .top, .top, .top, .top, .top, .top, .top, .top, .top, .top, .top, .top, .top]) (b0 := []) (r0 := []) rfl rfl rfl ?_
  show Ex _ _ _ ⟨[.agg [.int .i64 p0.f_Line, .int .i64 p0.f_At], .agg [.int .i64 p1.f_Line, .int .i64 p1.f_At], .top, .top, .top, .top, .top, .top, .top, .top, .top, .top, .top, .top, .top, .top, .top], [], [], 0⟩ _
  refine ex_seq ?_
  refine ex_ord [0, 1] (l := [0, 1, 2]) rfl ?_
  refine e_ (d := .bx 0 0) 2 rfl rfl rfl rfl rfl (b' := [some [.int .i64 p0.f_Line, .int .i64 p0.f_At]]) (r' := []) (.box rfl rfl rfl) rfl ?_
  refine e_ (d := .bx 1 0) 3 rfl rfl rfl rfl rfl (b' := [some [.int .i64 p0.f_Line, .int .i64 p0.f_At], some [.int .i64 p1.f_Line, .int .i64 p1.f_At]]) (r' := []) (.box rfl rfl rfl) rfl ?_
  refine p_ 4 rfl rfl rfl rfl (.assign rfl rfl) ?_
  refine we_nil ?_
  refine ex_seq ?_
  refine ex_gst ⟨[.agg [.int .i64 p0.f_Line, .int .i64 p0.f_At], .agg [.int .i64 p1.f_Line, .int .i64 p1.f_At], .cp [.int .i64 p0.f_Line, .int .i64 p0.f_At], .bx 1 0, .int .i64 0, .top, .top, .top, .top, .top, .top, .top, .top, .top, .top, .top, .top], [none, some [.int .i64 p1.f_Line, .int .i64 p1.f_At]], [], 0⟩ (.shutB (b := 0) rfl (fun d h => by simpa using List.all_eq_true.1 (rfl : List.all [.int .i64 p0.f_Line, .int .i64 p0.f_At] (fun d => !d.tok) = true) d h) (.refl _)) rfl ?_
  refine ex_gst ⟨[.agg [.int .i64 p0.f_Line, .int .i64 p0.f_At], .agg [.int .i64 p1.f_Line, .int .i64 p1.f_At], .cp [.int .i64 p0.f_Line, .int .i64 p0.f_At], .cp [.int .i64 p1.f_Line, .int .i64 p1.f_At], .int .i64 0, .top, .top, .top, .top, .top, .top, .top, .top, .top, .top, .top, .top], [none, none], [], 0⟩ (.shutB (b := 1) rfl (fun d h => by simpa using List.all_eq_true.1 (rfl : List.all [.int .i64 p1.f_Line, .int .i64 p1.f_At] (fun d => !d.tok) = true) d h) (.refl _)) rfl ?_
  refine ex_drw mo [10, 11, 1000, 1001, 1002, 1003, 1004, 1005, 1006, 1007, 1008, 1009, 3010, 3011] (by kernel_rfl) (l := [0, 1, 2, 3, 4, 5, 6, 7, 8, 9, 10, 11, 12]) rfl ?_
  refine n_ 5 rfl rfl rfl (fun _ _ => .fieldAddr rfl rfl rfl fl24u_0 rfl) ?_
  refine n_ 6 rfl rfl rfl (fun _ _ => x_load rfl rfl rfl sz3 un3 ag3 rfl) ?_
  refine n_ 7 rfl rfl rfl (fun _ _ => .fieldAddr rfl rfl rfl fl24u_0 rfl) ?_
  refine n_ 8 rfl rfl rfl (fun _ _ => x_load rfl rfl rfl sz3 un3 ag3 rfl) ?_
  obtain ⟨v1, hv1, h⟩ := bindS h
  refine n_ 9 rfl rfl rfl (fun _ _ => x_callP rfl rfl en65 (ok_cmp_Compare_int hv1) rfl rfl rfl rfl rfl) ?_
  refine n_ 10 rfl rfl rfl (fun _ _ => .fieldAddr rfl rfl rfl fl24u_1 rfl) ?_
  refine n_ 11 rfl rfl rfl (fun _ _ => x_load rfl rfl rfl sz3 un3 ag3 rfl) ?_
  refine n_ 12 rfl rfl rfl (fun _ _ => .fieldAddr rfl rfl rfl fl24u_1 rfl) ?_
  refine n_ 13 rfl rfl rfl (fun _ _ => x_load rfl rfl rfl sz3 un3 ag3 rfl) ?_
  obtain ⟨v2, hv2, h⟩ := bindS h
  refine n_ 14 rfl rfl rfl (fun _ _ => x_callP rfl rfl en65 (ok_cmp_Compare_int hv2) rfl rfl rfl rfl rfl) ?_
  refine e_ (d := .own 0) 15 rfl rfl rfl rfl rfl (b' := [none, none]) (r' := [some ⟨3, 1, List.map c_i64 [v1, v2]⟩]) (x_lit (f := c_i64) (l := [v1, v2]) rfl el53 rw3 zs3 rfl rfl rfl (by decide) (by decide) fl_i64 rfl) rfl ?_
  obtain ⟨v3, hv3, h⟩ := bindS h
  refine e_ (d := .int .i64 v3) 16 rfl rfl rfl rfl rfl (b' := [none, none]) (r' := [none]) (x_call [] [0] rfl rfl en64 (ok_cmp_Or_int hv3) rfl rfl rfl rfl rfl rfl rfl rfl rfl rfl rfl rfl rfl rfl) rfl ?_
  refine p_ 4 rfl rfl rfl rfl (.assign rfl rfl) ?_
  refine we_nil ?_
  refine ex_ret ?_
  obtain rfl := Option.some.inj h
  exact finB (by first | exact .inr rfl | exact .inl rfl) (.refl _) [.int .i64 v3] [] [] (res_cons (res_tmp rfl) res_nil) rfl rfl rfl rfl rfl rfl rfl
theorem ok_quillworkref07u_Same {r : Bool} {p0 : List (T_api_Line)} {p1 : List (T_api_Line)} (h : quillworkref07u_Same p0 p1 = some r) : OkB prog 33 [.sl false (List.map c_api_Line p0), .sl false (List.map c_api_Line p1)] [] [] (.bool r) [] [] := by
  unfold quillworkref07u_Same at h
  refine okB_of_exG func33 rfl rfl (s0 := [.sl false (List.map c_api_Line p0), .sl false (List.map c_api_Line p1), .top, .top, .top, .top, .top, .top, .top, .top, .top, .top, .top, .top, .top, .top, .top, .top, .top, .top, .top, .top, .top, .top, .top, .top, .top]) (b0 := []) (r0 := []) rfl rfl rfl ?_
  show Ex _ _ _ ⟨[.sl false (List.map c_api_Line p0), .sl false (List.map c_api_Line p1), .top, .top, .top, .top, .top, .top, .top, .top, .top, .top, .top, .top, .top, .top, .top, .top, .top, .top, .top, .top, .top, .top, .top, .top, .top], [], [], 0⟩ _
  refine ex_seq ?_
  refine ex_ord [] (l := [0]) rfl ?_
  refine p_ 4 rfl rfl rfl rfl (.assign rfl rfl) ?_
  refine we_nil ?_
  refine ex_seq ?_
  refine ex_seq ?_
  refine ex_ord [] (l := [0, 1, 2, 3, 4]) rfl ?_
  refine p_ 6 rfl rfl rfl rfl (.move rfl rfl) ?_
  refine p_ 7 rfl rfl rfl rfl (x_len (f := c_api_Line) (l := p0) rfl rfl rfl el22) ?_
  refine p_ 8 rfl rfl rfl rfl (.move rfl rfl) ?_
  refine p_ 9 rfl rfl rfl rfl (x_len (f := c_api_Line) (l := p1) rfl rfl rfl el22) ?_
  refine p_ 10 rfl rfl rfl rfl (.bin rfl rfl rfl rfl) ?_
  refine we_nil ?_
  refine ex_if rfl ?_ ?_
  · intro hc
    replace h := iteT h hc
    refine ex_seq ?_
    refine ex_ord [] (l := [0]) rfl ?_
    refine p_ 4 rfl rfl rfl rfl (.assign rfl rfl) ?_
    refine we_nil ?_
    refine ex_ret ?_
    obtain rfl := Option.some.inj h
    exact finB (by first | exact .inr rfl | exact .inl rfl) (.refl _) [.bool false] [] [] (res_cons (res_tmp rfl) res_nil) rfl rfl rfl rfl rfl rfl rfl
  · intro hc
    replace h := iteF h hc
    refine ex_skip ?_
    refine ex_seq ?_
    refine ex_seq ?_
    refine ex_ord [] (l := [0]) rfl ?_
    refine p_ 5 rfl rfl rfl rfl (.assign rfl rfl) ?_
    refine we_nil ?_
    refine ex_block ?_
    obtain ⟨o5, hl, h⟩ := bindS h
    refine ex_gst ⟨[.sl false (List.map c_api_Line p0), .sl false (List.map c_api_Line p1), .top, .top, .top, .int .i64 0, .top, .top, .top, .top, .top, .top, .top, .top, .top, .top, .top, .top, .top, .top, .top, .top, .top, .top, .top, .top, .top], [], [], 0⟩ (.re [true, true, false, false, false, true, false, false, false, false, false, false, false, false, false, false, false, false, false, false, false, false, false, false, false, false, false] [] [] rfl (.refl _)) rfl ?_
    refine ex_iterX (fun o => match o with | .inl _ => .ret | .inr _ => .exit 0) (fun s => ⟨[.sl false (List.map c_api_Line p0), .sl false (List.map c_api_Line p1), .top, .top, .top, .int .i64 s, .top, .top, .top, .top, .top, .top, .top, .top, .top, .top, .top, .top, .top, .top, .top, .top, .top, .top, .top, .top, .top], [], [], 0⟩) (fun o => match o with | .inl o => ⟨[.top, .top, .top, .top, .bool false, .top, .top, .top, .top, .top, .top, .top, .top, .top, .top, .top, .top, .top, .top, .top, .top, .top, .top, .top, .top, .top, .top], [], [], 0⟩ | .inr o => ⟨[.top, .top, .top, .top, .top, .top, .top, .top, .top, .top, .top, .top, .top, .top, .top, .top, .top, .top, .top, .top, .top, .top, .top, .top, .top, .top, .top], [], [], 0⟩) hl rfl ?_ ?_
    · clear hl
      rcases o5 with _ | _
      · obtain rfl := Option.some.inj h
        exact finB (by first | exact .inr rfl | exact .inl rfl) (.refl _) [.bool false] [] [] (res_cons (res_tmp rfl) res_nil) rfl rfl rfl rfl rfl rfl rfl
      · refine ex_seq ?_
        refine ex_ord [] (l := [0]) rfl ?_
        refine p_ 4 rfl rfl rfl rfl (.assign rfl rfl) ?_
        refine we_nil ?_
        refine ex_ret ?_
        obtain rfl := Option.some.inj h
        exact finB (by first | exact .inr rfl | exact .inl rfl) (.refl _) [.bool true] [] [] (res_cons (res_tmp rfl) res_nil) rfl rfl rfl rfl rfl rfl rfl
    · clear hl h
      rintro n1 y h
      replace h : quillworkref07u_Same_l1 p0 p1 n1 = some y := h
      unfold quillworkref07u_Same_l1 at h
      show Ex _ _ _ ⟨[.sl false (List.map c_api_Line p0), .sl false (List.map c_api_Line p1), .top, .top, .top, .int .i64 n1, .top, .top, .top, .top, .top, .top, .top, .top, .top, .top, .top, .top, .top, .top, .top, .top, .top, .top, .top, .top, .top], [], [], 0⟩ _
      refine ex_seq ?_
      refine ex_seq ?_
      refine ex_ord [] (l := [0, 1, 2, 3]) rfl ?_
      refine p_ 11 rfl rfl rfl rfl (.move rfl rfl) ?_
      refine p_ 12 rfl rfl rfl rfl (.move rfl rfl) ?_
      refine p_ 13 rfl rfl rfl rfl (x_len (f := c_api_Line) (l := p0) rfl rfl rfl el22) ?_
      refine p_ 14 rfl rfl rfl rfl (.bin rfl rfl rfl rfl) ?_
      refine we_nil ?_
      refine ex_if rfl ?_ ?_
      · intro hc
        replace h := iteT h hc
        refine ex_skip ?_
        refine ex_seq ?_
        refine ex_block ?_
        refine ex_seq ?_
        refine ex_drw mo [1002, 1003, 1006, 1007, 1008] (by kernel_rfl) (l := [0, 1, 2, 3, 4, 5, 6, 7, 8, 9]) rfl ?_
        refine p_ 17 rfl rfl rfl rfl (.move rfl rfl) ?_
        refine p_ 18 rfl rfl rfl rfl (.move rfl rfl) ?_
        obtain ⟨v2, hv2, h⟩ := bindS h
        refine n_ 19 rfl rfl rfl (fun _ _ => x_idx (f := c_api_Line) (cs := [.int .i64 v2.f_Quote, .sl false (List.map c_i64 v2.f_Lists), .int .i64 v2.f_Kind, .sl false (List.map c_api_Cell v2.f_Cells)]) rfl rfl rfl el22 sz55 hv2 rfl rfl) ?_
        refine n_ 20 rfl rfl rfl (fun _ _ => x_loadA rfl rfl rfl sz55 un55 ag55 rfl) ?_
        refine p_ 21 rfl rfl rfl rfl (.move rfl rfl) ?_
        refine p_ 22 rfl rfl rfl rfl (.move rfl rfl) ?_
        obtain ⟨v3, hv3, h⟩ := bindS h
        refine n_ 23 rfl rfl rfl (fun _ _ => x_idx (f := c_api_Line) (cs := [.int .i64 v3.f_Quote, .sl false (List.map c_i64 v3.f_Lists), .int .i64 v3.f_Kind, .sl false (List.map c_api_Cell v3.f_Cells)]) rfl rfl rfl el22 sz55 hv3 rfl rfl) ?_
        refine n_ 24 rfl rfl rfl (fun _ _ => x_loadA rfl rfl rfl sz55 un55 ag55 rfl) ?_
        obtain ⟨v4, hv4, h⟩ := bindS h
        refine n_ 25 rfl rfl rfl (fun _ _ => x_callP rfl rfl en44 (ok_quillworkref06u_Same hv4) rfl rfl rfl rfl rfl) ?_
        refine p_ 26 rfl rfl rfl rfl (.un rfl rfl rfl) ?_
        refine we_nil ?_
        refine ex_if rfl ?_ ?_
        · intro hc
          replace h := iteT h hc
          refine ex_seq ?_
          refine ex_ord [] (l := [0]) rfl ?_
          refine p_ 4 rfl rfl rfl rfl (.assign rfl rfl) ?_
          refine we_nil ?_
          refine ex_ret ?_
          exact rnd_out (o := (.inl ())) rfl (fun h => by cases h) h (.re [false, false, false, false, true, false, false, false, false, false, false, false, false, false, false, false, false, false, false, false, false, false, false, false, false, false, false] [] [] rfl (.refl _)) rfl
        · intro hc
          replace h := iteF h hc
          refine ex_skip ?_
          refine ex_ord [] (l := [0, 1, 2]) rfl ?_
          refine p_ 15 rfl rfl rfl rfl (.move rfl rfl) ?_
          refine p_ 16 rfl rfl rfl rfl (.bin rfl rfl rfl rfl) ?_
          refine p_ 5 rfl rfl rfl rfl (.assign rfl rfl) ?_
          refine we_nil ?_
          exact rnd_on rfl h (.re [true, true, false, false, false, true, false, false, false, false, false, false, false, false, false, false, false, false, false, false, false, false, false, false, false, false, false] [] [] rfl (.refl _)) rfl
      · intro hc
        replace h := iteF h hc
        refine ex_exit ?_
        exact rnd_out (o := (.inr ())) rfl (fun h => by cases h) h (.re [false, false, false, false, false, false, false, false, false, false, false, false, false, false, false, false, false, false, false, false, false, false, false, false, false, false, false] [] [] rfl (.refl _)) rfl
theorem ok_cells_Set {r : (List (T_api_Cell)) × Int} {p0 : List (T_api_Cell)} {p1 : Int} {p2 : Int} {p3 : Int} {p4 : Int} (h : cells_Set p0 p1 p2 p3 p4 = some r) : OkB prog 71 [.sl false (List.map c_api_Cell p0), .int .i64 p1, .int .i64 p2, .int .i64 p3, .int .i64 p4] [] [] (.tup [.own 0, .int .i64 r.2]) [] [⟨58, 3, List.map c_api_Cell r.1⟩] := by
  unfold cells_Set at h
  refine okB_of_exG func71 rfl rfl (s0 := [.sl false (List.map c_api_Cell p0), .int .i64 p1, .int .i64 p2, .int .i64 p3, .int .i64 p4, .top, .top, .top, .top, .top, .top, .top, .top, .top, .top, .top, .top, .top, .top]) (b0 := []) (r0 := []) rfl rfl rfl ?_
  show Ex _ _ _ ⟨[.sl false (List.map c_api_Cell p0), .int .i64 p1, .int .i64 p2, .int .i64 p3, .int .i64 p4, .top, .top, .top, .top, .top, .top, .top, .top, .top, .top, .top, .top, .top, .top], [], [], 0⟩ _
  refine ex_seq ?_
  refine ex_ord [0, 1, 2] (l := [0, 1, 2, 3]) rfl ?_
  refine e_ (d := .bx 0 0) 8 rfl rfl rfl rfl rfl (b' := [some [.int .i64 p3]]) (r' := []) (.box rfl rfl rfl) rfl ?_
  refine e_ (d := .bx 1 0) 9 rfl rfl rfl rfl rfl (b' := [some [.int .i64 p3], some [.int .i64 p4]]) (r' := []) (.box rfl rfl rfl) rfl ?_
  refine e_ (d := .own 0) 10 rfl rfl rfl rfl rfl (b' := [some [.int .i64 p3], some [.int .i64 p4]]) (r' := [some ⟨58, 3, []⟩]) (.nilRow (.inr rfl) rfl 58 3) rfl ?_
  refine p_ 11 rfl rfl rfl rfl (.assign rfl rfl) ?_
  refine we_nil ?_
  refine ex_seq ?_
  refine ex_gst ⟨[.sl false (List.map c_api_Cell p0), .int .i64 p1, .int .i64 p2, .int .i64 p3, .int .i64 p4, .top, .top, .top, .cp [.int .i64 p3], .bx 1 0, .own 0, .int .i64 0, .top, .top, .top, .top, .top, .top, .top], [none, some [.int .i64 p4]], [some ⟨58, 3, []⟩], 0⟩ (.shutB (b := 0) rfl (fun d h => by simpa using List.all_eq_true.1 (rfl : List.all [.int .i64 p3] (fun d => !d.tok) = true) d h) (.refl _)) rfl ?_
  refine ex_gst ⟨[.sl false (List.map c_api_Cell p0), .int .i64 p1, .int .i64 p2, .int .i64 p3, .int .i64 p4, .top, .top, .top, .cp [.int .i64 p3], .cp [.int .i64 p4], .own 0, .int .i64 0, .top, .top, .top, .top, .top, .top, .top], [none, none], [some ⟨58, 3, []⟩], 0⟩ (.shutB (b := 1) rfl (fun d h => by simpa using List.all_eq_true.1 (rfl : List.all [.int .i64 p4] (fun d => !d.tok) = true) d h) (.refl _)) rfl ?_
  refine ex_ord [4] (l := [0, 1, 2, 3, 4, 5, 6, 7, 8]) rfl ?_
  refine p_ 12 rfl rfl rfl rfl (.move rfl rfl) ?_
  refine p_ 13 rfl rfl rfl rfl (.move rfl rfl) ?_
  refine p_ 14 rfl rfl rfl rfl (.move rfl rfl) ?_
  refine p_ 15 rfl rfl rfl rfl (.func rfl rfl rfl) ?_
  obtain ⟨v1, hv1, h⟩ := bindS h
  refine e_ (d := .tup [.own 1, .int .i64 v1.2]) 16 rfl rfl rfl rfl rfl (b' := [none, none]) (r' := [some ⟨58, 3, []⟩, some ⟨58, 3, List.map c_api_Cell v1.1⟩]) (x_call [] [] rfl rfl en107 (ok_cells_each ⟨en108, rfl, rfl⟩ (fun _ _ h => ok_cells_Set_1 h) hv1) rfl rfl rfl rfl rfl rfl rfl rfl rfl rfl rfl rfl rfl rfl) rfl ?_
  refine p_ 17 rfl rfl rfl rfl (.extract rfl rfl rfl rfl) ?_
  refine p_ 18 rfl rfl rfl rfl (.extract rfl rfl rfl rfl) ?_
  refine p_ 10 rfl rfl rfl rfl (.assign rfl rfl) ?_
  refine p_ 11 rfl rfl rfl rfl (.assign rfl rfl) ?_
  refine we_nil ?_
  refine ex_ret ?_
  obtain rfl := Option.some.inj h
  exact finB (by first | exact .inr rfl | exact .inl rfl) (.refl _) [.own 1, .int .i64 v1.2] [1] [] (res_cons (res_tmp rfl) (res_cons (res_tmp rfl) res_nil)) rfl rfl rfl rfl rfl rfl rfl
theorem ok_lines_Same {r : Bool} {p0 : T_api_Line} {p1 : T_api_Line} (h : lines_Same p0 p1 = some r) : OkB prog 89 [.agg [.int .i64 p0.f_Quote, .sl false (List.map c_i64 p0.f_Lists), .int .i64 p0.f_Kind, .sl false (List.map c_api_Cell p0.f_Cells)], .agg [.int .i64 p1.f_Quote, .sl false (List.map c_i64 p1.f_Lists), .int .i64 p1.f_Kind, .sl false (List.map c_api_Cell p1.f_Cells)]] [] [] (.bool r) [] [] := by
  unfold lines_Same at h
  refine okB_of_exG func89 rfl rfl (s0 := [.agg [.int .i64 p0.f_Quote, .sl false (List.map c_i64 p0.f_Lists), .int .i64 p0.f_Kind, .sl false (List.map c_api_Cell p0.f_Cells)], .agg [.int .i64 p1.f_Quote, .sl false (List.map c_i64 p1.f_Lists), .int .i64 p1.f_Kind, .sl false (List.map c_api_Cell p1.f_Cells)], .top, .top, .top, .top, .top, .top, .top, .top, .top, .top, .top, .top, .top, .top, .top, .top, .top, .top, .top, .top, .top, .top, .top, .top, .top, .top, .top, .top, .top]) (b0 := []) (r0 := []) rfl rfl rfl ?_
  show Ex _ _ _ ⟨[.agg [.int .i64 p0.f_Quote, .sl false (List.map c_i64 p0.f_Lists), .int .i64 p0.f_Kind, .sl false (List.map c_api_Cell p0.f_Cells)], .agg [.int .i64 p1.f_Quote, .sl false (List.map c_i64 p1.f_Lists), .int .i64 p1.f_Kind, .sl false (List.map c_api_Cell p1.f_Cells)], .top, .top, .top, .top, .top, .top, .top, .top, .top, .top, .top, .top, .top, .top, .top, .top, .top, .top, .top, .top, .top, .top, .top, .top, .top, .top, .top, .top, .top], [], [], 0⟩ _
  refine ex_seq ?_
  refine ex_ord [0, 1] (l := [0, 1, 2]) rfl ?_
  refine e_ (d := .bx 0 0) 2 rfl rfl rfl rfl rfl (b' := [some [.int .i64 p0.f_Quote, .sl false (List.map c_i64 p0.f_Lists), .int .i64 p0.f_Kind, .sl false (List.map c_api_Cell p0.f_Cells)]]) (r' := []) (.box rfl rfl rfl) rfl ?_
  refine e_ (d := .bx 1 0) 3 rfl rfl rfl rfl rfl (b' := [some [.int .i64 p0.f_Quote, .sl false (List.map c_i64 p0.f_Lists), .int .i64 p0.f_Kind, .sl false (List.map c_api_Cell p0.f_Cells)], some [.int .i64 p1.f_Quote, .sl false (List.map c_i64 p1.f_Lists), .int .i64 p1.f_Kind, .sl false (List.map c_api_Cell p1.f_Cells)]]) (r' := []) (.box rfl rfl rfl) rfl ?_
  refine p_ 4 rfl rfl rfl rfl (.assign rfl rfl) ?_
  refine we_nil ?_
  refine ex_seq ?_
  refine ex_gst ⟨[.agg [.int .i64 p0.f_Quote, .sl false (List.map c_i64 p0.f_Lists), .int .i64 p0.f_Kind, .sl false (List.map c_api_Cell p0.f_Cells)], .agg [.int .i64 p1.f_Quote, .sl false (List.map c_i64 p1.f_Lists), .int .i64 p1.f_Kind, .sl false (List.map c_api_Cell p1.f_Cells)], .cp [.int .i64 p0.f_Quote, .sl false (List.map c_i64 p0.f_Lists), .int .i64 p0.f_Kind, .sl false (List.map c_api_Cell p0.f_Cells)], .bx 1 0, .bool false, .top, .top, .top, .top, .top, .top, .top, .top, .top, .top, .top, .top, .top, .top, .top, .top, .top, .top, .top, .top, .top, .top, .top, .top, .top, .top], [none, some [.int .i64 p1.f_Quote, .sl false (List.map c_i64 p1.f_Lists), .int .i64 p1.f_Kind, .sl false (List.map c_api_Cell p1.f_Cells)]], [], 0⟩ (.shutB (b := 0) rfl (fun d h => by simpa using List.all_eq_true.1 (rfl : List.all [.int .i64 p0.f_Quote, .sl false (List.map c_i64 p0.f_Lists), .int .i64 p0.f_Kind, .sl false (List.map c_api_Cell p0.f_Cells)] (fun d => !d.tok) = true) d h) (.refl _)) rfl ?_
  refine ex_gst ⟨[.agg [.int .i64 p0.f_Quote, .sl false (List.map c_i64 p0.f_Lists), .int .i64 p0.f_Kind, .sl false (List.map c_api_Cell p0.f_Cells)], .agg [.int .i64 p1.f_Quote, .sl false (List.map c_i64 p1.f_Lists), .int .i64 p1.f_Kind, .sl false (List.map c_api_Cell p1.f_Cells)], .cp [.int .i64 p0.f_Quote, .sl false (List.map c_i64 p0.f_Lists), .int .i64 p0.f_Kind, .sl false (List.map c_api_Cell p0.f_Cells)], .cp [.int .i64 p1.f_Quote, .sl false (List.map c_i64 p1.f_Lists), .int .i64 p1.f_Kind, .sl false (List.map c_api_Cell p1.f_Cells)], .bool false, .top, .top, .top, .top, .top, .top, .top, .top, .top, .top, .top, .top, .top, .top, .top, .top, .top, .top, .top, .top, .top, .top, .top, .top, .top, .top], [none, none], [], 0⟩ (.shutB (b := 1) rfl (fun d h => by simpa using List.all_eq_true.1 (rfl : List.all [.int .i64 p1.f_Quote, .sl false (List.map c_i64 p1.f_Lists), .int .i64 p1.f_Kind, .sl false (List.map c_api_Cell p1.f_Cells)] (fun d => !d.tok) = true) d h) (.refl _)) rfl ?_
  obtain ⟨q1, hq, h⟩ := bindS h
  refine ex_cut ⟨[.top, .top, .top, .top, .bool q1, .top, .top, .top, .top, .top, .top, .top, .top, .top, .top, .top, .top, .top, .top, .top, .top, .top, .top, .top, .top, .top, .top, .top, .top, .top, .top], [], [], 0⟩ ?_ ?_
  · clear h
    have h := hq
    clear hq
    refine ex_ord [] (l := [0, 1, 2, 3, 4, 5, 6, 7, 8, 9, 10, 11, 12, 13, 14, 15, 16, 17, 18, 19, 20, 21, 22, 23, 24, 25, 26]) rfl ?_
    refine p_ 5 rfl rfl rfl rfl (.fieldAddr rfl rfl rfl fl55u_0 rfl) ?_
    refine p_ 6 rfl rfl rfl rfl (x_load rfl rfl rfl sz3 un3 ag3 rfl) ?_
    refine p_ 7 rfl rfl rfl rfl (.fieldAddr rfl rfl rfl fl55u_0 rfl) ?_
    refine p_ 8 rfl rfl rfl rfl (x_load rfl rfl rfl sz3 un3 ag3 rfl) ?_
    refine pif 9 rfl rfl rfl rfl (.bin rfl rfl rfl rfl) ?_ ?_
    · intro hc
      replace h := iteT h hc
      refine p_ 10 rfl rfl rfl rfl (.move rfl rfl) ?_
      refine p_ 11 rfl rfl rfl rfl (.fieldAddr rfl rfl rfl fl55u_2 rfl) ?_
      refine p_ 12 rfl rfl rfl rfl (x_load rfl rfl rfl sz3 un3 ag3 rfl) ?_
      refine p_ 13 rfl rfl rfl rfl (.fieldAddr rfl rfl rfl fl55u_2 rfl) ?_
      refine p_ 14 rfl rfl rfl rfl (x_load rfl rfl rfl sz3 un3 ag3 rfl) ?_
      refine pif 15 rfl rfl rfl rfl (.bin rfl rfl rfl rfl) ?_ ?_
      · intro hc
        replace h := iteT h hc
        refine p_ 16 rfl rfl rfl rfl (x_pickT rfl rfl rfl rfl) ?_
        refine p_ 17 rfl rfl rfl rfl (.move rfl rfl) ?_
        refine p_ 18 rfl rfl rfl rfl (.fieldAddr rfl rfl rfl fl55u_1 rfl) ?_
        refine p_ 19 rfl rfl rfl rfl (x_load rfl rfl rfl sz53 un53 ag53 rfl) ?_
        refine p_ 20 rfl rfl rfl rfl (.fieldAddr rfl rfl rfl fl55u_1 rfl) ?_
        refine p_ 21 rfl rfl rfl rfl (x_load rfl rfl rfl sz53 un53 ag53 rfl) ?_
        obtain ⟨v2, hv2, h⟩ := bindS h
        refine pif 22 rfl rfl rfl rfl (x_callP rfl rfl en118 (ok_slices_Equal_int hv2) rfl rfl rfl rfl rfl) ?_ ?_
        · intro hc
          replace h := iteT h hc
          refine p_ 23 rfl rfl rfl rfl (x_pickT rfl rfl rfl rfl) ?_
          refine p_ 24 rfl rfl rfl rfl (.move rfl rfl) ?_
          refine p_ 25 rfl rfl rfl rfl (.fieldAddr rfl rfl rfl fl55u_3 rfl) ?_
          refine p_ 26 rfl rfl rfl rfl (x_load rfl rfl rfl sz46 un46 ag46 rfl) ?_
          refine p_ 27 rfl rfl rfl rfl (.fieldAddr rfl rfl rfl fl55u_3 rfl) ?_
          refine p_ 28 rfl rfl rfl rfl (x_load rfl rfl rfl sz46 un46 ag46 rfl) ?_
          obtain ⟨v3, hv3, h⟩ := bindS h
          refine p_ 29 rfl rfl rfl rfl (x_callP rfl rfl en119 (ok_cells_Same hv3) rfl rfl rfl rfl rfl) ?_
          refine p_ 30 rfl rfl rfl rfl (x_pickT rfl rfl rfl rfl) ?_
          refine p_ 4 rfl rfl rfl rfl (.assign rfl rfl) ?_
          refine we_nil ?_
          cases h
          exact ⟨rfl, _, .re [false, false, false, false, true, false, false, false, false, false, false, false, false, false, false, false, false, false, false, false, false, false, false, false, false, false, false, false, false, false, false] [] [] rfl (.refl _), rfl⟩
        · intro hc
          replace h := iteF h hc
          refine p_ 23 rfl rfl rfl rfl (x_pickT rfl rfl rfl rfl) ?_
          refine p_ 24 rfl rfl rfl rfl (.move rfl rfl) ?_
          refine k_ 25 rfl rfl rfl ?_
          refine k_ 26 rfl rfl rfl ?_
          refine k_ 27 rfl rfl rfl ?_
          refine k_ 28 rfl rfl rfl ?_
          refine k_ 29 rfl rfl rfl ?_
          refine p_ 30 rfl rfl rfl rfl (x_pickF rfl rfl rfl rfl) ?_
          refine p_ 4 rfl rfl rfl rfl (.assign rfl rfl) ?_
          refine we_nil ?_
          cases h
          exact ⟨rfl, _, .re [false, false, false, false, true, false, false, false, false, false, false, false, false, false, false, false, false, false, false, false, false, false, false, false, false, false, false, false, false, false, false] [] [] rfl (.refl _), rfl⟩
      · intro hc
        replace h := iteF h hc
        refine p_ 16 rfl rfl rfl rfl (x_pickT rfl rfl rfl rfl) ?_
        refine p_ 17 rfl rfl rfl rfl (.move rfl rfl) ?_
        refine k_ 18 rfl rfl rfl ?_
        refine k_ 19 rfl rfl rfl ?_
        refine k_ 20 rfl rfl rfl ?_
        refine k_ 21 rfl rfl rfl ?_
        refine k_ 22 rfl rfl rfl ?_
        refine p_ 23 rfl rfl rfl rfl (x_pickF rfl rfl rfl rfl) ?_
        refine p_ 24 rfl rfl rfl rfl (.move rfl rfl) ?_
        refine k_ 25 rfl rfl rfl ?_
        refine k_ 26 rfl rfl rfl ?_
        refine k_ 27 rfl rfl rfl ?_
        refine k_ 28 rfl rfl rfl ?_
        refine k_ 29 rfl rfl rfl ?_
        refine p_ 30 rfl rfl rfl rfl (x_pickF rfl rfl rfl rfl) ?_
        refine p_ 4 rfl rfl rfl rfl (.assign rfl rfl) ?_
        refine we_nil ?_
        cases h
        exact ⟨rfl, _, .re [false, false, false, false, true, false, false, false, false, false, false, false, false, false, false, false, false, false, false, false, false, false, false, false, false, false, false, false, false, false, false] [] [] rfl (.refl _), rfl⟩
    · intro hc
      replace h := iteF h hc
      refine p_ 10 rfl rfl rfl rfl (.move rfl rfl) ?_
      refine k_ 11 rfl rfl rfl ?_
      refine k_ 12 rfl rfl rfl ?_
      refine k_ 13 rfl rfl rfl ?_
      refine k_ 14 rfl rfl rfl ?_
      refine k_ 15 rfl rfl rfl ?_
      refine p_ 16 rfl rfl rfl rfl (x_pickF rfl rfl rfl rfl) ?_
      refine p_ 17 rfl rfl rfl rfl (.move rfl rfl) ?_
      refine k_ 18 rfl rfl rfl ?_
      refine k_ 19 rfl rfl rfl ?_
      refine k_ 20 rfl rfl rfl ?_
      refine k_ 21 rfl rfl rfl ?_
      refine k_ 22 rfl rfl rfl ?_
      refine p_ 23 rfl rfl rfl rfl (x_pickF rfl rfl rfl rfl) ?_
      refine p_ 24 rfl rfl rfl rfl (.move rfl rfl) ?_
      refine k_ 25 rfl rfl rfl ?_
      refine k_ 26 rfl rfl rfl ?_
      refine k_ 27 rfl rfl rfl ?_
      refine k_ 28 rfl rfl rfl ?_
      refine k_ 29 rfl rfl rfl ?_
      refine p_ 30 rfl rfl rfl rfl (x_pickF rfl rfl rfl rfl) ?_
      refine p_ 4 rfl rfl rfl rfl (.assign rfl rfl) ?_
      refine we_nil ?_
      cases h
      exact ⟨rfl, _, .re [false, false, false, false, true, false, false, false, false, false, false, false, false, false, false, false, false, false, false, false, false, false, false, false, false, false, false, false, false, false, false] [] [] rfl (.refl _), rfl⟩
  · clear hq
    refine ex_ret ?_
    obtain rfl := Option.some.inj h
    exact finB (by first | exact .inr rfl | exact .inl rfl) (.refl _) [.bool q1] [] [] (res_cons (res_tmp rfl) res_nil) rfl rfl rfl rfl rfl rfl rfl
theorem ok_chars_May {r : Bool} {p0 : Int} (h : chars_May p0 = some r) : OkB prog 129 [.int .i32 p0] [] [] (.bool r) [] [] := by
  unfold chars_May at h
  refine okB_of_exG func129 rfl rfl (s0 := [.int .i32 p0, .top, .top, .top, .top, .top]) (b0 := []) (r0 := []) rfl rfl rfl ?_
  show Ex _ _ _ ⟨[.int .i32 p0, .top, .top, .top, .top, .top], [], [], 0⟩ _
  refine ex_seq ?_
  refine ex_ord [] (l := [0]) rfl ?_
  refine p_ 2 rfl rfl rfl rfl (.assign rfl rfl) ?_
  refine we_nil ?_
  refine ex_seq ?_
  refine ex_ord [] (l := [0, 1, 2, 3]) rfl ?_
  refine p_ 3 rfl rfl rfl rfl (.move rfl rfl) ?_
  obtain ⟨v1, hv1, h⟩ := bindS h
  refine p_ 4 rfl rfl rfl rfl (x_callP rfl rfl en145 (ok_chars_Class hv1) rfl rfl rfl rfl rfl) ?_
  refine p_ 5 rfl rfl rfl rfl (.bin rfl rfl rfl rfl) ?_
  refine p_ 2 rfl rfl rfl rfl (.assign rfl rfl) ?_
  refine we_nil ?_
  refine ex_ret ?_
  obtain rfl := Option.some.inj h
  exact finB (by first | exact .inr rfl | exact .inl rfl) (.refl _) [.bool (decide ((v1 : Int) > 1))] [] [] (res_cons (res_tmp rfl) res_nil) rfl rfl rfl rfl rfl rfl rfl
theorem ok_doc_Same {r : Bool} {p0 : List (T_api_Line)} {p1 : List (T_api_Line)} (h : doc_Same p0 p1 = some r) : OkB prog 47 [.sl false (List.map c_api_Line p0), .sl false (List.map c_api_Line p1)] [] [] (.bool r) [] [] := by
  unfold doc_Same at h
  refine okB_of_exG func47 rfl rfl (s0 := [.sl false (List.map c_api_Line p0), .sl false (List.map c_api_Line p1), .top, .top, .top, .top, .top, .top]) (b0 := []) (r0 := []) rfl rfl rfl ?_
  show Ex _ _ _ ⟨[.sl false (List.map c_api_Line p0), .sl false (List.map c_api_Line p1), .top, .top, .top, .top, .top, .top], [], [], 0⟩ _
  refine ex_seq ?_
  refine ex_ord [] (l := [0]) rfl ?_
  refine p_ 4 rfl rfl rfl rfl (.assign rfl rfl) ?_
  refine we_nil ?_
  refine ex_seq ?_
  refine ex_ord [] (l := [0, 1, 2, 3]) rfl ?_
  refine p_ 5 rfl rfl rfl rfl (.move rfl rfl) ?_
  refine p_ 6 rfl rfl rfl rfl (.move rfl rfl) ?_
  obtain ⟨v1, hv1, h⟩ := bindS h
  refine p_ 7 rfl rfl rfl rfl (x_callP rfl rfl en88 (ok_slices_EqualFunc_apiLine_apiLine ⟨en89, rfl, rfl⟩ (fun _ _ _ h => ok_lines_Same h) hv1) rfl rfl rfl rfl rfl) ?_
  refine p_ 4 rfl rfl rfl rfl (.assign rfl rfl) ?_
  refine we_nil ?_
  refine ex_ret ?_
  obtain rfl := Option.some.inj h
  exact finB (by first | exact .inr rfl | exact .inl rfl) (.refl _) [.bool v1] [] [] (res_cons (res_tmp rfl) res_nil) rfl rfl rfl rfl rfl rfl rfl
theorem ok_doc_Set_1 {r : (List (T_api_Cell)) × Int} {p0 : List (T_api_Cell)} {p1 : Int} {p2 : Int} {p3 : Int} {p4 : Int} (h : doc_Set_1 p0 p1 p2 p3 p4 = some r) : OkB prog 70 [.sl false (List.map c_api_Cell p0), .int .i64 p1, .int .i64 p2, .cp [.int .i64 p3], .cp [.int .i64 p4]] [] [] (.tup [.own 0, .int .i64 r.2]) [] [⟨58, 3, List.map c_api_Cell r.1⟩] := by
  unfold doc_Set_1 at h
  refine okB_of_exG func70 rfl rfl (s0 := [.sl false (List.map c_api_Cell p0), .int .i64 p1, .int .i64 p2, .cp [.int .i64 p3], .cp [.int .i64 p4], .top, .top, .top, .top, .top, .top, .top, .top, .top, .top, .top, .top, .top]) (b0 := []) (r0 := []) rfl rfl rfl ?_
  show Ex _ _ _ ⟨[.sl false (List.map c_api_Cell p0), .int .i64 p1, .int .i64 p2, .cp [.int .i64 p3], .cp [.int .i64 p4], .top, .top, .top, .top, .top, .top, .top, .top, .top, .top, .top, .top, .top], [], [], 0⟩ _
  refine ex_seq ?_
  refine ex_ord [0] (l := [0, 1]) rfl ?_
  refine e_ (d := .own 0) 8 rfl rfl rfl rfl rfl (b' := []) (r' := [some ⟨58, 3, []⟩]) (.nilRow (.inr rfl) rfl 58 3) rfl ?_
  refine p_ 9 rfl rfl rfl rfl (.assign rfl rfl) ?_
  refine we_nil ?_
  refine ex_seq ?_
  refine ex_ord [5] (l := [0, 1, 2, 3, 4, 5, 6, 7, 8, 9]) rfl ?_
  refine p_ 10 rfl rfl rfl rfl (.move rfl rfl) ?_
  refine p_ 11 rfl rfl rfl rfl (.move rfl rfl) ?_
  refine p_ 12 rfl rfl rfl rfl (.move rfl rfl) ?_
  refine p_ 13 rfl rfl rfl rfl (x_load rfl rfl rfl sz3 un3 ag3 rfl) ?_
  refine p_ 14 rfl rfl rfl rfl (x_load rfl rfl rfl sz3 un3 ag3 rfl) ?_
  obtain ⟨v1, hv1, h⟩ := bindS h
  refine e_ (d := .tup [.own 1, .int .i64 v1.2]) 15 rfl rfl rfl rfl rfl (b' := []) (r' := [some ⟨58, 3, []⟩, some ⟨58, 3, List.map c_api_Cell v1.1⟩]) (x_call [] [] rfl rfl en71 (ok_cells_Set hv1) rfl rfl rfl rfl rfl rfl rfl rfl rfl rfl rfl rfl rfl rfl) rfl ?_
  refine p_ 16 rfl rfl rfl rfl (.extract rfl rfl rfl rfl) ?_
  refine p_ 17 rfl rfl rfl rfl (.extract rfl rfl rfl rfl) ?_
  refine p_ 8 rfl rfl rfl rfl (.assign rfl rfl) ?_
  refine p_ 9 rfl rfl rfl rfl (.assign rfl rfl) ?_
  refine we_nil ?_
  refine ex_ret ?_
  obtain rfl := Option.some.inj h
  exact finB (by first | exact .inr rfl | exact .inl rfl) (.refl _) [.own 1, .int .i64 v1.2] [1] [] (res_cons (res_tmp rfl) (res_cons (res_tmp rfl) res_nil)) rfl rfl rfl rfl rfl rfl rfl
theorem ok_cells_May_1 {r : Bool} {p0 : T_api_Cell} (h : cells_May_1 p0 = some r) : OkB prog 128 [.agg [.int .i32 p0.f_R, .int .i64 p0.f_Bits, .str (bs p0.f_Href)]] [] [] (.bool r) [] [] := by
  unfold cells_May_1 at h
  refine okB_of_exG func128 rfl rfl (s0 := [.agg [.int .i32 p0.f_R, .int .i64 p0.f_Bits, .str (bs p0.f_Href)], .top, .top, .top, .top, .top, .top, .top, .top, .top, .top, .top, .top, .top, .top, .top, .top, .top, .top, .top, .top, .top, .top, .top, .top, .top, .top, .top]) (b0 := []) (r0 := []) rfl rfl rfl ?_
  show Ex _ _ _ ⟨[.agg [.int .i32 p0.f_R, .int .i64 p0.f_Bits, .str (bs p0.f_Href)], .top, .top, .top, .top, .top, .top, .top, .top, .top, .top, .top, .top, .top, .top, .top, .top, .top, .top, .top, .top, .top, .top, .top, .top, .top, .top, .top], [], [], 0⟩ _
  refine ex_seq ?_
  refine ex_ord [0] (l := [0, 1]) rfl ?_
  refine e_ (d := .bx 0 0) 1 rfl rfl rfl rfl rfl (b' := [some [.int .i32 p0.f_R, .int .i64 p0.f_Bits, .str (bs p0.f_Href)]]) (r' := []) (.box rfl rfl rfl) rfl ?_
  refine p_ 2 rfl rfl rfl rfl (.assign rfl rfl) ?_
  refine we_nil ?_
  refine ex_seq ?_
  refine ex_gst ⟨[.agg [.int .i32 p0.f_R, .int .i64 p0.f_Bits, .str (bs p0.f_Href)], .cp [.int .i32 p0.f_R, .int .i64 p0.f_Bits, .str (bs p0.f_Href)], .bool false, .top, .top, .top, .top, .top, .top, .top, .top, .top, .top, .top, .top, .top, .top, .top, .top, .top, .top, .top, .top, .top, .top, .top, .top, .top], [none], [], 0⟩ (.shutB (b := 0) rfl (fun d h => by simpa using List.all_eq_true.1 (rfl : List.all [.int .i32 p0.f_R, .int .i64 p0.f_Bits, .str (bs p0.f_Href)] (fun d => !d.tok) = true) d h) (.refl _)) rfl ?_
  obtain ⟨q1, hq, h⟩ := bindS h
  refine ex_cut ⟨[.top, .top, .bool q1, .top, .top, .top, .top, .top, .top, .top, .top, .top, .top, .top, .top, .top, .top, .top, .top, .top, .top, .top, .top, .top, .top, .top, .top, .top], [], [], 0⟩ ?_ ?_
  · clear h
    have h := hq
    clear hq
    refine ex_ord [] (l := [0, 1, 2, 3, 4, 5, 6, 7, 8, 9, 10, 11, 12, 13, 14, 15, 16, 17, 18, 19, 20, 21, 22, 23, 24, 25]) rfl ?_
    refine p_ 3 rfl rfl rfl rfl (.fieldAddr rfl rfl rfl fl58u_0 rfl) ?_
    refine p_ 4 rfl rfl rfl rfl (x_load rfl rfl rfl sz21 un21 ag21 rfl) ?_
    obtain ⟨v2, hv2, h⟩ := bindS h
    refine pif 5 rfl rfl rfl rfl (x_callP rfl rfl en129 (ok_chars_May hv2) rfl rfl rfl rfl rfl) ?_ ?_
    · intro hc
      replace h := iteT h hc
      refine p_ 6 rfl rfl rfl rfl (.un rfl rfl rfl) ?_
      refine p_ 7 rfl rfl rfl rfl (.move rfl rfl) ?_
      refine k_ 8 rfl rfl rfl ?_
      refine k_ 9 rfl rfl rfl ?_
      refine k_ 10 rfl rfl rfl ?_
      refine p_ 11 rfl rfl rfl rfl (x_pickF rfl rfl rfl rfl) ?_
      refine p_ 12 rfl rfl rfl rfl (.move rfl rfl) ?_
      refine p_ 13 rfl rfl rfl rfl (.fieldAddr rfl rfl rfl fl58u_1 rfl) ?_
      refine p_ 14 rfl rfl rfl rfl (x_load rfl rfl rfl sz3 un3 ag3 rfl) ?_
      refine pif 15 rfl rfl rfl rfl (.bin rfl rfl rfl rfl) ?_ ?_
      · intro hc
        replace h := iteT h hc
        refine p_ 16 rfl rfl rfl rfl (x_pickF rfl rfl rfl rfl) ?_
        refine p_ 17 rfl rfl rfl rfl (.move rfl rfl) ?_
        refine k_ 18 rfl rfl rfl ?_
        refine k_ 19 rfl rfl rfl ?_
        refine k_ 20 rfl rfl rfl ?_
        refine p_ 21 rfl rfl rfl rfl (x_pickT rfl rfl rfl rfl) ?_
        refine p_ 22 rfl rfl rfl rfl (.move rfl rfl) ?_
        refine k_ 23 rfl rfl rfl ?_
        refine k_ 24 rfl rfl rfl ?_
        refine k_ 25 rfl rfl rfl ?_
        refine k_ 26 rfl rfl rfl ?_
        refine p_ 27 rfl rfl rfl rfl (x_pickT rfl rfl rfl rfl) ?_
        refine p_ 2 rfl rfl rfl rfl (.assign rfl rfl) ?_
        refine we_nil ?_
        cases h
        exact ⟨rfl, _, .re [false, false, true, false, false, false, false, false, false, false, false, false, false, false, false, false, false, false, false, false, false, false, false, false, false, false, false, false] [] [] rfl (.refl _), rfl⟩
      · intro hc
        replace h := iteF h hc
        refine p_ 16 rfl rfl rfl rfl (x_pickF rfl rfl rfl rfl) ?_
        refine p_ 17 rfl rfl rfl rfl (.move rfl rfl) ?_
        refine p_ 18 rfl rfl rfl rfl (.fieldAddr rfl rfl rfl fl58u_1 rfl) ?_
        refine p_ 19 rfl rfl rfl rfl (x_load rfl rfl rfl sz3 un3 ag3 rfl) ?_
        refine pif 20 rfl rfl rfl rfl (.bin rfl rfl rfl rfl) ?_ ?_
        · intro hc
          replace h := iteT h hc
          refine p_ 21 rfl rfl rfl rfl (x_pickF rfl rfl rfl rfl) ?_
          refine p_ 22 rfl rfl rfl rfl (.move rfl rfl) ?_
          refine k_ 23 rfl rfl rfl ?_
          refine k_ 24 rfl rfl rfl ?_
          refine k_ 25 rfl rfl rfl ?_
          refine k_ 26 rfl rfl rfl ?_
          refine p_ 27 rfl rfl rfl rfl (x_pickT rfl rfl rfl rfl) ?_
          refine p_ 2 rfl rfl rfl rfl (.assign rfl rfl) ?_
          refine we_nil ?_
          cases h
          exact ⟨rfl, _, .re [false, false, true, false, false, false, false, false, false, false, false, false, false, false, false, false, false, false, false, false, false, false, false, false, false, false, false, false] [] [] rfl (.refl _), rfl⟩
        · intro hc
          replace h := iteF h hc
          refine p_ 21 rfl rfl rfl rfl (x_pickF rfl rfl rfl rfl) ?_
          refine p_ 22 rfl rfl rfl rfl (.move rfl rfl) ?_
          refine p_ 23 rfl rfl rfl rfl (.fieldAddr rfl rfl rfl fl58u_2 rfl) ?_
          refine p_ 24 rfl rfl rfl rfl (x_load rfl rfl rfl sz9 un9 ag9 rfl) ?_
          obtain ⟨v3, hv3, h⟩ := bindS h
          refine p_ 25 rfl rfl rfl rfl (x_callP rfl rfl en114 (ok_cells_link hv3) rfl rfl rfl rfl rfl) ?_
          refine p_ 26 rfl rfl rfl rfl (.un rfl rfl rfl) ?_
          refine p_ 27 rfl rfl rfl rfl (x_pickF rfl rfl rfl rfl) ?_
          refine p_ 2 rfl rfl rfl rfl (.assign rfl rfl) ?_
          refine we_nil ?_
          cases h
          exact ⟨rfl, _, .re [false, false, true, false, false, false, false, false, false, false, false, false, false, false, false, false, false, false, false, false, false, false, false, false, false, false, false, false] [] [] rfl (.refl _), rfl⟩
    · intro hc
      replace h := iteF h hc
      refine p_ 6 rfl rfl rfl rfl (.un rfl rfl rfl) ?_
      refine p_ 7 rfl rfl rfl rfl (.move rfl rfl) ?_
      refine p_ 8 rfl rfl rfl rfl (.fieldAddr rfl rfl rfl fl58u_0 rfl) ?_
      refine p_ 9 rfl rfl rfl rfl (x_load rfl rfl rfl sz21 un21 ag21 rfl) ?_
      refine pif 10 rfl rfl rfl rfl (.bin rfl rfl rfl rfl) ?_ ?_
      · intro hc
        replace h := iteT h hc
        refine p_ 11 rfl rfl rfl rfl (x_pickT rfl rfl rfl rfl) ?_
        refine p_ 12 rfl rfl rfl rfl (.move rfl rfl) ?_
        refine k_ 13 rfl rfl rfl ?_
        refine k_ 14 rfl rfl rfl ?_
        refine k_ 15 rfl rfl rfl ?_
        refine p_ 16 rfl rfl rfl rfl (x_pickT rfl rfl rfl rfl) ?_
        refine p_ 17 rfl rfl rfl rfl (.move rfl rfl) ?_
        refine k_ 18 rfl rfl rfl ?_
        refine k_ 19 rfl rfl rfl ?_
        refine k_ 20 rfl rfl rfl ?_
        refine p_ 21 rfl rfl rfl rfl (x_pickT rfl rfl rfl rfl) ?_
        refine p_ 22 rfl rfl rfl rfl (.move rfl rfl) ?_
        refine k_ 23 rfl rfl rfl ?_
        refine k_ 24 rfl rfl rfl ?_
        refine k_ 25 rfl rfl rfl ?_
        refine k_ 26 rfl rfl rfl ?_
        refine p_ 27 rfl rfl rfl rfl (x_pickT rfl rfl rfl rfl) ?_
        refine p_ 2 rfl rfl rfl rfl (.assign rfl rfl) ?_
        refine we_nil ?_
        cases h
        exact ⟨rfl, _, .re [false, false, true, false, false, false, false, false, false, false, false, false, false, false, false, false, false, false, false, false, false, false, false, false, false, false, false, false] [] [] rfl (.refl _), rfl⟩
      · intro hc
        replace h := iteF h hc
        refine p_ 11 rfl rfl rfl rfl (x_pickT rfl rfl rfl rfl) ?_
        refine p_ 12 rfl rfl rfl rfl (.move rfl rfl) ?_
        refine p_ 13 rfl rfl rfl rfl (.fieldAddr rfl rfl rfl fl58u_1 rfl) ?_
        refine p_ 14 rfl rfl rfl rfl (x_load rfl rfl rfl sz3 un3 ag3 rfl) ?_
        refine pif 15 rfl rfl rfl rfl (.bin rfl rfl rfl rfl) ?_ ?_
        · intro hc
          replace h := iteT h hc
          refine p_ 16 rfl rfl rfl rfl (x_pickF rfl rfl rfl rfl) ?_
          refine p_ 17 rfl rfl rfl rfl (.move rfl rfl) ?_
          refine k_ 18 rfl rfl rfl ?_
          refine k_ 19 rfl rfl rfl ?_
          refine k_ 20 rfl rfl rfl ?_
          refine p_ 21 rfl rfl rfl rfl (x_pickT rfl rfl rfl rfl) ?_
          refine p_ 22 rfl rfl rfl rfl (.move rfl rfl) ?_
          refine k_ 23 rfl rfl rfl ?_
          refine k_ 24 rfl rfl rfl ?_
          refine k_ 25 rfl rfl rfl ?_
          refine k_ 26 rfl rfl rfl ?_
          refine p_ 27 rfl rfl rfl rfl (x_pickT rfl rfl rfl rfl) ?_
          refine p_ 2 rfl rfl rfl rfl (.assign rfl rfl) ?_
          refine we_nil ?_
          cases h
          exact ⟨rfl, _, .re [false, false, true, false, false, false, false, false, false, false, false, false, false, false, false, false, false, false, false, false, false, false, false, false, false, false, false, false] [] [] rfl (.refl _), rfl⟩
        · intro hc
          replace h := iteF h hc
          refine p_ 16 rfl rfl rfl rfl (x_pickF rfl rfl rfl rfl) ?_
          refine p_ 17 rfl rfl rfl rfl (.move rfl rfl) ?_
          refine p_ 18 rfl rfl rfl rfl (.fieldAddr rfl rfl rfl fl58u_1 rfl) ?_
          refine p_ 19 rfl rfl rfl rfl (x_load rfl rfl rfl sz3 un3 ag3 rfl) ?_
          refine pif 20 rfl rfl rfl rfl (.bin rfl rfl rfl rfl) ?_ ?_
          · intro hc
            replace h := iteT h hc
            refine p_ 21 rfl rfl rfl rfl (x_pickF rfl rfl rfl rfl) ?_
            refine p_ 22 rfl rfl rfl rfl (.move rfl rfl) ?_
            refine k_ 23 rfl rfl rfl ?_
            refine k_ 24 rfl rfl rfl ?_
            refine k_ 25 rfl rfl rfl ?_
            refine k_ 26 rfl rfl rfl ?_
            refine p_ 27 rfl rfl rfl rfl (x_pickT rfl rfl rfl rfl) ?_
            refine p_ 2 rfl rfl rfl rfl (.assign rfl rfl) ?_
            refine we_nil ?_
            cases h
            exact ⟨rfl, _, .re [false, false, true, false, false, false, false, false, false, false, false, false, false, false, false, false, false, false, false, false, false, false, false, false, false, false, false, false] [] [] rfl (.refl _), rfl⟩
          · intro hc
            replace h := iteF h hc
            refine p_ 21 rfl rfl rfl rfl (x_pickF rfl rfl rfl rfl) ?_
            refine p_ 22 rfl rfl rfl rfl (.move rfl rfl) ?_
            refine p_ 23 rfl rfl rfl rfl (.fieldAddr rfl rfl rfl fl58u_2 rfl) ?_
            refine p_ 24 rfl rfl rfl rfl (x_load rfl rfl rfl sz9 un9 ag9 rfl) ?_
            obtain ⟨v4, hv4, h⟩ := bindS h
            refine p_ 25 rfl rfl rfl rfl (x_callP rfl rfl en114 (ok_cells_link hv4) rfl rfl rfl rfl rfl) ?_
            refine p_ 26 rfl rfl rfl rfl (.un rfl rfl rfl) ?_
            refine p_ 27 rfl rfl rfl rfl (x_pickF rfl rfl rfl rfl) ?_
            refine p_ 2 rfl rfl rfl rfl (.assign rfl rfl) ?_
            refine we_nil ?_
            cases h
            exact ⟨rfl, _, .re [false, false, true, false, false, false, false, false, false, false, false, false, false, false, false, false, false, false, false, false, false, false, false, false, false, false, false, false] [] [] rfl (.refl _), rfl⟩
  · clear hq
    refine ex_ret ?_
    obtain rfl := Option.some.inj h
    exact finB (by first | exact .inr rfl | exact .inl rfl) (.refl _) [.bool q1] [] [] (res_cons (res_tmp rfl) res_nil) rfl rfl rfl rfl rfl rfl rfl
theorem ok_cells_May {r : Bool} {p0 : List (T_api_Cell)} (h : cells_May p0 = some r) : OkB prog 96 [.sl false (List.map c_api_Cell p0)] [] [] (.bool r) [] [] := by
  unfold cells_May at h
  refine okB_of_exG func96 rfl rfl (s0 := [.sl false (List.map c_api_Cell p0), .top, .top, .top, .top, .top]) (b0 := []) (r0 := []) rfl rfl rfl ?_
  show Ex _ _ _ ⟨[.sl false (List.map c_api_Cell p0), .top, .top, .top, .top, .top], [], [], 0⟩ _
  refine ex_seq ?_
  refine ex_ord [] (l := [0]) rfl ?_
  refine p_ 2 rfl rfl rfl rfl (.assign rfl rfl) ?_
  refine we_nil ?_
  refine ex_seq ?_
  refine ex_ord [] (l := [0, 1, 2, 3]) rfl ?_
  refine p_ 3 rfl rfl rfl rfl (.move rfl rfl) ?_
  obtain ⟨v1, hv1, h⟩ := bindS h
  refine p_ 4 rfl rfl rfl rfl (x_callP rfl rfl en127 (ok_slices_ContainsFunc_apiCell ⟨en128, rfl, rfl⟩ (fun _ _ h => ok_cells_May_1 h) hv1) rfl rfl rfl rfl rfl) ?_
  refine p_ 5 rfl rfl rfl rfl (.un rfl rfl rfl) ?_
  refine p_ 2 rfl rfl rfl rfl (.assign rfl rfl) ?_
  refine we_nil ?_
  refine ex_ret ?_
  obtain rfl := Option.some.inj h
  exact finB (by first | exact .inr rfl | exact .inl rfl) (.refl _) [.bool (!v1)] [] [] (res_cons (res_tmp rfl) res_nil) rfl rfl rfl rfl rfl rfl rfl
theorem ok_lines_May {r : Bool} {p0 : T_api_Line} (h : lines_May p0 = some r) : OkB prog 62 [.agg [.int .i64 p0.f_Quote, .sl false (List.map c_i64 p0.f_Lists), .int .i64 p0.f_Kind, .sl false (List.map c_api_Cell p0.f_Cells)]] [] [] (.bool r) [] [] := by
  unfold lines_May at h
  refine okB_of_exG func62 rfl rfl (s0 := [.agg [.int .i64 p0.f_Quote, .sl false (List.map c_i64 p0.f_Lists), .int .i64 p0.f_Kind, .sl false (List.map c_api_Cell p0.f_Cells)], .top, .top, .top, .top, .top, .top, .top, .top, .top, .top, .top, .top, .top, .top, .top, .top, .top, .top, .top, .top, .top, .top, .top, .top, .top, .top, .top, .top, .top, .top, .top, .top, .top, .top, .top, .top, .top, .top, .top, .top, .top, .top, .top, .top, .top, .top]) (b0 := []) (r0 := []) rfl rfl rfl ?_
  show Ex _ _ _ ⟨[.agg [.int .i64 p0.f_Quote, .sl false (List.map c_i64 p0.f_Lists), .int .i64 p0.f_Kind, .sl false (List.map c_api_Cell p0.f_Cells)], .top, .top, .top, .top, .top, .top, .top, .top, .top, .top, .top, .top, .top, .top, .top, .top, .top, .top, .top, .top, .top, .top, .top, .top, .top, .top, .top, .top, .top, .top, .top, .top, .top, .top, .top, .top, .top, .top, .top, .top, .top, .top, .top, .top, .top, .top], [], [], 0⟩ _
  refine ex_seq ?_
  refine ex_ord [0] (l := [0, 1]) rfl ?_
  refine e_ (d := .bx 0 0) 1 rfl rfl rfl rfl rfl (b' := [some [.int .i64 p0.f_Quote, .sl false (List.map c_i64 p0.f_Lists), .int .i64 p0.f_Kind, .sl false (List.map c_api_Cell p0.f_Cells)]]) (r' := []) (.box rfl rfl rfl) rfl ?_
  refine p_ 2 rfl rfl rfl rfl (.assign rfl rfl) ?_
  refine we_nil ?_
  refine ex_seq ?_
  refine ex_block ?_
  refine ex_seq ?_
  refine ex_gst ⟨[.agg [.int .i64 p0.f_Quote, .sl false (List.map c_i64 p0.f_Lists), .int .i64 p0.f_Kind, .sl false (List.map c_api_Cell p0.f_Cells)], .cp [.int .i64 p0.f_Quote, .sl false (List.map c_i64 p0.f_Lists), .int .i64 p0.f_Kind, .sl false (List.map c_api_Cell p0.f_Cells)], .bool false, .top, .top, .top, .top, .top, .top, .top, .top, .top, .top, .top, .top, .top, .top, .top, .top, .top, .top, .top, .top, .top, .top, .top, .top, .top, .top, .top, .top, .top, .top, .top, .top, .top, .top, .top, .top, .top, .top, .top, .top, .top, .top, .top, .top], [none], [], 0⟩ (.shutB (b := 0) rfl (fun d h => by simpa using List.all_eq_true.1 (rfl : List.all [.int .i64 p0.f_Quote, .sl false (List.map c_i64 p0.f_Lists), .int .i64 p0.f_Kind, .sl false (List.map c_api_Cell p0.f_Cells)] (fun d => !d.tok) = true) d h) (.refl _)) rfl ?_
  obtain ⟨q1, hq, h⟩ := bindS h
  refine ex_cut ⟨[.top, .cp [.int .i64 p0.f_Quote, .sl false (List.map c_i64 p0.f_Lists), .int .i64 p0.f_Kind, .sl false (List.map c_api_Cell p0.f_Cells)], .top, .bool q1, .top, .top, .top, .top, .top, .top, .top, .top, .top, .top, .top, .top, .top, .top, .top, .top, .top, .top, .top, .top, .top, .top, .top, .top, .top, .top, .top, .top, .top, .top, .top, .top, .top, .top, .top, .top, .top, .top, .top, .top, .top, .top, .top], [], [], 0⟩ ?_ ?_
  · clear h
    have h := hq
    clear hq
    refine ex_ord [] (l := [0, 1, 2, 3, 4, 5, 6, 7, 8, 9, 10, 11, 12, 13, 14, 15, 16, 17, 18, 19, 20, 21, 22, 23, 24]) rfl ?_
    refine p_ 4 rfl rfl rfl rfl (.fieldAddr rfl rfl rfl fl55u_0 rfl) ?_
    refine p_ 5 rfl rfl rfl rfl (x_load rfl rfl rfl sz3 un3 ag3 rfl) ?_
    refine pif 6 rfl rfl rfl rfl (.bin rfl rfl rfl rfl) ?_ ?_
    · intro hc
      replace h := iteT h hc
      refine p_ 7 rfl rfl rfl rfl (.move rfl rfl) ?_
      refine k_ 8 rfl rfl rfl ?_
      refine k_ 9 rfl rfl rfl ?_
      refine k_ 10 rfl rfl rfl ?_
      refine p_ 11 rfl rfl rfl rfl (x_pickT rfl rfl rfl rfl) ?_
      refine p_ 12 rfl rfl rfl rfl (.move rfl rfl) ?_
      refine k_ 13 rfl rfl rfl ?_
      refine k_ 14 rfl rfl rfl ?_
      refine k_ 15 rfl rfl rfl ?_
      refine k_ 16 rfl rfl rfl ?_
      refine p_ 17 rfl rfl rfl rfl (x_pickT rfl rfl rfl rfl) ?_
      refine p_ 18 rfl rfl rfl rfl (.move rfl rfl) ?_
      refine k_ 19 rfl rfl rfl ?_
      refine k_ 20 rfl rfl rfl ?_
      refine k_ 21 rfl rfl rfl ?_
      refine p_ 22 rfl rfl rfl rfl (x_pickT rfl rfl rfl rfl) ?_
      refine p_ 23 rfl rfl rfl rfl (.move rfl rfl) ?_
      refine k_ 24 rfl rfl rfl ?_
      refine k_ 25 rfl rfl rfl ?_
      refine k_ 26 rfl rfl rfl ?_
      refine p_ 27 rfl rfl rfl rfl (x_pickT rfl rfl rfl rfl) ?_
      refine p_ 3 rfl rfl rfl rfl (.assign rfl rfl) ?_
      refine we_nil ?_
      cases h
      exact ⟨rfl, _, .re [false, true, false, true, false, false, false, false, false, false, false, false, false, false, false, false, false, false, false, false, false, false, false, false, false, false, false, false, false, false, false, false, false, false, false, false, false, false, false, false, false, false, false, false, false, false, false] [] [] rfl (.refl _), rfl⟩
    · intro hc
      replace h := iteF h hc
      refine p_ 7 rfl rfl rfl rfl (.move rfl rfl) ?_
      refine p_ 8 rfl rfl rfl rfl (.fieldAddr rfl rfl rfl fl55u_0 rfl) ?_
      refine p_ 9 rfl rfl rfl rfl (x_load rfl rfl rfl sz3 un3 ag3 rfl) ?_
      refine pif 10 rfl rfl rfl rfl (.bin rfl rfl rfl rfl) ?_ ?_
      · intro hc
        replace h := iteT h hc
        refine p_ 11 rfl rfl rfl rfl (x_pickF rfl rfl rfl rfl) ?_
        refine p_ 12 rfl rfl rfl rfl (.move rfl rfl) ?_
        refine k_ 13 rfl rfl rfl ?_
        refine k_ 14 rfl rfl rfl ?_
        refine k_ 15 rfl rfl rfl ?_
        refine k_ 16 rfl rfl rfl ?_
        refine p_ 17 rfl rfl rfl rfl (x_pickT rfl rfl rfl rfl) ?_
        refine p_ 18 rfl rfl rfl rfl (.move rfl rfl) ?_
        refine k_ 19 rfl rfl rfl ?_
        refine k_ 20 rfl rfl rfl ?_
        refine k_ 21 rfl rfl rfl ?_
        refine p_ 22 rfl rfl rfl rfl (x_pickT rfl rfl rfl rfl) ?_
        refine p_ 23 rfl rfl rfl rfl (.move rfl rfl) ?_
        refine k_ 24 rfl rfl rfl ?_
        refine k_ 25 rfl rfl rfl ?_
        refine k_ 26 rfl rfl rfl ?_
        refine p_ 27 rfl rfl rfl rfl (x_pickT rfl rfl rfl rfl) ?_
        refine p_ 3 rfl rfl rfl rfl (.assign rfl rfl) ?_
        refine we_nil ?_
        cases h
        exact ⟨rfl, _, .re [false, true, false, true, false, false, false, false, false, false, false, false, false, false, false, false, false, false, false, false, false, false, false, false, false, false, false, false, false, false, false, false, false, false, false, false, false, false, false, false, false, false, false, false, false, false, false] [] [] rfl (.refl _), rfl⟩
      · intro hc
        replace h := iteF h hc
        refine p_ 11 rfl rfl rfl rfl (x_pickF rfl rfl rfl rfl) ?_
        refine p_ 12 rfl rfl rfl rfl (.move rfl rfl) ?_
        refine p_ 13 rfl rfl rfl rfl (.fieldAddr rfl rfl rfl fl55u_1 rfl) ?_
        refine p_ 14 rfl rfl rfl rfl (x_load rfl rfl rfl sz53 un53 ag53 rfl) ?_
        refine p_ 15 rfl rfl rfl rfl (x_len (f := c_i64) (l := p0.f_Lists) rfl rfl rfl el53) ?_
        refine pif 16 rfl rfl rfl rfl (.bin rfl rfl rfl rfl) ?_ ?_
        · intro hc
          replace h := iteT h hc
          refine p_ 17 rfl rfl rfl rfl (x_pickF rfl rfl rfl rfl) ?_
          refine p_ 18 rfl rfl rfl rfl (.move rfl rfl) ?_
          refine k_ 19 rfl rfl rfl ?_
          refine k_ 20 rfl rfl rfl ?_
          refine k_ 21 rfl rfl rfl ?_
          refine p_ 22 rfl rfl rfl rfl (x_pickT rfl rfl rfl rfl) ?_
          refine p_ 23 rfl rfl rfl rfl (.move rfl rfl) ?_
          refine k_ 24 rfl rfl rfl ?_
          refine k_ 25 rfl rfl rfl ?_
          refine k_ 26 rfl rfl rfl ?_
          refine p_ 27 rfl rfl rfl rfl (x_pickT rfl rfl rfl rfl) ?_
          refine p_ 3 rfl rfl rfl rfl (.assign rfl rfl) ?_
          refine we_nil ?_
          cases h
          exact ⟨rfl, _, .re [false, true, false, true, false, false, false, false, false, false, false, false, false, false, false, false, false, false, false, false, false, false, false, false, false, false, false, false, false, false, false, false, false, false, false, false, false, false, false, false, false, false, false, false, false, false, false] [] [] rfl (.refl _), rfl⟩
        · intro hc
          replace h := iteF h hc
          refine p_ 17 rfl rfl rfl rfl (x_pickF rfl rfl rfl rfl) ?_
          refine p_ 18 rfl rfl rfl rfl (.move rfl rfl) ?_
          refine p_ 19 rfl rfl rfl rfl (.fieldAddr rfl rfl rfl fl55u_2 rfl) ?_
          refine p_ 20 rfl rfl rfl rfl (x_load rfl rfl rfl sz3 un3 ag3 rfl) ?_
          refine pif 21 rfl rfl rfl rfl (.bin rfl rfl rfl rfl) ?_ ?_
          · intro hc
            replace h := iteT h hc
            refine p_ 22 rfl rfl rfl rfl (x_pickF rfl rfl rfl rfl) ?_
            refine p_ 23 rfl rfl rfl rfl (.move rfl rfl) ?_
            refine k_ 24 rfl rfl rfl ?_
            refine k_ 25 rfl rfl rfl ?_
            refine k_ 26 rfl rfl rfl ?_
            refine p_ 27 rfl rfl rfl rfl (x_pickT rfl rfl rfl rfl) ?_
            refine p_ 3 rfl rfl rfl rfl (.assign rfl rfl) ?_
            refine we_nil ?_
            cases h
            exact ⟨rfl, _, .re [false, true, false, true, false, false, false, false, false, false, false, false, false, false, false, false, false, false, false, false, false, false, false, false, false, false, false, false, false, false, false, false, false, false, false, false, false, false, false, false, false, false, false, false, false, false, false] [] [] rfl (.refl _), rfl⟩
          · intro hc
            replace h := iteF h hc
            refine p_ 22 rfl rfl rfl rfl (x_pickF rfl rfl rfl rfl) ?_
            refine p_ 23 rfl rfl rfl rfl (.move rfl rfl) ?_
            refine p_ 24 rfl rfl rfl rfl (.fieldAddr rfl rfl rfl fl55u_2 rfl) ?_
            refine p_ 25 rfl rfl rfl rfl (x_load rfl rfl rfl sz3 un3 ag3 rfl) ?_
            refine p_ 26 rfl rfl rfl rfl (.bin rfl rfl rfl rfl) ?_
            refine p_ 27 rfl rfl rfl rfl (x_pickF rfl rfl rfl rfl) ?_
            refine p_ 3 rfl rfl rfl rfl (.assign rfl rfl) ?_
            refine we_nil ?_
            cases h
            exact ⟨rfl, _, .re [false, true, false, true, false, false, false, false, false, false, false, false, false, false, false, false, false, false, false, false, false, false, false, false, false, false, false, false, false, false, false, false, false, false, false, false, false, false, false, false, false, false, false, false, false, false, false] [] [] rfl (.refl _), rfl⟩
  · clear hq
    refine ex_if rfl ?_ ?_
    · intro hc
      replace h := iteT h hc
      refine ex_seq ?_
      refine ex_ord [] (l := [0]) rfl ?_
      refine p_ 2 rfl rfl rfl rfl (.assign rfl rfl) ?_
      refine we_nil ?_
      refine ex_ret ?_
      obtain rfl := Option.some.inj h
      exact finB (by first | exact .inr rfl | exact .inl rfl) (.refl _) [.bool false] [] [] (res_cons (res_tmp rfl) res_nil) rfl rfl rfl rfl rfl rfl rfl
    · intro hc
      replace h := iteF h hc
      refine ex_seq ?_
      obtain ⟨q2, hq, h⟩ := bindS h
      refine ex_cut ⟨[.top, .cp [.int .i64 p0.f_Quote, .sl false (List.map c_i64 p0.f_Lists), .int .i64 p0.f_Kind, .sl false (List.map c_api_Cell p0.f_Cells)], .top, .top, .top, .top, .top, .top, .top, .top, .top, .top, .top, .top, .top, .top, .top, .top, .top, .top, .top, .top, .top, .top, .top, .top, .top, .top, .bool q2, .top, .top, .top, .top, .top, .top, .top, .top, .top, .top, .top, .top, .top, .top, .top, .top, .top, .top], [], [], 0⟩ ?_ ?_
      · clear h
        have h := hq
        clear hq
        refine ex_ord [] (l := [0, 1, 2, 3, 4, 5, 6, 7, 8, 9]) rfl ?_
        refine p_ 29 rfl rfl rfl rfl (.fieldAddr rfl rfl rfl fl55u_1 rfl) ?_
        refine p_ 30 rfl rfl rfl rfl (x_load rfl rfl rfl sz53 un53 ag53 rfl) ?_
        refine p_ 31 rfl rfl rfl rfl (x_len (f := c_i64) (l := p0.f_Lists) rfl rfl rfl el53) ?_
        refine pif 32 rfl rfl rfl rfl (.bin rfl rfl rfl rfl) ?_ ?_
        · intro hc
          replace h := iteT h hc
          refine p_ 33 rfl rfl rfl rfl (.move rfl rfl) ?_
          refine p_ 34 rfl rfl rfl rfl (.fieldAddr rfl rfl rfl fl55u_2 rfl) ?_
          refine p_ 35 rfl rfl rfl rfl (x_load rfl rfl rfl sz3 un3 ag3 rfl) ?_
          refine p_ 36 rfl rfl rfl rfl (.bin rfl rfl rfl rfl) ?_
          refine p_ 37 rfl rfl rfl rfl (x_pickT rfl rfl rfl rfl) ?_
          refine p_ 28 rfl rfl rfl rfl (.assign rfl rfl) ?_
          refine we_nil ?_
          cases h
          exact ⟨rfl, _, .re [false, true, false, false, false, false, false, false, false, false, false, false, false, false, false, false, false, false, false, false, false, false, false, false, false, false, false, false, true, false, false, false, false, false, false, false, false, false, false, false, false, false, false, false, false, false, false] [] [] rfl (.refl _), rfl⟩
        · intro hc
          replace h := iteF h hc
          refine p_ 33 rfl rfl rfl rfl (.move rfl rfl) ?_
          refine k_ 34 rfl rfl rfl ?_
          refine k_ 35 rfl rfl rfl ?_
          refine k_ 36 rfl rfl rfl ?_
          refine p_ 37 rfl rfl rfl rfl (x_pickF rfl rfl rfl rfl) ?_
          refine p_ 28 rfl rfl rfl rfl (.assign rfl rfl) ?_
          refine we_nil ?_
          cases h
          exact ⟨rfl, _, .re [false, true, false, false, false, false, false, false, false, false, false, false, false, false, false, false, false, false, false, false, false, false, false, false, false, false, false, false, true, false, false, false, false, false, false, false, false, false, false, false, false, false, false, false, false, false, false] [] [] rfl (.refl _), rfl⟩
      · clear hq
        refine ex_if rfl ?_ ?_
        · intro hc
          replace h := iteT h hc
          refine ex_seq ?_
          refine ex_ord [] (l := [0]) rfl ?_
          refine p_ 2 rfl rfl rfl rfl (.assign rfl rfl) ?_
          refine we_nil ?_
          refine ex_ret ?_
          obtain rfl := Option.some.inj h
          exact finB (by first | exact .inr rfl | exact .inl rfl) (.refl _) [.bool false] [] [] (res_cons (res_tmp rfl) res_nil) rfl rfl rfl rfl rfl rfl rfl
        · intro hc
          replace h := iteF h hc
          refine ex_skip ?_
          refine ex_seq ?_
          obtain ⟨q3, hq, h⟩ := bindS h
          refine ex_cut ⟨[.top, .top, .bool q3, .top, .top, .top, .top, .top, .top, .top, .top, .top, .top, .top, .top, .top, .top, .top, .top, .top, .top, .top, .top, .top, .top, .top, .top, .top, .top, .top, .top, .top, .top, .top, .top, .top, .top, .top, .top, .top, .top, .top, .top, .top, .top, .top, .top], [], [], 0⟩ ?_ ?_
          · clear h
            have h := hq
            clear hq
            refine ex_ord [] (l := [0, 1, 2, 3, 4, 5, 6, 7, 8, 9]) rfl ?_
            refine p_ 38 rfl rfl rfl rfl (.fieldAddr rfl rfl rfl fl55u_1 rfl) ?_
            refine p_ 39 rfl rfl rfl rfl (x_load rfl rfl rfl sz53 un53 ag53 rfl) ?_
            obtain ⟨v4, hv4, h⟩ := bindS h
            refine pif 40 rfl rfl rfl rfl (x_callP rfl rfl en102 (ok_slices_ContainsFunc_int ⟨en103, rfl, rfl⟩ (fun _ _ h => ok_lines_May_1 h) hv4) rfl rfl rfl rfl rfl) ?_ ?_
            · intro hc
              replace h := iteT h hc
              refine p_ 41 rfl rfl rfl rfl (.un rfl rfl rfl) ?_
              refine p_ 42 rfl rfl rfl rfl (.move rfl rfl) ?_
              refine k_ 43 rfl rfl rfl ?_
              refine k_ 44 rfl rfl rfl ?_
              refine k_ 45 rfl rfl rfl ?_
              refine p_ 46 rfl rfl rfl rfl (x_pickF rfl rfl rfl rfl) ?_
              refine p_ 2 rfl rfl rfl rfl (.assign rfl rfl) ?_
              refine we_nil ?_
              cases h
              exact ⟨rfl, _, .re [false, false, true, false, false, false, false, false, false, false, false, false, false, false, false, false, false, false, false, false, false, false, false, false, false, false, false, false, false, false, false, false, false, false, false, false, false, false, false, false, false, false, false, false, false, false, false] [] [] rfl (.refl _), rfl⟩
            · intro hc
              replace h := iteF h hc
              refine p_ 41 rfl rfl rfl rfl (.un rfl rfl rfl) ?_
              refine p_ 42 rfl rfl rfl rfl (.move rfl rfl) ?_
              refine p_ 43 rfl rfl rfl rfl (.fieldAddr rfl rfl rfl fl55u_3 rfl) ?_
              refine p_ 44 rfl rfl rfl rfl (x_load rfl rfl rfl sz46 un46 ag46 rfl) ?_
              obtain ⟨v5, hv5, h⟩ := bindS h
              refine p_ 45 rfl rfl rfl rfl (x_callP rfl rfl en96 (ok_cells_May hv5) rfl rfl rfl rfl rfl) ?_
              refine p_ 46 rfl rfl rfl rfl (x_pickT rfl rfl rfl rfl) ?_
              refine p_ 2 rfl rfl rfl rfl (.assign rfl rfl) ?_
              refine we_nil ?_
              cases h
              exact ⟨rfl, _, .re [false, false, true, false, false, false, false, false, false, false, false, false, false, false, false, false, false, false, false, false, false, false, false, false, false, false, false, false, false, false, false, false, false, false, false, false, false, false, false, false, false, false, false, false, false, false, false] [] [] rfl (.refl _), rfl⟩
          · clear hq
            refine ex_ret ?_
            obtain rfl := Option.some.inj h
            exact finB (by first | exact .inr rfl | exact .inl rfl) (.refl _) [.bool q3] [] [] (res_cons (res_tmp rfl) res_nil) rfl rfl rfl rfl rfl rfl rfl
theorem ok_lines_Split {r : T_api_Line × T_api_Line × Int} {p0 : T_api_Line} {p1 : Int} (h : lines_Split p0 p1 = some r) : OkB prog 99 [.agg [.int .i64 p0.f_Quote, .sl false (List.map c_i64 p0.f_Lists), .int .i64 p0.f_Kind, .sl false (List.map c_api_Cell p0.f_Cells)], .int .i64 p1] [] [] (.tup [.agg [.int .i64 r.1.f_Quote, .sl false (List.map c_i64 r.1.f_Lists), .int .i64 r.1.f_Kind, .sl false (List.map c_api_Cell r.1.f_Cells)], .agg [.int .i64 r.2.1.f_Quote, .sl false (List.map c_i64 r.2.1.f_Lists), .int .i64 r.2.1.f_Kind, .sl false (List.map c_api_Cell r.2.1.f_Cells)], .int .i64 r.2.2]) [] [] := by
  unfold lines_Split at h
  refine okB_of_exG func99 rfl rfl (s0 := [.agg [.int .i64 p0.f_Quote, .sl false (List.map c_i64 p0.f_Lists), .int .i64 p0.f_Kind, .sl false (List.map c_api_Cell p0.f_Cells)], .int .i64 p1, .top, .top, .top, .top, .top, .top, .top, .top, .top, .top, .top, .top, .top, .top, .top, .top, .top, .top, .top, .top, .top, .top, .top, .top, .top, .top, .top, .top, .top, .top, .top, .top, .top, .top, .top, .top, .top, .top, .top, .top, .top, .top, .top, .top, .top, .top]) (b0 := []) (r0 := []) rfl rfl rfl ?_
  show Ex _ _ _ ⟨[.agg [.int .i64 p0.f_Quote, .sl false (List.map c_i64 p0.f_Lists), .int .i64 p0.f_Kind, .sl false (List.map c_api_Cell p0.f_Cells)], .int .i64 p1, .top, .top, .top, .top, .top, .top, .top, .top, .top, .top, .top, .top, .top, .top, .top, .top, .top, .top, .top, .top, .top, .top, .top, .top, .top, .top, .top, .top, .top, .top, .top, .top, .top, .top, .top, .top, .top, .top, .top, .top, .top, .top, .top, .top, .top, .top], [], [], 0⟩ _
  refine ex_seq ?_
  refine ex_ord [0, 1, 2] (l := [0, 1, 2, 3]) rfl ?_
  refine e_ (d := .bx 0 0) 2 rfl rfl rfl rfl rfl (b' := [some [.int .i64 p0.f_Quote, .sl false (List.map c_i64 p0.f_Lists), .int .i64 p0.f_Kind, .sl false (List.map c_api_Cell p0.f_Cells)]]) (r' := []) (.box rfl rfl rfl) rfl ?_
  refine e_ (d := .bx 1 0) 4 rfl rfl rfl rfl rfl (b' := [some [.int .i64 p0.f_Quote, .sl false (List.map c_i64 p0.f_Lists), .int .i64 p0.f_Kind, .sl false (List.map c_api_Cell p0.f_Cells)], some [.int .i64 0, .sl false [], .int .i64 0, .sl false []]]) (r' := []) (.alloc rfl ze55) rfl ?_
  refine e_ (d := .bx 2 0) 5 rfl rfl rfl rfl rfl (b' := [some [.int .i64 p0.f_Quote, .sl false (List.map c_i64 p0.f_Lists), .int .i64 p0.f_Kind, .sl false (List.map c_api_Cell p0.f_Cells)], some [.int .i64 0, .sl false [], .int .i64 0, .sl false []], some [.int .i64 0, .sl false [], .int .i64 0, .sl false []]]) (r' := []) (.alloc rfl ze55) rfl ?_
  refine p_ 6 rfl rfl rfl rfl (.assign rfl rfl) ?_
  refine we_nil ?_
  refine ex_seq ?_
  refine ex_seq ?_
  refine ex_gst ⟨[.agg [.int .i64 p0.f_Quote, .sl false (List.map c_i64 p0.f_Lists), .int .i64 p0.f_Kind, .sl false (List.map c_api_Cell p0.f_Cells)], .int .i64 p1, .cp [.int .i64 p0.f_Quote, .sl false (List.map c_i64 p0.f_Lists), .int .i64 p0.f_Kind, .sl false (List.map c_api_Cell p0.f_Cells)], .top, .bx 1 0, .bx 2 0, .int .i64 0, .top, .top, .top, .top, .top, .top, .top, .top, .top, .top, .top, .top, .top, .top, .top, .top, .top, .top, .top, .top, .top, .top, .top, .top, .top, .top, .top, .top, .top, .top, .top, .top, .top, .top, .top, .top, .top, .top, .top, .top, .top], [none, some [.int .i64 0, .sl false [], .int .i64 0, .sl false []], some [.int .i64 0, .sl false [], .int .i64 0, .sl false []]], [], 0⟩ (.shutB (b := 0) rfl (fun d h => by simpa using List.all_eq_true.1 (rfl : List.all [.int .i64 p0.f_Quote, .sl false (List.map c_i64 p0.f_Lists), .int .i64 p0.f_Kind, .sl false (List.map c_api_Cell p0.f_Cells)] (fun d => !d.tok) = true) d h) (.refl _)) rfl ?_
  obtain ⟨q1, hq, h⟩ := bindS h
  refine ex_cut ⟨[.top, .int .i64 p1, .cp [.int .i64 p0.f_Quote, .sl false (List.map c_i64 p0.f_Lists), .int .i64 p0.f_Kind, .sl false (List.map c_api_Cell p0.f_Cells)], .top, .bx 0 0, .bx 1 0, .top, .top, .top, .top, .top, .top, .top, .top, .top, .top, .top, .top, .top, .top, .top, .top, .bool q1, .top, .top, .top, .top, .top, .top, .top, .top, .top, .top, .top, .top, .top, .top, .top, .top, .top, .top, .top, .top, .top, .top, .top, .top, .top], [some [.int .i64 0, .sl false [], .int .i64 0, .sl false []], some [.int .i64 0, .sl false [], .int .i64 0, .sl false []]], [], 0⟩ ?_ ?_
  · clear h
    have h := hq
    clear hq
    refine ex_ord [] (l := [0, 1, 2, 3, 4, 5, 6, 7, 8, 9, 10, 11, 12, 13]) rfl ?_
    refine p_ 9 rfl rfl rfl rfl (x_loadA rfl rfl rfl sz55 un55 ag55 rfl) ?_
    obtain ⟨v2, hv2, h⟩ := bindS h
    refine pif 10 rfl rfl rfl rfl (x_callP rfl rfl en62 (ok_lines_May hv2) rfl rfl rfl rfl rfl) ?_ ?_
    · intro hc
      replace h := iteT h hc
      refine p_ 11 rfl rfl rfl rfl (.un rfl rfl rfl) ?_
      refine p_ 12 rfl rfl rfl rfl (.move rfl rfl) ?_
      refine p_ 13 rfl rfl rfl rfl (.move rfl rfl) ?_
      refine pif 14 rfl rfl rfl rfl (.bin rfl rfl rfl rfl) ?_ ?_
      · intro hc
        replace h := iteT h hc
        refine p_ 15 rfl rfl rfl rfl (x_pickF rfl rfl rfl rfl) ?_
        refine p_ 16 rfl rfl rfl rfl (.move rfl rfl) ?_
        refine k_ 17 rfl rfl rfl ?_
        refine k_ 18 rfl rfl rfl ?_
        refine k_ 19 rfl rfl rfl ?_
        refine k_ 20 rfl rfl rfl ?_
        refine k_ 21 rfl rfl rfl ?_
        refine p_ 22 rfl rfl rfl rfl (x_pickT rfl rfl rfl rfl) ?_
        refine we_nil ?_
        cases h
        exact ⟨rfl, _, .re [false, true, true, false, true, true, false, false, false, false, false, false, false, false, false, false, false, false, false, false, false, false, true, false, false, false, false, false, false, false, false, false, false, false, false, false, false, false, false, false, false, false, false, false, false, false, false, false] [1, 2] [] rfl (.refl _), rfl⟩
      · intro hc
        replace h := iteF h hc
        refine p_ 15 rfl rfl rfl rfl (x_pickF rfl rfl rfl rfl) ?_
        refine p_ 16 rfl rfl rfl rfl (.move rfl rfl) ?_
        refine p_ 17 rfl rfl rfl rfl (.move rfl rfl) ?_
        refine p_ 18 rfl rfl rfl rfl (.fieldAddr rfl rfl rfl fl55u_3 rfl) ?_
        refine p_ 19 rfl rfl rfl rfl (x_load rfl rfl rfl sz46 un46 ag46 rfl) ?_
        refine p_ 20 rfl rfl rfl rfl (x_len (f := c_api_Cell) (l := p0.f_Cells) rfl rfl rfl el46) ?_
        refine p_ 21 rfl rfl rfl rfl (.bin rfl rfl rfl rfl) ?_
        refine p_ 22 rfl rfl rfl rfl (x_pickF rfl rfl rfl rfl) ?_
        refine we_nil ?_
        cases h
        exact ⟨rfl, _, .re [false, true, true, false, true, true, false, false, false, false, false, false, false, false, false, false, false, false, false, false, false, false, true, false, false, false, false, false, false, false, false, false, false, false, false, false, false, false, false, false, false, false, false, false, false, false, false, false] [1, 2] [] rfl (.refl _), rfl⟩
    · intro hc
      replace h := iteF h hc
      refine p_ 11 rfl rfl rfl rfl (.un rfl rfl rfl) ?_
      refine p_ 12 rfl rfl rfl rfl (.move rfl rfl) ?_
      refine k_ 13 rfl rfl rfl ?_
      refine k_ 14 rfl rfl rfl ?_
      refine p_ 15 rfl rfl rfl rfl (x_pickT rfl rfl rfl rfl) ?_
      refine p_ 16 rfl rfl rfl rfl (.move rfl rfl) ?_
      refine k_ 17 rfl rfl rfl ?_
      refine k_ 18 rfl rfl rfl ?_
      refine k_ 19 rfl rfl rfl ?_
      refine k_ 20 rfl rfl rfl ?_
      refine k_ 21 rfl rfl rfl ?_
      refine p_ 22 rfl rfl rfl rfl (x_pickT rfl rfl rfl rfl) ?_
      refine we_nil ?_
      cases h
      exact ⟨rfl, _, .re [false, true, true, false, true, true, false, false, false, false, false, false, false, false, false, false, false, false, false, false, false, false, true, false, false, false, false, false, false, false, false, false, false, false, false, false, false, false, false, false, false, false, false, false, false, false, false, false] [1, 2] [] rfl (.refl _), rfl⟩
  · clear hq
    refine ex_if rfl ?_ ?_
    · intro hc
      replace h := iteT h hc
      refine ex_seq ?_
      refine ex_ord [2, 3] (l := [0, 1, 2, 3, 4]) rfl ?_
      refine p_ 23 rfl rfl rfl rfl (x_build rfl pl55 ze55 rfl rfl rfl rfl) ?_
      refine p_ 24 rfl rfl rfl rfl (x_build rfl pl55 ze55 rfl rfl rfl rfl) ?_
      refine e0 rfl rfl rfl rfl rfl (b' := [some [.int .i64 0, .sl false [], .int .i64 0, .sl false []], some [.int .i64 0, .sl false [], .int .i64 0, .sl false []]]) (r' := []) (.store rfl rfl rfl sz55 rfl rfl rfl) rfl ?_
      refine e0 rfl rfl rfl rfl rfl (b' := [some [.int .i64 0, .sl false [], .int .i64 0, .sl false []], some [.int .i64 0, .sl false [], .int .i64 0, .sl false []]]) (r' := []) (.store rfl rfl rfl sz55 rfl rfl rfl) rfl ?_
      refine p_ 6 rfl rfl rfl rfl (.assign rfl rfl) ?_
      refine we_nil ?_
      refine ex_ret ?_
      obtain rfl := Option.some.inj h
      exact finB (by first | exact .inr rfl | exact .inl rfl) (.refl _) [.agg [.int .i64 0, .sl false [], .int .i64 0, .sl false []], .agg [.int .i64 0, .sl false [], .int .i64 0, .sl false []], .int .i64 1] [] [] (res_cons (res_cell rfl rfl sz55 un55 ag55 rfl) (res_cons (res_cell rfl rfl sz55 un55 ag55 rfl) (res_cons (res_tmp rfl) res_nil))) rfl rfl rfl rfl rfl rfl rfl
    · intro hc
      replace h := iteF h hc
      refine ex_skip ?_
      refine ex_seq ?_
      obtain ⟨⟨q3, q4, q5, q6, q7, q8, q9, q10⟩, hq, h⟩ := bindS h
      refine ex_cut ⟨[.top, .int .i64 p1, .top, .top, .bx 0 0, .bx 1 0, .top, .bx 2 0, .bx 3 0, .top, .top, .top, .top, .top, .top, .top, .top, .top, .top, .top, .top, .top, .top, .top, .top, .top, .top, .top, .top, .top, .top, .top, .top, .top, .top, .top, .top, .top, .top, .top, .top, .top, .top, .top, .top, .top, .top, .top], [some [.int .i64 0, .sl false [], .int .i64 0, .sl false []], some [.int .i64 0, .sl false [], .int .i64 0, .sl false []], some [.int .i64 q3, .sl false (List.map c_i64 q4), .int .i64 q5, .sl false (List.map c_api_Cell q6)], some [.int .i64 q7, .sl false (List.map c_i64 q8), .int .i64 q9, .sl false (List.map c_api_Cell q10)]], [], 0⟩ ?_ ?_
      · clear h
        have h := hq
        clear hq
        refine ex_sh mo [4, 5, 6, 7, 1000, 1001, 1002, 1003] (.pre [0, 1, 2, 3] (.fork 4 5 (.pre [5, 6, 7] .nil) (.pre [4, 6, 7] .nil))) (by kernel_rfl) ?_
        refine sh_pre ?_
        refine n_ 25 rfl rfl rfl (fun _ _ => x_loadA rfl rfl rfl sz55 un55 ag55 rfl) ?_
        obtain ⟨v11, hv11, h⟩ := bindS h
        refine n_ 26 rfl rfl rfl (fun _ _ => x_callP rfl rfl en68 (ok_lines_Own hv11) rfl rfl rfl rfl rfl) ?_
        refine n_ 27 rfl rfl rfl (fun _ _ => x_loadA rfl rfl rfl sz55 un55 ag55 rfl) ?_
        obtain ⟨v12, hv12, h⟩ := bindS h
        refine n_ 28 rfl rfl rfl (fun _ _ => x_callP rfl rfl en94 (ok_lines_Frame hv12) rfl rfl rfl rfl rfl) ?_
        refine we_nil ?_
        refine sh_fork ?_ ?_
        · refine e_ (d := .bx 2 0) 7 rfl rfl rfl rfl rfl (b' := [some [.int .i64 0, .sl false [], .int .i64 0, .sl false []], some [.int .i64 0, .sl false [], .int .i64 0, .sl false []], some [.int .i64 0, .sl false [], .int .i64 0, .sl false []]]) (r' := []) (.alloc rfl ze55) rfl ?_
          refine e_ (d := .bx 3 0) 8 rfl rfl rfl rfl rfl (b' := [some [.int .i64 0, .sl false [], .int .i64 0, .sl false []], some [.int .i64 0, .sl false [], .int .i64 0, .sl false []], some [.int .i64 0, .sl false [], .int .i64 0, .sl false []], some [.int .i64 0, .sl false [], .int .i64 0, .sl false []]]) (r' := []) (.alloc rfl ze55) rfl ?_
          refine e0 rfl rfl rfl rfl rfl (b' := [some [.int .i64 0, .sl false [], .int .i64 0, .sl false []], some [.int .i64 0, .sl false [], .int .i64 0, .sl false []], some [.int .i64 v11.f_Quote, .sl false (List.map c_i64 v11.f_Lists), .int .i64 v11.f_Kind, .sl false (List.map c_api_Cell v11.f_Cells)], some [.int .i64 0, .sl false [], .int .i64 0, .sl false []]]) (r' := []) (.store rfl rfl rfl sz55 rfl rfl rfl) rfl ?_
          refine e0 rfl rfl rfl rfl rfl (b' := [some [.int .i64 0, .sl false [], .int .i64 0, .sl false []], some [.int .i64 0, .sl false [], .int .i64 0, .sl false []], some [.int .i64 v11.f_Quote, .sl false (List.map c_i64 v11.f_Lists), .int .i64 v11.f_Kind, .sl false (List.map c_api_Cell v11.f_Cells)], some [.int .i64 v12.f_Quote, .sl false (List.map c_i64 v12.f_Lists), .int .i64 v12.f_Kind, .sl false (List.map c_api_Cell v12.f_Cells)]]) (r' := []) (.store rfl rfl rfl sz55 rfl rfl rfl) rfl ?_
          refine we_nil ?_
          cases h
          exact ⟨rfl, _, .re [false, true, false, false, true, true, false, true, true, false, false, false, false, false, false, false, false, false, false, false, false, false, false, false, false, false, false, false, false, false, false, false, false, false, false, false, false, false, false, false, false, false, false, false, false, false, false, false] [0, 1, 2, 3] [] rfl (.refl _), rfl⟩
        · refine e_ (d := .bx 2 0) 8 rfl rfl rfl rfl rfl (b' := [some [.int .i64 0, .sl false [], .int .i64 0, .sl false []], some [.int .i64 0, .sl false [], .int .i64 0, .sl false []], some [.int .i64 0, .sl false [], .int .i64 0, .sl false []]]) (r' := []) (.alloc rfl ze55) rfl ?_
          refine e_ (d := .bx 3 0) 7 rfl rfl rfl rfl rfl (b' := [some [.int .i64 0, .sl false [], .int .i64 0, .sl false []], some [.int .i64 0, .sl false [], .int .i64 0, .sl false []], some [.int .i64 0, .sl false [], .int .i64 0, .sl false []], some [.int .i64 0, .sl false [], .int .i64 0, .sl false []]]) (r' := []) (.alloc rfl ze55) rfl ?_
          refine e0 rfl rfl rfl rfl rfl (b' := [some [.int .i64 0, .sl false [], .int .i64 0, .sl false []], some [.int .i64 0, .sl false [], .int .i64 0, .sl false []], some [.int .i64 0, .sl false [], .int .i64 0, .sl false []], some [.int .i64 v11.f_Quote, .sl false (List.map c_i64 v11.f_Lists), .int .i64 v11.f_Kind, .sl false (List.map c_api_Cell v11.f_Cells)]]) (r' := []) (.store rfl rfl rfl sz55 rfl rfl rfl) rfl ?_
          refine e0 rfl rfl rfl rfl rfl (b' := [some [.int .i64 0, .sl false [], .int .i64 0, .sl false []], some [.int .i64 0, .sl false [], .int .i64 0, .sl false []], some [.int .i64 v12.f_Quote, .sl false (List.map c_i64 v12.f_Lists), .int .i64 v12.f_Kind, .sl false (List.map c_api_Cell v12.f_Cells)], some [.int .i64 v11.f_Quote, .sl false (List.map c_i64 v11.f_Lists), .int .i64 v11.f_Kind, .sl false (List.map c_api_Cell v11.f_Cells)]]) (r' := []) (.store rfl rfl rfl sz55 rfl rfl rfl) rfl ?_
          refine we_nil ?_
          cases h
          exact ⟨rfl, _, .re [false, true, false, false, true, true, false, true, true, false, false, false, false, false, false, false, false, false, false, false, false, false, false, false, false, false, false, false, false, false, false, false, false, false, false, false, false, false, false, false, false, false, false, false, false, false, false, false] [0, 1, 3, 2] [] rfl (.refl _), rfl⟩
      · clear hq
        refine ex_seq ?_
        refine ex_ord [5] (l := [0, 1, 2, 3, 4, 5]) rfl ?_
        refine p_ 29 rfl rfl rfl rfl (.fieldAddr rfl rfl rfl fl55u_3 rfl) ?_
        refine p_ 30 rfl rfl rfl rfl (x_load rfl rfl rfl sz46 un46 ag46 rfl) ?_
        refine p_ 31 rfl rfl rfl rfl (.move rfl rfl) ?_
        obtain ⟨v13, hv13, h⟩ := bindS h
        refine p_ 32 rfl rfl rfl rfl (x_cut rfl rfl el46 sz58 ⟨_, rfl⟩ (by simp [hiIs]) hv13 fl_api_Cell) ?_
        refine p_ 33 rfl rfl rfl rfl (.fieldAddr rfl rfl rfl fl55u_3 rfl) ?_
        refine e0 rfl rfl rfl rfl rfl (b' := [some [.int .i64 0, .sl false [], .int .i64 0, .sl false []], some [.int .i64 0, .sl false [], .int .i64 0, .sl false []], some [.int .i64 q3, .sl false (List.map c_i64 q4), .int .i64 q5, .sl false (List.map c_api_Cell q6)], some [.int .i64 q7, .sl false (List.map c_i64 q8), .int .i64 q9, .sl false (List.map c_api_Cell v13)]]) (r' := []) (.store rfl rfl rfl sz46 rfl rfl rfl) rfl ?_
        refine we_nil ?_
        refine ex_seq ?_
        refine ex_ord [6] (l := [0, 1, 2, 3, 4, 5, 6]) rfl ?_
        refine p_ 34 rfl rfl rfl rfl (.fieldAddr rfl rfl rfl fl55u_3 rfl) ?_
        refine p_ 35 rfl rfl rfl rfl (x_load rfl rfl rfl sz46 un46 ag46 rfl) ?_
        refine p_ 36 rfl rfl rfl rfl (.move rfl rfl) ?_
        refine p_ 37 rfl rfl rfl rfl (.move rfl rfl) ?_
        obtain ⟨v14, hv14, h⟩ := bindS h
        refine p_ 38 rfl rfl rfl rfl (x_cut3 rfl rfl rfl rfl el46 sz58 hv14) ?_
        refine p_ 39 rfl rfl rfl rfl (.fieldAddr rfl rfl rfl fl55u_3 rfl) ?_
        refine e0 rfl rfl rfl rfl rfl (b' := [some [.int .i64 0, .sl false [], .int .i64 0, .sl false []], some [.int .i64 0, .sl false [], .int .i64 0, .sl false []], some [.int .i64 q3, .sl false (List.map c_i64 q4), .int .i64 q5, .sl false (List.map c_api_Cell v14)], some [.int .i64 q7, .sl false (List.map c_i64 q8), .int .i64 q9, .sl false (List.map c_api_Cell v13)]]) (r' := []) (.store rfl rfl rfl sz46 rfl rfl rfl) rfl ?_
        refine we_nil ?_
        refine ex_seq ?_
        refine ex_seq ?_
        refine ex_ord [] (l := [0, 1, 2, 3]) rfl ?_
        refine p_ 40 rfl rfl rfl rfl (.fieldAddr rfl rfl rfl fl55u_3 rfl) ?_
        refine p_ 41 rfl rfl rfl rfl (x_load rfl rfl rfl sz46 un46 ag46 rfl) ?_
        refine p_ 42 rfl rfl rfl rfl (x_len (f := c_api_Cell) (l := v13) rfl rfl rfl el46) ?_
        refine p_ 43 rfl rfl rfl rfl (.bin rfl rfl rfl rfl) ?_
        refine we_nil ?_
        obtain ⟨⟨q15, q16⟩, hq, h⟩ := bindS h
        refine ex_cut ⟨[.top, .top, .top, .top, .bx 0 0, .bx 1 0, .top, .bx 2 0, .bx 3 0, .top, .top, .top, .top, .top, .top, .top, .top, .top, .top, .top, .top, .top, .top, .top, .top, .top, .top, .top, .top, .top, .top, .top, .top, .top, .top, .top, .top, .top, .top, .top, .top, .top, .top, .top, .top, .top, .top, .top], [some [.int .i64 0, .sl false [], .int .i64 0, .sl false []], some [.int .i64 0, .sl false [], .int .i64 0, .sl false []], some [.int .i64 q3, .sl false (List.map c_i64 q4), .int .i64 q5, .sl false (List.map c_api_Cell v14)], some [.int .i64 q7, .sl false (List.map c_i64 q8), .int .i64 q15, .sl false (List.map c_api_Cell q16)]], [], 0⟩ ?_ ?_
        · clear h
          have h := hq
          clear hq
          refine ex_if rfl ?_ ?_
          · intro hc
            replace h := iteT h hc
            refine ex_ord [1, 3] (l := [0, 1, 2, 3]) rfl ?_
            refine p_ 44 rfl rfl rfl rfl (.fieldAddr rfl rfl rfl fl55u_2 rfl) ?_
            refine e0 rfl rfl rfl rfl rfl (b' := [some [.int .i64 0, .sl false [], .int .i64 0, .sl false []], some [.int .i64 0, .sl false [], .int .i64 0, .sl false []], some [.int .i64 q3, .sl false (List.map c_i64 q4), .int .i64 q5, .sl false (List.map c_api_Cell v14)], some [.int .i64 q7, .sl false (List.map c_i64 q8), .int .i64 0, .sl false (List.map c_api_Cell v13)]]) (r' := []) (.store rfl rfl rfl sz3 rfl rfl rfl) rfl ?_
            refine p_ 45 rfl rfl rfl rfl (.fieldAddr rfl rfl rfl fl55u_3 rfl) ?_
            refine e0 rfl rfl rfl rfl rfl (b' := [some [.int .i64 0, .sl false [], .int .i64 0, .sl false []], some [.int .i64 0, .sl false [], .int .i64 0, .sl false []], some [.int .i64 q3, .sl false (List.map c_i64 q4), .int .i64 q5, .sl false (List.map c_api_Cell v14)], some [.int .i64 q7, .sl false (List.map c_i64 q8), .int .i64 0, .sl false []]]) (r' := []) (.store rfl rfl rfl sz46 rfl rfl rfl) rfl ?_
            refine we_nil ?_
            cases h
            exact ⟨rfl, _, .re [false, false, false, false, true, true, false, true, true, false, false, false, false, false, false, false, false, false, false, false, false, false, false, false, false, false, false, false, false, false, false, false, false, false, false, false, false, false, false, false, false, false, false, false, false, false, false, false] [0, 1, 2, 3] [] rfl (.refl _), rfl⟩
          · intro hc
            replace h := iteF h hc
            refine ex_skip ?_
            cases h
            exact ⟨rfl, _, .re [false, false, false, false, true, true, false, true, true, false, false, false, false, false, false, false, false, false, false, false, false, false, false, false, false, false, false, false, false, false, false, false, false, false, false, false, false, false, false, false, false, false, false, false, false, false, false, false] [0, 1, 2, 3] [] rfl (.refl _), rfl⟩
        · clear hq
          refine ex_seq ?_
          refine ex_drw mo [2, 3, 2000, 2001, 3002, 3003, 100002, 200003, 300000, 400001] (by kernel_rfl) (l := [0, 1, 2, 3, 4]) rfl ?_
          refine r_ 46 2 rfl rfl rfl rfl rfl rfl (fun _ _ hb => x_loadA rfl rfl (at_bx hb rfl) sz55 un55 ag55 rfl) ?_
          refine r_ 47 3 rfl rfl rfl rfl rfl rfl (fun _ _ hb => x_loadA rfl rfl (at_bx hb rfl) sz55 un55 ag55 rfl) ?_
          refine e0 rfl rfl rfl rfl rfl (b' := [some [.int .i64 q3, .sl false (List.map c_i64 q4), .int .i64 q5, .sl false (List.map c_api_Cell v14)], some [.int .i64 0, .sl false [], .int .i64 0, .sl false []], some [.int .i64 q3, .sl false (List.map c_i64 q4), .int .i64 q5, .sl false (List.map c_api_Cell v14)], some [.int .i64 q7, .sl false (List.map c_i64 q8), .int .i64 q15, .sl false (List.map c_api_Cell q16)]]) (r' := []) (hb := set_out 0 (some [.int .i64 q3, .sl false (List.map c_i64 q4), .int .i64 q5, .sl false (List.map c_api_Cell v14)]) rfl rfl) (.store rfl rfl rfl sz55 rfl rfl rfl) rfl ?_
          refine e0 rfl rfl rfl rfl rfl (b' := [some [.int .i64 q3, .sl false (List.map c_i64 q4), .int .i64 q5, .sl false (List.map c_api_Cell v14)], some [.int .i64 q7, .sl false (List.map c_i64 q8), .int .i64 q15, .sl false (List.map c_api_Cell q16)], some [.int .i64 q3, .sl false (List.map c_i64 q4), .int .i64 q5, .sl false (List.map c_api_Cell v14)], some [.int .i64 q7, .sl false (List.map c_i64 q8), .int .i64 q15, .sl false (List.map c_api_Cell q16)]]) (r' := []) (hb := set_out 1 (some [.int .i64 q7, .sl false (List.map c_i64 q8), .int .i64 q15, .sl false (List.map c_api_Cell q16)]) rfl rfl) (.store rfl rfl rfl sz55 rfl rfl rfl) rfl ?_
          refine p_ 6 rfl rfl rfl rfl (.assign rfl rfl) ?_
          refine we_nil ?_
          refine ex_ret ?_
          obtain rfl := Option.some.inj h
          exact finB (by first | exact .inr rfl | exact .inl rfl) (.refl _) [.agg [.int .i64 q3, .sl false (List.map c_i64 q4), .int .i64 q5, .sl false (List.map c_api_Cell v14)], .agg [.int .i64 q7, .sl false (List.map c_i64 q8), .int .i64 q15, .sl false (List.map c_api_Cell q16)], .int .i64 0] [] [] (res_cons (res_cell rfl rfl sz55 un55 ag55 rfl) (res_cons (res_cell rfl rfl sz55 un55 ag55 rfl) (res_cons (res_tmp rfl) res_nil))) rfl rfl rfl rfl rfl rfl rfl
theorem ok_doc_May_1 {r : Bool} {p0 : T_api_Line} (h : doc_May_1 p0 = some r) : OkB prog 61 [.agg [.int .i64 p0.f_Quote, .sl false (List.map c_i64 p0.f_Lists), .int .i64 p0.f_Kind, .sl false (List.map c_api_Cell p0.f_Cells)]] [] [] (.bool r) [] [] := by
  unfold doc_May_1 at h
  refine okB_of_exG func61 rfl rfl (s0 := [.agg [.int .i64 p0.f_Quote, .sl false (List.map c_i64 p0.f_Lists), .int .i64 p0.f_Kind, .sl false (List.map c_api_Cell p0.f_Cells)], .top, .top, .top, .top, .top]) (b0 := []) (r0 := []) rfl rfl rfl ?_
  show Ex _ _ _ ⟨[.agg [.int .i64 p0.f_Quote, .sl false (List.map c_i64 p0.f_Lists), .int .i64 p0.f_Kind, .sl false (List.map c_api_Cell p0.f_Cells)], .top, .top, .top, .top, .top], [], [], 0⟩ _
  refine ex_seq ?_
  refine ex_ord [0] (l := [0, 1]) rfl ?_
  refine e_ (d := .bx 0 0) 1 rfl rfl rfl rfl rfl (b' := [some [.int .i64 p0.f_Quote, .sl false (List.map c_i64 p0.f_Lists), .int .i64 p0.f_Kind, .sl false (List.map c_api_Cell p0.f_Cells)]]) (r' := []) (.box rfl rfl rfl) rfl ?_
  refine p_ 2 rfl rfl rfl rfl (.assign rfl rfl) ?_
  refine we_nil ?_
  refine ex_seq ?_
  refine ex_gst ⟨[.agg [.int .i64 p0.f_Quote, .sl false (List.map c_i64 p0.f_Lists), .int .i64 p0.f_Kind, .sl false (List.map c_api_Cell p0.f_Cells)], .cp [.int .i64 p0.f_Quote, .sl false (List.map c_i64 p0.f_Lists), .int .i64 p0.f_Kind, .sl false (List.map c_api_Cell p0.f_Cells)], .bool false, .top, .top, .top], [none], [], 0⟩ (.shutB (b := 0) rfl (fun d h => by simpa using List.all_eq_true.1 (rfl : List.all [.int .i64 p0.f_Quote, .sl false (List.map c_i64 p0.f_Lists), .int .i64 p0.f_Kind, .sl false (List.map c_api_Cell p0.f_Cells)] (fun d => !d.tok) = true) d h) (.refl _)) rfl ?_
  refine ex_ord [] (l := [0, 1, 2, 3]) rfl ?_
  refine p_ 3 rfl rfl rfl rfl (x_loadA rfl rfl rfl sz55 un55 ag55 rfl) ?_
  obtain ⟨v1, hv1, h⟩ := bindS h
  refine p_ 4 rfl rfl rfl rfl (x_callP rfl rfl en62 (ok_lines_May hv1) rfl rfl rfl rfl rfl) ?_
  refine p_ 5 rfl rfl rfl rfl (.un rfl rfl rfl) ?_
  refine p_ 2 rfl rfl rfl rfl (.assign rfl rfl) ?_
  refine we_nil ?_
  refine ex_ret ?_
  obtain rfl := Option.some.inj h
  exact finB (by first | exact .inr rfl | exact .inl rfl) (.refl _) [.bool (!v1)] [] [] (res_cons (res_tmp rfl) res_nil) rfl rfl rfl rfl rfl rfl rfl
theorem ok_doc_May {r : Bool} {p0 : List (T_api_Line)} (h : doc_May p0 = some r) : OkB prog 13 [.sl false (List.map c_api_Line p0)] [] [] (.bool r) [] [] := by
  unfold doc_May at h
  refine okB_of_exG func13 rfl rfl (s0 := [.sl false (List.map c_api_Line p0), .top, .top, .top, .top, .top, .top, .top, .top, .top, .top, .top, .top, .top, .top, .top, .top, .top, .top, .top, .top]) (b0 := []) (r0 := []) rfl rfl rfl ?_
  show Ex _ _ _ ⟨[.sl false (List.map c_api_Line p0), .top, .top, .top, .top, .top, .top, .top, .top, .top, .top, .top, .top, .top, .top, .top, .top, .top, .top, .top, .top], [], [], 0⟩ _
  refine ex_seq ?_
  refine ex_ord [] (l := [0]) rfl ?_
  refine p_ 2 rfl rfl rfl rfl (.assign rfl rfl) ?_
  refine we_nil ?_
  refine ex_seq ?_
  obtain ⟨q1, hq, h⟩ := bindS h
  refine ex_cut ⟨[.top, .top, .bool q1, .top, .top, .top, .top, .top, .top, .top, .top, .top, .top, .top, .top, .top, .top, .top, .top, .top, .top], [], [], 0⟩ ?_ ?_
  · clear h
    have h := hq
    clear hq
    refine ex_ord [] (l := [0, 1, 2, 3, 4, 5, 6, 7, 8, 9, 10, 11, 12, 13, 14, 15, 16, 17, 18]) rfl ?_
    refine p_ 3 rfl rfl rfl rfl (.move rfl rfl) ?_
    refine p_ 4 rfl rfl rfl rfl (x_len (f := c_api_Line) (l := p0) rfl rfl rfl el22) ?_
    refine pif 5 rfl rfl rfl rfl (.bin rfl rfl rfl rfl) ?_ ?_
    · intro hc
      replace h := iteT h hc
      refine p_ 6 rfl rfl rfl rfl (.move rfl rfl) ?_
      refine p_ 7 rfl rfl rfl rfl (.move rfl rfl) ?_
      refine p_ 8 rfl rfl rfl rfl (x_len (f := c_api_Line) (l := p0) rfl rfl rfl el22) ?_
      refine pif 9 rfl rfl rfl rfl (.bin rfl rfl rfl rfl) ?_ ?_
      · intro hc
        replace h := iteT h hc
        refine p_ 10 rfl rfl rfl rfl (x_pickT rfl rfl rfl rfl) ?_
        refine p_ 11 rfl rfl rfl rfl (.move rfl rfl) ?_
        refine p_ 12 rfl rfl rfl rfl (.move rfl rfl) ?_
        obtain ⟨v2, hv2, h⟩ := bindS h
        refine p_ 13 rfl rfl rfl rfl (x_callP rfl rfl en15 (ok_doc_Size hv2) rfl rfl rfl rfl rfl) ?_
        refine pif 14 rfl rfl rfl rfl (.bin rfl rfl rfl rfl) ?_ ?_
        · intro hc
          replace h := iteT h hc
          refine p_ 15 rfl rfl rfl rfl (x_pickT rfl rfl rfl rfl) ?_
          refine p_ 16 rfl rfl rfl rfl (.move rfl rfl) ?_
          refine p_ 17 rfl rfl rfl rfl (.move rfl rfl) ?_
          obtain ⟨v3, hv3, h⟩ := bindS h
          refine p_ 18 rfl rfl rfl rfl (x_callP rfl rfl en60 (ok_slices_ContainsFunc_apiLine ⟨en61, rfl, rfl⟩ (fun _ _ h => ok_doc_May_1 h) hv3) rfl rfl rfl rfl rfl) ?_
          refine p_ 19 rfl rfl rfl rfl (.un rfl rfl rfl) ?_
          refine p_ 20 rfl rfl rfl rfl (x_pickT rfl rfl rfl rfl) ?_
          refine p_ 2 rfl rfl rfl rfl (.assign rfl rfl) ?_
          refine we_nil ?_
          cases h
          exact ⟨rfl, _, .re [false, false, true, false, false, false, false, false, false, false, false, false, false, false, false, false, false, false, false, false, false] [] [] rfl (.refl _), rfl⟩
        · intro hc
          replace h := iteF h hc
          refine p_ 15 rfl rfl rfl rfl (x_pickT rfl rfl rfl rfl) ?_
          refine p_ 16 rfl rfl rfl rfl (.move rfl rfl) ?_
          refine k_ 17 rfl rfl rfl ?_
          refine k_ 18 rfl rfl rfl ?_
          refine k_ 19 rfl rfl rfl ?_
          refine p_ 20 rfl rfl rfl rfl (x_pickF rfl rfl rfl rfl) ?_
          refine p_ 2 rfl rfl rfl rfl (.assign rfl rfl) ?_
          refine we_nil ?_
          cases h
          exact ⟨rfl, _, .re [false, false, true, false, false, false, false, false, false, false, false, false, false, false, false, false, false, false, false, false, false] [] [] rfl (.refl _), rfl⟩
      · intro hc
        replace h := iteF h hc
        refine p_ 10 rfl rfl rfl rfl (x_pickT rfl rfl rfl rfl) ?_
        refine p_ 11 rfl rfl rfl rfl (.move rfl rfl) ?_
        refine k_ 12 rfl rfl rfl ?_
        refine k_ 13 rfl rfl rfl ?_
        refine k_ 14 rfl rfl rfl ?_
        refine p_ 15 rfl rfl rfl rfl (x_pickF rfl rfl rfl rfl) ?_
        refine p_ 16 rfl rfl rfl rfl (.move rfl rfl) ?_
        refine k_ 17 rfl rfl rfl ?_
        refine k_ 18 rfl rfl rfl ?_
        refine k_ 19 rfl rfl rfl ?_
        refine p_ 20 rfl rfl rfl rfl (x_pickF rfl rfl rfl rfl) ?_
        refine p_ 2 rfl rfl rfl rfl (.assign rfl rfl) ?_
        refine we_nil ?_
        cases h
        exact ⟨rfl, _, .re [false, false, true, false, false, false, false, false, false, false, false, false, false, false, false, false, false, false, false, false, false] [] [] rfl (.refl _), rfl⟩
    · intro hc
      replace h := iteF h hc
      refine p_ 6 rfl rfl rfl rfl (.move rfl rfl) ?_
      refine k_ 7 rfl rfl rfl ?_
      refine k_ 8 rfl rfl rfl ?_
      refine k_ 9 rfl rfl rfl ?_
      refine p_ 10 rfl rfl rfl rfl (x_pickF rfl rfl rfl rfl) ?_
      refine p_ 11 rfl rfl rfl rfl (.move rfl rfl) ?_
      refine k_ 12 rfl rfl rfl ?_
      refine k_ 13 rfl rfl rfl ?_
      refine k_ 14 rfl rfl rfl ?_
      refine p_ 15 rfl rfl rfl rfl (x_pickF rfl rfl rfl rfl) ?_
      refine p_ 16 rfl rfl rfl rfl (.move rfl rfl) ?_
      refine k_ 17 rfl rfl rfl ?_
      refine k_ 18 rfl rfl rfl ?_
      refine k_ 19 rfl rfl rfl ?_
      refine p_ 20 rfl rfl rfl rfl (x_pickF rfl rfl rfl rfl) ?_
      refine p_ 2 rfl rfl rfl rfl (.assign rfl rfl) ?_
      refine we_nil ?_
      cases h
      exact ⟨rfl, _, .re [false, false, true, false, false, false, false, false, false, false, false, false, false, false, false, false, false, false, false, false, false] [] [] rfl (.refl _), rfl⟩
  · clear hq
    refine ex_ret ?_
    obtain rfl := Option.some.inj h
    exact finB (by first | exact .inr rfl | exact .inl rfl) (.refl _) [.bool q1] [] [] (res_cons (res_tmp rfl) res_nil) rfl rfl rfl rfl rfl rfl rfl
theorem ok_doc_span {r : Bool} {p0 : List (T_api_Line)} {p1 : T_api_Pos} {p2 : T_api_Pos} (h : doc_span p0 p1 p2 = some r) : OkB prog 90 [.sl false (List.map c_api_Line p0), .agg [.int .i64 p1.f_Line, .int .i64 p1.f_At], .agg [.int .i64 p2.f_Line, .int .i64 p2.f_At]] [] [] (.bool r) [] [] := by
  unfold doc_span at h
  refine okB_of_exG func90 rfl rfl (s0 := [.sl false (List.map c_api_Line p0), .agg [.int .i64 p1.f_Line, .int .i64 p1.f_At], .agg [.int .i64 p2.f_Line, .int .i64 p2.f_At], .top, .top, .top, .top, .top, .top, .top, .top, .top, .top, .top, .top, .top, .top, .top, .top, .top, .top, .top, .top, .top, .top]) (b0 := []) (r0 := []) rfl rfl rfl ?_
  show Ex _ _ _ ⟨[.sl false (List.map c_api_Line p0), .agg [.int .i64 p1.f_Line, .int .i64 p1.f_At], .agg [.int .i64 p2.f_Line, .int .i64 p2.f_At], .top, .top, .top, .top, .top, .top, .top, .top, .top, .top, .top, .top, .top, .top, .top, .top, .top, .top, .top, .top, .top, .top], [], [], 0⟩ _
  refine ex_seq ?_
  refine ex_ord [0, 1] (l := [0, 1, 2]) rfl ?_
  refine e_ (d := .bx 0 0) 4 rfl rfl rfl rfl rfl (b' := [some [.int .i64 p1.f_Line, .int .i64 p1.f_At]]) (r' := []) (.box rfl rfl rfl) rfl ?_
  refine e_ (d := .bx 1 0) 5 rfl rfl rfl rfl rfl (b' := [some [.int .i64 p1.f_Line, .int .i64 p1.f_At], some [.int .i64 p2.f_Line, .int .i64 p2.f_At]]) (r' := []) (.box rfl rfl rfl) rfl ?_
  refine p_ 6 rfl rfl rfl rfl (.assign rfl rfl) ?_
  refine we_nil ?_
  refine ex_seq ?_
  refine ex_gst ⟨[.sl false (List.map c_api_Line p0), .agg [.int .i64 p1.f_Line, .int .i64 p1.f_At], .agg [.int .i64 p2.f_Line, .int .i64 p2.f_At], .top, .cp [.int .i64 p1.f_Line, .int .i64 p1.f_At], .bx 1 0, .bool false, .top, .top, .top, .top, .top, .top, .top, .top, .top, .top, .top, .top, .top, .top, .top, .top, .top, .top], [none, some [.int .i64 p2.f_Line, .int .i64 p2.f_At]], [], 0⟩ (.shutB (b := 0) rfl (fun d h => by simpa using List.all_eq_true.1 (rfl : List.all [.int .i64 p1.f_Line, .int .i64 p1.f_At] (fun d => !d.tok) = true) d h) (.refl _)) rfl ?_
  refine ex_gst ⟨[.sl false (List.map c_api_Line p0), .agg [.int .i64 p1.f_Line, .int .i64 p1.f_At], .agg [.int .i64 p2.f_Line, .int .i64 p2.f_At], .top, .cp [.int .i64 p1.f_Line, .int .i64 p1.f_At], .cp [.int .i64 p2.f_Line, .int .i64 p2.f_At], .bool false, .top, .top, .top, .top, .top, .top, .top, .top, .top, .top, .top, .top, .top, .top, .top, .top, .top, .top], [none, none], [], 0⟩ (.shutB (b := 1) rfl (fun d h => by simpa using List.all_eq_true.1 (rfl : List.all [.int .i64 p2.f_Line, .int .i64 p2.f_At] (fun d => !d.tok) = true) d h) (.refl _)) rfl ?_
  obtain ⟨q1, hq, h⟩ := bindS h
  refine ex_cut ⟨[.top, .top, .top, .top, .top, .top, .bool q1, .top, .top, .top, .top, .top, .top, .top, .top, .top, .top, .top, .top, .top, .top, .top, .top, .top, .top], [], [], 0⟩ ?_ ?_
  · clear h
    have h := hq
    clear hq
    refine ex_ord [] (l := [0, 1, 2, 3, 4, 5, 6, 7, 8, 9, 10, 11, 12, 13, 14, 15, 16, 17, 18]) rfl ?_
    refine p_ 7 rfl rfl rfl rfl (.move rfl rfl) ?_
    obtain ⟨v2, hv2, h⟩ := bindS h
    refine pif 8 rfl rfl rfl rfl (x_callP rfl rfl en13 (ok_doc_May hv2) rfl rfl rfl rfl rfl) ?_ ?_
    · intro hc
      replace h := iteT h hc
      refine p_ 9 rfl rfl rfl rfl (.move rfl rfl) ?_
      refine p_ 10 rfl rfl rfl rfl (.move rfl rfl) ?_
      refine p_ 11 rfl rfl rfl rfl (x_loadA rfl rfl rfl sz24 un24 ag24 rfl) ?_
      obtain ⟨v3, hv3, h⟩ := bindS h
      refine pif 12 rfl rfl rfl rfl (x_callP rfl rfl en19 (ok_doc_Is hv3) rfl rfl rfl rfl rfl) ?_ ?_
      · intro hc
        replace h := iteT h hc
        refine p_ 13 rfl rfl rfl rfl (x_pickT rfl rfl rfl rfl) ?_
        refine p_ 14 rfl rfl rfl rfl (.move rfl rfl) ?_
        refine p_ 15 rfl rfl rfl rfl (.move rfl rfl) ?_
        refine p_ 16 rfl rfl rfl rfl (x_loadA rfl rfl rfl sz24 un24 ag24 rfl) ?_
        obtain ⟨v4, hv4, h⟩ := bindS h
        refine pif 17 rfl rfl rfl rfl (x_callP rfl rfl en19 (ok_doc_Is hv4) rfl rfl rfl rfl rfl) ?_ ?_
        · intro hc
          replace h := iteT h hc
          refine p_ 18 rfl rfl rfl rfl (x_pickT rfl rfl rfl rfl) ?_
          refine p_ 19 rfl rfl rfl rfl (.move rfl rfl) ?_
          refine p_ 20 rfl rfl rfl rfl (x_loadA rfl rfl rfl sz24 un24 ag24 rfl) ?_
          refine p_ 21 rfl rfl rfl rfl (x_loadA rfl rfl rfl sz24 un24 ag24 rfl) ?_
          obtain ⟨v5, hv5, h⟩ := bindS h
          refine p_ 22 rfl rfl rfl rfl (x_callP rfl rfl en23 (ok_doc_Cmp hv5) rfl rfl rfl rfl rfl) ?_
          refine p_ 23 rfl rfl rfl rfl (.bin rfl rfl rfl rfl) ?_
          refine p_ 24 rfl rfl rfl rfl (x_pickT rfl rfl rfl rfl) ?_
          refine p_ 6 rfl rfl rfl rfl (.assign rfl rfl) ?_
          refine we_nil ?_
          cases h
          exact ⟨rfl, _, .re [false, false, false, false, false, false, true, false, false, false, false, false, false, false, false, false, false, false, false, false, false, false, false, false, false] [] [] rfl (.refl _), rfl⟩
        · intro hc
          replace h := iteF h hc
          refine p_ 18 rfl rfl rfl rfl (x_pickT rfl rfl rfl rfl) ?_
          refine p_ 19 rfl rfl rfl rfl (.move rfl rfl) ?_
          refine k_ 20 rfl rfl rfl ?_
          refine k_ 21 rfl rfl rfl ?_
          refine k_ 22 rfl rfl rfl ?_
          refine k_ 23 rfl rfl rfl ?_
          refine p_ 24 rfl rfl rfl rfl (x_pickF rfl rfl rfl rfl) ?_
          refine p_ 6 rfl rfl rfl rfl (.assign rfl rfl) ?_
          refine we_nil ?_
          cases h
          exact ⟨rfl, _, .re [false, false, false, false, false, false, true, false, false, false, false, false, false, false, false, false, false, false, false, false, false, false, false, false, false] [] [] rfl (.refl _), rfl⟩
      · intro hc
        replace h := iteF h hc
        refine p_ 13 rfl rfl rfl rfl (x_pickT rfl rfl rfl rfl) ?_
        refine p_ 14 rfl rfl rfl rfl (.move rfl rfl) ?_
        refine k_ 15 rfl rfl rfl ?_
        refine k_ 16 rfl rfl rfl ?_
        refine k_ 17 rfl rfl rfl ?_
        refine p_ 18 rfl rfl rfl rfl (x_pickF rfl rfl rfl rfl) ?_
        refine p_ 19 rfl rfl rfl rfl (.move rfl rfl) ?_
        refine k_ 20 rfl rfl rfl ?_
        refine k_ 21 rfl rfl rfl ?_
        refine k_ 22 rfl rfl rfl ?_
        refine k_ 23 rfl rfl rfl ?_
        refine p_ 24 rfl rfl rfl rfl (x_pickF rfl rfl rfl rfl) ?_
        refine p_ 6 rfl rfl rfl rfl (.assign rfl rfl) ?_
        refine we_nil ?_
        cases h
        exact ⟨rfl, _, .re [false, false, false, false, false, false, true, false, false, false, false, false, false, false, false, false, false, false, false, false, false, false, false, false, false] [] [] rfl (.refl _), rfl⟩
    · intro hc
      replace h := iteF h hc
      refine p_ 9 rfl rfl rfl rfl (.move rfl rfl) ?_
      refine k_ 10 rfl rfl rfl ?_
      refine k_ 11 rfl rfl rfl ?_
      refine k_ 12 rfl rfl rfl ?_
      refine p_ 13 rfl rfl rfl rfl (x_pickF rfl rfl rfl rfl) ?_
      refine p_ 14 rfl rfl rfl rfl (.move rfl rfl) ?_
      refine k_ 15 rfl rfl rfl ?_
      refine k_ 16 rfl rfl rfl ?_
      refine k_ 17 rfl rfl rfl ?_
      refine p_ 18 rfl rfl rfl rfl (x_pickF rfl rfl rfl rfl) ?_
      refine p_ 19 rfl rfl rfl rfl (.move rfl rfl) ?_
      refine k_ 20 rfl rfl rfl ?_
      refine k_ 21 rfl rfl rfl ?_
      refine k_ 22 rfl rfl rfl ?_
      refine k_ 23 rfl rfl rfl ?_
      refine p_ 24 rfl rfl rfl rfl (x_pickF rfl rfl rfl rfl) ?_
      refine p_ 6 rfl rfl rfl rfl (.assign rfl rfl) ?_
      refine we_nil ?_
      cases h
      exact ⟨rfl, _, .re [false, false, false, false, false, false, true, false, false, false, false, false, false, false, false, false, false, false, false, false, false, false, false, false, false] [] [] rfl (.refl _), rfl⟩
  · clear hq
    refine ex_ret ?_
    obtain rfl := Option.some.inj h
    exact finB (by first | exact .inr rfl | exact .inl rfl) (.refl _) [.bool q1] [] [] (res_cons (res_tmp rfl) res_nil) rfl rfl rfl rfl rfl rfl rfl
theorem ok_doc_Delete {r : (List (T_api_Line)) × Int} {p0 : List (T_api_Line)} {p1 : T_api_Pos} {p2 : T_api_Pos} (h : doc_Delete p0 p1 p2 = some r) : OkB prog 49 [.sl false (List.map c_api_Line p0), .agg [.int .i64 p1.f_Line, .int .i64 p1.f_At], .agg [.int .i64 p2.f_Line, .int .i64 p2.f_At]] [] [] (.tup [.own 0, .int .i64 r.2]) [] [⟨55, 4, List.map c_api_Line r.1⟩] := by
  unfold doc_Delete at h
  refine okB_of_exG func49 rfl rfl (s0 := [.sl false (List.map c_api_Line p0), .agg [.int .i64 p1.f_Line, .int .i64 p1.f_At], .agg [.int .i64 p2.f_Line, .int .i64 p2.f_At], .top, .top, .top, .top, .top, .top, .top, .top, .top, .top, .top, .top, .top, .top, .top, .top, .top, .top, .top, .top, .top, .top, .top, .top, .top, .top, .top, .top, .top, .top, .top, .top, .top, .top, .top, .top, .top, .top, .top, .top, .top, .top, .top, .top, .top, .top, .top, .top, .top]) (b0 := []) (r0 := []) rfl rfl rfl ?_
  show Ex _ _ _ ⟨[.sl false (List.map c_api_Line p0), .agg [.int .i64 p1.f_Line, .int .i64 p1.f_At], .agg [.int .i64 p2.f_Line, .int .i64 p2.f_At], .top, .top, .top, .top, .top, .top, .top, .top, .top, .top, .top, .top, .top, .top, .top, .top, .top, .top, .top, .top, .top, .top, .top, .top, .top, .top, .top, .top, .top, .top, .top, .top, .top, .top, .top, .top, .top, .top, .top, .top, .top, .top, .top, .top, .top, .top, .top, .top, .top], [], [], 0⟩ _
  refine ex_seq ?_
  refine ex_ord [0, 1, 2] (l := [0, 1, 2, 3]) rfl ?_
  refine e_ (d := .bx 0 0) 4 rfl rfl rfl rfl rfl (b' := [some [.int .i64 p1.f_Line, .int .i64 p1.f_At]]) (r' := []) (.box rfl rfl rfl) rfl ?_
  refine e_ (d := .bx 1 0) 5 rfl rfl rfl rfl rfl (b' := [some [.int .i64 p1.f_Line, .int .i64 p1.f_At], some [.int .i64 p2.f_Line, .int .i64 p2.f_At]]) (r' := []) (.box rfl rfl rfl) rfl ?_
  refine e_ (d := .own 0) 6 rfl rfl rfl rfl rfl (b' := [some [.int .i64 p1.f_Line, .int .i64 p1.f_At], some [.int .i64 p2.f_Line, .int .i64 p2.f_At]]) (r' := [some ⟨55, 4, []⟩]) (.nilRow (.inr rfl) rfl 55 4) rfl ?_
  refine p_ 7 rfl rfl rfl rfl (.assign rfl rfl) ?_
  refine we_nil ?_
  refine ex_seq ?_
  refine ex_seq ?_
  refine ex_gst ⟨[.sl false (List.map c_api_Line p0), .agg [.int .i64 p1.f_Line, .int .i64 p1.f_At], .agg [.int .i64 p2.f_Line, .int .i64 p2.f_At], .top, .cp [.int .i64 p1.f_Line, .int .i64 p1.f_At], .bx 1 0, .own 0, .int .i64 0, .top, .top, .top, .top, .top, .top, .top, .top, .top, .top, .top, .top, .top, .top, .top, .top, .top, .top, .top, .top, .top, .top, .top, .top, .top, .top, .top, .top, .top, .top, .top, .top, .top, .top, .top, .top, .top, .top, .top, .top, .top, .top, .top, .top], [none, some [.int .i64 p2.f_Line, .int .i64 p2.f_At]], [some ⟨55, 4, []⟩], 0⟩ (.shutB (b := 0) rfl (fun d h => by simpa using List.all_eq_true.1 (rfl : List.all [.int .i64 p1.f_Line, .int .i64 p1.f_At] (fun d => !d.tok) = true) d h) (.refl _)) rfl ?_
  refine ex_gst ⟨[.sl false (List.map c_api_Line p0), .agg [.int .i64 p1.f_Line, .int .i64 p1.f_At], .agg [.int .i64 p2.f_Line, .int .i64 p2.f_At], .top, .cp [.int .i64 p1.f_Line, .int .i64 p1.f_At], .cp [.int .i64 p2.f_Line, .int .i64 p2.f_At], .own 0, .int .i64 0, .top, .top, .top, .top, .top, .top, .top, .top, .top, .top, .top, .top, .top, .top, .top, .top, .top, .top, .top, .top, .top, .top, .top, .top, .top, .top, .top, .top, .top, .top, .top, .top, .top, .top, .top, .top, .top, .top, .top, .top, .top, .top, .top, .top], [none, none], [some ⟨55, 4, []⟩], 0⟩ (.shutB (b := 1) rfl (fun d h => by simpa using List.all_eq_true.1 (rfl : List.all [.int .i64 p2.f_Line, .int .i64 p2.f_At] (fun d => !d.tok) = true) d h) (.refl _)) rfl ?_
  refine ex_ord [] (l := [0, 1, 2, 3, 4]) rfl ?_
  refine p_ 10 rfl rfl rfl rfl (.move rfl rfl) ?_
  refine p_ 11 rfl rfl rfl rfl (x_loadA rfl rfl rfl sz24 un24 ag24 rfl) ?_
  refine p_ 12 rfl rfl rfl rfl (x_loadA rfl rfl rfl sz24 un24 ag24 rfl) ?_
  obtain ⟨v1, hv1, h⟩ := bindS h
  refine p_ 13 rfl rfl rfl rfl (x_callP rfl rfl en90 (ok_doc_span hv1) rfl rfl rfl rfl rfl) ?_
  refine p_ 14 rfl rfl rfl rfl (.un rfl rfl rfl) ?_
  refine we_nil ?_
  refine ex_if rfl ?_ ?_
  · intro hc
    replace h := iteT h hc
    refine ex_seq ?_
    refine ex_ord [0] (l := [0, 1]) rfl ?_
    refine e_ (d := .own 1) 6 rfl rfl rfl rfl rfl (b' := [none, none]) (r' := [some ⟨55, 4, []⟩, some ⟨55, 4, []⟩]) (.nilRow (.inr rfl) rfl 55 4) rfl ?_
    refine p_ 7 rfl rfl rfl rfl (.assign rfl rfl) ?_
    refine we_nil ?_
    refine ex_ret ?_
    obtain rfl := Option.some.inj h
    exact finB (by first | exact .inr rfl | exact .inl rfl) (.refl _) [.own 1, .int .i64 1] [1] [] (res_cons (res_tmp rfl) (res_cons (res_tmp rfl) res_nil)) rfl rfl rfl rfl rfl rfl rfl
  · intro hc
    replace h := iteF h hc
    refine ex_skip ?_
    refine ex_seq ?_
    refine ex_ord [1] (l := [0, 1, 2]) rfl ?_
    refine p_ 15 rfl rfl rfl rfl (.move rfl rfl) ?_
    obtain ⟨v2, hv2, h⟩ := bindS h
    refine e_ (d := .own 1) 16 rfl rfl rfl rfl rfl (b' := [none, none]) (r' := [some ⟨55, 4, []⟩, some ⟨55, 4, List.map c_api_Line v2⟩]) (x_call [] [] rfl rfl en32 (ok_doc_Own hv2) rfl rfl rfl rfl rfl rfl rfl rfl rfl rfl rfl rfl rfl rfl) rfl ?_
    refine p_ 8 rfl rfl rfl rfl (.assign rfl rfl) ?_
    refine we_nil ?_
    refine ex_seq ?_
    refine ex_ord [5, 6] (l := [0, 1, 2, 3, 4, 5, 6]) rfl ?_
    refine p_ 17 rfl rfl rfl rfl (.move rfl rfl) ?_
    refine p_ 18 rfl rfl rfl rfl (.fieldAddr rfl rfl rfl fl24u_0 rfl) ?_
    refine p_ 19 rfl rfl rfl rfl (x_load rfl rfl rfl sz3 un3 ag3 rfl) ?_
    obtain ⟨v3, hv3, h⟩ := bindS h
    refine p_ 20 rfl rfl rfl rfl (x_idxO (f := c_api_Line) (l := v2) rfl rfl rfl rfl rfl el22 sz55 hv3 rfl) ?_
    obtain ⟨v4, hv4, h⟩ := bindS h
    refine p_ 21 rfl rfl rfl rfl (x_loadA rfl rfl (at_ex (f := c_api_Line) (xs := v2) (c := [.int .i64 v4.f_Quote, .sl false (List.map c_i64 v4.f_Lists), .int .i64 v4.f_Kind, .sl false (List.map c_api_Cell v4.f_Cells)]) rfl rfl (getI_some hv4).2 rfl (Nat.le_of_ble_eq_true rfl)) sz55 un55 ag55 rfl) ?_
    refine e_ (d := .bx 2 0) 9 rfl rfl rfl rfl rfl (b' := [none, none, some [.int .i64 0, .sl false [], .int .i64 0, .sl false []]]) (r' := [some ⟨55, 4, []⟩, some ⟨55, 4, List.map c_api_Line v2⟩]) (.alloc rfl ze55) rfl ?_
    refine e0 rfl rfl rfl rfl rfl (b' := [none, none, some [.int .i64 v4.f_Quote, .sl false (List.map c_i64 v4.f_Lists), .int .i64 v4.f_Kind, .sl false (List.map c_api_Cell v4.f_Cells)]]) (r' := [some ⟨55, 4, []⟩, some ⟨55, 4, List.map c_api_Line v2⟩]) (.store rfl rfl rfl sz55 rfl rfl rfl) rfl ?_
    refine we_nil ?_
    refine ex_seq ?_
    refine ex_drw mo [18, 19, 21, 1001, 1002, 1003, 1004, 1005, 1006, 1007, 1008, 1010, 1011, 1012, 1013, 1014, 1015, 1016, 1017, 2020, 3018, 3019, 3021, 2100002, 2200002] (by kernel_rfl) (l := [0, 1, 2, 3, 4, 5, 6, 7, 8, 9, 10, 11, 12, 13, 14, 15, 16, 17, 18, 19, 20, 21]) rfl ?_
    refine p_ 22 rfl rfl rfl rfl (.move rfl rfl) ?_
    refine n_ 23 rfl rfl rfl (fun _ _ => .fieldAddr rfl rfl rfl fl24u_0 rfl) ?_
    refine n_ 24 rfl rfl rfl (fun _ _ => x_load rfl rfl rfl sz3 un3 ag3 rfl) ?_
    obtain ⟨v5, hv5, h⟩ := bindS h
    refine n_ 25 rfl rfl rfl (fun _ _ => x_idx (f := c_api_Line) (cs := [.int .i64 v5.f_Quote, .sl false (List.map c_i64 v5.f_Lists), .int .i64 v5.f_Kind, .sl false (List.map c_api_Cell v5.f_Cells)]) rfl rfl rfl el22 sz55 hv5 rfl rfl) ?_
    refine n_ 26 rfl rfl rfl (fun _ _ => .fieldAddr rfl rfl rfl fl55u_3 rfl) ?_
    refine n_ 27 rfl rfl rfl (fun _ _ => x_load rfl rfl rfl sz46 un46 ag46 rfl) ?_
    refine n_ 28 rfl rfl rfl (fun _ _ => .fieldAddr rfl rfl rfl fl24u_1 rfl) ?_
    refine n_ 29 rfl rfl rfl (fun _ _ => x_load rfl rfl rfl sz3 un3 ag3 rfl) ?_
    obtain ⟨v6, hv6, h⟩ := bindS h
    refine n_ 30 rfl rfl rfl (fun _ _ => x_cut rfl rfl el46 sz58 rfl ⟨_, rfl⟩ hv6 fl_api_Cell) ?_
    refine p_ 31 rfl rfl rfl rfl (.move rfl rfl) ?_
    refine n_ 32 rfl rfl rfl (fun _ _ => .fieldAddr rfl rfl rfl fl24u_0 rfl) ?_
    refine n_ 33 rfl rfl rfl (fun _ _ => x_load rfl rfl rfl sz3 un3 ag3 rfl) ?_
    obtain ⟨v7, hv7, h⟩ := bindS h
    refine n_ 34 rfl rfl rfl (fun _ _ => x_idx (f := c_api_Line) (cs := [.int .i64 v7.f_Quote, .sl false (List.map c_i64 v7.f_Lists), .int .i64 v7.f_Kind, .sl false (List.map c_api_Cell v7.f_Cells)]) rfl rfl rfl el22 sz55 hv7 rfl rfl) ?_
    refine n_ 35 rfl rfl rfl (fun _ _ => .fieldAddr rfl rfl rfl fl55u_3 rfl) ?_
    refine n_ 36 rfl rfl rfl (fun _ _ => x_load rfl rfl rfl sz46 un46 ag46 rfl) ?_
    refine n_ 37 rfl rfl rfl (fun _ _ => .fieldAddr rfl rfl rfl fl24u_1 rfl) ?_
    refine n_ 38 rfl rfl rfl (fun _ _ => x_load rfl rfl rfl sz3 un3 ag3 rfl) ?_
    obtain ⟨v8, hv8, h⟩ := bindS h
    refine n_ 39 rfl rfl rfl (fun _ _ => x_cut rfl rfl el46 sz58 ⟨_, rfl⟩ (by simp [hiIs]) hv8 fl_api_Cell) ?_
    refine e_ (d := .own 2) 40 rfl rfl rfl rfl rfl (b' := [none, none, some [.int .i64 v4.f_Quote, .sl false (List.map c_i64 v4.f_Lists), .int .i64 v4.f_Kind, .sl false (List.map c_api_Cell v4.f_Cells)]]) (r' := [some ⟨55, 4, []⟩, some ⟨55, 4, List.map c_api_Line v2⟩, some ⟨46, 1, List.map c_Lapi_Cell [v6, v8]⟩]) (x_lit (f := c_Lapi_Cell) (l := [v6, v8]) rfl el115 rw46 zs46 rfl rfl rfl (by decide) (by decide) fl_Lapi_Cell rfl) rfl ?_
    obtain ⟨v9, hv9, h⟩ := bindS h
    refine e_ (d := .own 3) 41 rfl rfl rfl rfl rfl (b' := [none, none, some [.int .i64 v4.f_Quote, .sl false (List.map c_i64 v4.f_Lists), .int .i64 v4.f_Kind, .sl false (List.map c_api_Cell v4.f_Cells)]]) (r' := [some ⟨55, 4, []⟩, some ⟨55, 4, List.map c_api_Line v2⟩, none, some ⟨58, 3, List.map c_api_Cell v9⟩]) (x_call [] [2] rfl rfl en91 (ok_slices_Concat_apiCell hv9) rfl rfl rfl rfl rfl rfl rfl rfl rfl rfl rfl rfl rfl rfl) rfl ?_
    refine r_ 42 2 rfl rfl rfl rfl rfl rfl (fun _ _ hb => .fieldAddr rfl rfl (live_bx hb) fl55u_3 rfl) ?_
    refine e0 rfl rfl rfl rfl rfl (b' := [none, none, some [.int .i64 v4.f_Quote, .sl false (List.map c_i64 v4.f_Lists), .int .i64 v4.f_Kind, .own 3]]) (r' := [some ⟨55, 4, []⟩, some ⟨55, 4, List.map c_api_Line v2⟩, none, some ⟨58, 3, List.map c_api_Cell v9⟩]) (hb := set_out 2 (some [.int .i64 v4.f_Quote, .sl false (List.map c_i64 v4.f_Lists), .int .i64 v4.f_Kind, .own 3]) rfl rfl) (.store rfl rfl rfl sz46 rfl rfl rfl) rfl ?_
    refine we_nil ?_
    refine ex_seq ?_
    refine ex_gst ⟨[.sl false (List.map c_api_Line p0), .agg [.int .i64 p1.f_Line, .int .i64 p1.f_At], .agg [.int .i64 p2.f_Line, .int .i64 p2.f_At], .top, .cp [.int .i64 p1.f_Line, .int .i64 p1.f_At], .cp [.int .i64 p2.f_Line, .int .i64 p2.f_At], .own 0, .int .i64 0, .own 1, .bx 2 0, .sl false (List.map c_api_Line p0), .agg [.int .i64 p1.f_Line, .int .i64 p1.f_At], .agg [.int .i64 p2.f_Line, .int .i64 p2.f_At], .bool v1, .bool (!v1), .sl false (List.map c_api_Line p0), .own 1, .own 1, .cp [.int .i64 p1.f_Line, .int .i64 p1.f_At], .int .i64 p1.f_Line, .ex 1 (Int.toNat p1.f_Line) 0, .agg [.int .i64 v4.f_Quote, .sl false (List.map c_i64 v4.f_Lists), .int .i64 v4.f_Kind, .sl false (List.map c_api_Cell v4.f_Cells)], .sl false (List.map c_api_Line p0), .cp [.int .i64 p1.f_Line, .int .i64 p1.f_At], .int .i64 p1.f_Line, .cp [.int .i64 v5.f_Quote, .sl false (List.map c_i64 v5.f_Lists), .int .i64 v5.f_Kind, .sl false (List.map c_api_Cell v5.f_Cells)], .cp [.sl false (List.map c_api_Cell v5.f_Cells)], .sl false (List.map c_api_Cell v5.f_Cells), .cp [.int .i64 p1.f_At], .int .i64 p1.f_At, .sl false (List.map c_api_Cell v6), .sl false (List.map c_api_Line p0), .cp [.int .i64 p2.f_Line, .int .i64 p2.f_At], .int .i64 p2.f_Line, .cp [.int .i64 v7.f_Quote, .sl false (List.map c_i64 v7.f_Lists), .int .i64 v7.f_Kind, .sl false (List.map c_api_Cell v7.f_Cells)], .cp [.sl false (List.map c_api_Cell v7.f_Cells)], .sl false (List.map c_api_Cell v7.f_Cells), .cp [.int .i64 p2.f_At], .int .i64 p2.f_At, .sl false (List.map c_api_Cell v8), .own 2, .sl false (List.map c_api_Cell v9), .bx 2 3, .top, .top, .top, .top, .top, .top, .top, .top, .top], [none, none, some [.int .i64 v4.f_Quote, .sl false (List.map c_i64 v4.f_Lists), .int .i64 v4.f_Kind, .sl false (List.map c_api_Cell v9)]], [some ⟨55, 4, []⟩, some ⟨55, 4, List.map c_api_Line v2⟩, none, none], 0⟩ (.shutR false (t := 3) rfl (.refl _)) rfl ?_
    refine ex_ord [7, 8] (l := [0, 1, 2, 3, 4, 5, 6, 7, 8, 9, 10]) rfl ?_
    refine p_ 43 rfl rfl rfl rfl (.move rfl rfl) ?_
    refine p_ 44 rfl rfl rfl rfl (.fieldAddr rfl rfl rfl fl24u_0 rfl) ?_
    refine p_ 45 rfl rfl rfl rfl (x_load rfl rfl rfl sz3 un3 ag3 rfl) ?_
    refine p_ 46 rfl rfl rfl rfl (.fieldAddr rfl rfl rfl fl24u_0 rfl) ?_
    refine p_ 47 rfl rfl rfl rfl (x_load rfl rfl rfl sz3 un3 ag3 rfl) ?_
    refine p_ 48 rfl rfl rfl rfl (.bin rfl rfl rfl rfl) ?_
    refine p_ 49 rfl rfl rfl rfl (x_loadA rfl rfl rfl sz55 un55 ag55 rfl) ?_
    refine e_ (d := .sl false (List.map c_api_Line [(T_api_Line.mk (v4.f_Quote) (v4.f_Lists) (v4.f_Kind) (v9) : T_api_Line)])) 50 rfl rfl rfl rfl rfl (b' := [none, none, some [.int .i64 v4.f_Quote, .sl false (List.map c_i64 v4.f_Lists), .int .i64 v4.f_Kind, .sl false (List.map c_api_Cell v9)]]) (r' := [some ⟨55, 4, []⟩, some ⟨55, 4, List.map c_api_Line v2⟩, none, none, none]) (x_litF (f := c_api_Line) (l := [(T_api_Line.mk (v4.f_Quote) (v4.f_Lists) (v4.f_Kind) (v9) : T_api_Line)]) rfl el22 rw55 zs55 rfl rfl rfl (by decide) (by decide) fl_api_Line rfl) rfl ?_
    obtain ⟨v10, hv10, h⟩ := bindS h
    refine e_ (d := .own 5) 51 rfl rfl rfl rfl rfl (b' := [none, none, some [.int .i64 v4.f_Quote, .sl false (List.map c_i64 v4.f_Lists), .int .i64 v4.f_Kind, .sl false (List.map c_api_Cell v9)]]) (r' := [some ⟨55, 4, []⟩, none, none, none, none, some ⟨55, 4, List.map c_api_Line v10⟩]) (x_call [] [1] rfl rfl en92 (ok_slices_Replace_apiLine hv10) rfl rfl rfl rfl rfl rfl rfl rfl rfl rfl rfl rfl rfl rfl) rfl ?_
    refine p_ 6 rfl rfl rfl rfl (.assign rfl rfl) ?_
    refine p_ 7 rfl rfl rfl rfl (.assign rfl rfl) ?_
    refine we_nil ?_
    refine ex_ret ?_
    obtain rfl := Option.some.inj h
    exact finB (by first | exact .inr rfl | exact .inl rfl) (.refl _) [.own 5, .int .i64 0] [5] [] (res_cons (res_tmp rfl) (res_cons (res_tmp rfl) res_nil)) rfl rfl rfl rfl rfl rfl rfl
end Go.PM
