/-
  PROVED: quillworklaw07.DocParts answers true at every input, changes nothing that was there, and its arguments read behind the call as they did before; the listed package-level variables hold what the program's text lays (the tied card). Conditions: none but the given row's own.
-/
import Derived.Test.YtimlobidpkglkaaGreatDoorCards
import Derived.Test.YtimlobidpkglkaaGreatDoorTie
import Derived.WalkKit
import Derived.ProofKit
import Derived.OpenShut
import Derived.Deep.DeepHandedRow
import Derived.Lib.LaidTab
import Derived.PinnedBridge
import Derived.Lib.LaidU8
import Derived.Test.YtimlobidpkglkaaGreatDoorQDocPartsW4
import Derived.Test.YtimlobidpkglkaaGreatDoorQDocPartsP
set_option linter.unusedVariables false
set_option linter.unusedSimpArgs false
set_option linter.unusedSectionVars false
set_option linter.unnecessarySimpa false
namespace Go.Proofs.YtimlobidpkglkaaGreatDoor.docParts
open Go.ChangeShapes Go.WideShapes Go.ChangeAt Go.RowKit Go.PM Go.Proofs.Tryz
set_option linter.unusedVariables false
set_option linter.unusedSimpArgs false
set_option maxRecDepth 100000
theorem dn_i64u_3 : Dn prog 3 1 (fun n : Int => [.int .i64 n]) good_i64 := dn_int (by kernel_rfl) (by kernel_rfl)
theorem dn_Li64u_53 : Dn prog 53 1 (fun l : List (Int) => [.sl false (List.map c_i64 l)]) good_Li64 := by
  have := dn_slice (f := c_i64) dn_i64u_3 (by decide) (t := 53) (by kernel_rfl) (by kernel_rfl)
  have hb : prog.bytesOf 3 = 8 := by kernel_rfl
  rw [hb] at this; exact this
theorem dn_i32u_21 : Dn prog 21 1 (fun n : Int => [.int .i32 n]) good_i32 := dn_int (by kernel_rfl) (by kernel_rfl)
theorem dn_s_9 : Dn prog 9 1 (fun s : List UInt8 => [.str (bs s)]) good_s := dn_str (by kernel_rfl) (by kernel_rfl)
theorem dn_api_Cell_58 : Dn prog 58 3 c_api_Cell good_api_Cell := dn_struct (fs := [(21, 0), (3, 1), (9, 2)]) (α := Int × Int × (List UInt8) × Unit) (γ := T_api_Cell) (fun x => T_api_Cell.mk x.1 x.2.1 x.2.2.1) (good' := good_api_Cell) (by kernel_rfl) (by kernel_rfl) (dnf_cons dn_i32u_21 (dnf_cons dn_i64u_3 (dnf_cons dn_s_9 dnf_nil))) (fun _ => rfl) (fun _ => rfl) (fun _ h => h)
theorem dn_Lapi_Cell_46 : Dn prog 46 1 (fun l : List (T_api_Cell) => [.sl false (List.map c_api_Cell l)]) good_Lapi_Cell := by
  have := dn_slice (f := c_api_Cell) dn_api_Cell_58 (by decide) (t := 46) (by kernel_rfl) (by kernel_rfl)
  have hb : prog.bytesOf 58 = 32 := by kernel_rfl
  rw [hb] at this; exact this
theorem dn_api_Line_55 : Dn prog 55 4 c_api_Line good_api_Line := dn_struct (fs := [(3, 0), (53, 1), (3, 2), (46, 3)]) (α := Int × (List (Int)) × Int × (List (T_api_Cell)) × Unit) (γ := T_api_Line) (fun x => T_api_Line.mk x.1 x.2.1 x.2.2.1 x.2.2.2.1) (good' := good_api_Line) (by kernel_rfl) (by kernel_rfl) (dnf_cons dn_i64u_3 (dnf_cons dn_Li64u_53 (dnf_cons dn_i64u_3 (dnf_cons dn_Lapi_Cell_46 dnf_nil)))) (fun _ => rfl) (fun _ => rfl) (fun _ h => h)
theorem dn_Lapi_Line_22 : Dn prog 22 1 (fun l : List (T_api_Line) => [.sl false (List.map c_api_Line l)]) good_Lapi_Line := by
  have := dn_slice (f := c_api_Line) dn_api_Line_55 (by decide) (t := 22) (by kernel_rfl) (by kernel_rfl)
  have hb : prog.bytesOf 55 = 64 := by kernel_rfl
  rw [hb] at this; exact this
theorem dn_api_Pos_24 : Dn prog 24 2 c_api_Pos good_api_Pos := dn_struct (fs := [(3, 0), (3, 1)]) (α := Int × Int × Unit) (γ := T_api_Pos) (fun x => T_api_Pos.mk x.1 x.2.1) (good' := good_api_Pos) (by kernel_rfl) (by kernel_rfl) (dnf_cons dn_i64u_3 (dnf_cons dn_i64u_3 dnf_nil)) (fun _ => rfl) (fun _ => rfl) (fun _ h => h)
theorem dna : DnA prog [22, 24, 24, 24] (fun x : (List (T_api_Line)) × T_api_Pos × T_api_Pos × T_api_Pos × Unit => [.sl false (List.map c_api_Line x.1), .agg (c_api_Pos x.2.1), .agg (c_api_Pos x.2.2.1), .agg (c_api_Pos x.2.2.2.1)]) (fun x => good_Lapi_Line x.1 ∧ good_api_Pos x.2.1 ∧ good_api_Pos x.2.2.1 ∧ good_api_Pos x.2.2.2.1 ∧ True) := (dna_cons (dnv_one dn_Lapi_Line_22 (fun _ => rfl) (cells_slice (u := 55) (by kernel_rfl))) (dna_cons (dnv_agg dn_api_Pos_24 (by kernel_rfl)) (dna_cons (dnv_agg dn_api_Pos_24 (by kernel_rfl)) (dna_cons (dnv_agg dn_api_Pos_24 (by kernel_rfl)) dna_nil))))
/-- THE LAW, told of the plain data: the Go function answers true. -/
theorem law (x : (List (T_api_Line)) × T_api_Pos × T_api_Pos × T_api_Pos × Unit) (h : good_Lapi_Line x.1 ∧ good_api_Pos x.2.1 ∧ good_api_Pos x.2.2.1 ∧ good_api_Pos x.2.2.2.1 ∧ True) : OkB prog 7 [.sl false (List.map c_api_Line x.1), .agg (c_api_Pos x.2.1), .agg (c_api_Pos x.2.2.1), .agg (c_api_Pos x.2.2.2.1)] [] [] (.bool true) [] [] := by
  obtain ⟨a0, a1, a2, a3, _⟩ := x
  obtain ⟨h0, h1, h2, h3, _⟩ := h
  exact ok_quillworklaw07u_DocParts (DocParts_law h0 h1 h2 h3)
theorem own : ownKnob prog.godebug = none := by kernel_rfl
theorem contract (H : Type) (enc : TypeId × Value → H) (W : World) (base : Nat) (args : Array Value) (ds gs : List (DataW H)) (before : List MemPlace)
    (hval : ∀ (j : Nat) t v, f7.params[j]? = some t → args[j]? = some v → Value.okWide prog W .any base t v)
    (hW : DataW.Whole enc prog f7.params.toList Rows.docPartsSpec.vars false W args.toList ds gs before)
    (hwo : (DataW.weightsEach prog (f7.params.toList ++ []) (ds ++ gs)).all (· ≤ reachBytes) = true) (hTB : TB W) :
    Calls prog 7 args W fun e W' => ∃ v, e = .returned v ∧ Rows.docPartsSpec.post enc prog f7 false true false false W args v W' :=
  contract_true (tb := 4) dna law (by rw [params7]) (by kernel_rfl) (by kernel_rfl) rfl (fun H ds h => by
    match ds, h with
    | [d0, d1, d2, d3], _ => rfl) (by kernel_rfl) (by kernel_rfl) hval hW hwo hTB
/-- A variable's cells, out of its datum. -/
def flatV : Nat → DataW Unit → List Value
  | 0, _ => []
  | n + 1, .agg l => l.flatMap (flatV n)
  | _ + 1, .lit (.int k m) => [.int k m]
  | _ + 1, _ => []
theorem cell_lt {w : World} {b o : Nat} {s : Option Nat} {v : Value} (h : w.cell? ⟨b, o, s⟩ = some v) : b < w.heap.size := by
  apply Decidable.byContradiction
  intro hn
  have h1 : w.heap[b]? = none := Array.getElem?_eq_none (by omega)
  unfold World.cell? at h
  simp [h1] at h
theorem accept_eq : (Rows.laid_unicode_utf8_acceptRanges : DataW Unit) = Lib.acceptData := by kernel_rfl
theorem tabs {W : World} (hL : laidMet prog Rows.docPartsRow.laid W) (hsh : W.ShapedOpen prog) : TB W := by
  obtain ⟨m, hm⟩ := Tryz.laysM145.s1_3 W hsh
  have h3 := Lib.laidMet.reads hL (n := "unicode/utf8.first") (d := Rows.laid_unicode_utf8_first) (.tail _ (.head _))
  have h4 := Lib.laidMet.reads hL (n := "unicode/utf8.acceptRanges") (d := Rows.laid_unicode_utf8_acceptRanges) (.head _)
  rw [accept_eq] at h4
  unfold Rows.laid_unicode_utf8_first at h3
  rw [Pinned.utf8First_eq] at h3
  exact ⟨⟨utf8Tabs_of_reads Tryz.lays260 Tryz.U8x h3 h4, m, hm⟩, cell_lt hm⟩
def setO (cs : Array Value) : Obj → Obj
  | .cells _ t frozen => .cells cs t frozen
  | o => o
noncomputable def laidWorld (os : Os) : World :=
  { World.holding prog os ⟨#[], #[], []⟩ with heap := (((World.holding prog os ⟨#[], #[], []⟩).heap).modify 1 (setO (flatV 6 (Rows.laid_unicode_utf8_acceptRanges : DataW Unit)).toArray)).modify 0 (setO (flatV 6 (Rows.laid_unicode_utf8_first : DataW Unit)).toArray) }
set_option maxRecDepth 100000 in
theorem laid_met (os : Os) : laidMet prog Rows.docPartsRow.laid ((laidWorld os).forCall (fun _ _ => 0) ⟨#[], #[.slice none 0 0, .agg #[.int .i64 0, .int .i64 0], .agg #[.int .i64 0, .int .i64 0], .agg #[.int .i64 0, .int .i64 0]], []⟩).memory :=
  laidMet_of_run' 8 (by kernel_rfl) (by kernel_rfl)
theorem reads (os : Os) {H : Type} (enc : TypeId × Value → H) : ∃ places, DataW.whole enc prog ((laidWorld os).forCall (fun _ _ => 0) ⟨#[], #[.slice none 0 0, .agg #[.int .i64 0, .int .i64 0], .agg #[.int .i64 0, .int .i64 0], .agg #[.int .i64 0, .int .i64 0]], []⟩).memory f7.params.toList Rows.docPartsSpec.vars false (#[.slice none 0 0, .agg #[.int .i64 0, .int .i64 0], .agg #[.int .i64 0, .int .i64 0], .agg #[.int .i64 0, .int .i64 0]] : Array Value).toList 8 = some ([.nil, .agg [.lit (.int .i64 0), .lit (.int .i64 0)], .agg [.lit (.int .i64 0), .lit (.int .i64 0)], .agg [.lit (.int .i64 0), .lit (.int .i64 0)]], [], places) :=
  ⟨[], by kernel_rfl⟩
set_option maxRecDepth 100000 in
theorem lifted (os : Os) (started : os.Started) (H : Type) (enc : TypeId × Value → H) (F : Stop.Interp) :
    ReturnsInHanded {} Tryz.checked os 7 .any ((OpenSpec.ofChange Rows.docPartsSpec).preRow enc prog f7 Rows.docPartsRow.domain false Rows.docPartsRow.laid) (((OpenSpec.ofChange Rows.docPartsSpec).at F).post enc prog f7 false true false false) := by
  obtain ⟨places, hx⟩ := reads os enc
  refine returnsInHanded_of_row (C := Tryz.checked) (s := OpenSpec.ofChange Rows.docPartsSpec) own started (by kernel_rfl) func7
    (witness_row_at (enc := enc) (C := Tryz.checked) false (laidWorld os) #[.slice none 0 0, .agg #[.int .i64 0, .int .i64 0], .agg #[.int .i64 0, .int .i64 0], .agg #[.int .i64 0, .int .i64 0]] rfl (by kernel_rfl) (by kernel_rfl) (by kernel_rfl)
      (OpenSpec.preRow_of_cond 8 hx (by kernel_rfl) (fun k hk => by cases hk) (by kernel_rfl) (laid_met os))) ?_
  intro W base args ds gs before hval hW _ _ hwo hL hsh _
  exact contract H enc W base args ds gs before hval hW hwo (tabs hL hsh)
theorem said : Rows.DocPartsSaid :=
  OpenClaim.holds_of_cond 7 f7 rfl rfl rfl rfl rfl rfl rfl ⟨rfl, rfl, rfl, rfl, rfl⟩ rfl rfl rfl rfl rfl (by kernel_rfl) func7 (by kernel_rfl)
    (of_decide_eq_true (by kernel_rfl)) (by unfold Func.isWrapper; first | (rw [if_pos (by decide +kernel)]; kernel_rfl) | (rw [if_neg (by decide +kernel)]; exact ⟨rfl, rfl⟩))
    (fun os started H enc _ F => by rw [OpenClaim.pre_eq_preRow]; exact lifted os started H enc F)
theorem plain (f : FuncId) (fn : Func) (hf : Tryz.pinned.checked.prog.funcNamed "quillwork/quillworklaw07.DocParts" = some f) (hfn : Tryz.pinned.checked.prog.funcs[f]? = some fn) :
    false = Tryz.pinned.checked.prog.looks [] ∧ ∀ (j : Nat) t, fn.params[j]? = some t → Tryz.pinned.checked.prog.wantsStandIn t = false := by
  obtain rfl : f = 7 := Option.some.inj ((show prog.funcNamed "quillwork/quillworklaw07.DocParts" = some 7 by kernel_rfl).symm.trans hf) |>.symm
  obtain rfl : fn = f7 := (Option.some.inj (func7.symm.trans hfn)).symm
  refine ⟨by kernel_rfl, fun j t ht => ?_⟩
  rw [params7] at ht
  have hm := Array.mem_of_getElem? ht
  have hall : ([22, 24, 24, 24] : List TypeId).all (fun t => !prog.wantsStandIn t) = true := by kernel_rfl
  have := List.all_eq_true.1 hall t (by simpa using hm)
  show prog.wantsStandIn t = false
  simpa using this
/-- THE CARD. -/
theorem card : Rows.DocPartsCardSaid :=
  Claim7.holds_tied_plain_at .later [] _ _ _ _ said (fun _ h => by cases h) (by kernel_rfl) (fun _ h => by cases h) docParts_row_tie rfl ⟨rfl, rfl⟩ (by kernel_rfl) rfl plain (by kernel_rfl)
end Go.Proofs.YtimlobidpkglkaaGreatDoor.docParts
