/-
  The plain law of quillworklaw07.DocSame: its plain Lean function answers true at every input. No condition but that lengths are at most 2^63 - 1.
-/
import Derived.Test.YtimlobidpkglkaaGreatDoorQDocSameD
set_option linter.unusedVariables false
set_option linter.unusedSimpArgs false
set_option linter.unusedSectionVars false
set_option linter.unnecessarySimpa false
namespace Go.PM
set_option maxRecDepth 100000
theorem awake_true : quillworklaw07u_awake = some true := by kernel_rfl
end Go.PM

/- Plain laws of the printed loops. -/
namespace Go.PM
/-- A loop that goes through numbers, and leaves at the first that is not so. -/
theorem iter_scan {ρ : Type} {step : Int → Option (Int ⊕ ρ)} {len : Nat} {p : Nat → Bool} {yes no : ρ} (h1 : ∀ i : Nat, i < len → step (i : Int) = some (if p i then .inl ((i + 1 : Nat) : Int) else .inr no)) (h2 : step (len : Int) = some (.inr yes)) :
    ∀ (n i : Nat), i ≤ len → len - i < n → iter step n (i : Int) = some (if (List.range' i (len - i)).all p then yes else no)
  | 0, i, _, hn => by omega
  | n + 1, i, hi, hn => by
    unfold iter
    by_cases h : i = len
    · subst h
      rw [h2]; simp
    · rw [h1 i (by omega)]
      have h3 : len - i = (len - (i + 1)) + 1 := by omega
      rw [h3, List.range'_succ, List.all_cons]
      cases hp : p i with
      | false => simp
      | true =>
        simp only [if_true, Bool.true_and]
        exact iter_scan h1 h2 n (i + 1) (by omega) (by omega)
end Go.PM

/- Plain laws: rows compared one by one. -/
namespace Go.PM
set_option linter.unusedVariables false
def scP {α : Type} (eq : α → α → Bool) (p q : List α) (i : Nat) : Bool := match p[i]?, q[i]? with | some x, some y => eq x y | _, _ => true
def sc {α : Type} (eq : α → α → Bool) (p q : List α) : Bool := p.length == q.length && (List.range' 0 p.length).all (scP eq p q)
theorem sc_refl {α : Type} {eq : α → α → Bool} (h : ∀ x, eq x x = true) (p : List α) : sc eq p p = true := by
  unfold sc scP
  simp only [beq_self_eq_true, Bool.true_and, List.all_eq_true]
  intro i _
  cases p[i]? with
  | none => rfl
  | some x => exact h x
theorem sc_comm {α : Type} {eq : α → α → Bool} (h : ∀ x y, eq x y = eq y x) (p q : List α) : sc eq p q = sc eq q p := by
  unfold sc
  by_cases hl : p.length = q.length
  · rw [hl]
    have : scP eq p q = scP eq q p := by
      funext i
      unfold scP
      cases p[i]? <;> cases q[i]? <;> simp [h]
    rw [this]
  · have h1 : (p.length == q.length) = false := by simpa using hl
    have h2 : (q.length == p.length) = false := by simpa using fun h => hl h.symm
    rw [h1, h2]; simp
theorem wrap_small {n : Nat} (h : n < 9223372036854775807) : IntKind.wrap .i64 ((n : Int) + 1) = ((n + 1 : Nat) : Int) := by
  rw [IntKind.wrap_i64]; omega
theorem iter_sc {α : Type} {eq : α → α → Bool} {p q : List α} {step : Int → Option (Int ⊕ (Unit ⊕ Unit))} (hl : p.length = q.length) (hf : p.length ≤ 9223372036854775807)
    (hs : ∀ (i : Nat) (x y : α), p[i]? = some x → q[i]? = some y → i < p.length → step (i : Int) = some (if eq x y then .inl ((i + 1 : Nat) : Int) else .inr (.inl ()))) (he : step (p.length : Int) = some (.inr (.inr ()))) :
    iter step fuel 0 = some (if (List.range' 0 p.length).all (scP eq p q) then .inr () else .inl ()) := by
  have := iter_scan (step := step) (len := p.length) (p := scP eq p q) (yes := .inr ()) (no := .inl ()) (fun i hi => by
    have h1 := List.getElem?_eq_getElem hi
    have h2 := List.getElem?_eq_getElem (show i < q.length by omega)
    rw [hs i _ _ h1 h2 hi]
    unfold scP; rw [h1, h2]) he fuel 0 (Nat.zero_le _) (by unfold fuel; omega)
  simpa using this
theorem getI_nat {α : Type} {l : List α} {i : Nat} {x : α} (h : l[i]? = some x) : getI l (i : Int) = some x := by
  unfold getI; rw [if_pos (by omega)]; simpa using h
theorem slices_Equal_int_eq {p q : List Int} (hf : p.length ≤ 9223372036854775807) : slices_Equal_int p q = some (sc (fun x y => x == y) p q) := by
  unfold slices_Equal_int
  by_cases hl : p.length = q.length
  · rw [if_neg (by simp [hl])]
    rw [iter_sc (eq := fun x y => x == y) hl hf (fun i x y h1 h2 hi => by
      unfold slices_Equal_int_l1
      rw [if_pos (by simp; exact hi), getI_nat h1, getI_nat h2]
      simp only [Option.bind_some]
      by_cases e : x = y
      · subst e; simp [wrap_small (show i < 9223372036854775807 by omega)]
      · simp [e]) (by unfold slices_Equal_int_l1; simp)]
    unfold sc
    rw [hl]
    simp only [Option.bind_some, beq_self_eq_true, Bool.true_and]
    cases (List.range' 0 q.length).all (scP (fun x y => x == y) p q) <;> rfl
  · rw [if_pos (by simp; omega)]
    unfold sc
    have : (p.length == q.length) = false := by simpa using hl
    rw [this]; rfl
end Go.PM

/- Plain laws: documents that are the same. -/
namespace Go.PM
set_option linter.unusedVariables false
set_option linter.unusedSimpArgs false
def eqC (x y : T_api_Cell) : Bool := x.f_R == y.f_R && (x.f_Bits == y.f_Bits && x.f_Href == y.f_Href)
theorem slices_Equal_apiCell_eq {p q : List T_api_Cell} (hf : p.length ≤ 9223372036854775807) : slices_Equal_apiCell p q = some (sc eqC p q) := by
  unfold slices_Equal_apiCell
  by_cases hl : p.length = q.length
  · rw [if_neg (by simp [hl])]
    rw [iter_sc (eq := eqC) hl hf (fun i x y h1 h2 hi => by
      unfold slices_Equal_apiCell_l1
      rw [if_pos (by simp; exact hi)]
      simp only [getI_nat h1, getI_nat h2, Option.bind_some, wrap_small (show i < 9223372036854775807 by omega)]
      unfold eqC; simp only [Bool.and_true]; cases (x.f_R == y.f_R && (x.f_Bits == y.f_Bits && x.f_Href == y.f_Href)) <;> simp) (by unfold slices_Equal_apiCell_l1; simp)]
    unfold sc
    rw [hl]
    simp only [Option.bind_some, beq_self_eq_true, Bool.true_and]
    cases (List.range' 0 q.length).all (scP eqC p q) <;> rfl
  · rw [if_pos (by simp; omega)]
    unfold sc
    have : (p.length == q.length) = false := by simpa using hl
    rw [this]; rfl
theorem quillworkref05u_Same_eq {p q : List T_api_Cell} (hf : p.length ≤ 9223372036854775807) : quillworkref05u_Same p q = some (sc eqC p q) := by
  unfold quillworkref05u_Same
  by_cases hl : p.length = q.length
  · rw [if_neg (by simp [hl])]
    rw [iter_sc (eq := eqC) hl hf (fun i x y h1 h2 hi => by
      unfold quillworkref05u_Same_l1
      rw [if_pos (by simp; exact hi)]
      simp only [getI_nat h1, getI_nat h2, Option.bind_some, wrap_small (show i < 9223372036854775807 by omega)]
      unfold eqC; by_cases e1 : x.f_R = y.f_R <;> by_cases e2 : x.f_Bits = y.f_Bits <;> cases e3 : (x.f_Href == y.f_Href) <;> simp [e1, e2, e3]) (by unfold quillworkref05u_Same_l1; simp)]
    unfold sc
    rw [hl]
    simp only [Option.bind_some, beq_self_eq_true, Bool.true_and]
    cases (List.range' 0 q.length).all (scP eqC p q) <;> rfl
  · rw [if_pos (by simp; omega)]
    unfold sc
    have : (p.length == q.length) = false := by simpa using hl
    rw [this]; rfl
theorem quillworkref06u_ints_eq {p q : List Int} (hf : p.length ≤ 9223372036854775807) : quillworkref06u_ints p q = some (sc (fun x y => x == y) p q) := by
  unfold quillworkref06u_ints
  by_cases hl : p.length = q.length
  · rw [if_neg (by simp [hl])]
    rw [iter_sc (eq := (fun x y => x == y)) hl hf (fun i x y h1 h2 hi => by
      unfold quillworkref06u_ints_l1
      rw [if_pos (by simp; exact hi)]
      simp only [getI_nat h1, getI_nat h2, Option.bind_some, wrap_small (show i < 9223372036854775807 by omega)]
      by_cases e : x = y <;> simp [e]) (by unfold quillworkref06u_ints_l1; simp)]
    unfold sc
    rw [hl]
    simp only [Option.bind_some, beq_self_eq_true, Bool.true_and]
    cases (List.range' 0 q.length).all (scP (fun x y => x == y) p q) <;> rfl
  · rw [if_pos (by simp; omega)]
    unfold sc
    have : (p.length == q.length) = false := by simpa using hl
    rw [this]; rfl
end Go.PM

/- Plain laws: DocSame. -/
namespace Go.PM
set_option linter.unusedVariables false
set_option linter.unusedSimpArgs false
structure OkL (l : T_api_Line) : Prop where
  lists : l.f_Lists.length ≤ 9223372036854775807
  cells : l.f_Cells.length ≤ 9223372036854775807
def eqL (x y : T_api_Line) : Bool := x.f_Quote == y.f_Quote && (x.f_Kind == y.f_Kind && (sc (fun a b => a == b) x.f_Lists y.f_Lists && sc eqC x.f_Cells y.f_Cells))
theorem lines_Same_eq {x y : T_api_Line} (h : OkL x) : lines_Same x y = some (eqL x y) := by
  unfold lines_Same cells_Same eqL
  rw [slices_Equal_int_eq h.lists, slices_Equal_apiCell_eq h.cells]
  by_cases e1 : x.f_Quote = y.f_Quote <;> by_cases e2 : x.f_Kind = y.f_Kind <;> cases e3 : sc (fun a b => a == b) x.f_Lists y.f_Lists <;> simp [e1, e2, e3]
theorem ref06u_Same_eq {x y : T_api_Line} (h : OkL x) : quillworkref06u_Same x y = some (eqL x y) := by
  unfold quillworkref06u_Same eqL
  rw [quillworkref06u_ints_eq h.lists, quillworkref05u_Same_eq h.cells]
  by_cases e1 : x.f_Quote = y.f_Quote <;> by_cases e2 : x.f_Kind = y.f_Kind <;> cases e3 : sc (fun a b => a == b) x.f_Lists y.f_Lists <;> simp [e1, e2, e3]
theorem slices_EqualFunc_apiLine_apiLine_eq {p q : List T_api_Line} (hf : p.length ≤ 9223372036854775807) (hb : ∀ x ∈ p, OkL x) : slices_EqualFunc_apiLine_apiLine p q (fun x0 x1 => lines_Same x0 x1) = some (sc eqL p q) := by
  unfold slices_EqualFunc_apiLine_apiLine
  by_cases hl : p.length = q.length
  · rw [if_neg (by simp [hl])]
    rw [iter_sc (eq := eqL) hl hf (fun i x y h1 h2 hi => by
      unfold slices_EqualFunc_apiLine_apiLine_l1
      rw [if_pos (by simp; exact hi)]
      simp only [getI_nat h1, getI_nat h2, Option.bind_some, wrap_small (show i < 9223372036854775807 by omega), lines_Same_eq (hb x (List.mem_of_getElem? h1))]
      cases eqL x y <;> simp) (by unfold slices_EqualFunc_apiLine_apiLine_l1; simp)]
    unfold sc
    rw [hl]
    simp only [Option.bind_some, beq_self_eq_true, Bool.true_and]
    cases (List.range' 0 q.length).all (scP eqL p q) <;> rfl
  · rw [if_pos (by simp; omega)]
    unfold sc
    have : (p.length == q.length) = false := by simpa using hl
    rw [this]; rfl
theorem quillworkref07u_Same_eq {p q : List T_api_Line} (hf : p.length ≤ 9223372036854775807) (hb : ∀ x ∈ p, OkL x) : quillworkref07u_Same p q = some (sc eqL p q) := by
  unfold quillworkref07u_Same
  by_cases hl : p.length = q.length
  · rw [if_neg (by simp [hl])]
    rw [iter_sc (eq := eqL) hl hf (fun i x y h1 h2 hi => by
      unfold quillworkref07u_Same_l1
      rw [if_pos (by simp; exact hi)]
      simp only [getI_nat h1, getI_nat h2, Option.bind_some, wrap_small (show i < 9223372036854775807 by omega), ref06u_Same_eq (hb x (List.mem_of_getElem? h1))]
      cases eqL x y <;> simp) (by unfold quillworkref07u_Same_l1; simp)]
    unfold sc
    rw [hl]
    simp only [Option.bind_some, beq_self_eq_true, Bool.true_and]
    cases (List.range' 0 q.length).all (scP eqL p q) <;> rfl
  · rw [if_pos (by simp; omega)]
    unfold sc
    have : (p.length == q.length) = false := by simpa using hl
    rw [this]; rfl
theorem doc_Same_eq {p q : List T_api_Line} (hf : p.length ≤ 9223372036854775807) (hb : ∀ x ∈ p, OkL x) : doc_Same p q = some (sc eqL p q) := by
  unfold doc_Same
  rw [slices_EqualFunc_apiLine_apiLine_eq hf hb]; rfl
theorem eqC_refl (x : T_api_Cell) : eqC x x = true := by simp [eqC]
theorem eqC_comm (x y : T_api_Cell) : eqC x y = eqC y x := by
  unfold eqC; rw [Bool.beq_comm (a := x.f_R), Bool.beq_comm (a := x.f_Bits), Bool.beq_comm (a := x.f_Href)]
theorem eqL_refl (x : T_api_Line) : eqL x x = true := by
  unfold eqL; rw [sc_refl (fun a => by simp), sc_refl eqC_refl]; simp
theorem eqL_comm (x y : T_api_Line) : eqL x y = eqL y x := by
  unfold eqL
  rw [Bool.beq_comm (a := x.f_Quote), Bool.beq_comm (a := x.f_Kind), sc_comm (fun a b => Bool.beq_comm) x.f_Lists, sc_comm eqC_comm x.f_Cells]
theorem DocSame_true {p q : List T_api_Line} (hfp : p.length ≤ 9223372036854775807) (hbp : ∀ x ∈ p, OkL x) (hfq : q.length ≤ 9223372036854775807) (hbq : ∀ x ∈ q, OkL x) {a b : Bool} (ha : quillworklaw07u_long p = some a) (hb : quillworklaw07u_long q = some b) : quillworklaw07u_DocSame p q = some true := by
  unfold quillworklaw07u_DocSame
  rw [ha, hb, doc_Same_eq hfp hbp, doc_Same_eq hfq hbq, doc_Same_eq hfp hbp, quillworkref07u_Same_eq hfp hbp, awake_true, sc_comm eqL_comm q p, sc_refl eqL_refl]
  cases a <;> cases b <;> simp
end Go.PM

/- Plain laws: long answers. -/
namespace Go.PM
set_option linter.unusedVariables false
set_option linter.unusedSimpArgs false
theorem iter_some {σ ρ : Type} {step : σ → Option (σ ⊕ ρ)} {inv : σ → Nat → Prop} (h : ∀ s m, inv s m → (∃ r, step s = some (.inr r)) ∨ ∃ s' m', step s = some (.inl s') ∧ inv s' m' ∧ m' < m) : ∀ (n : Nat) (s : σ) (m : Nat), inv s m → m < n → ∃ r, iter step n s = some r
  | 0, s, m, _, hn => by omega
  | n + 1, s, m, hi, hn => by
    unfold iter
    rcases h s m hi with ⟨r, h1⟩ | ⟨s', m', h1, h2, h3⟩
    · rw [h1]; exact ⟨r, rfl⟩
    · rw [h1]; exact iter_some h n s' m' h2 (by omega)
theorem long_l4u_some {p : List T_api_Line} {j : Nat} {l : T_api_Line} (hl : p[j]? = some l) (ho : OkL l) (n : Int) : ∃ r, iter (fun s => quillworkref07u_Long_l4 p (j : Int) s.1 s.2) fuel (n, 0) = some r := by
  refine iter_some (inv := fun s m => ∃ k : Nat, s.2 = (k : Int) ∧ k ≤ l.f_Cells.length ∧ m = l.f_Cells.length - k) ?_ fuel (n, 0) l.f_Cells.length ⟨0, rfl, by omega, by omega⟩ (by have := ho.cells; unfold fuel; omega)
  rintro ⟨a, b⟩ m ⟨k, rfl, h1, rfl⟩
  simp only [quillworkref07u_Long_l4, getI_nat hl, Option.bind_some]
  by_cases hk : k < l.f_Cells.length
  · by_cases ha : a ≤ 20000
    · right
      rw [getI_nat (List.getElem?_eq_getElem hk)]
      have hc := ho.cells
      refine ⟨(IntKind.wrap .i64 (a + IntKind.wrap .i64 (((l.f_Cells[k].f_Href.length : Int)).tdiv 8)), ((k + 1 : Nat) : Int)), l.f_Cells.length - (k + 1), ?_, ⟨k + 1, rfl, by omega, rfl⟩, by omega⟩
      simp [hk, ha, quoO, wrap_small (show k < 9223372036854775807 by omega)]
    · left
      exact ⟨a, by simp [hk, ha]⟩
  · left
    exact ⟨a, by simp [hk]⟩
theorem long_some {p : List T_api_Line} (hf : p.length ≤ 9223372036854775807) (hb : ∀ x ∈ p, OkL x) : ∃ a, quillworklaw07u_long p = some a := by
  unfold quillworklaw07u_long quillworkref07u_Long
  by_cases h3 : (p.length : Int) > 300
  · exact ⟨true, by simp [h3]⟩
  · rw [if_neg (by simp; omega)]
    obtain ⟨r, hr⟩ := iter_some (step := fun s : Int × Int => quillworkref07u_Long_l3 p s.1 s.2) (inv := fun s m => ∃ k : Nat, s.2 = (k : Int) ∧ k ≤ p.length ∧ m = p.length - k) (by
      rintro ⟨a, b⟩ m ⟨k, rfl, h1, rfl⟩
      simp only [quillworkref07u_Long_l3]
      by_cases hk : k < p.length
      · rw [if_pos (by simp; exact hk)]
        simp only [getI_nat (List.getElem?_eq_getElem hk), Option.bind_some]
        obtain ⟨r, hr⟩ := long_l4u_some (List.getElem?_eq_getElem hk) (hb _ (List.getElem_mem hk)) (IntKind.wrap .i64 (a + (IntKind.wrap .i64 ((p[k].f_Cells.length : Int) + (p[k].f_Lists.length : Int)))))
        rw [hr]
        simp only [Option.bind_some]
        by_cases hr2 : r > 20000
        · left; exact ⟨_, by rw [if_pos (by simp; exact hr2)]⟩
        · right
          refine ⟨(r, ((k + 1 : Nat) : Int)), p.length - (k + 1), ?_, ⟨k + 1, rfl, by omega, rfl⟩, by omega⟩
          rw [if_neg (by simp; omega), wrap_small (show k < 9223372036854775807 by omega)]
      · left
        exact ⟨_, by rw [if_neg (by simp; omega)]⟩) fuel (0, 0) p.length ⟨0, rfl, by omega, by omega⟩ (by unfold fuel; omega)
    rw [hr]
    cases r <;> exact ⟨_, rfl⟩
theorem DocSame_holds {p q : List T_api_Line} (hfp : p.length ≤ 9223372036854775807) (hbp : ∀ x ∈ p, OkL x) (hfq : q.length ≤ 9223372036854775807) (hbq : ∀ x ∈ q, OkL x) : quillworklaw07u_DocSame p q = some true := by
  obtain ⟨a, ha⟩ := long_some hfp hbp
  obtain ⟨b, hb⟩ := long_some hfq hbq
  exact DocSame_true hfp hbp hfq hbq ha hb
end Go.PM

/- Plain laws: DocSame, told of what a reading says. -/
namespace Go.PM
theorem OkL.of {l : T_api_Line} (h : good_api_Line l) : OkL l := ⟨h.2.1.1, h.2.2.2.1.1⟩
theorem DocSame_plain {p q : List T_api_Line} (hp : good_Lapi_Line p) (hq : good_Lapi_Line q) : quillworklaw07u_DocSame p q = some true :=
  DocSame_holds hp.1 (fun x hx => .of (hp.2 x hx)) hq.1 (fun x hx => .of (hq.2 x hx))
end Go.PM

