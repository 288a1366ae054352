/-
  The plain law of quillworklaw07.DocParts: its plain Lean function answers true at every input. No condition but that lengths are at most 2^63 - 1.
-/
import Derived.Test.YtimlobidpkglkaaGreatDoorQDocPartsD
import Derived.Lib.MapLaws
import Derived.Lib.ValidLaws
import Derived.Lib.RuneCountTail
set_option linter.unusedVariables false
set_option linter.unusedSimpArgs false
set_option linter.unusedSectionVars false
set_option linter.unnecessarySimpa false
namespace Go.PM
set_option maxRecDepth 100000
theorem awake_true : quillworklaw07u_awake = some true := by kernel_rfl
end Go.PM

namespace Go.PM
variable [Tbl]
set_option linter.unusedSectionVars false
theorem iter_scan {ρ : Type} {step : Int → Option (Int ⊕ ρ)} {len : Nat} {p : Nat → Bool} {yes no : ρ} (h1 : ∀ i : Nat, i < len → step (i : Int) = some (if p i then .inl ((i + 1 : Nat) : Int) else .inr no)) (h2 : step (len : Int) = some (.inr yes)) :
    ∀ (n i : Nat), i ≤ len → len - i < n → iter step n (i : Int) = some (if (List.range' i (len - i)).all p then yes else no)
  | 0, i, _, hn => by omega
  | n + 1, i, hi, hn => by
    unfold iter
    by_cases h : i = len
    · subst h
      rw [h2]; simp
    · rw [h1 i (by omega)]
      have h3 : len - i = (len - (i + 1)) + 1 := by omega
      rw [h3, List.range'_succ, List.all_cons]
      cases hp : p i with
      | false => simp
      | true =>
        simp only [if_true, Bool.true_and]
        exact iter_scan h1 h2 n (i + 1) (by omega) (by omega)
end Go.PM

namespace Go.PM
set_option linter.unusedVariables false
def scP {α : Type} (eq : α → α → Bool) (p q : List α) (i : Nat) : Bool := match p[i]?, q[i]? with | some x, some y => eq x y | _, _ => true
def sc {α : Type} (eq : α → α → Bool) (p q : List α) : Bool := p.length == q.length && (List.range' 0 p.length).all (scP eq p q)
theorem sc_refl {α : Type} {eq : α → α → Bool} (h : ∀ x, eq x x = true) (p : List α) : sc eq p p = true := by
  unfold sc scP
  simp only [beq_self_eq_true, Bool.true_and, List.all_eq_true]
  intro i _
  cases p[i]? with
  | none => rfl
  | some x => exact h x
theorem wrap_small {n : Nat} (h : n < 9223372036854775807) : IntKind.wrap .i64 ((n : Int) + 1) = ((n + 1 : Nat) : Int) := by
  rw [IntKind.wrap_i64]; omega
theorem iter_sc {α : Type} {eq : α → α → Bool} {p q : List α} {step : Int → Option (Int ⊕ (Unit ⊕ Unit))} (hl : p.length = q.length) (hf : p.length ≤ 9223372036854775807)
    (hs : ∀ (i : Nat) (x y : α), p[i]? = some x → q[i]? = some y → i < p.length → step (i : Int) = some (if eq x y then .inl ((i + 1 : Nat) : Int) else .inr (.inl ()))) (he : step (p.length : Int) = some (.inr (.inr ()))) :
    iter step fuel 0 = some (if (List.range' 0 p.length).all (scP eq p q) then .inr () else .inl ()) := by
  have := iter_scan (step := step) (len := p.length) (p := scP eq p q) (yes := .inr ()) (no := .inl ()) (fun i hi => by
    have h1 := List.getElem?_eq_getElem hi
    have h2 := List.getElem?_eq_getElem (show i < q.length by omega)
    rw [hs i _ _ h1 h2 hi]
    unfold scP; rw [h1, h2]) he fuel 0 (Nat.zero_le _) (by unfold fuel; omega)
  simpa using this
theorem getI_nat {α : Type} {l : List α} {i : Nat} {x : α} (h : l[i]? = some x) : getI l (i : Int) = some x := by
  unfold getI; rw [if_pos (by omega)]; simpa using h
theorem slices_Equal_int_eq {p q : List Int} (hf : p.length ≤ 9223372036854775807) : slices_Equal_int p q = some (sc (fun x y => x == y) p q) := by
  unfold slices_Equal_int
  by_cases hl : p.length = q.length
  · rw [if_neg (by simp [hl])]
    rw [iter_sc (eq := fun x y => x == y) hl hf (fun i x y h1 h2 hi => by
      unfold slices_Equal_int_l1
      rw [if_pos (by simp; exact hi), getI_nat h1, getI_nat h2]
      simp only [Option.bind_some]
      by_cases e : x = y
      · subst e; simp [wrap_small (show i < 9223372036854775807 by omega)]
      · simp [e]) (by unfold slices_Equal_int_l1; simp)]
    unfold sc
    rw [hl]
    simp only [Option.bind_some, beq_self_eq_true, Bool.true_and]
    cases (List.range' 0 q.length).all (scP (fun x y => x == y) p q) <;> rfl
  · rw [if_pos (by simp; omega)]
    unfold sc
    have : (p.length == q.length) = false := by simpa using hl
    rw [this]; rfl
end Go.PM

namespace Go.PM
set_option linter.unusedVariables false
set_option linter.unusedSimpArgs false
def eqC (x y : T_api_Cell) : Bool := x.f_R == y.f_R && (x.f_Bits == y.f_Bits && x.f_Href == y.f_Href)
theorem slices_Equal_apiCell_eq {p q : List T_api_Cell} (hf : p.length ≤ 9223372036854775807) : slices_Equal_apiCell p q = some (sc eqC p q) := by
  unfold slices_Equal_apiCell
  by_cases hl : p.length = q.length
  · rw [if_neg (by simp [hl])]
    rw [iter_sc (eq := eqC) hl hf (fun i x y h1 h2 hi => by
      unfold slices_Equal_apiCell_l1
      rw [if_pos (by simp; exact hi)]
      simp only [getI_nat h1, getI_nat h2, Option.bind_some, wrap_small (show i < 9223372036854775807 by omega)]
      unfold eqC; simp only [Bool.and_true]; cases (x.f_R == y.f_R && (x.f_Bits == y.f_Bits && x.f_Href == y.f_Href)) <;> simp) (by unfold slices_Equal_apiCell_l1; simp)]
    unfold sc
    rw [hl]
    simp only [Option.bind_some, beq_self_eq_true, Bool.true_and]
    cases (List.range' 0 q.length).all (scP eqC p q) <;> rfl
  · rw [if_pos (by simp; omega)]
    unfold sc
    have : (p.length == q.length) = false := by simpa using hl
    rw [this]; rfl
theorem quillworkref05u_Same_eq {p q : List T_api_Cell} (hf : p.length ≤ 9223372036854775807) : quillworkref05u_Same p q = some (sc eqC p q) := by
  unfold quillworkref05u_Same
  by_cases hl : p.length = q.length
  · rw [if_neg (by simp [hl])]
    rw [iter_sc (eq := eqC) hl hf (fun i x y h1 h2 hi => by
      unfold quillworkref05u_Same_l1
      rw [if_pos (by simp; exact hi)]
      simp only [getI_nat h1, getI_nat h2, Option.bind_some, wrap_small (show i < 9223372036854775807 by omega)]
      unfold eqC; by_cases e1 : x.f_R = y.f_R <;> by_cases e2 : x.f_Bits = y.f_Bits <;> cases e3 : (x.f_Href == y.f_Href) <;> simp [e1, e2, e3]) (by unfold quillworkref05u_Same_l1; simp)]
    unfold sc
    rw [hl]
    simp only [Option.bind_some, beq_self_eq_true, Bool.true_and]
    cases (List.range' 0 q.length).all (scP eqC p q) <;> rfl
  · rw [if_pos (by simp; omega)]
    unfold sc
    have : (p.length == q.length) = false := by simpa using hl
    rw [this]; rfl
end Go.PM

namespace Go.PM
set_option linter.unusedVariables false
set_option linter.unusedSimpArgs false
structure OkL (l : T_api_Line) : Prop where
  lists : l.f_Lists.length ≤ 9223372036854775807
  cells : l.f_Cells.length ≤ 9223372036854775807
def eqL (x y : T_api_Line) : Bool := x.f_Quote == y.f_Quote && (x.f_Kind == y.f_Kind && (sc (fun a b => a == b) x.f_Lists y.f_Lists && sc eqC x.f_Cells y.f_Cells))
theorem lines_Same_eq {x y : T_api_Line} (h : OkL x) : lines_Same x y = some (eqL x y) := by
  unfold lines_Same cells_Same eqL
  rw [slices_Equal_int_eq h.lists, slices_Equal_apiCell_eq h.cells]
  by_cases e1 : x.f_Quote = y.f_Quote <;> by_cases e2 : x.f_Kind = y.f_Kind <;> cases e3 : sc (fun a b => a == b) x.f_Lists y.f_Lists <;> simp [e1, e2, e3]
theorem slices_EqualFunc_apiLine_apiLine_eq {p q : List T_api_Line} (hf : p.length ≤ 9223372036854775807) (hb : ∀ x ∈ p, OkL x) : slices_EqualFunc_apiLine_apiLine p q (fun x0 x1 => lines_Same x0 x1) = some (sc eqL p q) := by
  unfold slices_EqualFunc_apiLine_apiLine
  by_cases hl : p.length = q.length
  · rw [if_neg (by simp [hl])]
    rw [iter_sc (eq := eqL) hl hf (fun i x y h1 h2 hi => by
      unfold slices_EqualFunc_apiLine_apiLine_l1
      rw [if_pos (by simp; exact hi)]
      simp only [getI_nat h1, getI_nat h2, Option.bind_some, wrap_small (show i < 9223372036854775807 by omega), lines_Same_eq (hb x (List.mem_of_getElem? h1))]
      cases eqL x y <;> simp) (by unfold slices_EqualFunc_apiLine_apiLine_l1; simp)]
    unfold sc
    rw [hl]
    simp only [Option.bind_some, beq_self_eq_true, Bool.true_and]
    cases (List.range' 0 q.length).all (scP eqL p q) <;> rfl
  · rw [if_pos (by simp; omega)]
    unfold sc
    have : (p.length == q.length) = false := by simpa using hl
    rw [this]; rfl
theorem doc_Same_eq {p q : List T_api_Line} (hf : p.length ≤ 9223372036854775807) (hb : ∀ x ∈ p, OkL x) : doc_Same p q = some (sc eqL p q) := by
  unfold doc_Same
  rw [slices_EqualFunc_apiLine_apiLine_eq hf hb]; rfl
theorem eqC_refl (x : T_api_Cell) : eqC x x = true := by simp [eqC]
theorem eqL_refl (x : T_api_Line) : eqL x x = true := by
  unfold eqL; rw [sc_refl (fun a => by simp), sc_refl eqC_refl]; simp
end Go.PM

namespace Go.PM
set_option linter.unusedVariables false
set_option linter.unusedSimpArgs false
theorem iter_post {σ ρ : Type} {step : σ → Option (σ ⊕ ρ)} {inv : σ → Nat → Prop} {Q : ρ → Prop} (h : ∀ s m, inv s m → (∃ r, step s = some (.inr r) ∧ Q r) ∨ ∃ s' m', step s = some (.inl s') ∧ inv s' m' ∧ m' < m) : ∀ (n : Nat) (s : σ) (m : Nat), inv s m → m < n → ∃ r, iter step n s = some r ∧ Q r
  | 0, s, m, _, hn => by omega
  | n + 1, s, m, hi, hn => by
    unfold iter
    rcases h s m hi with ⟨r, h1, h2⟩ | ⟨s', m', h1, h2, h3⟩
    · rw [h1]; exact ⟨r, rfl, h2⟩
    · rw [h1]; exact iter_post h n s' m' h2 (by omega)
theorem iter_to {σ ρ : Type} {step : σ → Option (σ ⊕ ρ)} (f : Nat → σ) {k : Nat} {r : ρ} (h : ∀ i, i < k → step (f i) = some (.inl (f (i + 1)))) (he : step (f k) = some (.inr r)) : ∀ (n i : Nat), i ≤ k → k - i < n → iter step n (f i) = some r
  | 0, i, _, hn => by omega
  | n + 1, i, hi, hn => by
    unfold iter
    by_cases e : i = k
    · subst e; rw [he]
    · rw [h i (by omega)]
      exact iter_to f h he n (i + 1) (by omega) (by omega)
theorem w_id {n : Int} (h1 : -9223372036854775808 ≤ n) (h2 : n ≤ 9223372036854775807) : IntKind.wrap .i64 n = n := by
  rw [IntKind.wrap_i64]; omega
theorem getI_nat' {α : Type} {l : List α} {i : Nat} {x : α} (h : l[i]? = some x) : getI l (i : Int) = some x := by
  unfold getI; rw [if_pos (by omega)]; simpa using h
theorem reach_eq : reachBytes = 140737488351232 := rfl
def tot (p : List T_api_Line) : Nat := (p.map fun l => l.f_Cells.length + l.f_Lists.length).sum
def szl (p : List T_api_Line) : Nat := (p.map fun l => l.f_Cells.length).sum
theorem sum_take_succ {α : Type} {p : List α} {f : α → Nat} {i : Nat} {x : α} (h : p[i]? = some x) : ((p.take (i + 1)).map f).sum = ((p.take i).map f).sum + f x := by
  rw [List.take_add_one, h]; simp
theorem sum_take_le {α : Type} {p : List α} {f : α → Nat} (i : Nat) : ((p.take i).map f).sum ≤ (p.map f).sum := by
  have h : (p.map f).sum = ((p.take i).map f).sum + ((p.drop i).map f).sum := by
    rw [← List.sum_append, ← List.map_append, List.take_append_drop]
  omega
theorem szl_tot (p : List T_api_Line) : szl p ≤ tot p := by
  unfold szl tot
  induction p with
  | nil => simp
  | cons l p ih => simp only [List.map_cons, List.sum_cons]; omega
theorem long_l4u_post {p : List T_api_Line} {j : Nat} {l : T_api_Line} (hl : p[j]? = some l) (ho : good_api_Line l) {a : Int} (ha : 0 ≤ a) (ha2 : a ≤ 1000000000000000) : ∃ r, iter (fun s => quillworkref07u_Long_l4 p (j : Int) s.1 s.2) fuel (a, 0) = some r ∧ a ≤ r ∧ r ≤ 2000000000000000 := by
  have hc : l.f_Cells.length * 32 ≤ reachBytes := ho.2.2.2.1.1
  rw [reach_eq] at hc
  refine iter_post (inv := fun s m => ∃ k : Nat, s.2 = (k : Int) ∧ k ≤ l.f_Cells.length ∧ m = l.f_Cells.length - k ∧ a ≤ s.1 ∧ s.1 ≤ 2000000000000000) ?_ fuel (a, 0) l.f_Cells.length ⟨0, rfl, by omega, by omega, Int.le_refl _, by omega⟩ (by unfold fuel; omega)
  rintro ⟨b, c⟩ m ⟨k, rfl, h1, rfl, h2, h3⟩
  simp only at h2 h3
  simp only [quillworkref07u_Long_l4, getI_nat' hl, Option.bind_some]
  by_cases hk : k < l.f_Cells.length
  · by_cases hb : b ≤ 20000
    · right
      rw [getI_nat' (List.getElem?_eq_getElem hk)]
      have hh : (l.f_Cells[k]).f_Href.length ≤ reachBytes := (ho.2.2.2.1.2 _ (List.getElem_mem hk)).2.2.1
      rw [reach_eq] at hh
      have hq : (((l.f_Cells[k]).f_Href.length : Int)).tdiv 8 = (((l.f_Cells[k]).f_Href.length : Int) / 8) := by
        rw [Int.tdiv_eq_ediv_of_nonneg (by omega)]
      have e1 : IntKind.wrap .i64 ((((l.f_Cells[k]).f_Href.length : Int) / 8)) = (((l.f_Cells[k]).f_Href.length : Int) / 8) := w_id (by omega) (by omega)
      have e2 : IntKind.wrap .i64 (b + (((l.f_Cells[k]).f_Href.length : Int) / 8)) = b + (((l.f_Cells[k]).f_Href.length : Int) / 8) := w_id (by omega) (by omega)
      have e3 : IntKind.wrap .i64 ((k : Int) + 1) = ((k + 1 : Nat) : Int) := by rw [w_id (by omega) (by omega)]; omega
      refine ⟨(b + (((l.f_Cells[k]).f_Href.length : Int) / 8), ((k + 1 : Nat) : Int)), l.f_Cells.length - (k + 1), ?_, ⟨k + 1, rfl, by omega, rfl, ?_, ?_⟩, by omega⟩
      · simp [hk, hb, quoO, hq, e1, e2, e3]
      · show a ≤ b + _; omega
      · show b + _ ≤ _; omega
    · left
      exact ⟨b, by simp [hk, hb], h2, h3⟩
  · left
    exact ⟨b, by simp [hk], h2, h3⟩
theorem long_cases {p : List T_api_Line} (hp : good_Lapi_Line p) : quillworklaw07u_long p = some true ∨ (quillworklaw07u_long p = some false ∧ p.length ≤ 300 ∧ tot p ≤ 20000) := by
  unfold quillworklaw07u_long quillworkref07u_Long
  by_cases h3 : (p.length : Int) > 300
  · left; simp [h3]
  · rw [if_neg (by simp; omega)]
    obtain ⟨r, hr, hQ⟩ := iter_post (step := fun s : Int × Int => quillworkref07u_Long_l3 p s.1 s.2) (inv := fun s m => ∃ k : Nat, s.2 = (k : Int) ∧ k ≤ p.length ∧ m = p.length - k ∧ (tot (p.take k) : Int) ≤ s.1 ∧ s.1 ≤ 20000) (Q := fun r => r = .inl () ∨ (r = .inr () ∧ tot p ≤ 20000)) (by
      rintro ⟨a, b⟩ m ⟨k, rfl, h1, rfl, h2, h4⟩
      simp only at h2 h4
      simp only [quillworkref07u_Long_l3]
      by_cases hk : k < p.length
      · rw [if_pos (by simp; exact hk)]
        have hl := List.getElem?_eq_getElem hk
        have hg := hp.2 _ (List.getElem_mem hk)
        have hc : (p[k]).f_Cells.length * 32 ≤ reachBytes := hg.2.2.2.1.1
        have hs : (p[k]).f_Lists.length * 8 ≤ reachBytes := hg.2.1.1
        rw [reach_eq] at hc hs
        simp only [getI_nat' hl, Option.bind_some]
        have e1 : IntKind.wrap .i64 (((p[k]).f_Cells.length : Int) + ((p[k]).f_Lists.length : Int)) = (((p[k]).f_Cells.length + (p[k]).f_Lists.length : Nat) : Int) := by rw [w_id (by omega) (by omega)]; omega
        have e2 : IntKind.wrap .i64 (a + (((p[k]).f_Cells.length + (p[k]).f_Lists.length : Nat) : Int)) = a + (((p[k]).f_Cells.length + (p[k]).f_Lists.length : Nat) : Int) := w_id (by omega) (by omega)
        have e3 : IntKind.wrap .i64 ((k : Int) + 1) = ((k + 1 : Nat) : Int) := by rw [w_id (by omega) (by omega)]; omega
        rw [e1, e2]
        obtain ⟨r, hr, h5, h6⟩ := long_l4u_post hl hg (a := a + (((p[k]).f_Cells.length + (p[k]).f_Lists.length : Nat) : Int)) (by omega) (by omega)
        rw [hr]
        simp only [Option.bind_some]
        by_cases hr2 : r > 20000
        · left; exact ⟨_, by rw [if_pos (by simp; exact hr2)], .inl rfl⟩
        · right
          refine ⟨(r, ((k + 1 : Nat) : Int)), p.length - (k + 1), ?_, ⟨k + 1, rfl, by omega, rfl, ?_, ?_⟩, by omega⟩
          · rw [if_neg (by simp; omega), e3]
          · show (tot (p.take (k + 1)) : Int) ≤ r
            have : tot (p.take (k + 1)) = tot (p.take k) + ((p[k]).f_Cells.length + (p[k]).f_Lists.length) := sum_take_succ hl
            omega
          · show r ≤ 20000; omega
      · left
        refine ⟨_, by rw [if_neg (by simp; omega)], .inr ⟨rfl, ?_⟩⟩
        have : p.take k = p := List.take_of_length_le (by omega)
        rw [this] at h2; omega) fuel (0, 0) p.length ⟨0, rfl, by omega, by omega, by simp [tot], by omega⟩ (by have := hp.1; rw [reach_eq] at this; unfold fuel; omega)
    rw [hr]
    rcases hQ with rfl | ⟨rfl, h5⟩
    · left; rfl
    · right; exact ⟨rfl, by omega, h5⟩
end Go.PM

namespace Go.PM
set_option linter.unusedVariables false
set_option linter.unusedSimpArgs false
def At (p : List T_api_Line) (i k : Nat) : Prop := ∃ l, p[i]? = some l ∧ k ≤ l.f_Cells.length
def ps (i k : Nat) : T_api_Pos := ⟨(i : Int), (k : Int)⟩
structure Bd (p : List T_api_Line) : Prop where
  len : p.length ≤ 1000000
  siz : szl p ≤ 1000000
theorem szl_take (p : List T_api_Line) (i : Nat) : szl (p.take i) ≤ szl p := sum_take_le i
theorem szl_succ {p : List T_api_Line} {i : Nat} {l : T_api_Line} (h : p[i]? = some l) : szl (p.take (i + 1)) = szl (p.take i) + l.f_Cells.length := sum_take_succ h
theorem Bd.take {p : List T_api_Line} (h : Bd p) (i : Nat) : Bd (p.take i) := ⟨by have := h.len; simp; omega, Nat.le_trans (szl_take p i) h.siz⟩
theorem lt_of_get {α : Type} {p : List α} {i : Nat} {l : α} (h : p[i]? = some l) : i < p.length := (List.getElem?_eq_some_iff.1 h).1
theorem wsucc {n : Nat} (h : n < 9223372036854775807) : IntKind.wrap .i64 ((n : Int) + 1) = ((n + 1 : Nat) : Int) := by rw [w_id (by omega) (by omega)]; omega
theorem doc_Size_eq {p : List T_api_Line} (hb : Bd p) : doc_Size p = some (szl p : Int) := by
  have hl := hb.len
  have := iter_to (step := fun s : Int × Int => doc_Size_l1 p s.1 s.2) (fun i => ((szl (p.take i) : Int), (i : Int))) (k := p.length) (r := (szl p : Int)) (fun i hi => by
    have hg := List.getElem?_eq_getElem hi
    have h1 := szl_succ hg; have h2 := szl_take p (i + 1); have h3 := hb.siz
    simp only [doc_Size_l1, getI_nat' hg, Option.bind_some]
    rw [if_pos (by simp; exact hi), w_id (by omega) (by omega), wsucc (by omega), h1]
    simp) (by
    simp only [doc_Size_l1]
    rw [if_neg (by simp)]
    simp) fuel 0 (by omega) (by unfold fuel; omega)
  unfold doc_Size
  have h0 : ((szl (p.take 0) : Int), ((0 : Nat) : Int)) = ((0 : Int), (0 : Int)) := by simp [szl]
  rw [h0] at this
  rw [this]; rfl
theorem doc_Is_eq {p : List T_api_Line} {i k : Nat} (h : At p i k) : doc_Is p (ps i k) = some true := by
  obtain ⟨l, hl, hk⟩ := h
  have := lt_of_get hl
  unfold doc_Is ps
  simp [getI_nat' hl, this, hk]
theorem cutI_take {α : Type} {p : List α} {i : Nat} (h : i ≤ p.length) : cutI p 0 (i : Int) = some (p.take i) := by
  unfold cutI
  rw [if_pos ⟨by omega, by omega, by omega⟩]; simp
theorem cmp_Compare_eq (a b : Int) : cmp_Compare_int a b = some (if a < b then -1 else if a > b then 1 else 0) := by
  unfold cmp_Compare_int cmp_isNaN_int
  by_cases h1 : a < b
  · simp [h1]
  · by_cases h2 : a > b <;> simp [h1, h2]
theorem cmp_Or2 (a b : Int) : cmp_Or_int [a, b] = some (if a = 0 then b else a) := by
  unfold cmp_Or_int
  have g0 : getI [a, b] ((0 : Nat) : Int) = some a := rfl
  have g1 : getI [a, b] ((1 : Nat) : Int) = some b := rfl
  by_cases ha : a = 0
  · by_cases hb : b = 0
    · have := iter_to (step := fun s : Int => cmp_Or_int_l1 [a, b] s) (fun i => (i : Int)) (k := 2) (r := .inr ()) (fun i hi => by
        match i, hi with
        | 0, _ => subst ha; rfl
        | 1, _ => subst hb; rfl) rfl fuel 0 (by omega) (by unfold fuel; omega)
      rw [show ((0 : Nat) : Int) = 0 from rfl] at this
      rw [this, if_pos ha, hb]; rfl
    · have := iter_to (step := fun s : Int => cmp_Or_int_l1 [a, b] s) (fun i => (i : Int)) (k := 1) (r := .inl b) (fun i hi => by
        match i, hi with
        | 0, _ => subst ha; rfl) (by
        simp only [cmp_Or_int_l1, g1, Option.bind_some]
        rw [if_pos (by simp), if_pos (by simpa using hb)]) fuel 0 (by omega) (by unfold fuel; omega)
      rw [show ((0 : Nat) : Int) = 0 from rfl] at this
      rw [this, if_pos ha]; rfl
  · have := iter_to (step := fun s : Int => cmp_Or_int_l1 [a, b] s) (fun i => (i : Int)) (k := 0) (r := .inl a) (fun i hi => by omega) (by
      simp only [cmp_Or_int_l1, g0, Option.bind_some]
      rw [if_pos (by simp), if_pos (by simpa using ha)]) fuel 0 (by omega) (by unfold fuel; omega)
    rw [show ((0 : Nat) : Int) = 0 from rfl] at this
    rw [this, if_neg ha]; rfl
theorem doc_Cmp_eq (a b : T_api_Pos) : doc_Cmp a b = some (if a.f_Line < b.f_Line then -1 else if a.f_Line > b.f_Line then 1 else if a.f_At < b.f_At then -1 else if a.f_At > b.f_At then 1 else 0) := by
  unfold doc_Cmp
  simp only [cmp_Compare_eq, cmp_Or2, Option.bind_some]
  congr 1
  by_cases h1 : a.f_Line < b.f_Line
  · simp [h1]
  · by_cases h2 : a.f_Line > b.f_Line <;> simp [h1, h2]
end Go.PM

namespace Go.PM
set_option linter.unusedVariables false
set_option linter.unusedSimpArgs false
theorem long_l4u_href {p : List T_api_Line} {j : Nat} {l : T_api_Line} (hl : p[j]? = some l) (ho : good_api_Line l) {a : Int} (ha : 0 ≤ a) (ha2 : a ≤ 1000000000000000) : ∃ r, iter (fun s => quillworkref07u_Long_l4 p (j : Int) s.1 s.2) fuel (a, 0) = some r ∧ a ≤ r ∧ (r ≤ 20000 → ∀ c ∈ l.f_Cells, c.f_Href.length ≤ 200000) := by
  have hc : l.f_Cells.length * 32 ≤ reachBytes := ho.2.2.2.1.1
  rw [reach_eq] at hc
  refine iter_post (inv := fun s m => ∃ k : Nat, s.2 = (k : Int) ∧ k ≤ l.f_Cells.length ∧ m = l.f_Cells.length - k ∧ a ≤ s.1 ∧ s.1 ≤ 2000000000000000 ∧ ∀ u, u < k → ∀ c, l.f_Cells[u]? = some c → (c.f_Href.length : Int) / 8 ≤ s.1) ?_ fuel (a, 0) l.f_Cells.length ⟨0, rfl, by omega, by omega, Int.le_refl _, by omega, by intro u hu; omega⟩ (by unfold fuel; omega)
  rintro ⟨b, c⟩ m ⟨k, rfl, h1, rfl, h2, h3, h4⟩
  simp only at h2 h3 h4
  simp only [quillworkref07u_Long_l4, getI_nat' hl, Option.bind_some]
  by_cases hk : k < l.f_Cells.length
  · by_cases hb : b ≤ 20000
    · right
      rw [getI_nat' (List.getElem?_eq_getElem hk)]
      have hh : (l.f_Cells[k]).f_Href.length ≤ reachBytes := (ho.2.2.2.1.2 _ (List.getElem_mem hk)).2.2.1
      rw [reach_eq] at hh
      have hq : (((l.f_Cells[k]).f_Href.length : Int)).tdiv 8 = (((l.f_Cells[k]).f_Href.length : Int) / 8) := by
        rw [Int.tdiv_eq_ediv_of_nonneg (by omega)]
      have e1 : IntKind.wrap .i64 ((((l.f_Cells[k]).f_Href.length : Int) / 8)) = (((l.f_Cells[k]).f_Href.length : Int) / 8) := w_id (by omega) (by omega)
      have e2 : IntKind.wrap .i64 (b + (((l.f_Cells[k]).f_Href.length : Int) / 8)) = b + (((l.f_Cells[k]).f_Href.length : Int) / 8) := w_id (by omega) (by omega)
      have e3 : IntKind.wrap .i64 ((k : Int) + 1) = ((k + 1 : Nat) : Int) := by rw [w_id (by omega) (by omega)]; omega
      refine ⟨(b + (((l.f_Cells[k]).f_Href.length : Int) / 8), ((k + 1 : Nat) : Int)), l.f_Cells.length - (k + 1), ?_, ⟨k + 1, rfl, by omega, rfl, ?_, ?_, ?_⟩, by omega⟩
      · simp [hk, hb, quoO, hq, e1, e2, e3]
      · show a ≤ b + _; omega
      · show b + _ ≤ _; omega
      · intro u hu c hc'
        show (c.f_Href.length : Int) / 8 ≤ b + _
        rcases Nat.lt_or_ge u k with h | h
        · have := h4 u h c hc'; omega
        · have : u = k := by omega
          subst this
          rw [List.getElem?_eq_getElem hk] at hc'
          obtain rfl := Option.some.inj hc'
          omega
    · left
      exact ⟨b, by simp [hk, hb], h2, fun h => absurd h hb⟩
  · left
    refine ⟨b, by simp [hk], h2, fun hb c hc' => ?_⟩
    obtain ⟨u, hu, rfl⟩ := List.getElem_of_mem hc'
    have := h4 u (by omega) _ (List.getElem?_eq_getElem hu)
    omega
structure Shrt (p : List T_api_Line) : Prop where
  len : p.length ≤ 300
  tot : tot p ≤ 20000
  href : ∀ l ∈ p, ∀ c ∈ l.f_Cells, c.f_Href.length ≤ 200000
  good : good_Lapi_Line p
theorem Shrt.bd {p : List T_api_Line} (h : Shrt p) : Bd p := ⟨by have := h.len; omega, by have := szl_tot p; have := h.tot; omega⟩
theorem long_href {p : List T_api_Line} (hp : good_Lapi_Line p) (h : quillworklaw07u_long p = some false) : ∀ l ∈ p, ∀ c ∈ l.f_Cells, c.f_Href.length ≤ 200000 := by
  unfold quillworklaw07u_long quillworkref07u_Long at h
  by_cases h3 : (p.length : Int) > 300
  · simp [h3] at h
  · rw [if_neg (by simp; omega)] at h
    obtain ⟨r, hr, hQ⟩ := iter_post (step := fun s : Int × Int => quillworkref07u_Long_l3 p s.1 s.2) (inv := fun s m => ∃ k : Nat, s.2 = (k : Int) ∧ k ≤ p.length ∧ m = p.length - k ∧ 0 ≤ s.1 ∧ s.1 ≤ 20000 ∧ ∀ u, u < k → ∀ l, p[u]? = some l → ∀ c ∈ l.f_Cells, c.f_Href.length ≤ 200000) (Q := fun r => r = .inl () ∨ (r = .inr () ∧ ∀ l ∈ p, ∀ c ∈ l.f_Cells, c.f_Href.length ≤ 200000)) (by
      rintro ⟨a, b⟩ m ⟨k, rfl, h1, rfl, h2, h4, h7⟩
      simp only at h2 h4 h7
      simp only [quillworkref07u_Long_l3]
      by_cases hk : k < p.length
      · rw [if_pos (by simp; exact hk)]
        have hl := List.getElem?_eq_getElem hk
        have hg := hp.2 _ (List.getElem_mem hk)
        have hc : (p[k]).f_Cells.length * 32 ≤ reachBytes := hg.2.2.2.1.1
        have hs : (p[k]).f_Lists.length * 8 ≤ reachBytes := hg.2.1.1
        rw [reach_eq] at hc hs
        simp only [getI_nat' hl, Option.bind_some]
        have e1 : IntKind.wrap .i64 (((p[k]).f_Cells.length : Int) + ((p[k]).f_Lists.length : Int)) = (((p[k]).f_Cells.length + (p[k]).f_Lists.length : Nat) : Int) := by rw [w_id (by omega) (by omega)]; omega
        have e2 : IntKind.wrap .i64 (a + (((p[k]).f_Cells.length + (p[k]).f_Lists.length : Nat) : Int)) = a + (((p[k]).f_Cells.length + (p[k]).f_Lists.length : Nat) : Int) := w_id (by omega) (by omega)
        have e3 : IntKind.wrap .i64 ((k : Int) + 1) = ((k + 1 : Nat) : Int) := by rw [w_id (by omega) (by omega)]; omega
        rw [e1, e2]
        obtain ⟨r, hr, h5, h6⟩ := long_l4u_href hl hg (a := a + (((p[k]).f_Cells.length + (p[k]).f_Lists.length : Nat) : Int)) (by omega) (by omega)
        rw [hr]
        simp only [Option.bind_some]
        by_cases hr2 : r > 20000
        · left; exact ⟨_, by rw [if_pos (by simp; exact hr2)], .inl rfl⟩
        · right
          refine ⟨(r, ((k + 1 : Nat) : Int)), p.length - (k + 1), ?_, ⟨k + 1, rfl, by omega, rfl, ?_, ?_, ?_⟩, by omega⟩
          · rw [if_neg (by simp; omega), e3]
          · show 0 ≤ r; omega
          · show r ≤ 20000; omega
          · intro u hu l hl'
            rcases Nat.lt_or_ge u k with h | h
            · exact h7 u h l hl'
            · have : u = k := by omega
              subst this
              rw [hl] at hl'
              obtain rfl := Option.some.inj hl'
              exact h6 (by omega)
      · left
        refine ⟨_, by rw [if_neg (by simp; omega)], .inr ⟨rfl, ?_⟩⟩
        intro l hl c hc
        obtain ⟨u, hu, rfl⟩ := List.getElem_of_mem hl
        exact h7 u (by omega) _ (List.getElem?_eq_getElem hu) c hc) fuel (0, 0) p.length ⟨0, rfl, by omega, by omega, by simp, by omega, by intro u hu; omega⟩ (by have := hp.1; rw [reach_eq] at this; unfold fuel; omega)
    rw [hr] at h
    rcases hQ with rfl | ⟨rfl, h5⟩
    · simp at h
    · exact h5
theorem sh_cases {p : List T_api_Line} (hp : good_Lapi_Line p) : quillworklaw07u_long p = some true ∨ (quillworklaw07u_long p = some false ∧ Shrt p) := by
  rcases long_cases hp with h | ⟨h, h1, h2⟩
  · exact .inl h
  · exact .inr ⟨h, h1, h2, long_href hp h, hp⟩
end Go.PM

namespace Go.PM
set_option linter.unusedVariables false
set_option linter.unusedSimpArgs false
def T {α : Type} (o : Option α) : Prop := ∃ x, o = some x
theorem T.some {α : Type} (x : α) : T (Option.some x) := ⟨x, rfl⟩
theorem T.bind {α β : Type} {o : Option α} {f : α → Option β} (h : T o) (hf : ∀ x, T (f x)) : T (o.bind f) := by
  obtain ⟨x, rfl⟩ := h; exact hf x
theorem T.ite {α : Type} {c : Prop} [Decidable c] {a b : Option α} (ha : c → T a) (hb : ¬ c → T b) : T (if c then a else b) := by
  split
  · exact ha ‹_›
  · exact hb ‹_›
theorem T.foldS {α σ ρ : Type} {step : α → σ → Option (σ ⊕ ρ)} (h : ∀ x s, T (step x s)) : ∀ (l : List α) (s : σ), T (foldS step l s)
  | [], s => T.some _
  | x :: l, s => by
    unfold PM.foldS
    obtain ⟨y, hy⟩ := h x s
    rw [hy]
    cases y with
    | inl s' => exact T.foldS h l s'
    | inr r => exact T.some _
theorem fuel_big {n : Nat} (h : n ≤ 9223372036854775807) : n < fuel := by unfold fuel; omega
theorem iter_any {α ρ : Type} {step : Int → Option (Int ⊕ ρ)} {l : List α} {g : α → Bool} (hit : Nat → ρ) (no : ρ) (h1 : ∀ (i : Nat) x, l[i]? = some x → step (i : Int) = some (if g x then .inr (hit i) else .inl ((i + 1 : Nat) : Int))) (h2 : step (l.length : Int) = some (.inr no)) (hf : l.length ≤ 9223372036854775807) : (l.any g = true ∧ ∃ i, i < l.length ∧ iter step fuel 0 = some (hit i)) ∨ (l.any g = false ∧ iter step fuel 0 = some no) := by
  obtain ⟨r, hr, hq⟩ := iter_post (step := step) (inv := fun s m => ∃ k : Nat, s = (k : Int) ∧ k ≤ l.length ∧ m = l.length - k ∧ ∀ u, u < k → ∀ x, l[u]? = some x → g x = false) (Q := fun r => (l.any g = true ∧ ∃ i, i < l.length ∧ r = hit i) ∨ (l.any g = false ∧ r = no)) (by
    rintro s m ⟨k, rfl, h3, rfl, h4⟩
    by_cases hk : k < l.length
    · have hg := List.getElem?_eq_getElem hk
      cases e : g (l[k]) with
      | true =>
        left
        exact ⟨hit k, by rw [h1 k _ hg, if_pos e], .inl ⟨List.any_eq_true.2 ⟨_, List.getElem_mem hk, e⟩, k, hk, rfl⟩⟩
      | false =>
        right
        refine ⟨((k + 1 : Nat) : Int), l.length - (k + 1), by rw [h1 k _ hg, if_neg (by simp [e])], ⟨k + 1, rfl, by omega, rfl, ?_⟩, by omega⟩
        intro u hu x hx
        rcases Nat.lt_or_ge u k with h | h
        · exact h4 u h x hx
        · have : u = k := by omega
          subst this
          rw [hg] at hx; obtain rfl := Option.some.inj hx; exact e
    · have : k = l.length := by omega
      subst this
      left
      refine ⟨no, h2, .inr ⟨?_, rfl⟩⟩
      rw [List.any_eq_false]
      intro x hx
      obtain ⟨u, hu, rfl⟩ := List.getElem_of_mem hx
      simp [h4 u hu _ (List.getElem?_eq_getElem hu)]) fuel (0 : Int) l.length ⟨0, rfl, by omega, by omega, by intro u hu; omega⟩ (fuel_big hf)
  rcases hq with ⟨h3, i, hi, rfl⟩ | ⟨h3, rfl⟩
  · exact .inl ⟨h3, i, hi, hr⟩
  · exact .inr ⟨h3, hr⟩
theorem contains_int {l : List Int} {f : Int → Option Bool} {g : Int → Bool} (h : ∀ x ∈ l, f x = some (g x)) (hf : l.length ≤ 9223372036854775806) : slices_ContainsFunc_int l f = some (l.any g) := by
  unfold slices_ContainsFunc_int slices_IndexFunc_int
  rcases iter_any (step := fun s => slices_IndexFunc_int_l1 l f s) (l := l) (g := g) (fun i => (.inl (i : Int) : Int ⊕ Unit)) (.inr ()) (by
    intro i x hx
    have hi := lt_of_get hx
    simp only [slices_IndexFunc_int_l1, getI_nat' hx, Option.bind_some, h x (List.mem_of_getElem? hx), wsucc (n := i) (by omega)]
    rw [if_pos (by simpa using hi)]
    cases g x <;> simp) (by simp [slices_IndexFunc_int_l1]) (by omega) with ⟨h1, i, hi, h2⟩ | ⟨h1, h2⟩
  · rw [h2, h1]; simp
  · rw [h2, h1]; simp
theorem contains_cell {l : List T_api_Cell} {f : T_api_Cell → Option Bool} {g : T_api_Cell → Bool} (h : ∀ x ∈ l, f x = some (g x)) (hf : l.length ≤ 9223372036854775806) : slices_ContainsFunc_apiCell l f = some (l.any g) := by
  unfold slices_ContainsFunc_apiCell slices_IndexFunc_apiCell
  rcases iter_any (step := fun s => slices_IndexFunc_apiCell_l1 l f s) (l := l) (g := g) (fun i => (.inl (i : Int) : Int ⊕ Unit)) (.inr ()) (by
    intro i x hx
    have hi := lt_of_get hx
    simp only [slices_IndexFunc_apiCell_l1, getI_nat' hx, Option.bind_some, h x (List.mem_of_getElem? hx), wsucc (n := i) (by omega)]
    rw [if_pos (by simpa using hi)]
    cases g x <;> simp) (by simp [slices_IndexFunc_apiCell_l1]) (by omega) with ⟨h1, i, hi, h2⟩ | ⟨h1, h2⟩
  · rw [h2, h1]; simp
  · rw [h2, h1]; simp
theorem contains_line {l : List T_api_Line} {f : T_api_Line → Option Bool} {g : T_api_Line → Bool} (h : ∀ x ∈ l, f x = some (g x)) (hf : l.length ≤ 9223372036854775806) : slices_ContainsFunc_apiLine l f = some (l.any g) := by
  unfold slices_ContainsFunc_apiLine slices_IndexFunc_apiLine
  rcases iter_any (step := fun s => slices_IndexFunc_apiLine_l1 l f s) (l := l) (g := g) (fun i => (.inl (i : Int) : Int ⊕ Unit)) (.inr ()) (by
    intro i x hx
    have hi := lt_of_get hx
    simp only [slices_IndexFunc_apiLine_l1, getI_nat' hx, Option.bind_some, h x (List.mem_of_getElem? hx), wsucc (n := i) (by omega)]
    rw [if_pos (by simpa using hi)]
    cases g x <;> simp) (by simp [slices_IndexFunc_apiLine_l1]) (by omega) with ⟨h1, i, hi, h2⟩ | ⟨h1, h2⟩
  · rw [h2, h1]; simp
  · rw [h2, h1]; simp
theorem ValidRune_T (c : Int) : T (utf8u_ValidRune c) := by unfold utf8u_ValidRune; repeat (first | exact T.some _ | refine T.ite (fun _ => ?_) (fun _ => ?_) | refine T.bind ?_ (fun _ => ?_))
theorem chars_Class_T (c : Int) : T (chars_Class c) := by
  unfold chars_Class
  refine T.bind (ValidRune_T c) fun _ => ?_
  repeat (first | exact T.some _ | refine T.ite (fun _ => ?_) (fun _ => ?_) | refine T.bind ?_ (fun _ => ?_))
theorem chars_May_T (c : Int) : T (chars_May c) := by
  unfold chars_May
  exact T.bind (chars_Class_T c) fun _ => T.some _
theorem ref01u_Class_T (c : Int) : T (quillworkref01u_Class c) := by unfold quillworkref01u_Class; repeat (first | exact T.some _ | refine T.ite (fun _ => ?_) (fun _ => ?_) | refine T.bind ?_ (fun _ => ?_))
theorem ref01u_May_T (c : Int) : T (quillworkref01u_May c) := by
  unfold quillworkref01u_May
  exact T.bind (ref01u_Class_T c) fun _ => T.some _
theorem cut_len (s sep : List UInt8) : (Lib.cut s sep).1.length ≤ s.length := by
  unfold Lib.cut; split
  · simp; omega
  · exact Nat.le_refl _
theorem attrs_Value_T {h : List UInt8} (hh : h.length ≤ 200000) : T (attrs_Value h) := by
  unfold attrs_Value
  refine T.bind (T.foldS (fun x s => ?_) _ _) fun o => ?_
  · unfold attrs_Value_s1
    refine T.bind (chars_May_T _) fun _ => ?_
    repeat (first | exact T.some _ | refine T.ite (fun _ => ?_) (fun _ => ?_) | refine T.bind ?_ (fun _ => ?_))
  · cases o with
    | inl _ =>
      show T (Option.bind _ _)
      refine T.bind (T.ite (fun _ => T.bind ?_ fun _ => T.some _) fun _ => T.some _) fun _ => T.some _
      unfold utf8u_ValidString
      rw [if_pos (by omega)]; exact T.some _
    | inr _ => exact T.some _
theorem getI_T {α : Type} {l : List α} {i : Int} (h0 : 0 ≤ i) (h : i < l.length) : T (getI l i) := by
  unfold getI; rw [if_pos h0, List.getElem?_eq_getElem (by omega)]; exact T.some _
theorem last_idx {α : Type} {l : List α} (h : l ≠ []) (hl : l.length ≤ 1000000000) : 0 ≤ IntKind.wrap .i64 ((l.length : Int) - 1) ∧ IntKind.wrap .i64 ((l.length : Int) - 1) < l.length := by
  have := List.length_pos_iff.2 h
  rw [w_id (by omega) (by omega)]; omega
theorem attrs_Target_T {h : List UInt8} (hh : h.length ≤ 200000) : T (attrs_Target h) := by
  unfold attrs_Target strings_Cut strings_Map
  have hc := cut_len h [58]
  rw [if_pos (by omega), Option.bind_some, if_pos (by omega), Option.bind_some]
  refine T.bind (T.bind (attrs_Value_T hh) fun v => T.ite (fun _ => T.ite (fun hn => ?_) fun _ => T.some _) fun _ => T.some _) fun _ => T.some _
  have hne : h ≠ [] := by simpa using hn
  have hp := List.length_pos_iff.2 hne
  obtain ⟨hl1, hl2⟩ := last_idx hne (by omega)
  refine T.bind (getI_T (by omega) (by omega)) fun _ => T.ite (fun _ => T.bind (getI_T hl1 hl2) fun _ => ?_) fun _ => T.some _
  repeat (first | exact T.some _ | refine T.ite (fun _ => ?_) (fun _ => ?_) | refine T.bind ?_ (fun _ => ?_))
theorem ref03u_Value_T {h : List UInt8} (hh : h.length ≤ 200000) : T (quillworkref03u_Value h) := by
  unfold quillworkref03u_Value quillworkref01u_Runes runesO
  rw [if_pos (by omega)]
  simp only [Option.bind_some]
  have hn : (runesB (bs h)).length ≤ 200000 := Nat.le_trans (runesB_len _) hh
  generalize runesB (bs h) = v at hn
  refine T.bind (T.ite (fun _ => T.some _) fun _ => T.some _) fun q => T.ite (fun _ => T.some _) fun _ => ?_
  obtain ⟨r, hr, _⟩ := iter_post (step := fun s => quillworkref03u_Value_l1 v s) (inv := fun s m => ∃ k : Nat, s = (k : Int) ∧ k ≤ v.length ∧ m = v.length - k) (Q := fun _ => True) (by
    rintro s m ⟨k, rfl, h3, rfl⟩
    simp only [quillworkref03u_Value_l1]
    by_cases hk : k < v.length
    · rw [if_pos (by simpa using hk), getI_nat' (List.getElem?_eq_getElem hk)]
      simp only [Option.bind_some]
      obtain ⟨b, hb⟩ := ref01u_May_T (v[k])
      rw [hb]
      simp only [Option.bind_some, wsucc (n := k) (by omega)]
      cases b
      · left; exact ⟨_, rfl, trivial⟩
      · right; exact ⟨_, v.length - (k + 1), rfl, ⟨k + 1, rfl, by omega, rfl⟩, by omega⟩
    · left
      exact ⟨_, by rw [if_neg (by simpa using hk)], trivial⟩) fuel (0 : Int) v.length ⟨0, rfl, by omega, by omega⟩ (fuel_big (by omega))
  rw [hr]
  cases r <;> exact T.some _
theorem ref03u_Target_T {h : List UInt8} (hh : h.length ≤ 200000) : T (quillworkref03u_Target h) := by
  unfold quillworkref03u_Target
  have hq : T ((quillworkref03u_Value h).bind fun v2 => if v2 then (if h == [] then (some true) else ((getI h 0).bind fun v3 => if ((v3.toNat : Int) : Int) == 32 then (some true) else ((getI h (IntKind.wrap .i64 ((h.length : Int) - 1))).bind fun v4 => some (((v4.toNat : Int) : Int) == 32)))) else (some true) : Option (Bool)) := by
    refine T.bind (ref03u_Value_T hh) fun v => T.ite (fun _ => T.ite (fun _ => T.some _) fun hn => ?_) fun _ => T.some _
    have hne : h ≠ [] := by simpa using hn
    have hp := List.length_pos_iff.2 hne
    obtain ⟨hl1, hl2⟩ := last_idx hne (by omega)
    refine T.bind (getI_T (by omega) (by omega)) fun _ => T.ite (fun _ => T.some _) fun _ => T.bind (getI_T hl1 hl2) fun _ => T.some _
  refine T.bind hq fun q => T.ite (fun _ => T.some _) fun _ => ?_
  obtain ⟨r, hr, k0, rfl, hk0⟩ := iter_post (step := fun s => quillworkref03u_Target_l1 h s) (inv := fun s m => ∃ k : Nat, s = (k : Int) ∧ k ≤ h.length ∧ m = h.length - k) (Q := fun r => ∃ k : Nat, r = (k : Int) ∧ k ≤ h.length) (by
    rintro s m ⟨k, rfl, h3, rfl⟩
    simp only [quillworkref03u_Target_l1]
    by_cases hk : k < h.length
    · rw [if_pos (by simpa using hk), getI_nat' (List.getElem?_eq_getElem hk)]
      simp only [Option.bind_some, wsucc (n := k) (by omega)]
      split
      · right; exact ⟨_, h.length - (k + 1), rfl, ⟨k + 1, rfl, by omega, rfl⟩, by omega⟩
      · left; exact ⟨_, rfl, k, rfl, h3⟩
    · left
      exact ⟨_, by rw [if_neg (by simpa using hk)]; rfl, k, rfl, h3⟩) fuel (0 : Int) h.length ⟨0, rfl, by omega, by omega⟩ (fuel_big (by omega))
  rw [hr, Option.bind_some]
  refine T.ite (fun _ => T.some _) fun hne => ?_
  have hk : k0 = 10 := by simp at hne; omega
  subst hk
  obtain ⟨r, hr, _⟩ := iter_post (step := fun s => quillworkref03u_Target_l2 h ((10 : Nat) : Int) s) (inv := fun s m => ∃ k : Nat, s = (k : Int) ∧ k ≤ 10 ∧ m = 10 - k) (Q := fun _ => True) (by
    rintro s m ⟨k, rfl, h3, rfl⟩
    simp only [quillworkref03u_Target_l2]
    by_cases hk : k < 10
    · rw [if_pos (by simp; omega), getI_nat' (List.getElem?_eq_getElem (show k < h.length by omega))]
      simp only [Option.bind_some, wsucc (n := k) (by omega)]
      rw [getI_nat' (List.getElem?_eq_getElem (show k < ([106, 97, 118, 97, 115, 99, 114, 105, 112, 116] : List UInt8).length from hk))]
      simp only [Option.bind_some]
      generalize ([106, 97, 118, 97, 115, 99, 114, 105, 112, 116] : List UInt8)[k] = y
      generalize h[k] = x
      obtain ⟨q, hq⟩ : T (if decide ((x.toNat : Int) ≥ 65) = true then some (decide ((x.toNat : Int) ≤ 90)) else some false) := T.ite (fun _ => T.some _) fun _ => T.some _
      rw [hq, Option.bind_some]
      obtain ⟨z, hz⟩ : T (if q = true then some (IntKind.u8.wrap ((x.toNat : Int) + 32)) else some (x.toNat : Int)) := T.ite (fun _ => T.some _) fun _ => T.some _
      rw [hz, Option.bind_some]
      split
      · left; exact ⟨_, rfl, trivial⟩
      · right; exact ⟨_, 10 - (k + 1), rfl, ⟨k + 1, rfl, by omega, rfl⟩, by omega⟩
    · left
      exact ⟨_, by rw [if_neg (by simp; omega)], trivial⟩) fuel (0 : Int) 10 ⟨0, rfl, by omega, by omega⟩ (fuel_big (by omega))
  rw [hr, Option.bind_some]
  cases r <;> exact T.some _
end Go.PM

namespace Go.PM
set_option linter.unusedVariables false
set_option linter.unusedSimpArgs false
def hsh (c : T_api_Cell) : Prop := c.f_Href.length ≤ 200000
def cellOk (c : T_api_Cell) : Bool := cells_May_1 c == some false
theorem cells_link_T {h : List UInt8} (hh : h.length ≤ 200000) : T (cells_link h) := by
  unfold cells_link
  exact T.bind (T.ite (fun _ => T.some _) fun _ => T.bind (attrs_Target_T hh) fun _ => T.some _) fun _ => T.some _
theorem cells_May_1u_T {c : T_api_Cell} (hh : hsh c) : T (cells_May_1 c) := by
  have hl := cells_link_T hh
  unfold cells_May_1
  refine T.bind (T.bind (chars_May_T _) fun _ => ?_) fun _ => T.some _
  repeat' (first | exact T.some _ | assumption | refine T.ite (fun _ => ?_) (fun _ => ?_) | refine T.bind ?_ (fun _ => ?_))
theorem cells_May_1u_eq {c : T_api_Cell} (hh : hsh c) : cells_May_1 c = some (!cellOk c) := by
  obtain ⟨b, hb⟩ := cells_May_1u_T hh
  unfold cellOk; rw [hb]; cases b <;> rfl
theorem any_not {α : Type} (g : α → Bool) (l : List α) : (!(l.any fun x => !g x)) = l.all g := by
  induction l with
  | nil => rfl
  | cons x l ih => simp only [List.any_cons, List.all_cons, Bool.not_or, Bool.not_not, ih]
theorem cells_May_eq {l : List T_api_Cell} (h : ∀ c ∈ l, hsh c) (hl : l.length ≤ 9223372036854775806) : cells_May l = some (l.all cellOk) := by
  unfold cells_May
  rw [contains_cell (g := fun c => !cellOk c) (fun c hc => cells_May_1u_eq (h c hc)) hl, Option.bind_some, any_not]
def frameOk (l : T_api_Line) : Bool := lines_May ⟨l.f_Quote, l.f_Lists, l.f_Kind, []⟩ == some true
def lineOk (l : T_api_Line) : Bool := frameOk l && l.f_Cells.all cellOk
theorem lists_T (l : List Int) (hl : l.length ≤ 9223372036854775806) : T (slices_ContainsFunc_int l (fun x0 => lines_May_1 x0)) := by
  have h : ∀ x, ∃ b, lines_May_1 x = some b := by
    intro x; show T _
    unfold lines_May_1; repeat (first | exact T.some _ | refine T.ite (fun _ => ?_) (fun _ => ?_) | refine T.bind ?_ (fun _ => ?_))
  exact ⟨_, contains_int (g := fun x => (h x).choose) (fun x _ => (h x).choose_spec) hl⟩
theorem lines_May_eq {l : T_api_Line} (h : ∀ c ∈ l.f_Cells, hsh c) (hl : l.f_Cells.length ≤ 9223372036854775806) (hi : l.f_Lists.length ≤ 9223372036854775806) : lines_May l = some (lineOk l) := by
  have h0 : cells_May [] = some true := cells_May_eq (l := []) (by simp) (by simp)
  obtain ⟨q, ls, k, cs⟩ := l
  simp only at h hl hi
  unfold lineOk frameOk lines_May
  simp only [h0, cells_May_eq h hl]
  obtain ⟨b, hb⟩ := lists_T ls hi
  simp only [hb, Option.bind_some]
  obtain ⟨x, hx⟩ : T (if decide (q < 0) = true then some true else if decide (q > 6) = true then some true else if decide ((ls.length : Int) > 6) = true then some true else if decide (k < 0) = true then some true else some (decide (k > 3))) := by repeat (first | exact T.some _ | refine T.ite (fun _ => ?_) (fun _ => ?_) | refine T.bind ?_ (fun _ => ?_))
  obtain ⟨y, hy⟩ : T (if decide ((ls.length : Int) > 0) = true then some (k != 0) else some false) := by repeat (first | exact T.some _ | refine T.ite (fun _ => ?_) (fun _ => ?_) | refine T.bind ?_ (fun _ => ?_))
  simp only [hx, hy, Option.bind_some]
  cases x
  · cases y
    · cases b
      · simp
      · rfl
    · rfl
  · rfl
structure Fit (p : List T_api_Line) : Prop where
  len : p.length ≤ 100000
  siz : szl p ≤ 100000
  lis : ∀ l ∈ p, l.f_Lists.length ≤ 100000
  href : ∀ l ∈ p, ∀ c ∈ l.f_Cells, hsh c
theorem sum_mem_le {α : Type} {p : List α} {f : α → Nat} {x : α} (h : x ∈ p) : f x ≤ (p.map f).sum := by
  induction p with
  | nil => cases h
  | cons y p ih =>
    simp only [List.map_cons, List.sum_cons]
    rcases List.mem_cons.1 h with rfl | h
    · omega
    · have := ih h; omega
theorem Shrt.fit {p : List T_api_Line} (h : Shrt p) : Fit p := ⟨by have := h.len; omega, by have := szl_tot p; have := h.tot; omega, fun l hl => by
  have h1 := sum_mem_le (f := fun l : T_api_Line => l.f_Cells.length + l.f_Lists.length) hl
  have h2 : ((p.map fun l => l.f_Cells.length + l.f_Lists.length).sum) ≤ 20000 := h.tot
  omega, h.href⟩
theorem Fit.bd {p : List T_api_Line} (h : Fit p) : Bd p := ⟨by have := h.len; omega, by have := h.siz; omega⟩
theorem Fit.cells {p : List T_api_Line} (h : Fit p) {l : T_api_Line} (hl : l ∈ p) : l.f_Cells.length ≤ 100000 := by
  have h1 := sum_mem_le (f := fun l : T_api_Line => l.f_Cells.length) hl
  have := h.siz; unfold szl at this; omega
theorem Fit.may {p : List T_api_Line} (h : Fit p) {l : T_api_Line} (hl : l ∈ p) : lines_May l = some (lineOk l) :=
  lines_May_eq (h.href l hl) (by have := h.cells hl; omega) (by have := h.lis l hl; omega)
def docOk (p : List T_api_Line) : Bool := decide (1 ≤ p.length) && (decide (p.length ≤ 200) && (decide (szl p ≤ 4000) && p.all lineOk))
theorem doc_May_eq {p : List T_api_Line} (h : Fit p) : doc_May p = some (docOk p) := by
  unfold doc_May docOk
  rw [doc_Size_eq h.bd]
  simp only [Option.bind_some]
  rw [contains_line (g := fun l => !lineOk l) (fun l hl => by unfold doc_May_1; rw [h.may hl]; rfl) (by have := h.len; omega)]
  simp only [Option.bind_some, any_not]
  have e1 : decide ((p.length : Int) ≥ 1) = decide (1 ≤ p.length) := by rw [decide_eq_decide]; omega
  have e2 : decide ((p.length : Int) ≤ 200) = decide (p.length ≤ 200) := by rw [decide_eq_decide]; omega
  have e3 : decide ((szl p : Int) ≤ 4000) = decide (szl p ≤ 4000) := by rw [decide_eq_decide]; omega
  rw [e1, e2, e3]
  cases decide (1 ≤ p.length) <;> cases decide (p.length ≤ 200) <;> cases decide (szl p ≤ 4000) <;> rfl
theorem doc_Is_cases (p : List T_api_Line) (a : T_api_Pos) : doc_Is p a = some false ∨ (doc_Is p a = some true ∧ ∃ i k, a = ps i k ∧ At p i k) := by
  obtain ⟨x, y⟩ := a
  by_cases h1 : x ≥ 0
  · by_cases h2 : x < p.length
    · by_cases h3 : y ≥ 0
      · obtain ⟨i, rfl⟩ : ∃ i : Nat, x = i := ⟨x.toNat, by omega⟩
        obtain ⟨k, rfl⟩ : ∃ k : Nat, y = k := ⟨y.toNat, by omega⟩
        have hg := List.getElem?_eq_getElem (show i < p.length by omega)
        by_cases h4 : (k : Int) ≤ (p[i]).f_Cells.length
        · right
          have ha : At p i k := ⟨_, hg, by omega⟩
          exact ⟨doc_Is_eq ha, i, k, rfl, ha⟩
        · left
          unfold doc_Is
          simp only [getI_nat' hg, Option.bind_some]
          rw [if_pos (by simp), if_pos (by simpa using h2), if_pos (by simp)]
          simp; omega
      · left; unfold doc_Is; simp [h1, h2, h3]
    · left; unfold doc_Is; simp [h1, h2]
  · left; unfold doc_Is; simp [h1]
def Ord (i k j m : Nat) : Prop := i < j ∨ (i = j ∧ k ≤ m)
theorem cmp_ord (i k j m : Nat) : ∃ c, doc_Cmp (ps i k) (ps j m) = some c ∧ (c ≤ 0 ↔ Ord i k j m) := by
  refine ⟨_, doc_Cmp_eq _ _, ?_⟩
  unfold ps Ord
  simp only
  repeat' split
  all_goals omega
theorem doc_span_true {p : List T_api_Line} (h : Fit p) (ho : docOk p = true) {i k j m : Nat} (ha : At p i k) (hb : At p j m) (hc : Ord i k j m) : doc_span p (ps i k) (ps j m) = some true := by
  obtain ⟨c, h1, h2⟩ := cmp_ord i k j m
  unfold doc_span
  simp only [doc_May_eq h, ho, Option.bind_some, if_true, doc_Is_eq ha, doc_Is_eq hb, h1]
  simp [h2.2 hc]
end Go.PM

namespace Go.PM
set_option linter.unusedVariables false
set_option linter.unusedSimpArgs false
def cellsAt (p : List T_api_Line) (t : Nat) : List T_api_Cell := match p[t]? with | some l => l.f_Cells | none => []
def fr (i k t : Nat) : Nat := if t = i then k else 0
def tt (p : List T_api_Line) (j m t : Nat) : Nat := if t = j then m else (cellsAt p t).length
def sub (p : List T_api_Line) (i k j m t : Nat) : List T_api_Cell := ((cellsAt p t).take (tt p j m t)).drop (fr i k t)
def seg (p : List T_api_Line) (i k j m t : Nat) : Int × (Int × Int) := ((t : Int), ((fr i k t : Int), (tt p j m t : Int)))
def pre (p : List T_api_Line) (i k j m n : Nat) : List T_api_Cell := (List.range' i n).flatMap (sub p i k j m)
def btw (p : List T_api_Line) (i k j m : Nat) : List T_api_Cell := pre p i k j m (j + 1 - i)
theorem cellsAt_some {p : List T_api_Line} {t : Nat} {l : T_api_Line} (h : p[t]? = some l) : cellsAt p t = l.f_Cells := by
  unfold cellsAt; rw [h]
theorem pre_succ (p : List T_api_Line) (i k j m n : Nat) : pre p i k j m (n + 1) = pre p i k j m n ++ sub p i k j m (i + n) := by
  unfold pre; rw [List.range'_1_concat, List.flatMap_append]; simp
theorem szl_step (p : List T_api_Line) (t : Nat) : szl (p.take (t + 1)) = szl (p.take t) + (cellsAt p t).length := by
  cases h : p[t]? with
  | some l => rw [szl_succ h, cellsAt_some h]
  | none =>
    have h1 : p.length ≤ t := List.getElem?_eq_none_iff.1 h
    rw [List.take_of_length_le (by omega), List.take_of_length_le h1]
    unfold cellsAt; rw [h]; rfl
theorem sub_len (p : List T_api_Line) (i k j m t : Nat) : (sub p i k j m t).length ≤ (cellsAt p t).length := by
  unfold sub; rw [List.length_drop, List.length_take]; omega
theorem pre_len (p : List T_api_Line) (i k j m : Nat) : ∀ n, (pre p i k j m n).length ≤ szl (p.take (i + n))
  | 0 => by simp [pre]
  | n + 1 => by
    have h1 := pre_len p i k j m n
    have h2 := sub_len p i k j m (i + n)
    have h3 := szl_step p (i + n)
    rw [pre_succ, List.length_append, show i + (n + 1) = i + n + 1 by omega]; omega
theorem seg_ok {p : List T_api_Line} {i k j m t : Nat} (ha : At p i k) (hb : At p j m) (ho : Ord i k j m) (h1 : i ≤ t) (h2 : t ≤ j) : ∃ l, p[t]? = some l ∧ cellsAt p t = l.f_Cells ∧ fr i k t ≤ tt p j m t ∧ tt p j m t ≤ l.f_Cells.length := by
  obtain ⟨la, ha1, ha2⟩ := ha
  obtain ⟨lb, hb1, hb2⟩ := hb
  have hlt := lt_of_get hb1
  have hg := List.getElem?_eq_getElem (show t < p.length by omega)
  refine ⟨_, hg, cellsAt_some hg, ?_, ?_⟩
  · unfold fr tt
    rw [cellsAt_some hg]
    by_cases e1 : t = i
    · subst e1
      rw [hg] at ha1
      rw [if_pos rfl, Option.some.inj ha1]
      split
      · unfold Ord at ho; omega
      · exact ha2
    · rw [if_neg e1]; omega
  · unfold tt
    rw [cellsAt_some hg]
    split
    · rename_i e; subst e
      rw [hg] at hb1
      rw [Option.some.inj hb1]; exact hb2
    · exact Nat.le_refl _
theorem Ord.le {i k j m : Nat} (h : Ord i k j m) : i ≤ j := by unfold Ord at h; omega
theorem iterY_range {Y : Type} {step : Int → Option (Option (Y × Int))} (f : Nat → Y) {hi : Nat} (h2 : step (hi : Int) = some none) : ∀ (n lo : Nat), (∀ t, lo ≤ t → t < hi → step (t : Int) = some (some (f t, ((t + 1 : Nat) : Int)))) → lo ≤ hi → hi - lo < n → iterY step n (lo : Int) = some ((List.range' lo (hi - lo)).map f)
  | 0, lo, _, _, hn => by omega
  | n + 1, lo, h, hl, hn => by
    unfold iterY
    by_cases e : lo = hi
    · subst e; rw [h2]; simp
    · rw [h lo (Nat.le_refl _) (by omega)]
      have := iterY_range f h2 n (lo + 1) (fun t a b => h t (by omega) b) (by omega) (by omega)
      simp only [this]
      rw [show hi - lo = (hi - (lo + 1)) + 1 by omega, List.range'_succ]
      rfl
theorem foldO_range {α σ : Type} {step : α → σ → Option σ} (f : Nat → α) (S : Nat → σ) : ∀ (n lo : Nat), (∀ t, lo ≤ t → t < lo + n → step (f t) (S t) = some (S (t + 1))) → foldO step ((List.range' lo n).map f) (S lo) = some (S (lo + n))
  | 0, lo, _ => rfl
  | n + 1, lo, h => by
    rw [List.range'_succ, List.map_cons]
    unfold foldO
    rw [h lo (Nat.le_refl _) (by omega), Option.bind_some, foldO_range f S n (lo + 1) (fun t a b => h t (by omega) (by omega)), show lo + 1 + n = lo + (n + 1) by omega]
theorem beqI (a b : Nat) : ((a : Int) == (b : Int)) = decide (a = b) := by
  rw [Bool.eq_iff_iff, beq_iff_eq, decide_eq_true_eq]; omega
theorem between_eq {p : List T_api_Line} {i k j m : Nat} (hf : Fit p) (ha : At p i k) (hb : At p j m) (ho : Ord i k j m) : doc_between_1 (ps i k) (ps j m) p = some ((List.range' i (j + 1 - i)).map (seg p i k j m)) := by
  have hle := ho.le
  have hlen := hf.len
  have hj : j < p.length := by obtain ⟨l, h, _⟩ := hb; exact lt_of_get h
  unfold doc_between_1 ps
  refine iterY_range (seg p i k j m) (hi := j + 1) ?_ fuel i ?_ (by omega) (fuel_big (by omega))
  · simp only [doc_between_1u_l1]
    have hd : decide (((j + 1 : Nat) : Int) ≤ (j : Int)) = false := by simp; omega
    rw [hd]; rfl
  · intro t h1 h2
    obtain ⟨l, hl, hc, _, _⟩ := seg_ok ha hb ho h1 (by omega)
    simp only [doc_between_1u_l1]
    have hd : decide ((t : Int) ≤ (j : Int)) = true := by simp; omega
    rw [hd, getI_nat' hl]
    simp only [Option.bind_some, wsucc (n := t) (by omega), if_true]
    unfold seg fr tt
    rw [hc]
    simp only [beqI]
    by_cases e1 : t = i
    · subst e1
      by_cases e2 : t = j
      · subst e2; simp
      · simp [e2]
    · by_cases e2 : t = j
      · subst e2; simp [e1]
      · simp [e1, e2]
theorem cutI_eq {α : Type} {l : List α} {a b : Nat} (h1 : a ≤ b) (h2 : b ≤ l.length) : cutI l (a : Int) (b : Int) = some ((l.take b).drop a) := by
  unfold cutI
  rw [if_pos ⟨by omega, by omega, by omega⟩]; simp
theorem countP_take_succ {α : Type} {v : List α} {g : α → Bool} {i : Nat} {x : α} (h : v[i]? = some x) : (v.take (i + 1)).countP g = (v.take i).countP g + (if g x then 1 else 0) := by
  rw [List.take_add_one, h, Option.toList_some, List.countP_append]
  congr 1
  cases e : g x <;> simp [List.countP_cons, e]
theorem tells_l3u_eq {so : T_api_Cell → Option Bool} {g : T_api_Cell → Bool} {v : List T_api_Cell} (h : ∀ c ∈ v, so c = some (g c)) (hv : v.length ≤ 1000000) {n c : Nat} (hn : n ≤ 1000000) (hc : c ≤ 1000000) : iter (fun s => doc_tells_l3 so v s.1 s.2.1 s.2.2) fuel ((n : Int), (c : Int), 0) = some (((n + v.length : Nat) : Int), ((c + v.countP g : Nat) : Int)) := by
  have := iter_to (step := fun s : Int × Int × Int => doc_tells_l3 so v s.1 s.2.1 s.2.2) (fun u => (((n + u : Nat) : Int), ((c + (v.take u).countP g : Nat) : Int), (u : Int))) (k := v.length) (r := (((n + v.length : Nat) : Int), ((c + v.countP g : Nat) : Int))) (fun u hu => by
    have hg := List.getElem?_eq_getElem hu
    have hcp : (v.take u).countP g ≤ u := Nat.le_trans List.countP_le_length (by simp; omega)
    simp only [doc_tells_l3, getI_nat' hg, Option.bind_some, h _ (List.getElem_mem hu)]
    rw [if_pos (by simpa using hu), wsucc (n := n + u) (by omega), wsucc (n := u) (by omega), wsucc (n := c + (v.take u).countP g) (by omega), countP_take_succ hg]
    cases g v[u]
    · simp; omega
    · simp; omega) (by
    simp only [doc_tells_l3]
    rw [if_neg (by simp), List.take_length]) fuel 0 (by omega) (fuel_big (by omega))
  simpa using this
theorem tells_eq {p : List T_api_Line} {i k j m : Nat} (hf : Fit p) (hs : doc_span p (ps i k) (ps j m) = some true) (ha : At p i k) (hb : At p j m) (ho : Ord i k j m) {so : T_api_Cell → Option Bool} {g : T_api_Cell → Bool} (h : ∀ c ∈ btw p i k j m, so c = some (g c)) : doc_tells p (ps i k) (ps j m) so = some (((btw p i k j m).length : Int), ((btw p i k j m).countP g : Int)) := by
  have hsz := hf.siz
  have hle := ho.le
  unfold doc_tells doc_between
  rw [hs]
  simp only [Option.bind_some, between_eq hf ha hb ho]
  have := foldO_range (step := fun x (s : Int × Int) => doc_tells_r4 p so x s.1 s.2) (seg p i k j m) (fun t => (((pre p i k j m (t - i)).length : Int), ((pre p i k j m (t - i)).countP g : Int))) (j + 1 - i) i (fun t h1 h2 => by
    obtain ⟨l, hl, hc, h3, h4⟩ := seg_ok ha hb ho h1 (by omega)
    have hlen := pre_len p i k j m (t - i)
    have h5 := szl_take p (i + (t - i))
    have h6 : (pre p i k j m (t - i)).countP g ≤ (pre p i k j m (t - i)).length := List.countP_le_length
    have h7 := hf.cells (List.mem_of_getElem? hl)
    have e : pre p i k j m (t + 1 - i) = pre p i k j m (t - i) ++ sub p i k j m t := by
      rw [show t + 1 - i = (t - i) + 1 by omega, pre_succ, show i + (t - i) = t by omega]
    simp only [doc_tells_r4, seg, getI_nat' hl, Option.bind_some, cutI_eq h3 h4]
    have hsub : (l.f_Cells.take (tt p j m t)).drop (fr i k t) = sub p i k j m t := by unfold sub; rw [hc]
    rw [hsub, tells_l3u_eq (g := g) (fun c hc' => h c (by
      unfold btw pre
      exact List.mem_flatMap.2 ⟨t, List.mem_range'_1.2 ⟨h1, h2⟩, hc'⟩)) (by have := sub_len p i k j m t; rw [hc] at this; omega) (by omega) (by omega), e, List.length_append, List.countP_append]
    rfl)
  rw [show i + (j + 1 - i) = j + 1 by omega] at this
  simp only [Nat.sub_self, pre, List.range'_zero, List.flatMap_nil, List.length_nil, List.countP_nil] at this
  rw [if_neg (by simp)]
  have h0 : ((0 : Int), (0 : Int)) = (((0 : Nat) : Int), ((0 : Nat) : Int)) := rfl
  rw [h0, this]
  rfl
end Go.PM

namespace Go.PM
set_option linter.unusedVariables false
set_option linter.unusedSimpArgs false
theorem capO_eq {α : Type} {n : Nat} {l : List α} (h : l.length * (n + 1) ≤ 140737488355328) : capO n l = some l := by
  unfold capO; rw [if_pos h]
theorem lines_Own_eq {l : T_api_Line} (h1 : l.f_Lists.length ≤ 1000000) (h2 : l.f_Cells.length ≤ 1000000) : lines_Own l = some l := by
  unfold lines_Own slices_Clone_int slices_Clone_apiCell
  rw [capO_eq (by omega), Option.bind_some, capO_eq (by omega), Option.bind_some]
theorem doc_Own_eq {p : List T_api_Line} (hf : Fit p) : doc_Own p = some p := by
  have hl := hf.len
  have := iter_to (step := fun s : List T_api_Line × Int => doc_Own_l1 p s.1 s.2) (fun u => (p.take u, (u : Int))) (k := p.length) (r := p) (fun u hu => by
    have hg := List.getElem?_eq_getElem hu
    have hm := List.getElem_mem hu
    simp only [doc_Own_l1, getI_nat' hg, Option.bind_some, lines_Own_eq (l := p[u]) (by have := hf.lis _ hm; omega) (by have := hf.cells hm; omega)]
    rw [if_pos (by simpa using hu), capO_eq (by simp; omega), Option.bind_some, wsucc (n := u) (by omega), List.take_add_one, hg]
    rfl) (by
    simp only [doc_Own_l1]
    rw [if_neg (by simp), List.take_length]) fuel 0 (by omega) (fuel_big (by omega))
  unfold doc_Own
  have h0 : (p.take 0, ((0 : Nat) : Int)) = (([] : List T_api_Line), (0 : Int)) := rfl
  rw [h0] at this
  rw [this, Option.bind_some]
section
variable {α : Type} {x d : List α} {t : Nat}
end
theorem doc_Count_eq {p : List T_api_Line} {i k j m : Nat} (hf : Fit p) (hs : doc_span p (ps i k) (ps j m) = some true) (ha : At p i k) (hb : At p j m) (ho : Ord i k j m) : doc_Count p (ps i k) (ps j m) = some ((btw p i k j m).length : Int) := by
  unfold doc_Count
  rw [tells_eq hf hs ha hb ho (so := fun x0 => doc_Count_1 x0) (g := fun _ => false) (fun c _ => rfl), Option.bind_some]
end Go.PM

namespace Go.PM
set_option linter.unusedVariables false
set_option linter.unusedSimpArgs false
theorem docOk_cell {p : List T_api_Line} (ho : docOk p = true) {l : T_api_Line} (hl : l ∈ p) {c : T_api_Cell} (hc : c ∈ l.f_Cells) : cellOk c = true := by
  unfold docOk at ho
  simp only [Bool.and_eq_true] at ho
  have := List.all_eq_true.1 ho.2.2.2 l hl
  unfold lineOk at this
  simp only [Bool.and_eq_true] at this
  exact List.all_eq_true.1 this.2 c hc
end Go.PM

namespace Go.PM
set_option linter.unusedVariables false
set_option linter.unusedSimpArgs false
theorem ref05u_Link_T {h : List UInt8} (hh : h.length ≤ 200000) : T (quillworkref05u_Link h) := by
  unfold quillworkref05u_Link
  exact T.bind (T.ite (fun _ => T.some _) fun _ => T.bind (ref03u_Target_T hh) fun _ => T.some _) fun _ => T.some _
def rbad (v2 : T_api_Cell) : Option Bool := if (v2.f_R : Int) != 10 then ((quillworkref01u_May v2.f_R).bind fun v4 => if v4 then (if decide ((v2.f_Bits : Int) < 0) then (some true) else (if decide ((v2.f_Bits : Int) > 15) then (some true) else ((quillworkref05u_Link v2.f_Href).bind fun v5 => some (!v5)))) else (some true)) else (if decide ((v2.f_Bits : Int) < 0) then (some true) else (if decide ((v2.f_Bits : Int) > 15) then (some true) else ((quillworkref05u_Link v2.f_Href).bind fun v6 => some (!v6))))
def rok (c : T_api_Cell) : Bool := rbad c == some false
theorem rbad_T {c : T_api_Cell} (hh : hsh c) : T (rbad c) := by
  have hl := ref05u_Link_T hh
  have hm := ref01u_May_T c.f_R
  unfold rbad
  repeat' (first | exact T.some _ | assumption | refine T.ite (fun _ => ?_) (fun _ => ?_) | refine T.bind ?_ (fun _ => ?_))
theorem rbad_eq {c : T_api_Cell} (hh : hsh c) : rbad c = some (!rok c) := by
  obtain ⟨b, hb⟩ := rbad_T hh
  unfold rok; rw [hb]; cases b <;> rfl
theorem ref05u_May_eq {l : List T_api_Cell} (h : ∀ c ∈ l, hsh c) (hl : l.length ≤ 9223372036854775806) : quillworkref05u_May l = some (l.all rok) := by
  have hn := any_not rok l
  unfold quillworkref05u_May
  rcases iter_any (step := fun s => quillworkref05u_May_l1 l s) (l := l) (g := fun c => !rok c) (fun _ => (.inl () : Unit ⊕ Unit)) (.inr ()) (by
    intro i c hc
    have hi := lt_of_get hc
    have hb := rbad_eq (h c (List.mem_of_getElem? hc))
    simp only [quillworkref05u_May_l1, getI_nat' hc, Option.bind_some]
    rw [if_pos (by simpa using hi)]
    show ((rbad c).bind _) = _
    rw [hb, Option.bind_some, wsucc (n := i) (by omega)]
    cases rok c <;> rfl) (by simp [quillworkref05u_May_l1]) (by omega) with ⟨h1, i, hi, h2⟩ | ⟨h1, h2⟩
  · rw [h2, ← hn, h1]; rfl
  · rw [h2, ← hn, h1]; rfl
theorem ref07u_Size_eq {p : List T_api_Line} (hb : Bd p) : quillworkref07u_Size p = some (szl p : Int) := doc_Size_eq hb
theorem ref07u_Is_eq {p : List T_api_Line} {i k : Nat} (h : At p i k) : quillworkref07u_Is p (ps i k) = some true := by
  obtain ⟨l, hl, hk⟩ := h
  have := lt_of_get hl
  unfold quillworkref07u_Is ps
  simp [getI_nat' hl, this, hk]
  rw [if_neg (by omega)]
  simp; omega
def cmpN (i k j m : Nat) : Int := if i = j ∧ k = m then 0 else if i < j ∨ (i = j ∧ k < m) then -1 else 1
theorem ref07u_Cmp_eq (i k j m : Nat) : quillworkref07u_Cmp (ps i k) (ps j m) = some (cmpN i k j m) := by
  unfold quillworkref07u_Cmp ps cmpN
  simp only [beqI]
  by_cases e1 : i = j
  · subst e1
    by_cases e2 : k = m
    · subst e2; simp
    · by_cases e3 : k < m
      · simp [e2, e3]
      · simp [e2, e3]
  · by_cases e3 : i < j
    · simp [e1, e3]
    · simp [e1, e3]
theorem cmpN_le (i k j m : Nat) : cmpN i k j m ≤ 0 ↔ Ord i k j m := by
  unfold cmpN Ord; split
  · omega
  · split <;> omega
theorem ref07u_From_eq {p : List T_api_Line} {i k j m t : Nat} {l : T_api_Line} (hl : p[t]? = some l) : quillworkref07u_From p (ps i k) (ps j m) (t : Int) = some ((fr i k t : Int), (tt p j m t : Int)) := by
  unfold quillworkref07u_From ps fr tt
  rw [getI_nat' hl, cellsAt_some hl]
  simp only [Option.bind_some, beqI]
  by_cases e1 : t = i
  · subst e1
    by_cases e2 : t = j
    · subst e2; simp
    · simp [e2]
  · by_cases e2 : t = j
    · subst e2; simp [e1]
    · simp [e1, e2]
def parts (p : List T_api_Line) (i k j m n : Nat) : List T_api_Line := (List.range' i n).map fun t => match p[t]? with | some l => ⟨l.f_Quote, l.f_Lists, l.f_Kind, sub p i k j m t⟩ | none => ⟨0, [], 0, []⟩
theorem ref07u_Part_eq {p : List T_api_Line} {i k j m : Nat} (hf : Fit p) (ha : At p i k) (hb : At p j m) (ho : Ord i k j m) {b : Bool} (hm : quillworkref07u_May p = some b) : quillworkref07u_Part p (ps i k) (ps j m) = some (if b then (parts p i k j m (j + 1 - i), 0) else ([], 1)) := by
  have hle := ho.le
  have hlen := hf.len
  have hj : j < p.length := by obtain ⟨l, h, _⟩ := hb; exact lt_of_get h
  have hsp : quillworkref07u_Span p (ps i k) (ps j m) = some b := by
    unfold quillworkref07u_Span
    rw [hm]
    simp only [Option.bind_some]
    cases b with
    | false => rfl
    | true =>
      simp only [if_true, ref07u_Is_eq ha, ref07u_Is_eq hb, ref07u_Cmp_eq, Option.bind_some]
      rw [decide_eq_true ((cmpN_le i k j m).2 ho)]
  unfold quillworkref07u_Part
  rw [hsp]
  simp only [Option.bind_some]
  cases b with
  | false => rfl
  | true =>
    simp only [Bool.not_true, if_true]
    rw [if_neg (by simp)]
    have := iter_to (step := fun s : List T_api_Line × Int => quillworkref07u_Part_l1 p (ps i k) (ps j m) s.1 s.2) (fun u => (parts p i k j m u, ((i + u : Nat) : Int))) (k := j + 1 - i) (r := parts p i k j m (j + 1 - i)) (fun u hu => by
      obtain ⟨l, hl, hc, h3, h4⟩ := seg_ok ha hb ho (show i ≤ i + u by omega) (by omega)
      have hmem := List.mem_of_getElem? hl
      have h5 := hf.lis l hmem
      have h6 := hf.cells hmem
      have hs : sub p i k j m (i + u) = (l.f_Cells.take (tt p j m (i + u))).drop (fr i k (i + u)) := by unfold sub; rw [hc]
      have h7 := sub_len p i k j m (i + u)
      rw [hc] at h7
      have hd : decide (((i + u : Nat) : Int) ≤ (ps j m).f_Line) = true := decide_eq_true (by show ((i + u : Nat) : Int) ≤ (j : Int); omega)
      simp only [quillworkref07u_Part_l1, ref07u_From_eq hl, getI_nat' hl, Option.bind_some, cutI_eq h3 h4, ← hs]
      unfold quillworkref06u_Frame quillworkref05u_Own
      rw [hd, if_pos rfl, capO_eq (by simp; omega), Option.bind_some, capO_eq (by simp; omega), Option.bind_some]
      simp only [Option.bind_some]
      rw [capO_eq (by simp [parts]; omega), Option.bind_some, wsucc (n := i + u) (by omega)]
      unfold parts
      rw [List.range'_1_concat, List.map_append]
      simp only [List.map_cons, List.map_nil, hl, List.nil_append]
      rfl) (by
      simp only [quillworkref07u_Part_l1]
      have hd : decide (((i + (j + 1 - i) : Nat) : Int) ≤ (ps j m).f_Line) = false := decide_eq_false (by show ¬ ((i + (j + 1 - i) : Nat) : Int) ≤ (j : Int); omega)
      rw [hd]; rfl) fuel 0 (by omega) (fuel_big (by omega))
    simp only [parts, Nat.add_zero, List.range'_zero, List.map_nil] at this
    rw [show (ps i k).f_Line = (i : Int) from rfl, this]
    rfl
theorem ref07u_Cells_eq {p : List T_api_Line} {i k j m : Nat} (hf : Fit p) (ha : At p i k) (hb : At p j m) (ho : Ord i k j m) {b : Bool} (hm : quillworkref07u_May p = some b) : quillworkref07u_Cells p (ps i k) (ps j m) = some (if b then btw p i k j m else []) := by
  have hle := ho.le
  have hlen := hf.len
  have hsz := hf.siz
  have hj : j < p.length := by obtain ⟨l, h, _⟩ := hb; exact lt_of_get h
  unfold quillworkref07u_Cells
  rw [ref07u_Part_eq hf ha hb ho hm]
  cases b with
  | false =>
    have := iter_to (step := fun s : List T_api_Cell × Int => quillworkref07u_Cells_l1 ([], 1) s.1 s.2) (fun u => ([], 0)) (k := 0) (r := []) (fun u hu => by omega) rfl fuel 0 (by omega) (fuel_big (by omega))
    simp only [Option.bind_some]
    show Option.bind (iter (fun s : List T_api_Cell × Int => quillworkref07u_Cells_l1 ([], 1) s.1 s.2) fuel ([], 0)) _ = _
    rw [this]; rfl
  | true =>
    simp only [Option.bind_some, if_true]
    have hpl : (parts p i k j m (j + 1 - i)).length = j + 1 - i := by simp [parts]
    have := iter_to (step := fun s : List T_api_Cell × Int => quillworkref07u_Cells_l1 (parts p i k j m (j + 1 - i), 0) s.1 s.2) (fun u => (pre p i k j m u, (u : Int))) (k := j + 1 - i) (r := btw p i k j m) (fun u hu => by
      obtain ⟨l, hl, hc, h3, h4⟩ := seg_ok ha hb ho (show i ≤ i + u by omega) (by omega)
      have hg : (parts p i k j m (j + 1 - i))[u]? = some ⟨l.f_Quote, l.f_Lists, l.f_Kind, sub p i k j m (i + u)⟩ := by
        unfold parts
        rw [List.getElem?_map, List.getElem?_range' hu]
        simp only [Nat.one_mul, Option.map_some, hl]
      have h5 := pre_len p i k j m (u + 1)
      have h6 := szl_take p (i + (u + 1))
      rw [pre_succ] at h5
      simp only [quillworkref07u_Cells_l1, getI_nat' hg, Option.bind_some, hpl]
      rw [if_pos (by simp; omega), capO_eq (by omega), Option.bind_some, wsucc (n := u) (by omega), pre_succ]) (by
      simp only [quillworkref07u_Cells_l1, hpl]
      rw [if_neg (by simp)]; rfl) fuel 0 (by omega) (fuel_big (by omega))
    have h0 : pre p i k j m 0 = [] := rfl
    rw [h0] at this
    have h1 : (([] : List T_api_Cell), ((0 : Nat) : Int)) = ([], 0) := rfl
    rw [h1] at this
    rw [this, Option.bind_some]
end Go.PM

namespace Go.PM
set_option linter.unusedVariables false
set_option linter.unusedSimpArgs false
theorem enc_eq {r : Nat} (h : r < 55296 ∨ (57344 ≤ r ∧ r ≤ 1114111)) : (Utf8.encode (r : Int)).data.toList = Lib.encodeRune (r : Int) := by
  have hv : Utf8.valid (r : Int) = true := by
    unfold Utf8.valid; simp; omega
  have tz : ∀ (z : Int) (n : Nat), z = (n : Int) → z.toNat.toUInt8 = UInt8.ofNat n := fun z n h => by subst h; rfl
  unfold Utf8.encode
  simp only [hv, if_true, Int.toNat_natCast]
  unfold Lib.encodeRune
  by_cases c1 : r < 128
  · rw [if_pos (by omega), Lib.encodeRuneZ_one (by omega) (by omega)]
    simp only [List.map_cons, List.map_nil]
    rw [tz _ r (by omega)]
  · by_cases c2 : r < 2048
    · rw [if_neg (by omega), if_pos (by omega), Lib.encodeRuneZ_two (by omega) (by omega)]
      simp only [List.map_cons, List.map_nil]
      rw [tz _ (192 + r / 64) (by omega), tz _ (128 + r % 64) (by omega)]
    · by_cases c3 : r < 65536
      · rw [if_neg (by omega), if_neg (by omega), if_pos (by omega), Lib.encodeRuneZ_three (by omega)]
        simp only [List.map_cons, List.map_nil]
        rw [tz _ (224 + r / 4096) (by omega), tz _ (128 + r / 64 % 64) (by omega), tz _ (128 + r % 64) (by omega)]
      · rw [if_neg (by omega), if_neg (by omega), if_neg (by omega), Lib.encodeRuneZ_four (by omega) (by omega)]
        simp only [List.map_cons, List.map_nil]
        rw [tz _ (240 + r / 262144) (by omega), tz _ (128 + r / 4096 % 64) (by omega), tz _ (128 + r / 64 % 64) (by omega), tz _ (128 + r % 64) (by omega)]
theorem dec_valid (l : List UInt8) : (Lib.decodeL l).1 < 55296 ∨ (57344 ≤ (Lib.decodeL l).1 ∧ (Lib.decodeL l).1 ≤ 1114111) := by
  rw [Lib.decodeL_N]
  have k0 := (l.getD 0 0).toNat_lt
  rcases Lib.decodeN_shape l.length (l.getD 0 0).toNat (l.getD 1 0).toNat (l.getD 2 0).toNat (l.getD 3 0).toNat with ⟨c, e⟩ | ⟨c1, c2, c3, cv, e⟩ | ⟨c1, c2, c3, c4, cv, cs, e⟩ | ⟨c1, c2, c3, c4, c5, cv, cw, e⟩ | e
  all_goals (rw [e]; dsimp only; omega)
theorem foldl_enc (ns : List Int) : ∀ s : ByteArray, (ns.foldl (fun r n => r ++ Utf8.encode n) s).data.toList = s.data.toList ++ textOf ns := by
  induction ns with
  | nil => intro s; simp [textOf, runesBytes]
  | cons n ns ih =>
    intro s
    unfold textOf runesBytes
    rw [List.foldl_cons, List.foldl_cons, ih, ih]
    simp
theorem textOf_cons (n : Int) (ns : List Int) : textOf (n :: ns) = (Utf8.encode n).data.toList ++ textOf ns := by
  have := foldl_enc ns (ByteArray.empty ++ Utf8.encode n)
  show (ns.foldl (fun r n => r ++ Utf8.encode n) (ByteArray.empty ++ Utf8.encode n)).data.toList = _
  rw [this]; simp
def runesL : Nat → List UInt8 → List Int
  | 0, _ => []
  | n + 1, l => if l = [] then [] else ((Lib.decodeL l).1 : Int) :: runesL n (l.drop (Lib.decodeL l).2)
theorem dec_bs (l : List UInt8) (p : Nat) : Utf8.decode (bs l) p = Lib.decodeL (l.drop p) := by
  have h := Lib.tail_decode (bs l) p 0
  rw [Nat.add_zero] at h
  rw [← h]
  show _ = Utf8.decode ⟨(l.drop p).toArray⟩ 0
  congr 1
  apply ByteArray.ext
  apply Array.ext'
  simp [bs]
  exact List.take_of_length_le (by simp [ByteArray.size])
theorem bs_size' (l : List UInt8) : (bs l).size = l.length := by simp [bs, ByteArray.size]
theorem runesG_L (l : List UInt8) : ∀ n p, (runesG (bs l) n p).map (·.2) = runesL n (l.drop p)
  | 0, p => rfl
  | n + 1, p => by
    unfold runesG runesL
    rw [bs_size']
    by_cases h : p < l.length
    · rw [if_pos h, if_neg (by intro e; have := congrArg List.length e; simp at this; omega), List.map_cons, runesG_L l n, dec_bs, List.drop_drop]
    · rw [if_neg h, if_pos (List.drop_eq_nil_of_le (by omega))]; rfl
theorem text_map (n : Nat) : ∀ l : List UInt8, textOf (runesL n l) = Lib.mapGoD id n l := by
  induction n with
  | zero => intro l; rfl
  | succ n ih =>
    intro l
    unfold runesL Lib.mapGoD
    by_cases h : l = []
    · rw [if_pos h, if_pos h]; rfl
    · rw [if_neg h, if_neg h, textOf_cons, enc_eq (dec_valid l), ih]
      show _ = (if (0 : Int) ≤ ((Lib.decodeL l).1 : Int) then Lib.encodeRune ((Lib.decodeL l).1 : Int) else []) ++ _
      rw [if_pos (by omega)]
theorem text_runes (l : List UInt8) : textOf (runesB (bs l)) = Lib.mapD id l := by
  unfold runesB
  rw [runesG_L l, List.drop_zero, text_map, bs_size', Lib.mapGoD_fuel id (l.length + 1) l.length l (by omega) (Nat.le_refl _)]
  rfl
theorem enc_bad_len : (Lib.encodeRune 65533).length = 3 := by
  unfold Lib.encodeRune
  rw [Lib.encodeRuneZ_three (by omega)]; rfl
theorem map_id_len : ∀ (n : Nat) (l : List UInt8), l.length ≤ n → l.length ≤ (Lib.mapD id l).length ∧ ((Lib.mapD id l).length = l.length → Lib.validD l = true)
  | 0, l, h => by
    have : l = [] := List.eq_nil_of_length_eq_zero (by omega)
    subst this
    exact ⟨by simp, fun _ => rfl⟩
  | n + 1, l, h => by
    by_cases hne : l = []
    · subst hne; exact ⟨by simp, fun _ => rfl⟩
    · have hw := Lib.decodeL_width l
      have hle := Lib.decodeL_le l hne
      have hl : 0 < l.length := List.length_pos_iff.2 hne
      obtain ⟨i1, i2⟩ := map_id_len n (l.drop (Lib.decodeL l).2) (by rw [List.length_drop]; omega)
      rw [Lib.validD_step l hne]
      by_cases hv : (Lib.decodeL l).1 = 65533 ∧ (Lib.decodeL l).2 = 1
      · rw [Lib.mapD_step id l hne, List.length_append]
        have : (if (0 : Int) ≤ id ((Lib.decodeL l).1 : Int) then Lib.encodeRune (id ((Lib.decodeL l).1 : Int)) else []).length = 3 := by
          rw [hv.1, if_pos (by simp)]; exact enc_bad_len
        rw [this]
        rw [List.length_drop, hv.2] at i1
        rw [hv.2]
        exact ⟨by omega, fun h => by omega⟩
      · rw [Lib.mapD_same id l hne rfl hv, if_neg hv, List.length_append, List.length_take, Nat.min_eq_left hle]
        rw [List.length_drop] at i1 i2
        exact ⟨by omega, fun h => i2 (by omega)⟩
theorem map_id_valid : ∀ (n : Nat) (l : List UInt8), l.length ≤ n → Lib.validD l = true → Lib.mapD id l = l
  | 0, l, h, _ => by
    have : l = [] := List.eq_nil_of_length_eq_zero (by omega)
    subst this; rfl
  | n + 1, l, h, hv => by
    by_cases hne : l = []
    · subst hne; rfl
    · have hw := Lib.decodeL_width l
      have hl : 0 < l.length := List.length_pos_iff.2 hne
      rw [Lib.validD_step l hne] at hv
      split at hv
      · cases hv
      · rename_i hb
        rw [Lib.mapD_same id l hne rfl hb, map_id_valid n _ (by rw [List.length_drop]; omega) hv, List.take_append_drop]
theorem text_valid (l : List UInt8) : (textOf (runesB (bs l)) == l) = Lib.validD l := by
  rw [text_runes]
  cases hv : Lib.validD l with
  | true => rw [map_id_valid _ l (Nat.le_refl _) hv, beq_self_eq_true]
  | false =>
    rw [beq_eq_false_iff_ne]
    intro e
    have := (map_id_len _ l (Nat.le_refl _)).2 (by rw [e])
    rw [hv] at this; cases this
theorem vr_eq (r : Int) : utf8u_ValidRune r = some (decide (0 ≤ r ∧ r ≤ 1114111 ∧ ¬ (55296 ≤ r ∧ r ≤ 57343))) := by
  unfold utf8u_ValidRune
  by_cases h0 : 0 ≤ r <;> by_cases h1 : r < 55296 <;> by_cases h2 : 57343 < r <;> by_cases h3 : r ≤ 1114111 <;> simp [h0, h1, h2, h3] <;> omega
theorem chm_eq (r : Int) : chars_May r = some (decide (0 ≤ r ∧ r ≤ 1114111 ∧ ¬ (55296 ≤ r ∧ r ≤ 57343)) && decide (32 ≤ r ∧ r ≠ 127)) := by
  unfold chars_May chars_Class
  rw [vr_eq, Option.bind_some]
  generalize decide (0 ≤ r ∧ r ≤ 1114111 ∧ ¬ (55296 ≤ r ∧ r ≤ 57343)) = v
  cases v with
  | false => rfl
  | true =>
    rw [Bool.not_true, if_neg (by simp), Bool.true_and]
    by_cases h1 : r < 32
    · rw [if_pos (by simpa using h1), decide_eq_false (show ¬ (32 ≤ r ∧ r ≠ 127) by omega)]; rfl
    · rw [if_neg (by simpa using h1)]
      by_cases h2 : r = 127
      · subst h2; rfl
      · rw [if_neg (by simpa using h2), decide_eq_true (show 32 ≤ r ∧ r ≠ 127 by omega)]
        have fin : ∀ o : Option Int, (∃ n, o = some n ∧ n > 1) → (o.bind fun v1 => some (decide (v1 > 1))) = some true := by
          rintro o ⟨n, rfl, hn⟩; simp [hn]
        apply fin
        have tb : ∀ {β : Type} (o : Option Bool) (f : Bool → Option β) (Q : Option β → Prop), T o → (∀ b, Q (f b)) → Q (o.bind f) := by
          rintro β o f Q ⟨b, rfl⟩ h; exact h b
        refine tb _ _ (fun o => ∃ n, o = some n ∧ n > 1) (T.ite (fun _ => T.some _) fun _ => T.some _) fun b => ?_
        cases b
        · rw [if_neg (by simp)]
          split
          · exact ⟨5, rfl, by decide⟩
          · refine tb _ _ (fun o => ∃ n, o = some n ∧ n > 1) (T.ite (fun _ => T.some _) fun _ => T.some _) fun b => ?_
            cases b
            · rw [if_neg (by simp)]
              refine tb _ _ (fun o => ∃ n, o = some n ∧ n > 1) (T.ite (fun _ => T.some _) fun _ => T.some _) fun b => ?_
              cases b
              · rw [if_neg (by simp)]
                split
                · exact ⟨3, rfl, by decide⟩
                · refine tb _ _ (fun o => ∃ n, o = some n ∧ n > 1) (T.ite (fun _ => T.some _) fun _ => T.some _) fun b => ?_
                  cases b
                  · exact ⟨5, rfl, by decide⟩
                  · exact ⟨4, rfl, by decide⟩
              · exact ⟨3, rfl, by decide⟩
            · exact ⟨3, rfl, by decide⟩
        · exact ⟨2, rfl, by decide⟩
theorem rchm_eq (r : Int) : quillworkref01u_May r = some (decide (0 ≤ r ∧ r ≤ 1114111 ∧ ¬ (55296 ≤ r ∧ r ≤ 57343)) && decide (32 ≤ r ∧ r ≠ 127)) := by
  unfold quillworkref01u_May quillworkref01u_Class
  have e : (if decide ((r : Int) < 0) then (some true) else (if decide ((r : Int) > 1114111) then (some true) else (if decide ((r : Int) ≥ 55296) then (some (decide ((r : Int) ≤ 57343))) else (some false))) : Option (Bool)) = some (!decide (0 ≤ r ∧ r ≤ 1114111 ∧ ¬ (55296 ≤ r ∧ r ≤ 57343))) := by
    by_cases h1 : r < 0
    · have : ¬ (0 ≤ r ∧ r ≤ 1114111 ∧ ¬ (55296 ≤ r ∧ r ≤ 57343)) := by omega
      simp only [decide_eq_true h1, decide_eq_false this]; rfl
    · by_cases h2 : r > 1114111
      · have : ¬ (0 ≤ r ∧ r ≤ 1114111 ∧ ¬ (55296 ≤ r ∧ r ≤ 57343)) := by omega
        simp only [decide_eq_false h1, decide_eq_true h2, decide_eq_false this]; rfl
      · by_cases h3 : r ≥ 55296
        · simp only [decide_eq_false h1, decide_eq_false h2, decide_eq_true h3, if_true]
          rw [if_neg (by simp), if_neg (by simp)]
          congr 1
          by_cases h4 : r ≤ 57343
          · rw [decide_eq_true h4, decide_eq_false (by omega)]; rfl
          · rw [decide_eq_false h4, decide_eq_true (by omega)]; rfl
        · simp only [decide_eq_false h1, decide_eq_false h2, decide_eq_false h3]
          rw [decide_eq_true (show 0 ≤ r ∧ r ≤ 1114111 ∧ ¬ (55296 ≤ r ∧ r ≤ 57343) by omega)]; rfl
  rw [e, Option.bind_some]
  cases decide (0 ≤ r ∧ r ≤ 1114111 ∧ ¬ (55296 ≤ r ∧ r ≤ 57343)) with
  | false => rfl
  | true =>
    simp only [Bool.not_true, Bool.true_and]
    rw [if_neg (by simp)]
    have tb : ∀ {β : Type} (o : Option Bool) (f : Bool → Option β) (Q : Option β → Prop), T o → (∀ b, Q (f b)) → Q (o.bind f) := by
      rintro β o f Q ⟨b, rfl⟩ h; exact h b
    by_cases h1 : r < 32
    · rw [decide_eq_true h1, decide_eq_false (show ¬ (32 ≤ r ∧ r ≠ 127) by omega), if_pos rfl]; rfl
    · rw [decide_eq_false h1, if_neg (by simp), Option.bind_some]
      by_cases h2 : r = 127
      · subst h2; rfl
      · rw [decide_eq_true (show 32 ≤ r ∧ r ≠ 127 by omega)]
        have hb : (r == 127) = false := by simpa using h2
        rw [hb, if_neg (by simp)]
        have fin : ∀ o : Option Int, (∃ n, o = some n ∧ n ≥ 2) → (o.bind fun v1 => some (decide (v1 ≥ 2))) = some true := by
          rintro o ⟨n, rfl, hn⟩; simp [hn]
        apply fin
        refine tb _ _ (fun o => ∃ n, o = some n ∧ n ≥ 2) (T.ite (fun _ => T.some _) fun _ => T.some _) fun b => ?_
        cases b
        · rw [if_neg (by simp)]
          refine tb _ _ (fun o => ∃ n, o = some n ∧ n ≥ 2) (by repeat (first | exact T.some _ | refine T.ite (fun _ => ?_) (fun _ => ?_) | refine T.bind ?_ (fun _ => ?_))) fun b => ?_
          cases b
          · rw [if_neg (by simp)]
            refine tb _ _ (fun o => ∃ n, o = some n ∧ n ≥ 2) (T.ite (fun _ => T.some _) fun _ => T.some _) fun b => ?_
            cases b
            · exact ⟨5, rfl, by decide⟩
            · exact ⟨4, rfl, by decide⟩
          · exact ⟨3, rfl, by decide⟩
        · exact ⟨2, rfl, by decide⟩
end Go.PM

namespace Go.PM
set_option linter.unusedVariables false
set_option linter.unusedSimpArgs false
def okr (r : Int) : Bool := decide (0 ≤ r ∧ r ≤ 1114111 ∧ ¬ (55296 ≤ r ∧ r ≤ 57343)) && decide (32 ≤ r ∧ r ≠ 127)
theorem foldS_all {α : Type} {step : α → Unit → Option (Unit ⊕ Unit)} {g : α → Bool} (h : ∀ x s, step x s = some (if g x then .inl () else .inr ())) : ∀ l : List α, foldS step l () = some (if l.all g then .inl () else .inr ())
  | [] => rfl
  | x :: l => by
    unfold foldS
    rw [h x (), List.all_cons]
    cases g x with
    | true => simp only [if_true, Bool.true_and]; exact foldS_all h l
    | false => rfl
def vl (h : List UInt8) : Bool := (runesB (bs h)).all okr && (decide (h.length ≤ 200) && Lib.validD h)
theorem attrs_Value_eq {h : List UInt8} (hh : h.length ≤ 200000) : attrs_Value h = some (vl h) := by
  unfold attrs_Value utf8u_ValidString
  rw [foldS_all (g := fun x : Int × Int => okr x.2) (fun x s => by
    unfold attrs_Value_s1
    rw [chm_eq]
    show (some (okr x.2)).bind _ = _
    cases okr x.2 <;> rfl)]
  have hr : (runesB (bs h)).all okr = (runesP h).all fun x : Int × Int => okr x.2 := by
    unfold runesB runesP
    rw [List.all_map, bs_size']; rfl
  unfold vl
  rw [hr, Option.bind_some, if_pos (show h.length ≤ 9223372036854775807 by omega)]
  cases (runesP h).all fun x : Int × Int => okr x.2 with
  | false => rfl
  | true =>
    have e : decide ((h.length : Int) ≤ 200) = decide (h.length ≤ 200) := by rw [decide_eq_decide]; omega
    simp only [if_true, Bool.true_and, e]
    cases decide (h.length ≤ 200) <;> rfl
theorem ref03u_Value_eq {h : List UInt8} (hh : h.length ≤ 200000) : quillworkref03u_Value h = some (vl h) := by
  unfold quillworkref03u_Value quillworkref01u_Runes runesO vl
  have hn : (runesB (bs h)).length ≤ 200000 := Nat.le_trans (runesB_len _) hh
  have ht := text_valid h
  rw [if_pos (show h.length ≤ 1073741824 by omega)]
  simp only [Option.bind_some, ht]
  generalize runesB (bs h) = v at hn
  have e : decide ((h.length : Int) > 200) = !decide (h.length ≤ 200) := by
    by_cases h2 : h.length ≤ 200
    · rw [decide_eq_true h2, decide_eq_false (by omega)]; rfl
    · rw [decide_eq_false h2, decide_eq_true (by omega)]; rfl
  rw [e]
  have hl : iter (fun s => quillworkref03u_Value_l1 v s) fuel 0 = some (if v.all okr then .inr () else .inl ()) := by
    have hna := any_not okr v
    rcases iter_any (step := fun s => quillworkref03u_Value_l1 v s) (l := v) (g := fun c => !okr c) (fun _ => (.inl () : Unit ⊕ Unit)) (.inr ()) (by
      intro i c hc
      have hi := lt_of_get hc
      simp only [quillworkref03u_Value_l1, getI_nat' hc, Option.bind_some, rchm_eq, wsucc (n := i) (by omega)]
      rw [if_pos (by simpa using hi)]
      show (if (!okr c) = true then _ else _) = _
      cases okr c <;> rfl) (by simp [quillworkref03u_Value_l1]) (by omega) with ⟨h1, i, hi, h2⟩ | ⟨h1, h2⟩
    · rw [h2, ← hna, h1]; rfl
    · rw [h2, ← hna, h1]; rfl
  rw [hl]
  cases decide (h.length ≤ 200) <;> cases Lib.validD h <;> cases v.all okr <;> rfl
def hd (l : List UInt8) : List UInt8 := l.takeWhile (· != 58)
theorem hd_take : ∀ l : List UInt8, hd l = l.take (hd l).length
  | [] => rfl
  | b :: l => by
    unfold hd
    rw [List.takeWhile_cons]
    split
    · rw [List.length_cons, List.take_succ_cons]; congr 1; exact hd_take l
    · rfl
theorem hd_lt : ∀ (l : List UInt8) (i : Nat), i < (hd l).length → ∃ x, l[i]? = some x ∧ (x != 58) = true ∧ (hd l)[i]? = some x
  | [], i, h => by simp [hd] at h
  | b :: l, i, h => by
    unfold hd at h ⊢
    rw [List.takeWhile_cons] at h ⊢
    split at h
    · rename_i hb
      rw [if_pos hb]
      cases i with
      | zero => exact ⟨b, rfl, hb, rfl⟩
      | succ i =>
        obtain ⟨x, h1, h2, h3⟩ := hd_lt l i (by simpa [hd] using h)
        exact ⟨x, by simpa using h1, h2, by simpa [hd] using h3⟩
    · simp at h
theorem hd_at : ∀ (l : List UInt8) (x : UInt8), l[(hd l).length]? = some x → (x != 58) = false
  | [], x, h => by simp [hd] at h
  | b :: l, x, h => by
    unfold hd at h
    rw [List.takeWhile_cons] at h
    split at h
    · exact hd_at l x (by simpa [hd] using h)
    · rename_i hb
      simp at h; subst h; simpa using hb
theorem hd_len (l : List UInt8) : (hd l).length ≤ l.length := by rw [hd_take l, List.length_take]; omega
theorem pre58 (b : UInt8) (l : List UInt8) : ([58] : List UInt8).isPrefixOf (b :: l) = !(b != 58) := by
  simp [List.isPrefixOf, bne, Bool.beq_comm]
theorem index_hd : ∀ l : List UInt8, (Lib.index l [58] = -1 ∧ hd l = l) ∨ Lib.index l [58] = (hd l).length
  | [] => .inl ⟨rfl, rfl⟩
  | b :: l => by
    unfold Lib.index hd
    rw [pre58, List.takeWhile_cons]
    cases hb : (b != 58) with
    | false => right; rfl
    | true =>
      simp only [Bool.not_true, if_true]
      rw [if_neg (by simp)]
      rcases index_hd l with ⟨h1, h2⟩ | h1
      · left
        rw [h1]
        exact ⟨rfl, by unfold hd at h2; rw [h2]⟩
      · right
        rw [h1, if_neg (by simp)]
        simp [hd]
theorem cut_hd (l : List UInt8) : (Lib.cut l [58]).1 = hd l := by
  unfold Lib.cut
  rcases index_hd l with ⟨h1, h2⟩ | h1
  · rw [if_neg (by omega), h2]
  · rw [if_pos (by omega)]
    show l.take (Lib.index l [58]).toNat = _
    rw [h1, Int.toNat_natCast, ← hd_take]
def low (x : Int) : Int := if 65 ≤ x ∧ x ≤ 90 then x + 32 else x
def lowB (b : UInt8) : UInt8 := UInt8.ofNat (low b.toNat).toNat
theorem low_eq : (fun x => (attrs_Target_1 x).getD 0) = low := by
  funext x
  unfold attrs_Target_1 low
  have e : (65 ≤ x ∧ x ≤ 90) → IntKind.wrap .i32 (x + 32) = x + 32 := by intro h; rw [IntKind.wrap_i32]; omega
  by_cases h1 : x ≥ 65
  · by_cases h2 : x ≤ 90
    · simp [h1, h2, e ⟨h1, h2⟩]
    · simp [h1, h2]
  · simp [h1]
theorem enc_hi {r : Int} (h : 128 ≤ r) : ∃ x t, Lib.encodeRune r = x :: t ∧ 128 ≤ x.toNat := by
  have tz : ∀ z : Int, 128 ≤ z → z < 256 → 128 ≤ z.toNat.toUInt8.toNat := by
    intro z h1 h2
    show 128 ≤ (UInt8.ofNat z.toNat).toNat
    rw [UInt8.toNat_ofNat']
    omega
  unfold Lib.encodeRune Lib.encodeRuneZ
  rw [if_neg (by omega)]
  split
  · exact ⟨_, _, rfl, tz _ (by omega) (by omega)⟩
  · split
    · exact ⟨_, _, rfl, tz _ (by omega) (by omega)⟩
    · split
      · exact ⟨_, _, rfl, tz _ (by omega) (by omega)⟩
      · exact ⟨_, _, rfl, tz _ (by omega) (by omega)⟩
theorem dec_hi (b : UInt8) (t : List UInt8) (h : 128 ≤ b.toNat) : 128 ≤ (Lib.decodeL (b :: t)).1 := by
  rw [Lib.decodeL_N]
  have h0 : ((b :: t).getD 0 0) = b := rfl
  rcases Lib.decodeN_shape (b :: t).length ((b :: t).getD 0 0).toNat ((b :: t).getD 1 0).toNat ((b :: t).getD 2 0).toNat ((b :: t).getD 3 0).toNat with ⟨c, e⟩ | ⟨c1, c2, c3, cv, e⟩ | ⟨c1, c2, c3, c4, cv, cs, e⟩ | ⟨c1, c2, c3, c4, c5, cv, cw, e⟩ | e
  · rw [h0] at c; omega
  all_goals (rw [e]; dsimp only; omega)
theorem map_low : ∀ (l w : List UInt8), (∀ x ∈ w, x.toNat < 128) → (Lib.mapD low l = w ↔ l.map lowB = w)
  | [], w, _ => Iff.rfl
  | b :: t, w, hw => by
    rw [Lib.mapD_step low _ (by simp), List.map_cons]
    by_cases hb : b.toNat < 128
    · rw [Lib.decodeL_ascii b t hb]
      have hlo : (0 : Int) ≤ low b.toNat ∧ low b.toNat ≤ 127 := by unfold low; split <;> omega
      have he : (if (0 : Int) ≤ low ((b.toNat : Nat) : Int) then Lib.encodeRune (low ((b.toNat : Nat) : Int)) else []) = [lowB b] := by
        rw [if_pos hlo.1]
        unfold Lib.encodeRune
        rw [Lib.encodeRuneZ_one hlo.1 hlo.2]
        rfl
      show (if (0 : Int) ≤ low ((b.toNat : Nat) : Int) then Lib.encodeRune (low ((b.toNat : Nat) : Int)) else []) ++ Lib.mapD low ((b :: t).drop 1) = w ↔ _
      rw [he]
      show lowB b :: Lib.mapD low t = w ↔ _
      cases w with
      | nil => simp
      | cons y w =>
        simp only [List.cons.injEq]
        rw [map_low t w (fun x hx => hw x (List.mem_cons_of_mem _ hx))]
    · have hd' := dec_hi b t (by omega)
      have hlo : low ((Lib.decodeL (b :: t)).1 : Int) = ((Lib.decodeL (b :: t)).1 : Int) := by unfold low; rw [if_neg (by omega)]
      rw [hlo, if_pos (by omega)]
      obtain ⟨x, r, hx, hx2⟩ := enc_hi (r := ((Lib.decodeL (b :: t)).1 : Int)) (by omega)
      rw [hx]
      have hlb : lowB b = b := by
        unfold lowB low
        rw [if_neg (by omega), Int.toNat_natCast]; simp
      rw [hlb]
      cases w with
      | nil => simp
      | cons y w =>
        have hy := hw y (List.mem_cons_self ..)
        constructor
        · intro h
          have := (List.cons.inj h).1
          subst this; omega
        · intro h
          have := (List.cons.inj h).1
          subst this; omega
def js : List UInt8 := [106, 97, 118, 97, 115, 99, 114, 105, 112, 116]
def tgt (h : List UInt8) : Bool := vl h && (h != [] && (h.head? != some 32 && (h.getLast? != some 32 && !((hd h).map lowB == js))))
theorem getLast_idx {h : List UInt8} (hne : h ≠ []) (hl : h.length ≤ 200000) : ∃ x, getI h (IntKind.wrap .i64 ((h.length : Int) - 1)) = some x ∧ h.getLast? = some x := by
  have := List.length_pos_iff.2 hne
  rw [w_id (by omega) (by omega), show (h.length : Int) - 1 = ((h.length - 1 : Nat) : Int) by omega]
  refine ⟨h[h.length - 1]'(by omega), getI_nat' (List.getElem?_eq_getElem (by omega)), ?_⟩
  rw [List.getLast?_eq_getElem?, List.getElem?_eq_getElem (by omega)]
theorem head_idx {h : List UInt8} (hne : h ≠ []) : ∃ x, getI h 0 = some x ∧ h.head? = some x := by
  cases h with
  | nil => exact absurd rfl hne
  | cons b t => exact ⟨b, rfl, rfl⟩
theorem byte32 (x : UInt8) : ((x.toNat : Int) == 32) = (some x == some (32 : UInt8)) := by
  rw [Bool.eq_iff_iff, beq_iff_eq, beq_iff_eq, Option.some.injEq]
  constructor
  · intro h; apply UInt8.toNat_inj.1; show x.toNat = 32; omega
  · intro h; subst h; rfl
theorem attrs_Target_eq {h : List UInt8} (hh : h.length ≤ 200000) : attrs_Target h = some (tgt h) := by
  unfold attrs_Target strings_Cut strings_Map
  have hc := cut_len h [58]
  rw [if_pos (by omega), Option.bind_some, if_pos (by omega), Option.bind_some, attrs_Value_eq hh, low_eq, cut_hd]
  have hm : (Lib.mapD low (hd h) == js) = ((hd h).map lowB == js) := by
    rw [Bool.eq_iff_iff, beq_iff_eq, beq_iff_eq]
    exact map_low _ _ (by decide)
  unfold tgt
  rw [← hm]
  show ((some (vl h)).bind _).bind _ = _
  cases vl h with
  | false => rfl
  | true =>
    simp only [Option.bind_some, if_true, Bool.true_and]
    by_cases hne : h = []
    · subst hne; rfl
    · have hb : (h == []) = false := by simpa using hne
      obtain ⟨x, hx1, hx2⟩ := head_idx hne
      obtain ⟨y, hy1, hy2⟩ := getLast_idx hne hh
      rw [hb, hx1, hy1, hx2, hy2]
      have hb2 : (h != []) = true := by simpa using hne
      rw [hb2]
      simp only [Bool.not_false, if_true, Option.bind_some, Bool.true_and, bne, byte32]
      cases (some x == some (32 : UInt8)) <;> cases (some y == some (32 : UInt8)) <;> rfl
theorem u8u_eq (x y : UInt8) : ((x.toNat : Int) != (y.toNat : Int)) = (x != y) := by
  rw [Bool.eq_iff_iff, bne_iff_ne, bne_iff_ne]
  constructor
  · intro h e; exact h (by rw [e])
  · intro h e; exact h (UInt8.toNat_inj.1 (by omega))
theorem lowB_nat (b : UInt8) : ((lowB b).toNat : Int) = low b.toNat := by
  unfold lowB
  have := b.toNat_lt
  have h : 0 ≤ low b.toNat ∧ low b.toNat < 256 := by unfold low; split <;> omega
  rw [UInt8.toNat_ofNat']
  omega
theorem ref03u_Target_eq {h : List UInt8} (hh : h.length ≤ 200000) : quillworkref03u_Target h = some (tgt h) := by
  unfold quillworkref03u_Target
  rw [ref03u_Value_eq hh]
  unfold tgt
  cases vl h with
  | false => rfl
  | true =>
    simp only [Option.bind_some, if_true, Bool.true_and]
    by_cases hne : h = []
    · subst hne; rfl
    · have hb : (h == []) = false := by simpa using hne
      have hb2 : (h != []) = true := by simpa using hne
      obtain ⟨x, hx1, hx2⟩ := head_idx hne
      obtain ⟨y, hy1, hy2⟩ := getLast_idx hne hh
      rw [hb, hx1, hy1, hx2, hy2, hb2]
      rw [if_neg (by simp)]
      simp only [Option.bind_some, Bool.true_and, bne, byte32]
      cases (some x == some (32 : UInt8)) with
      | true => rfl
      | false =>
        rw [if_neg (by simp), Option.bind_some]
        cases (some y == some (32 : UInt8)) with
        | true => rfl
        | false =>
          rw [if_neg (by simp)]
          simp only [Bool.not_false, Bool.true_and]
          have hk := hd_len h
          have l1 := iter_to (step := fun s => quillworkref03u_Target_l1 h s) (fun i => (i : Int)) (k := (hd h).length) (r := ((hd h).length : Int)) (fun i hi => by
            obtain ⟨z, h1, h2, _⟩ := hd_lt h i hi
            simp only [quillworkref03u_Target_l1, getI_nat' h1, Option.bind_some]
            rw [if_pos (by simp; omega), Option.bind_some]
            have : ((z.toNat : Int) != 58) = true := by
              have := u8u_eq z 58
              rw [h2] at this; exact this
            rw [this, wsucc (n := i) (by omega)]; rfl) (by
            simp only [quillworkref03u_Target_l1]
            by_cases hlt : (hd h).length < h.length
            · have hg := List.getElem?_eq_getElem hlt
              have h2 := hd_at h _ hg
              rw [if_pos (by simpa using hlt), getI_nat' hg]
              simp only [Option.bind_some]
              have : (((h[(hd h).length]).toNat : Int) != 58) = false := by
                have := u8u_eq (h[(hd h).length]) 58
                rw [h2] at this; exact this
              rw [this]; rfl
            · rw [if_neg (by simpa using hlt)]; rfl) fuel 0 (by omega) (fuel_big (by omega))
          have l1' : iter (fun s => quillworkref03u_Target_l1 h s) fuel 0 = some ((hd h).length : Int) := l1
          rw [l1', Option.bind_some]
          by_cases h10 : (hd h).length = 10
          · rw [if_neg (by rw [h10]; simp), h10]
            have hjl : js.length = 10 := rfl
            rcases iter_any (step := fun s => quillworkref03u_Target_l2 h ((10 : Nat) : Int) s) (l := List.range 10) (g := fun i => !(((hd h)[i]?).map lowB == js[i]?)) (fun _ => (.inl () : Unit ⊕ Unit)) (.inr ()) (by
              intro i i' hi'
              have hi : i < 10 := by have := lt_of_get hi'; simpa using this
              have : i' = i := by rw [List.getElem?_range hi] at hi'; exact (Option.some.inj hi').symm
              subst this
              obtain ⟨z, h1, _, h3⟩ := hd_lt h i' (by omega)
              have hj := List.getElem?_eq_getElem (show i' < js.length by omega)
              generalize js[i'] = q at hj
              have hz := z.toNat_lt
              have hj' : ([106, 97, 118, 97, 115, 99, 114, 105, 112, 116] : List UInt8)[i']? = some q := hj
              simp only [quillworkref03u_Target_l2, getI_nat' h1, getI_nat' hj', Option.bind_some, wsucc (n := i') (by omega)]
              rw [if_pos (by simp; omega), h3, hj]
              have hlow : ((if decide ((z.toNat : Int) ≥ 65) = true then some (decide ((z.toNat : Int) ≤ 90)) else some false).bind fun q12 => ((if q12 = true then some (IntKind.wrap .u8 ((z.toNat : Int) + 32)) else some (z.toNat : Int)) : Option Int).bind fun q13 => if (q13 != (q.toNat : Int)) = true then some (Sum.inr (Sum.inl ())) else some (Sum.inl ((i' + 1 : Nat) : Int))) = ((some ((lowB z).toNat : Int)).bind fun q13 => if (q13 != (q.toNat : Int)) = true then some (Sum.inr (Sum.inl () : Unit ⊕ Unit)) else some (Sum.inl ((i' + 1 : Nat) : Int))) := by
                rw [lowB_nat]
                unfold low
                by_cases a1 : (z.toNat : Int) ≥ 65
                · rw [decide_eq_true a1, if_pos rfl, Option.bind_some]
                  by_cases a2 : (z.toNat : Int) ≤ 90
                  · have e : IntKind.wrap .u8 ((z.toNat : Int) + 32) = (z.toNat : Int) + 32 := by rw [IntKind.wrap_u8]; omega
                    rw [decide_eq_true a2, if_pos rfl, e, if_pos ⟨a1, a2⟩]
                  · rw [decide_eq_false a2, if_neg (by simp), if_neg (by omega)]
                · rw [decide_eq_false a1, if_neg (by simp), Option.bind_some, if_neg (by simp), if_neg (by omega)]
              rw [hlow, Option.bind_some, u8u_eq]
              simp only [Option.map_some, bne]
              by_cases e : lowB z = q
              · simp [e]
              · simp [e]) rfl (by simp) with ⟨h1, i, hi, h2⟩ | ⟨h1, h2⟩
            · rw [h2, Option.bind_some]
              show some true = _
              congr 1
              symm
              rw [Bool.not_eq_true', beq_eq_false_iff_ne]
              intro e
              obtain ⟨x, hx, hx2⟩ := List.any_eq_true.1 h1
              rw [← e] at hx2
              simp at hx2
            · rw [h2, Option.bind_some]
              show some false = _
              congr 1
              symm
              rw [Bool.not_eq_false', beq_iff_eq]
              apply List.ext_getElem?
              intro i
              by_cases hi : i < 10
              · rw [List.any_eq_false] at h1
                have := h1 i (List.mem_range.2 hi)
                simp only [Bool.not_eq_true', Bool.not_eq_false] at this
                rw [List.getElem?_map]
                simpa using this
              · rw [List.getElem?_eq_none (by simp; omega), List.getElem?_eq_none (by omega)]
          · rw [if_pos (by simp; omega)]
            congr 1
            symm
            rw [Bool.not_eq_true', beq_eq_false_iff_ne]
            intro e
            have := congrArg List.length e
            simp [js] at this
            omega
end Go.PM

namespace Go.PM
set_option linter.unusedVariables false
set_option linter.unusedSimpArgs false
theorem cells_link_eq {h : List UInt8} (hh : h.length ≤ 200000) : cells_link h = some (h == [] || tgt h) := by
  unfold cells_link
  rw [attrs_Target_eq hh]
  cases (h == []) <;> rfl
theorem ref05u_Link_eq {h : List UInt8} (hh : h.length ≤ 200000) : quillworkref05u_Link h = some (h == [] || tgt h) := by
  unfold quillworkref05u_Link
  rw [ref03u_Target_eq hh]
  cases (h == []) <;> rfl
theorem rbad_cells {c : T_api_Cell} (h : hsh c) : rbad c = cells_May_1 c := by
  have e1 : chars_May c.f_R = some (okr c.f_R) := chm_eq _
  have e2 : quillworkref01u_May c.f_R = some (okr c.f_R) := rchm_eq _
  unfold rbad cells_May_1
  rw [e1, e2, cells_link_eq h, ref05u_Link_eq h]
  simp only [Option.bind_some]
  by_cases hr : c.f_R = 10
  · rw [hr]
    have : okr 10 = false := by decide
    have h10 : ((10 : Int) != 10) = false := rfl
    rw [this, h10]
    simp only [Bool.false_eq_true, if_false]
    split
    · rfl
    · split
      · rfl
      · cases (c.f_Href == [] || tgt c.f_Href) <;> rfl
  · have hb : (c.f_R != 10) = true := by simpa using hr
    rw [hb]
    cases okr c.f_R with
    | false => rfl
    | true =>
      simp only [if_true]
      split
      · rfl
      · split
        · rfl
        · cases (c.f_Href == [] || tgt c.f_Href) <;> rfl
theorem rok_eq {c : T_api_Cell} (h : hsh c) : rok c = cellOk c := by unfold rok cellOk; rw [rbad_cells h]
theorem all_congr' {α : Type} {f g : α → Bool} {l : List α} (h : ∀ x ∈ l, f x = g x) : l.all f = l.all g := by
  induction l with
  | nil => rfl
  | cons x l ih => simp only [List.all_cons, h x (List.mem_cons_self ..), ih fun y hy => h y (List.mem_cons_of_mem _ hy)]
theorem ref05u_May_cells {l : List T_api_Cell} (h : ∀ c ∈ l, hsh c) (hl : l.length ≤ 9223372036854775806) : quillworkref05u_May l = some (l.all cellOk) := by
  rw [ref05u_May_eq h hl, all_congr' fun c hc => rok_eq (h c hc)]
theorem ref06u_May_eq {l : T_api_Line} (h : ∀ c ∈ l.f_Cells, hsh c) (hl : l.f_Cells.length ≤ 9223372036854775806) (hi : l.f_Lists.length ≤ 9223372036854775806) : quillworkref06u_May l = some (lineOk l) := by
  rw [← lines_May_eq h hl hi]
  unfold quillworkref06u_May lines_May
  have hq : T (if decide ((l.f_Quote : Int) < 0) then (some true) else (if decide ((l.f_Quote : Int) > 6) then (some true) else (if decide (((l.f_Lists.length : Int) : Int) > 6) then (some true) else (if decide ((l.f_Kind : Int) < 0) then (some true) else (some (decide ((l.f_Kind : Int) > 3)))))) : Option (Bool)) := by
    repeat (first | exact T.some _ | refine T.ite (fun _ => ?_) (fun _ => ?_) | refine T.bind ?_ (fun _ => ?_))
  obtain ⟨q, hq⟩ := hq
  rw [hq, Option.bind_some, Option.bind_some]
  cases q with
  | true => rfl
  | false =>
    rw [if_neg (by simp), if_neg (by simp), cells_May_eq h hl, ref05u_May_cells h hl]
    have hc : slices_ContainsFunc_int l.f_Lists (fun x0 => lines_May_1 x0) = some (l.f_Lists.any fun x => x != 0 && x != 1) := contains_int (fun x _ => by
      unfold lines_May_1
      cases (x != 0) <;> rfl) hi
    rw [hc]
    have hany : (l.f_Lists.any fun x => (x != 0 && x != 1) || l.f_Kind != 0) = ((decide ((l.f_Lists.length : Int) > 0) && l.f_Kind != 0) || l.f_Lists.any fun x => x != 0 && x != 1) := by
      generalize l.f_Kind = k
      generalize l.f_Lists = ls
      cases ls with
      | nil => simp
      | cons x ls =>
        have : decide ((((x :: ls).length : Nat) : Int) > 0) = true := by rw [decide_eq_true_eq]; simp
        rw [this]
        cases hk : (k != 0)
        · simp
        · simp
    rcases iter_any (step := fun s => quillworkref06u_May_l1 l s) (l := l.f_Lists) (g := fun x => (x != 0 && x != 1) || l.f_Kind != 0) (fun _ => (.inl () : Unit ⊕ Unit)) (.inr ()) (by
      intro i c hc
      have hi := lt_of_get hc
      simp only [quillworkref06u_May_l1, getI_nat' hc, Option.bind_some, wsucc (n := i) (by omega)]
      rw [if_pos (by simpa using hi)]
      cases (c != 0) <;> cases (c != 1) <;> cases (l.f_Kind != 0) <;> rfl) (by simp [quillworkref06u_May_l1]) (by omega) with ⟨h1, i, hi, h2⟩ | ⟨h1, h2⟩
    · rw [h2]
      rw [hany] at h1
      cases hk : decide ((l.f_Lists.length : Int) > 0)
      · rw [hk] at h1
        rw [if_neg (by simp)]
        have : (l.f_Lists.any fun x => x != 0 && x != 1) = true := by simpa using h1
        rw [this]; rfl
      · rw [hk] at h1
        rw [if_pos rfl]
        cases hk2 : (l.f_Kind != 0)
        · rw [hk2] at h1
          have : (l.f_Lists.any fun x => x != 0 && x != 1) = true := by simpa using h1
          rw [this]; rfl
        · rfl
    · rw [h2]
      rw [hany, Bool.or_eq_false_iff] at h1
      rw [h1.2]
      have : (if decide ((l.f_Lists.length : Int) > 0) = true then some (l.f_Kind != 0) else some false) = some false := by
        have h3 := h1.1
        cases hk : decide ((l.f_Lists.length : Int) > 0)
        · rfl
        · rw [hk] at h3
          have : (l.f_Kind != 0) = false := by simpa using h3
          rw [if_pos rfl, this]
      rw [this]; rfl
theorem ref07u_May_eq {p : List T_api_Line} (hf : Fit p) : quillworkref07u_May p = some (docOk p) := by
  have hlen := hf.len
  unfold quillworkref07u_May docOk
  rw [ref07u_Size_eq hf.bd]
  simp only [Option.bind_some]
  have e1 : decide ((p.length : Int) < 1) = !decide (1 ≤ p.length) := by
    by_cases h : 1 ≤ p.length
    · rw [decide_eq_true h, decide_eq_false (by omega)]; rfl
    · rw [decide_eq_false h, decide_eq_true (by omega)]; rfl
  have e2 : decide ((p.length : Int) > 200) = !decide (p.length ≤ 200) := by
    by_cases h : p.length ≤ 200
    · rw [decide_eq_true h, decide_eq_false (by omega)]; rfl
    · rw [decide_eq_false h, decide_eq_true (by omega)]; rfl
  have e3 : decide ((szl p : Int) > 4000) = !decide (szl p ≤ 4000) := by
    by_cases h : szl p ≤ 4000
    · rw [decide_eq_true h, decide_eq_false (by omega)]; rfl
    · rw [decide_eq_false h, decide_eq_true (by omega)]; rfl
  rw [e1, e2, e3]
  have hna := any_not lineOk p
  have hl : iter (fun s => quillworkref07u_May_l1 p s) fuel 0 = some (if p.all lineOk then .inr () else .inl ()) := by
    rcases iter_any (step := fun s => quillworkref07u_May_l1 p s) (l := p) (g := fun l => !lineOk l) (fun _ => (.inl () : Unit ⊕ Unit)) (.inr ()) (by
      intro i c hc
      have hi := lt_of_get hc
      have hm := List.mem_of_getElem? hc
      simp only [quillworkref07u_May_l1, getI_nat' hc, Option.bind_some, wsucc (n := i) (by omega), ref06u_May_eq (hf.href c hm) (by have := hf.cells hm; omega) (by have := hf.lis c hm; omega)]
      rw [if_pos (by simpa using hi)]
      cases lineOk c <;> rfl) (by simp [quillworkref07u_May_l1]) (by omega) with ⟨h1, i, hi, h2⟩ | ⟨h1, h2⟩
    · rw [h2, ← hna, h1]; rfl
    · rw [h2, ← hna, h1]; rfl
  rw [hl]
  cases decide (1 ≤ p.length) <;> cases decide (p.length ≤ 200) <;> cases decide (szl p ≤ 4000) <;> cases p.all lineOk <;> rfl
end Go.PM

namespace Go.PM
set_option linter.unusedVariables false
set_option linter.unusedSimpArgs false
def allc (p : List T_api_Line) : List T_api_Cell := p.flatMap fun l => l.f_Cells
theorem allc_len (p : List T_api_Line) : (allc p).length = szl p := by
  unfold allc szl; rw [List.length_flatMap]
theorem allc_take (p : List T_api_Line) (t u : Nat) (hu : u ≤ (cellsAt p t).length) : (allc p).take (szl (p.take t) + u) = allc (p.take t) ++ (cellsAt p t).take u := by
  have h1 : allc p = allc (p.take t) ++ allc (p.drop t) := by
    unfold allc; rw [← List.flatMap_append, List.take_append_drop]
  rw [h1, ← allc_len, List.take_length_add_append]
  congr 1
  cases h : p[t]? with
  | none =>
    have : cellsAt p t = [] := by unfold cellsAt; rw [h]
    rw [this] at hu ⊢
    have : u = 0 := by simpa using hu
    subst this; rfl
  | some l =>
    have hlt := lt_of_get h
    have hd : p.drop t = l :: p.drop (t + 1) := by
      rw [List.drop_eq_getElem_cons hlt]
      rw [List.getElem?_eq_getElem hlt] at h
      rw [Option.some.inj h]
    rw [cellsAt_some h] at hu ⊢
    rw [hd]
    show (l.f_Cells ++ allc (p.drop (t + 1))).take u = _
    rw [List.take_append_of_le_length hu]
theorem szl_mono (p : List T_api_Line) {a b : Nat} (h : a ≤ b) : szl (p.take a) ≤ szl (p.take b) := by
  have : p.take a = (p.take b).take a := by rw [List.take_take, Nat.min_eq_left h]
  rw [this]; exact szl_take _ _
def pos (p : List T_api_Line) (i k : Nat) : Nat := szl (p.take i) + k
theorem pre_eq {p : List T_api_Line} {i k j m : Nat} (ha : At p i k) (hb : At p j m) (ho : Ord i k j m) : ∀ n, i + n ≤ j + 1 → pre p i k j m n = ((allc p).take (if i + n = j + 1 then pos p j m else szl (p.take (i + n)))).drop (pos p i k)
  | 0, h => by
    have := ho.le
    rw [if_neg (by omega), Nat.add_zero]
    unfold pre pos
    rw [List.range'_zero, List.flatMap_nil, List.drop_eq_nil_of_le]
    rw [List.length_take]; omega
  | n + 1, h => by
    obtain ⟨l, hl, hc, h3, h4⟩ := seg_ok ha hb ho (show i ≤ i + n by omega) (by omega)
    rw [pre_succ, pre_eq ha hb ho n (by omega), if_neg (by omega)]
    have hend : (if i + (n + 1) = j + 1 then pos p j m else szl (p.take (i + (n + 1)))) = szl (p.take (i + n)) + tt p j m (i + n) := by
      unfold tt pos
      by_cases e : i + n = j
      · rw [if_pos (by omega), if_pos e, e]
      · rw [if_neg (by omega), if_neg e, ← szl_step]
        rfl
    rw [hend, allc_take p (i + n) _ (by rw [hc]; exact h4)]
    have hA : (allc p).take (szl (p.take (i + n))) = allc (p.take (i + n)) := by
      have := allc_take p (i + n) 0 (by omega)
      simpa using this
    rw [hA]
    unfold sub
    by_cases e : n = 0
    · subst e
      have hfr : fr i k (i + 0) = k := by unfold fr; rw [if_pos (Nat.add_zero i)]
      rw [hfr]
      simp only [Nat.add_zero]
      have hlen : (allc (p.take i)).length = szl (p.take i) := allc_len _
      unfold pos
      rw [List.drop_eq_nil_of_le (by omega), List.nil_append, ← hlen, List.drop_length_add_append]
    · have hfr : fr i k (i + n) = 0 := by unfold fr; rw [if_neg (by omega)]
      rw [hfr, List.drop_zero]
      have hle : pos p i k ≤ (allc (p.take (i + n))).length := by
        rw [allc_len]
        obtain ⟨la, h5, h6⟩ := ha
        have h7 := szl_succ h5
        have h8 := szl_mono p (show i + 1 ≤ i + n by omega)
        unfold pos; omega
      rw [List.drop_append_of_le_length hle]
theorem btw_eq {p : List T_api_Line} {i k j m : Nat} (ha : At p i k) (hb : At p j m) (ho : Ord i k j m) : btw p i k j m = ((allc p).take (pos p j m)).drop (pos p i k) := by
  have := ho.le
  unfold btw
  rw [pre_eq ha hb ho _ (by omega), if_pos (by omega)]
theorem pos_mono {p : List T_api_Line} {i k j m : Nat} (ha : At p i k) (ho : Ord i k j m) : pos p i k ≤ pos p j m := by
  obtain ⟨la, h5, h6⟩ := ha
  have h7 := szl_succ h5
  unfold pos
  rcases ho with h | ⟨rfl, h⟩
  · have h8 := szl_mono p (show i + 1 ≤ j by omega); omega
  · omega
theorem Ord.trans {i k j m x y : Nat} (h1 : Ord i k j m) (h2 : Ord j m x y) : Ord i k x y := by unfold Ord at *; omega
theorem btw_split {p : List T_api_Line} {i k j m x y : Nat} (ha : At p i k) (hb : At p j m) (hc : At p x y) (h1 : Ord i k j m) (h2 : Ord j m x y) : btw p i k x y = btw p i k j m ++ btw p j m x y := by
  rw [btw_eq ha hc (h1.trans h2), btw_eq ha hb h1, btw_eq hb hc h2]
  have l1 := pos_mono ha h1
  have l2 := pos_mono hb h2
  generalize allc p = l
  apply List.ext_getElem?
  intro u
  rw [List.getElem?_append]
  simp only [List.getElem?_drop, List.getElem?_take, List.length_drop, List.length_take]
  by_cases hu : u < min (pos p j m) l.length - pos p i k
  · rw [if_pos hu, if_pos (by omega), if_pos (by omega)]
  · rw [if_neg hu]
    by_cases hl : l.length ≤ pos p i k + u
    · rw [List.getElem?_eq_none hl]
      simp only [ite_self]
      split
      · rw [List.getElem?_eq_none (by omega)]
      · rfl
    · rw [show pos p j m + (u - (min (pos p j m) l.length - pos p i k)) = pos p i k + u by omega]
theorem btw_len_le (p : List T_api_Line) (i k j m : Nat) : (btw p i k j m).length ≤ szl p := by
  have h1 := pre_len p i k j m (j + 1 - i)
  have h2 := szl_take p (i + (j + 1 - i))
  unfold btw; omega
theorem Grow_eq {n : Nat} (hn : n ≤ 1000000) : slices_Grow_apiCell [] (n : Int) = some [] := by
  unfold slices_Grow_apiCell
  have e0 : IntKind.wrap .i64 ((0 : Int) - 0) = 0 := w_id (by omega) (by omega)
  have e1 : IntKind.wrap .i64 ((n : Int) - 0) = (n : Int) := by rw [w_id (by omega) (by omega)]; omega
  have d0 : decide ((n : Int) < 0) = false := decide_eq_false (by omega)
  rw [e0, e1, d0]
  rw [if_neg (by simp), Option.bind_some]
  by_cases h : n = 0
  · subst h; rfl
  · have d1 : decide ((n : Int) > 0) = true := decide_eq_true (by omega)
    rw [d1, if_pos rfl]
    unfold zerO takO
    rw [if_pos ⟨by omega, by rw [Int.toNat_natCast]; omega⟩, Option.bind_some, if_pos ⟨by omega, by simp⟩]
    rfl
theorem Concat_eq {a b : List T_api_Cell} (ha : a.length ≤ 400000) (hb : b.length ≤ 400000) : slices_Concat_apiCell [a, b] = some (a ++ b) := by
  have g0 : getI [a, b] ((0 : Nat) : Int) = some a := rfl
  have g1 : getI [a, b] ((1 : Nat) : Int) = some b := rfl
  have hw : ∀ x : Nat, x ≤ 900000 → IntKind.wrap .i64 (x : Int) = (x : Int) := fun x hx => w_id (by omega) (by omega)
  have l1 : iter (fun s : Int × Int => slices_Concat_apiCell_l1 [a, b] s.1 s.2) fuel (0, 0) = some ((a.length + b.length : Nat) : Int) := by
    have e0 : IntKind.wrap .i64 ((0 : Int) + (a.length : Int)) = (a.length : Int) := by rw [w_id (by omega) (by omega)]; omega
    have e1 : IntKind.wrap .i64 ((a.length : Int) + (b.length : Int)) = ((a.length + b.length : Nat) : Int) := by rw [w_id (by omega) (by omega)]; omega
    have s0 : slices_Concat_apiCell_l1 [a, b] 0 0 = some (.inl (1, (a.length : Int))) := by
      have g0' : getI [a, b] (0 : Int) = some a := rfl
      simp only [slices_Concat_apiCell_l1, g0', Option.bind_some, e0]
      rw [decide_eq_false (show ¬ ((a.length : Int) < 0) by omega)]
      rfl
    have s1 : slices_Concat_apiCell_l1 [a, b] 1 (a.length : Int) = some (.inl (2, ((a.length + b.length : Nat) : Int))) := by
      have g1' : getI [a, b] (1 : Int) = some b := rfl
      simp only [slices_Concat_apiCell_l1, g1', Option.bind_some, e1]
      rw [decide_eq_false (show ¬ (((a.length + b.length : Nat) : Int) < 0) by omega)]
      rfl
    have s2 : slices_Concat_apiCell_l1 [a, b] 2 ((a.length + b.length : Nat) : Int) = some (.inr ((a.length + b.length : Nat) : Int)) := rfl
    have hfu : fuel = 73786976294838206461 + 1 + 1 + 1 := by decide +kernel
    rw [hfu, iter, s0]
    show iter _ _ _ = _
    rw [iter, s1]
    show iter _ _ _ = _
    rw [iter, s2]
  have l2 : iter (fun s : List T_api_Cell × Int => slices_Concat_apiCell_l2 [a, b] s.1 s.2) fuel ([], 0) = some (a ++ b) := by
    have s0 : slices_Concat_apiCell_l2 [a, b] [] 0 = some (.inl (a, 1)) := by
      have g0' : getI [a, b] (0 : Int) = some a := rfl
      simp only [slices_Concat_apiCell_l2, g0', Option.bind_some]
      rw [capO_eq (by simp; omega)]
      rfl
    have s1 : slices_Concat_apiCell_l2 [a, b] a 1 = some (.inl (a ++ b, 2)) := by
      have g1' : getI [a, b] (1 : Int) = some b := rfl
      simp only [slices_Concat_apiCell_l2, g1', Option.bind_some]
      rw [capO_eq (by simp; omega)]
      rfl
    have s2 : slices_Concat_apiCell_l2 [a, b] (a ++ b) 2 = some (.inr (a ++ b)) := rfl
    have hfu : fuel = 73786976294838206461 + 1 + 1 + 1 := by decide +kernel
    rw [hfu, iter, s0]
    show iter _ _ _ = _
    rw [iter, s1]
    show iter _ _ _ = _
    rw [iter, s2]
  unfold slices_Concat_apiCell
  rw [l1, Option.bind_some, Grow_eq (by omega), Option.bind_some, l2, Option.bind_some]
def del (p : List T_api_Line) (i k j m : Nat) : List T_api_Line := match p[i]?, p[j]? with
  | some a, some b => p.take i ++ (⟨a.f_Quote, a.f_Lists, a.f_Kind, a.f_Cells.take k ++ b.f_Cells.drop m⟩ :: p.drop (j + 1))
  | _, _ => []
theorem del_some {p : List T_api_Line} {i k j m : Nat} {a b : T_api_Line} (ha : p[i]? = some a) (hb : p[j]? = some b) : del p i k j m = p.take i ++ (⟨a.f_Quote, a.f_Lists, a.f_Kind, a.f_Cells.take k ++ b.f_Cells.drop m⟩ :: p.drop (j + 1)) := by
  unfold del; rw [ha, hb]
theorem doc_Delete_eq {p : List T_api_Line} {i k j m : Nat} (hf : Fit p) (hs : doc_span p (ps i k) (ps j m) = some true) (ha : At p i k) (hb : At p j m) (ho : Ord i k j m) : doc_Delete p (ps i k) (ps j m) = some (del p i k j m, 0) := by
  have hle := ho.le
  have hlen := hf.len
  obtain ⟨a, ha1, ha2⟩ := ha
  obtain ⟨b, hb1, hb2⟩ := hb
  have hi := lt_of_get ha1
  have hj := lt_of_get hb1
  have hca := hf.cells (List.mem_of_getElem? ha1)
  have hcb := hf.cells (List.mem_of_getElem? hb1)
  unfold doc_Delete
  rw [hs, doc_Own_eq hf, del_some ha1 hb1]
  simp only [Option.bind_some, ps, getI_nat' ha1, getI_nat' hb1]
  rw [if_neg (by simp)]
  have c1 : cutI a.f_Cells 0 (k : Int) = some (a.f_Cells.take k) := cutI_take ha2
  have c2 : cutI b.f_Cells (m : Int) (b.f_Cells.length : Int) = some (b.f_Cells.drop m) := by
    rw [cutI_eq hb2 (Nat.le_refl _), List.take_length]
  rw [c1, Option.bind_some, c2, Option.bind_some, Concat_eq (by simp; omega) (by simp; omega), Option.bind_some, wsucc (n := j) (by omega)]
  unfold slices_Replace_apiLine
  by_cases hend : j + 1 = p.length
  · rw [if_pos ⟨by omega, by omega, by omega⟩, Int.toNat_natCast, capO_eq (by simp; omega), Option.bind_some, show p.drop (j + 1) = [] from List.drop_eq_nil_of_le (by omega)]
  · rw [if_neg (by omega), if_pos ⟨by omega, by omega, by omega, by simp; omega⟩, Int.toNat_natCast, Int.toNat_natCast, Option.bind_some]
    rfl
end Go.PM

namespace Go.PM
set_option linter.unusedVariables false
set_option linter.unusedSimpArgs false
section
variable {p : List T_api_Line} {i k j m : Nat} {a b : T_api_Line}
theorem del_len (ha : p[i]? = some a) (hb : p[j]? = some b) : (del p i k j m).length = i + 1 + (p.length - (j + 1)) := by
  have := lt_of_get ha
  rw [del_some ha hb]; simp; omega
theorem del_lo (ha : p[i]? = some a) (hb : p[j]? = some b) {t : Nat} (h : t < i) : (del p i k j m)[t]? = p[t]? := by
  have := lt_of_get ha
  rw [del_some ha hb, List.getElem?_append_left (by simp; omega), List.getElem?_take, if_pos h]
theorem del_at (ha : p[i]? = some a) (hb : p[j]? = some b) : (del p i k j m)[i]? = some ⟨a.f_Quote, a.f_Lists, a.f_Kind, a.f_Cells.take k ++ b.f_Cells.drop m⟩ := by
  have := lt_of_get ha
  have hl : (p.take i).length = i := by simp; omega
  rw [del_some ha hb, List.getElem?_append_right (by omega), hl, Nat.sub_self]; rfl
theorem del_take (ha : p[i]? = some a) (hb : p[j]? = some b) {t : Nat} (h : t ≤ i) : (del p i k j m).take t = p.take t := by
  have := lt_of_get ha
  rw [del_some ha hb, List.take_append_of_le_length (by simp; omega), List.take_take, Nat.min_eq_left h]
theorem del_drop (ha : p[i]? = some a) (hb : p[j]? = some b) : (del p i k j m).drop (i + 1) = p.drop (j + 1) := by
  have := lt_of_get ha
  have hl : (p.take i).length = i := by simp; omega
  rw [del_some ha hb, List.drop_append, hl, List.drop_eq_nil_of_le (by omega), List.nil_append, show i + 1 - i = 1 by omega]
  rfl
theorem del_mem (ha : p[i]? = some a) (hb : p[j]? = some b) {l : T_api_Line} (h : l ∈ del p i k j m) : l ∈ p ∨ l = ⟨a.f_Quote, a.f_Lists, a.f_Kind, a.f_Cells.take k ++ b.f_Cells.drop m⟩ := by
  rw [del_some ha hb] at h
  rcases List.mem_append.1 h with h | h
  · exact .inl (List.mem_of_mem_take h)
  · rcases List.mem_cons.1 h with h | h
    · exact .inr h
    · exact .inl (List.mem_of_mem_drop h)
theorem szl_app (p q : List T_api_Line) : szl (p ++ q) = szl p + szl q := by unfold szl; simp
theorem szl_cut (p : List T_api_Line) (t : Nat) : szl p = szl (p.take t) + szl (p.drop t) := by rw [← szl_app, List.take_append_drop]
theorem del_szl (ha : p[i]? = some a) (hb : p[j]? = some b) (hk : k ≤ a.f_Cells.length) (hm : m ≤ b.f_Cells.length) (ho : Ord i k j m) : szl (del p i k j m) ≤ szl p := by
  rw [del_some ha hb, szl_app]
  have h1 := szl_cut p (j + 1)
  have h2 := szl_succ hb
  have h3 := szl_succ ha
  have h4 : szl (⟨a.f_Quote, a.f_Lists, a.f_Kind, a.f_Cells.take k ++ b.f_Cells.drop m⟩ :: p.drop (j + 1)) = k + (b.f_Cells.length - m) + szl (p.drop (j + 1)) := by
    show (List.map _ _).sum = _
    simp [szl]; omega
  rw [h4]
  rcases ho with h | ⟨rfl, h⟩
  · have h5 := szl_mono p (show i + 1 ≤ j by omega)
    omega
  · omega
theorem del_fit (hf : Fit p) (ha : p[i]? = some a) (hb : p[j]? = some b) (hk : k ≤ a.f_Cells.length) (hm : m ≤ b.f_Cells.length) (ho : Ord i k j m) : Fit (del p i k j m) := by
  have hl := lt_of_get ha
  have hle := ho.le
  refine ⟨by rw [del_len ha hb]; have := hf.len; have := lt_of_get hb; omega, Nat.le_trans (del_szl ha hb hk hm ho) hf.siz, fun l h => ?_, fun l h c hc => ?_⟩
  · rcases del_mem ha hb h with h | rfl
    · exact hf.lis l h
    · exact hf.lis a (List.mem_of_getElem? ha)
  · rcases del_mem ha hb h with h | rfl
    · exact hf.href l h c hc
    · rcases List.mem_append.1 hc with hc | hc
      · exact hf.href a (List.mem_of_getElem? ha) c (List.mem_of_mem_take hc)
      · exact hf.href b (List.mem_of_getElem? hb) c (List.mem_of_mem_drop hc)
theorem del_docOk (hok : docOk p = true) (ha : p[i]? = some a) (hb : p[j]? = some b) (hk : k ≤ a.f_Cells.length) (hm : m ≤ b.f_Cells.length) (ho : Ord i k j m) : docOk (del p i k j m) = true := by
  have hle := ho.le
  have hj := lt_of_get hb
  have hcell := fun l hl c hc => docOk_cell hok (l := l) hl (c := c) hc
  have hs := del_szl ha hb hk hm ho
  unfold docOk at hok ⊢
  simp only [Bool.and_eq_true, decide_eq_true_eq] at hok ⊢
  rw [del_len ha hb]
  refine ⟨by omega, by omega, by omega, ?_⟩
  rw [List.all_eq_true]
  intro l h
  rcases del_mem ha hb h with h | rfl
  · exact List.all_eq_true.1 hok.2.2.2 l h
  · have h1 := List.all_eq_true.1 hok.2.2.2 a (List.mem_of_getElem? ha)
    unfold lineOk at h1 ⊢
    simp only [Bool.and_eq_true] at h1 ⊢
    refine ⟨h1.1, ?_⟩
    rw [List.all_eq_true]
    intro c hc
    rcases List.mem_append.1 hc with hc | hc
    · exact hcell a (List.mem_of_getElem? ha) c (List.mem_of_mem_take hc)
    · exact hcell b (List.mem_of_getElem? hb) c (List.mem_of_mem_drop hc)
end
theorem del_two {p : List T_api_Line} {i k j m x y : Nat} (ha : At p i k) (hb : At p j m) (hc : At p x y) (h1 : Ord i k j m) (h2 : Ord j m x y) : At (del p j m x y) i k ∧ At (del p j m x y) j m ∧ del (del p j m x y) i k j m = del p i k x y := by
  obtain ⟨a, ha1, ha2⟩ := ha
  obtain ⟨b, hb1, hb2⟩ := hb
  obtain ⟨c, hc1, hc2⟩ := hc
  have hat := del_at (k := m) (m := y) hb1 hc1
  have hbm : At (del p j m x y) j m := ⟨_, hat, by simp; omega⟩
  rcases h1 with h | ⟨rfl, h⟩
  · have hai : (del p j m x y)[i]? = some a := by rw [del_lo hb1 hc1 h, ha1]
    refine ⟨⟨a, hai, ha2⟩, hbm, ?_⟩
    rw [del_some hai hat, del_some ha1 hc1, del_take hb1 hc1 (by omega), del_drop hb1 hc1]
    congr 2
    simp only
    congr 2
    rw [List.drop_append, List.drop_eq_nil_of_le (by simp; omega)]
    simp [Nat.min_eq_left hb2]
  · rw [ha1] at hb1
    obtain rfl := Option.some.inj hb1
    refine ⟨⟨_, hat, by simp; omega⟩, hbm, ?_⟩
    rw [del_some hat hat, del_some (k := k) (m := y) ha1 hc1, del_take ha1 hc1 (Nat.le_refl _), del_drop ha1 hc1]
    congr 2
    simp only
    congr 2
    · rw [List.take_append_of_le_length (by simp; omega), List.take_take, Nat.min_eq_left h]
    · rw [List.drop_append, List.drop_eq_nil_of_le (by simp; omega)]
      simp [Nat.min_eq_left hb2]
theorem Fit.okl {p : List T_api_Line} (h : Fit p) : ∀ x ∈ p, OkL x := fun l hl => ⟨by have := h.lis l hl; omega, by have := h.cells hl; omega⟩
theorem DocParts_law {p : List T_api_Line} {a b c : T_api_Pos} (hp : good_Lapi_Line p) (_ : good_api_Pos a) (_ : good_api_Pos b) (_ : good_api_Pos c) : quillworklaw07u_DocParts p a b c = some true := by
  unfold quillworklaw07u_DocParts
  rcases sh_cases hp with h | ⟨h, hsrt⟩
  · rw [h]; simp [awake_true]
  · have hf := hsrt.fit
    rw [h]
    simp only [Option.bind_some]
    rw [if_neg (by simp), doc_May_eq hf]
    cases hok : docOk p with
    | false => simp [awake_true]
    | true =>
      simp only [Option.bind_some, if_true]
      rcases doc_Is_cases p a with h1 | ⟨h1, i, k, rfl, ha⟩
      · rw [h1]; simp [awake_true]
      rcases doc_Is_cases p b with h2 | ⟨h2, j, m, rfl, hb⟩
      · rw [h1, h2]; simp [awake_true]
      rcases doc_Is_cases p c with h3 | ⟨h3, x, y, rfl, hc⟩
      · rw [h1, h2, h3]; simp [awake_true]
      obtain ⟨c1, e1, o1⟩ := cmp_ord i k j m
      obtain ⟨c2, e2, o2⟩ := cmp_ord j m x y
      rw [h1, h2, h3]
      simp only [Option.bind_some, if_true, e1, e2]
      by_cases g1 : c1 > 0
      · rw [decide_eq_true g1]; simp [awake_true]
      rw [decide_eq_false g1]
      by_cases g2 : c2 > 0
      · rw [decide_eq_true g2]; simp [awake_true]
      rw [decide_eq_false g2]
      have ho1 : Ord i k j m := o1.1 (by omega)
      have ho2 : Ord j m x y := o2.1 (by omega)
      have ho3 := ho1.trans ho2
      have hm := ref07u_May_eq hf
      rw [hok] at hm
      have hsp1 := doc_span_true hf hok ha hb ho1
      have hsp2 := doc_span_true hf hok hb hc ho2
      have hsp3 := doc_span_true hf hok ha hc ho3
      have hs1 := btw_split ha hb hc ho1 ho2
      have l3 := btw_len_le p i k x y
      have hsz := hf.siz
      have hl : (btw p i k x y).length = (btw p i k j m).length + (btw p j m x y).length := by rw [hs1, List.length_append]
      have hsame : quillworkref05u_Same (btw p i k x y) (btw p i k j m ++ btw p j m x y) = some true := by
        rw [← hs1, quillworkref05u_Same_eq (by omega), sc_refl eqC_refl]
      obtain ⟨la, ha1, ha2⟩ := ha
      obtain ⟨lb, hb1, hb2⟩ := hb
      obtain ⟨lc, hc1, hc2⟩ := hc
      have ha : At p i k := ⟨la, ha1, ha2⟩
      have hb : At p j m := ⟨lb, hb1, hb2⟩
      have hc : At p x y := ⟨lc, hc1, hc2⟩
      have hfy := del_fit hf hb1 hc1 hb2 hc2 ho2
      have hoy := del_docOk hok hb1 hc1 hb2 hc2 ho2
      obtain ⟨hay, hby, htwo⟩ := del_two ha hb hc ho1 ho2
      have hspy := doc_span_true hfy hoy hay hby ho1
      have hfx := del_fit hf ha1 hc1 ha2 hc2 ho3
      have hds : doc_Same (del p i k x y) (del p i k x y) = some true := by
        rw [doc_Same_eq (by have := hfx.len; omega) hfx.okl, sc_refl eqL_refl]
      rw [if_neg (by simp)]
      simp only [Option.bind_some, ref07u_Cells_eq hf ha hc ho3 hm, ref07u_Cells_eq hf ha hb ho1 hm, ref07u_Cells_eq hf hb hc ho2 hm, if_true]
      rw [if_neg (by simp), capO_eq (l := [] ++ btw p i k j m) (by simp; omega), Option.bind_some, List.nil_append, capO_eq (by simp; omega)]
      simp only [Option.bind_some, hsame, if_true, doc_Count_eq hf hsp3 ha hc ho3, doc_Count_eq hf hsp1 ha hb ho1, doc_Count_eq hf hsp2 hb hc ho2]
      rw [w_id (by omega) (by omega), hl]
      have e4 : ((((btw p i k j m).length + (btw p j m x y).length : Nat) : Int) != ((btw p i k j m).length : Int) + ((btw p j m x y).length : Int)) = false := by simp
      rw [e4]
      simp only [Bool.false_eq_true, if_false, bne_self_eq_false, doc_Delete_eq hf hsp3 ha hc ho3, doc_Delete_eq hf hsp2 hb hc ho2, Option.bind_some, doc_Delete_eq hfy hspy hay hby ho1, htwo, hds, awake_true]
      rfl
end Go.PM

