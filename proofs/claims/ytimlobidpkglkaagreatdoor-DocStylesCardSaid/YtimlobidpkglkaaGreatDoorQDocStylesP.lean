/-
  The plain law of quillworklaw07.DocStyles: its plain Lean function answers true at every input. No condition but that lengths are at most 2^63 - 1.
-/
import Derived.Test.YtimlobidpkglkaaGreatDoorQDocStylesD
set_option linter.unusedVariables false
set_option linter.unusedSimpArgs false
set_option linter.unusedSectionVars false
set_option linter.unnecessarySimpa false
namespace Go.PM
set_option maxRecDepth 100000
theorem awake_true : quillworklaw07u_awake = some true := by kernel_rfl
end Go.PM

namespace Go.PM
variable [Tbl]
set_option linter.unusedSectionVars false
theorem iter_scan {ρ : Type} {step : Int → Option (Int ⊕ ρ)} {len : Nat} {p : Nat → Bool} {yes no : ρ} (h1 : ∀ i : Nat, i < len → step (i : Int) = some (if p i then .inl ((i + 1 : Nat) : Int) else .inr no)) (h2 : step (len : Int) = some (.inr yes)) :
    ∀ (n i : Nat), i ≤ len → len - i < n → iter step n (i : Int) = some (if (List.range' i (len - i)).all p then yes else no)
  | 0, i, _, hn => by omega
  | n + 1, i, hi, hn => by
    unfold iter
    by_cases h : i = len
    · subst h
      rw [h2]; simp
    · rw [h1 i (by omega)]
      have h3 : len - i = (len - (i + 1)) + 1 := by omega
      rw [h3, List.range'_succ, List.all_cons]
      cases hp : p i with
      | false => simp
      | true =>
        simp only [if_true, Bool.true_and]
        exact iter_scan h1 h2 n (i + 1) (by omega) (by omega)
end Go.PM

namespace Go.PM
set_option linter.unusedVariables false
def scP {α : Type} (eq : α → α → Bool) (p q : List α) (i : Nat) : Bool := match p[i]?, q[i]? with | some x, some y => eq x y | _, _ => true
def sc {α : Type} (eq : α → α → Bool) (p q : List α) : Bool := p.length == q.length && (List.range' 0 p.length).all (scP eq p q)
theorem sc_refl {α : Type} {eq : α → α → Bool} (h : ∀ x, eq x x = true) (p : List α) : sc eq p p = true := by
  unfold sc scP
  simp only [beq_self_eq_true, Bool.true_and, List.all_eq_true]
  intro i _
  cases p[i]? with
  | none => rfl
  | some x => exact h x
theorem wrap_small {n : Nat} (h : n < 9223372036854775807) : IntKind.wrap .i64 ((n : Int) + 1) = ((n + 1 : Nat) : Int) := by
  rw [IntKind.wrap_i64]; omega
theorem iter_sc {α : Type} {eq : α → α → Bool} {p q : List α} {step : Int → Option (Int ⊕ (Unit ⊕ Unit))} (hl : p.length = q.length) (hf : p.length ≤ 9223372036854775807)
    (hs : ∀ (i : Nat) (x y : α), p[i]? = some x → q[i]? = some y → i < p.length → step (i : Int) = some (if eq x y then .inl ((i + 1 : Nat) : Int) else .inr (.inl ()))) (he : step (p.length : Int) = some (.inr (.inr ()))) :
    iter step fuel 0 = some (if (List.range' 0 p.length).all (scP eq p q) then .inr () else .inl ()) := by
  have := iter_scan (step := step) (len := p.length) (p := scP eq p q) (yes := .inr ()) (no := .inl ()) (fun i hi => by
    have h1 := List.getElem?_eq_getElem hi
    have h2 := List.getElem?_eq_getElem (show i < q.length by omega)
    rw [hs i _ _ h1 h2 hi]
    unfold scP; rw [h1, h2]) he fuel 0 (Nat.zero_le _) (by unfold fuel; omega)
  simpa using this
theorem getI_nat {α : Type} {l : List α} {i : Nat} {x : α} (h : l[i]? = some x) : getI l (i : Int) = some x := by
  unfold getI; rw [if_pos (by omega)]; simpa using h
end Go.PM

namespace Go.PM
set_option linter.unusedVariables false
set_option linter.unusedSimpArgs false
def eqC (x y : T_api_Cell) : Bool := x.f_R == y.f_R && (x.f_Bits == y.f_Bits && x.f_Href == y.f_Href)
theorem quillworkref05u_Same_eq {p q : List T_api_Cell} (hf : p.length ≤ 9223372036854775807) : quillworkref05u_Same p q = some (sc eqC p q) := by
  unfold quillworkref05u_Same
  by_cases hl : p.length = q.length
  · rw [if_neg (by simp [hl])]
    rw [iter_sc (eq := eqC) hl hf (fun i x y h1 h2 hi => by
      unfold quillworkref05u_Same_l1
      rw [if_pos (by simp; exact hi)]
      simp only [getI_nat h1, getI_nat h2, Option.bind_some, wrap_small (show i < 9223372036854775807 by omega)]
      unfold eqC; by_cases e1 : x.f_R = y.f_R <;> by_cases e2 : x.f_Bits = y.f_Bits <;> cases e3 : (x.f_Href == y.f_Href) <;> simp [e1, e2, e3]) (by unfold quillworkref05u_Same_l1; simp)]
    unfold sc
    rw [hl]
    simp only [Option.bind_some, beq_self_eq_true, Bool.true_and]
    cases (List.range' 0 q.length).all (scP eqC p q) <;> rfl
  · rw [if_pos (by simp; omega)]
    unfold sc
    have : (p.length == q.length) = false := by simpa using hl
    rw [this]; rfl
theorem quillworkref06u_ints_eq {p q : List Int} (hf : p.length ≤ 9223372036854775807) : quillworkref06u_ints p q = some (sc (fun x y => x == y) p q) := by
  unfold quillworkref06u_ints
  by_cases hl : p.length = q.length
  · rw [if_neg (by simp [hl])]
    rw [iter_sc (eq := (fun x y => x == y)) hl hf (fun i x y h1 h2 hi => by
      unfold quillworkref06u_ints_l1
      rw [if_pos (by simp; exact hi)]
      simp only [getI_nat h1, getI_nat h2, Option.bind_some, wrap_small (show i < 9223372036854775807 by omega)]
      by_cases e : x = y <;> simp [e]) (by unfold quillworkref06u_ints_l1; simp)]
    unfold sc
    rw [hl]
    simp only [Option.bind_some, beq_self_eq_true, Bool.true_and]
    cases (List.range' 0 q.length).all (scP (fun x y => x == y) p q) <;> rfl
  · rw [if_pos (by simp; omega)]
    unfold sc
    have : (p.length == q.length) = false := by simpa using hl
    rw [this]; rfl
end Go.PM

namespace Go.PM
set_option linter.unusedVariables false
set_option linter.unusedSimpArgs false
structure OkL (l : T_api_Line) : Prop where
  lists : l.f_Lists.length ≤ 9223372036854775807
  cells : l.f_Cells.length ≤ 9223372036854775807
def eqL (x y : T_api_Line) : Bool := x.f_Quote == y.f_Quote && (x.f_Kind == y.f_Kind && (sc (fun a b => a == b) x.f_Lists y.f_Lists && sc eqC x.f_Cells y.f_Cells))
theorem ref06u_Same_eq {x y : T_api_Line} (h : OkL x) : quillworkref06u_Same x y = some (eqL x y) := by
  unfold quillworkref06u_Same eqL
  rw [quillworkref06u_ints_eq h.lists, quillworkref05u_Same_eq h.cells]
  by_cases e1 : x.f_Quote = y.f_Quote <;> by_cases e2 : x.f_Kind = y.f_Kind <;> cases e3 : sc (fun a b => a == b) x.f_Lists y.f_Lists <;> simp [e1, e2, e3]
theorem eqC_refl (x : T_api_Cell) : eqC x x = true := by simp [eqC]
theorem eqL_refl (x : T_api_Line) : eqL x x = true := by
  unfold eqL; rw [sc_refl (fun a => by simp), sc_refl eqC_refl]; simp
end Go.PM

namespace Go.PM
set_option linter.unusedVariables false
set_option linter.unusedSimpArgs false
theorem iter_post {σ ρ : Type} {step : σ → Option (σ ⊕ ρ)} {inv : σ → Nat → Prop} {Q : ρ → Prop} (h : ∀ s m, inv s m → (∃ r, step s = some (.inr r) ∧ Q r) ∨ ∃ s' m', step s = some (.inl s') ∧ inv s' m' ∧ m' < m) : ∀ (n : Nat) (s : σ) (m : Nat), inv s m → m < n → ∃ r, iter step n s = some r ∧ Q r
  | 0, s, m, _, hn => by omega
  | n + 1, s, m, hi, hn => by
    unfold iter
    rcases h s m hi with ⟨r, h1, h2⟩ | ⟨s', m', h1, h2, h3⟩
    · rw [h1]; exact ⟨r, rfl, h2⟩
    · rw [h1]; exact iter_post h n s' m' h2 (by omega)
theorem iter_to {σ ρ : Type} {step : σ → Option (σ ⊕ ρ)} (f : Nat → σ) {k : Nat} {r : ρ} (h : ∀ i, i < k → step (f i) = some (.inl (f (i + 1)))) (he : step (f k) = some (.inr r)) : ∀ (n i : Nat), i ≤ k → k - i < n → iter step n (f i) = some r
  | 0, i, _, hn => by omega
  | n + 1, i, hi, hn => by
    unfold iter
    by_cases e : i = k
    · subst e; rw [he]
    · rw [h i (by omega)]
      exact iter_to f h he n (i + 1) (by omega) (by omega)
theorem w_id {n : Int} (h1 : -9223372036854775808 ≤ n) (h2 : n ≤ 9223372036854775807) : IntKind.wrap .i64 n = n := by
  rw [IntKind.wrap_i64]; omega
theorem getI_nat' {α : Type} {l : List α} {i : Nat} {x : α} (h : l[i]? = some x) : getI l (i : Int) = some x := by
  unfold getI; rw [if_pos (by omega)]; simpa using h
theorem reach_eq : reachBytes = 140737488351232 := rfl
def tot (p : List T_api_Line) : Nat := (p.map fun l => l.f_Cells.length + l.f_Lists.length).sum
def szl (p : List T_api_Line) : Nat := (p.map fun l => l.f_Cells.length).sum
theorem sum_take_succ {α : Type} {p : List α} {f : α → Nat} {i : Nat} {x : α} (h : p[i]? = some x) : ((p.take (i + 1)).map f).sum = ((p.take i).map f).sum + f x := by
  rw [List.take_add_one, h]; simp
theorem sum_take_le {α : Type} {p : List α} {f : α → Nat} (i : Nat) : ((p.take i).map f).sum ≤ (p.map f).sum := by
  have h : (p.map f).sum = ((p.take i).map f).sum + ((p.drop i).map f).sum := by
    rw [← List.sum_append, ← List.map_append, List.take_append_drop]
  omega
theorem szl_tot (p : List T_api_Line) : szl p ≤ tot p := by
  unfold szl tot
  induction p with
  | nil => simp
  | cons l p ih => simp only [List.map_cons, List.sum_cons]; omega
theorem long_l4u_post {p : List T_api_Line} {j : Nat} {l : T_api_Line} (hl : p[j]? = some l) (ho : good_api_Line l) {a : Int} (ha : 0 ≤ a) (ha2 : a ≤ 1000000000000000) : ∃ r, iter (fun s => quillworkref07u_Long_l4 p (j : Int) s.1 s.2) fuel (a, 0) = some r ∧ a ≤ r ∧ r ≤ 2000000000000000 := by
  have hc : l.f_Cells.length * 32 ≤ reachBytes := ho.2.2.2.1.1
  rw [reach_eq] at hc
  refine iter_post (inv := fun s m => ∃ k : Nat, s.2 = (k : Int) ∧ k ≤ l.f_Cells.length ∧ m = l.f_Cells.length - k ∧ a ≤ s.1 ∧ s.1 ≤ 2000000000000000) ?_ fuel (a, 0) l.f_Cells.length ⟨0, rfl, by omega, by omega, Int.le_refl _, by omega⟩ (by unfold fuel; omega)
  rintro ⟨b, c⟩ m ⟨k, rfl, h1, rfl, h2, h3⟩
  simp only at h2 h3
  simp only [quillworkref07u_Long_l4, getI_nat' hl, Option.bind_some]
  by_cases hk : k < l.f_Cells.length
  · by_cases hb : b ≤ 20000
    · right
      rw [getI_nat' (List.getElem?_eq_getElem hk)]
      have hh : (l.f_Cells[k]).f_Href.length ≤ reachBytes := (ho.2.2.2.1.2 _ (List.getElem_mem hk)).2.2.1
      rw [reach_eq] at hh
      have hq : (((l.f_Cells[k]).f_Href.length : Int)).tdiv 8 = (((l.f_Cells[k]).f_Href.length : Int) / 8) := by
        rw [Int.tdiv_eq_ediv_of_nonneg (by omega)]
      have e1 : IntKind.wrap .i64 ((((l.f_Cells[k]).f_Href.length : Int) / 8)) = (((l.f_Cells[k]).f_Href.length : Int) / 8) := w_id (by omega) (by omega)
      have e2 : IntKind.wrap .i64 (b + (((l.f_Cells[k]).f_Href.length : Int) / 8)) = b + (((l.f_Cells[k]).f_Href.length : Int) / 8) := w_id (by omega) (by omega)
      have e3 : IntKind.wrap .i64 ((k : Int) + 1) = ((k + 1 : Nat) : Int) := by rw [w_id (by omega) (by omega)]; omega
      refine ⟨(b + (((l.f_Cells[k]).f_Href.length : Int) / 8), ((k + 1 : Nat) : Int)), l.f_Cells.length - (k + 1), ?_, ⟨k + 1, rfl, by omega, rfl, ?_, ?_⟩, by omega⟩
      · simp [hk, hb, quoO, hq, e1, e2, e3]
      · show a ≤ b + _; omega
      · show b + _ ≤ _; omega
    · left
      exact ⟨b, by simp [hk, hb], h2, h3⟩
  · left
    exact ⟨b, by simp [hk], h2, h3⟩
theorem long_cases {p : List T_api_Line} (hp : good_Lapi_Line p) : quillworklaw07u_long p = some true ∨ (quillworklaw07u_long p = some false ∧ p.length ≤ 300 ∧ tot p ≤ 20000) := by
  unfold quillworklaw07u_long quillworkref07u_Long
  by_cases h3 : (p.length : Int) > 300
  · left; simp [h3]
  · rw [if_neg (by simp; omega)]
    obtain ⟨r, hr, hQ⟩ := iter_post (step := fun s : Int × Int => quillworkref07u_Long_l3 p s.1 s.2) (inv := fun s m => ∃ k : Nat, s.2 = (k : Int) ∧ k ≤ p.length ∧ m = p.length - k ∧ (tot (p.take k) : Int) ≤ s.1 ∧ s.1 ≤ 20000) (Q := fun r => r = .inl () ∨ (r = .inr () ∧ tot p ≤ 20000)) (by
      rintro ⟨a, b⟩ m ⟨k, rfl, h1, rfl, h2, h4⟩
      simp only at h2 h4
      simp only [quillworkref07u_Long_l3]
      by_cases hk : k < p.length
      · rw [if_pos (by simp; exact hk)]
        have hl := List.getElem?_eq_getElem hk
        have hg := hp.2 _ (List.getElem_mem hk)
        have hc : (p[k]).f_Cells.length * 32 ≤ reachBytes := hg.2.2.2.1.1
        have hs : (p[k]).f_Lists.length * 8 ≤ reachBytes := hg.2.1.1
        rw [reach_eq] at hc hs
        simp only [getI_nat' hl, Option.bind_some]
        have e1 : IntKind.wrap .i64 (((p[k]).f_Cells.length : Int) + ((p[k]).f_Lists.length : Int)) = (((p[k]).f_Cells.length + (p[k]).f_Lists.length : Nat) : Int) := by rw [w_id (by omega) (by omega)]; omega
        have e2 : IntKind.wrap .i64 (a + (((p[k]).f_Cells.length + (p[k]).f_Lists.length : Nat) : Int)) = a + (((p[k]).f_Cells.length + (p[k]).f_Lists.length : Nat) : Int) := w_id (by omega) (by omega)
        have e3 : IntKind.wrap .i64 ((k : Int) + 1) = ((k + 1 : Nat) : Int) := by rw [w_id (by omega) (by omega)]; omega
        rw [e1, e2]
        obtain ⟨r, hr, h5, h6⟩ := long_l4u_post hl hg (a := a + (((p[k]).f_Cells.length + (p[k]).f_Lists.length : Nat) : Int)) (by omega) (by omega)
        rw [hr]
        simp only [Option.bind_some]
        by_cases hr2 : r > 20000
        · left; exact ⟨_, by rw [if_pos (by simp; exact hr2)], .inl rfl⟩
        · right
          refine ⟨(r, ((k + 1 : Nat) : Int)), p.length - (k + 1), ?_, ⟨k + 1, rfl, by omega, rfl, ?_, ?_⟩, by omega⟩
          · rw [if_neg (by simp; omega), e3]
          · show (tot (p.take (k + 1)) : Int) ≤ r
            have : tot (p.take (k + 1)) = tot (p.take k) + ((p[k]).f_Cells.length + (p[k]).f_Lists.length) := sum_take_succ hl
            omega
          · show r ≤ 20000; omega
      · left
        refine ⟨_, by rw [if_neg (by simp; omega)], .inr ⟨rfl, ?_⟩⟩
        have : p.take k = p := List.take_of_length_le (by omega)
        rw [this] at h2; omega) fuel (0, 0) p.length ⟨0, rfl, by omega, by omega, by simp [tot], by omega⟩ (by have := hp.1; rw [reach_eq] at this; unfold fuel; omega)
    rw [hr]
    rcases hQ with rfl | ⟨rfl, h5⟩
    · left; rfl
    · right; exact ⟨rfl, by omega, h5⟩
end Go.PM

namespace Go.PM
set_option linter.unusedVariables false
set_option linter.unusedSimpArgs false
def At (p : List T_api_Line) (i k : Nat) : Prop := ∃ l, p[i]? = some l ∧ k ≤ l.f_Cells.length
def ps (i k : Nat) : T_api_Pos := ⟨(i : Int), (k : Int)⟩
structure Bd (p : List T_api_Line) : Prop where
  len : p.length ≤ 1000000
  siz : szl p ≤ 1000000
theorem szl_take (p : List T_api_Line) (i : Nat) : szl (p.take i) ≤ szl p := sum_take_le i
theorem szl_succ {p : List T_api_Line} {i : Nat} {l : T_api_Line} (h : p[i]? = some l) : szl (p.take (i + 1)) = szl (p.take i) + l.f_Cells.length := sum_take_succ h
theorem Bd.take {p : List T_api_Line} (h : Bd p) (i : Nat) : Bd (p.take i) := ⟨by have := h.len; simp; omega, Nat.le_trans (szl_take p i) h.siz⟩
theorem lt_of_get {α : Type} {p : List α} {i : Nat} {l : α} (h : p[i]? = some l) : i < p.length := (List.getElem?_eq_some_iff.1 h).1
theorem wsucc {n : Nat} (h : n < 9223372036854775807) : IntKind.wrap .i64 ((n : Int) + 1) = ((n + 1 : Nat) : Int) := by rw [w_id (by omega) (by omega)]; omega
theorem doc_Size_eq {p : List T_api_Line} (hb : Bd p) : doc_Size p = some (szl p : Int) := by
  have hl := hb.len
  have := iter_to (step := fun s : Int × Int => doc_Size_l1 p s.1 s.2) (fun i => ((szl (p.take i) : Int), (i : Int))) (k := p.length) (r := (szl p : Int)) (fun i hi => by
    have hg := List.getElem?_eq_getElem hi
    have h1 := szl_succ hg; have h2 := szl_take p (i + 1); have h3 := hb.siz
    simp only [doc_Size_l1, getI_nat' hg, Option.bind_some]
    rw [if_pos (by simp; exact hi), w_id (by omega) (by omega), wsucc (by omega), h1]
    simp) (by
    simp only [doc_Size_l1]
    rw [if_neg (by simp)]
    simp) fuel 0 (by omega) (by unfold fuel; omega)
  unfold doc_Size
  have h0 : ((szl (p.take 0) : Int), ((0 : Nat) : Int)) = ((0 : Int), (0 : Int)) := by simp [szl]
  rw [h0] at this
  rw [this]; rfl
theorem doc_Is_eq {p : List T_api_Line} {i k : Nat} (h : At p i k) : doc_Is p (ps i k) = some true := by
  obtain ⟨l, hl, hk⟩ := h
  have := lt_of_get hl
  unfold doc_Is ps
  simp [getI_nat' hl, this, hk]
theorem cmp_Compare_eq (a b : Int) : cmp_Compare_int a b = some (if a < b then -1 else if a > b then 1 else 0) := by
  unfold cmp_Compare_int cmp_isNaN_int
  by_cases h1 : a < b
  · simp [h1]
  · by_cases h2 : a > b <;> simp [h1, h2]
theorem cmp_Or2 (a b : Int) : cmp_Or_int [a, b] = some (if a = 0 then b else a) := by
  unfold cmp_Or_int
  have g0 : getI [a, b] ((0 : Nat) : Int) = some a := rfl
  have g1 : getI [a, b] ((1 : Nat) : Int) = some b := rfl
  by_cases ha : a = 0
  · by_cases hb : b = 0
    · have := iter_to (step := fun s : Int => cmp_Or_int_l1 [a, b] s) (fun i => (i : Int)) (k := 2) (r := .inr ()) (fun i hi => by
        match i, hi with
        | 0, _ => subst ha; rfl
        | 1, _ => subst hb; rfl) rfl fuel 0 (by omega) (by unfold fuel; omega)
      rw [show ((0 : Nat) : Int) = 0 from rfl] at this
      rw [this, if_pos ha, hb]; rfl
    · have := iter_to (step := fun s : Int => cmp_Or_int_l1 [a, b] s) (fun i => (i : Int)) (k := 1) (r := .inl b) (fun i hi => by
        match i, hi with
        | 0, _ => subst ha; rfl) (by
        simp only [cmp_Or_int_l1, g1, Option.bind_some]
        rw [if_pos (by simp), if_pos (by simpa using hb)]) fuel 0 (by omega) (by unfold fuel; omega)
      rw [show ((0 : Nat) : Int) = 0 from rfl] at this
      rw [this, if_pos ha]; rfl
  · have := iter_to (step := fun s : Int => cmp_Or_int_l1 [a, b] s) (fun i => (i : Int)) (k := 0) (r := .inl a) (fun i hi => by omega) (by
      simp only [cmp_Or_int_l1, g0, Option.bind_some]
      rw [if_pos (by simp), if_pos (by simpa using ha)]) fuel 0 (by omega) (by unfold fuel; omega)
    rw [show ((0 : Nat) : Int) = 0 from rfl] at this
    rw [this, if_neg ha]; rfl
theorem doc_Cmp_eq (a b : T_api_Pos) : doc_Cmp a b = some (if a.f_Line < b.f_Line then -1 else if a.f_Line > b.f_Line then 1 else if a.f_At < b.f_At then -1 else if a.f_At > b.f_At then 1 else 0) := by
  unfold doc_Cmp
  simp only [cmp_Compare_eq, cmp_Or2, Option.bind_some]
  congr 1
  by_cases h1 : a.f_Line < b.f_Line
  · simp [h1]
  · by_cases h2 : a.f_Line > b.f_Line <;> simp [h1, h2]
end Go.PM

namespace Go.PM
set_option linter.unusedVariables false
set_option linter.unusedSimpArgs false
theorem long_l4u_href {p : List T_api_Line} {j : Nat} {l : T_api_Line} (hl : p[j]? = some l) (ho : good_api_Line l) {a : Int} (ha : 0 ≤ a) (ha2 : a ≤ 1000000000000000) : ∃ r, iter (fun s => quillworkref07u_Long_l4 p (j : Int) s.1 s.2) fuel (a, 0) = some r ∧ a ≤ r ∧ (r ≤ 20000 → ∀ c ∈ l.f_Cells, c.f_Href.length ≤ 200000) := by
  have hc : l.f_Cells.length * 32 ≤ reachBytes := ho.2.2.2.1.1
  rw [reach_eq] at hc
  refine iter_post (inv := fun s m => ∃ k : Nat, s.2 = (k : Int) ∧ k ≤ l.f_Cells.length ∧ m = l.f_Cells.length - k ∧ a ≤ s.1 ∧ s.1 ≤ 2000000000000000 ∧ ∀ u, u < k → ∀ c, l.f_Cells[u]? = some c → (c.f_Href.length : Int) / 8 ≤ s.1) ?_ fuel (a, 0) l.f_Cells.length ⟨0, rfl, by omega, by omega, Int.le_refl _, by omega, by intro u hu; omega⟩ (by unfold fuel; omega)
  rintro ⟨b, c⟩ m ⟨k, rfl, h1, rfl, h2, h3, h4⟩
  simp only at h2 h3 h4
  simp only [quillworkref07u_Long_l4, getI_nat' hl, Option.bind_some]
  by_cases hk : k < l.f_Cells.length
  · by_cases hb : b ≤ 20000
    · right
      rw [getI_nat' (List.getElem?_eq_getElem hk)]
      have hh : (l.f_Cells[k]).f_Href.length ≤ reachBytes := (ho.2.2.2.1.2 _ (List.getElem_mem hk)).2.2.1
      rw [reach_eq] at hh
      have hq : (((l.f_Cells[k]).f_Href.length : Int)).tdiv 8 = (((l.f_Cells[k]).f_Href.length : Int) / 8) := by
        rw [Int.tdiv_eq_ediv_of_nonneg (by omega)]
      have e1 : IntKind.wrap .i64 ((((l.f_Cells[k]).f_Href.length : Int) / 8)) = (((l.f_Cells[k]).f_Href.length : Int) / 8) := w_id (by omega) (by omega)
      have e2 : IntKind.wrap .i64 (b + (((l.f_Cells[k]).f_Href.length : Int) / 8)) = b + (((l.f_Cells[k]).f_Href.length : Int) / 8) := w_id (by omega) (by omega)
      have e3 : IntKind.wrap .i64 ((k : Int) + 1) = ((k + 1 : Nat) : Int) := by rw [w_id (by omega) (by omega)]; omega
      refine ⟨(b + (((l.f_Cells[k]).f_Href.length : Int) / 8), ((k + 1 : Nat) : Int)), l.f_Cells.length - (k + 1), ?_, ⟨k + 1, rfl, by omega, rfl, ?_, ?_, ?_⟩, by omega⟩
      · simp [hk, hb, quoO, hq, e1, e2, e3]
      · show a ≤ b + _; omega
      · show b + _ ≤ _; omega
      · intro u hu c hc'
        show (c.f_Href.length : Int) / 8 ≤ b + _
        rcases Nat.lt_or_ge u k with h | h
        · have := h4 u h c hc'; omega
        · have : u = k := by omega
          subst this
          rw [List.getElem?_eq_getElem hk] at hc'
          obtain rfl := Option.some.inj hc'
          omega
    · left
      exact ⟨b, by simp [hk, hb], h2, fun h => absurd h hb⟩
  · left
    refine ⟨b, by simp [hk], h2, fun hb c hc' => ?_⟩
    obtain ⟨u, hu, rfl⟩ := List.getElem_of_mem hc'
    have := h4 u (by omega) _ (List.getElem?_eq_getElem hu)
    omega
structure Shrt (p : List T_api_Line) : Prop where
  len : p.length ≤ 300
  tot : tot p ≤ 20000
  href : ∀ l ∈ p, ∀ c ∈ l.f_Cells, c.f_Href.length ≤ 200000
  good : good_Lapi_Line p
theorem Shrt.bd {p : List T_api_Line} (h : Shrt p) : Bd p := ⟨by have := h.len; omega, by have := szl_tot p; have := h.tot; omega⟩
theorem long_href {p : List T_api_Line} (hp : good_Lapi_Line p) (h : quillworklaw07u_long p = some false) : ∀ l ∈ p, ∀ c ∈ l.f_Cells, c.f_Href.length ≤ 200000 := by
  unfold quillworklaw07u_long quillworkref07u_Long at h
  by_cases h3 : (p.length : Int) > 300
  · simp [h3] at h
  · rw [if_neg (by simp; omega)] at h
    obtain ⟨r, hr, hQ⟩ := iter_post (step := fun s : Int × Int => quillworkref07u_Long_l3 p s.1 s.2) (inv := fun s m => ∃ k : Nat, s.2 = (k : Int) ∧ k ≤ p.length ∧ m = p.length - k ∧ 0 ≤ s.1 ∧ s.1 ≤ 20000 ∧ ∀ u, u < k → ∀ l, p[u]? = some l → ∀ c ∈ l.f_Cells, c.f_Href.length ≤ 200000) (Q := fun r => r = .inl () ∨ (r = .inr () ∧ ∀ l ∈ p, ∀ c ∈ l.f_Cells, c.f_Href.length ≤ 200000)) (by
      rintro ⟨a, b⟩ m ⟨k, rfl, h1, rfl, h2, h4, h7⟩
      simp only at h2 h4 h7
      simp only [quillworkref07u_Long_l3]
      by_cases hk : k < p.length
      · rw [if_pos (by simp; exact hk)]
        have hl := List.getElem?_eq_getElem hk
        have hg := hp.2 _ (List.getElem_mem hk)
        have hc : (p[k]).f_Cells.length * 32 ≤ reachBytes := hg.2.2.2.1.1
        have hs : (p[k]).f_Lists.length * 8 ≤ reachBytes := hg.2.1.1
        rw [reach_eq] at hc hs
        simp only [getI_nat' hl, Option.bind_some]
        have e1 : IntKind.wrap .i64 (((p[k]).f_Cells.length : Int) + ((p[k]).f_Lists.length : Int)) = (((p[k]).f_Cells.length + (p[k]).f_Lists.length : Nat) : Int) := by rw [w_id (by omega) (by omega)]; omega
        have e2 : IntKind.wrap .i64 (a + (((p[k]).f_Cells.length + (p[k]).f_Lists.length : Nat) : Int)) = a + (((p[k]).f_Cells.length + (p[k]).f_Lists.length : Nat) : Int) := w_id (by omega) (by omega)
        have e3 : IntKind.wrap .i64 ((k : Int) + 1) = ((k + 1 : Nat) : Int) := by rw [w_id (by omega) (by omega)]; omega
        rw [e1, e2]
        obtain ⟨r, hr, h5, h6⟩ := long_l4u_href hl hg (a := a + (((p[k]).f_Cells.length + (p[k]).f_Lists.length : Nat) : Int)) (by omega) (by omega)
        rw [hr]
        simp only [Option.bind_some]
        by_cases hr2 : r > 20000
        · left; exact ⟨_, by rw [if_pos (by simp; exact hr2)], .inl rfl⟩
        · right
          refine ⟨(r, ((k + 1 : Nat) : Int)), p.length - (k + 1), ?_, ⟨k + 1, rfl, by omega, rfl, ?_, ?_, ?_⟩, by omega⟩
          · rw [if_neg (by simp; omega), e3]
          · show 0 ≤ r; omega
          · show r ≤ 20000; omega
          · intro u hu l hl'
            rcases Nat.lt_or_ge u k with h | h
            · exact h7 u h l hl'
            · have : u = k := by omega
              subst this
              rw [hl] at hl'
              obtain rfl := Option.some.inj hl'
              exact h6 (by omega)
      · left
        refine ⟨_, by rw [if_neg (by simp; omega)], .inr ⟨rfl, ?_⟩⟩
        intro l hl c hc
        obtain ⟨u, hu, rfl⟩ := List.getElem_of_mem hl
        exact h7 u (by omega) _ (List.getElem?_eq_getElem hu) c hc) fuel (0, 0) p.length ⟨0, rfl, by omega, by omega, by simp, by omega, by intro u hu; omega⟩ (by have := hp.1; rw [reach_eq] at this; unfold fuel; omega)
    rw [hr] at h
    rcases hQ with rfl | ⟨rfl, h5⟩
    · simp at h
    · exact h5
theorem sh_cases {p : List T_api_Line} (hp : good_Lapi_Line p) : quillworklaw07u_long p = some true ∨ (quillworklaw07u_long p = some false ∧ Shrt p) := by
  rcases long_cases hp with h | ⟨h, h1, h2⟩
  · exact .inl h
  · exact .inr ⟨h, h1, h2, long_href hp h, hp⟩
end Go.PM

namespace Go.PM
set_option linter.unusedVariables false
set_option linter.unusedSimpArgs false
def T {α : Type} (o : Option α) : Prop := ∃ x, o = some x
theorem T.some {α : Type} (x : α) : T (Option.some x) := ⟨x, rfl⟩
theorem T.bind {α β : Type} {o : Option α} {f : α → Option β} (h : T o) (hf : ∀ x, T (f x)) : T (o.bind f) := by
  obtain ⟨x, rfl⟩ := h; exact hf x
theorem T.ite {α : Type} {c : Prop} [Decidable c] {a b : Option α} (ha : c → T a) (hb : ¬ c → T b) : T (if c then a else b) := by
  split
  · exact ha ‹_›
  · exact hb ‹_›
theorem T.foldS {α σ ρ : Type} {step : α → σ → Option (σ ⊕ ρ)} (h : ∀ x s, T (step x s)) : ∀ (l : List α) (s : σ), T (foldS step l s)
  | [], s => T.some _
  | x :: l, s => by
    unfold PM.foldS
    obtain ⟨y, hy⟩ := h x s
    rw [hy]
    cases y with
    | inl s' => exact T.foldS h l s'
    | inr r => exact T.some _
theorem fuel_big {n : Nat} (h : n ≤ 9223372036854775807) : n < fuel := by unfold fuel; omega
theorem iter_any {α ρ : Type} {step : Int → Option (Int ⊕ ρ)} {l : List α} {g : α → Bool} (hit : Nat → ρ) (no : ρ) (h1 : ∀ (i : Nat) x, l[i]? = some x → step (i : Int) = some (if g x then .inr (hit i) else .inl ((i + 1 : Nat) : Int))) (h2 : step (l.length : Int) = some (.inr no)) (hf : l.length ≤ 9223372036854775807) : (l.any g = true ∧ ∃ i, i < l.length ∧ iter step fuel 0 = some (hit i)) ∨ (l.any g = false ∧ iter step fuel 0 = some no) := by
  obtain ⟨r, hr, hq⟩ := iter_post (step := step) (inv := fun s m => ∃ k : Nat, s = (k : Int) ∧ k ≤ l.length ∧ m = l.length - k ∧ ∀ u, u < k → ∀ x, l[u]? = some x → g x = false) (Q := fun r => (l.any g = true ∧ ∃ i, i < l.length ∧ r = hit i) ∨ (l.any g = false ∧ r = no)) (by
    rintro s m ⟨k, rfl, h3, rfl, h4⟩
    by_cases hk : k < l.length
    · have hg := List.getElem?_eq_getElem hk
      cases e : g (l[k]) with
      | true =>
        left
        exact ⟨hit k, by rw [h1 k _ hg, if_pos e], .inl ⟨List.any_eq_true.2 ⟨_, List.getElem_mem hk, e⟩, k, hk, rfl⟩⟩
      | false =>
        right
        refine ⟨((k + 1 : Nat) : Int), l.length - (k + 1), by rw [h1 k _ hg, if_neg (by simp [e])], ⟨k + 1, rfl, by omega, rfl, ?_⟩, by omega⟩
        intro u hu x hx
        rcases Nat.lt_or_ge u k with h | h
        · exact h4 u h x hx
        · have : u = k := by omega
          subst this
          rw [hg] at hx; obtain rfl := Option.some.inj hx; exact e
    · have : k = l.length := by omega
      subst this
      left
      refine ⟨no, h2, .inr ⟨?_, rfl⟩⟩
      rw [List.any_eq_false]
      intro x hx
      obtain ⟨u, hu, rfl⟩ := List.getElem_of_mem hx
      simp [h4 u hu _ (List.getElem?_eq_getElem hu)]) fuel (0 : Int) l.length ⟨0, rfl, by omega, by omega, by intro u hu; omega⟩ (fuel_big hf)
  rcases hq with ⟨h3, i, hi, rfl⟩ | ⟨h3, rfl⟩
  · exact .inl ⟨h3, i, hi, hr⟩
  · exact .inr ⟨h3, hr⟩
theorem contains_int {l : List Int} {f : Int → Option Bool} {g : Int → Bool} (h : ∀ x ∈ l, f x = some (g x)) (hf : l.length ≤ 9223372036854775806) : slices_ContainsFunc_int l f = some (l.any g) := by
  unfold slices_ContainsFunc_int slices_IndexFunc_int
  rcases iter_any (step := fun s => slices_IndexFunc_int_l1 l f s) (l := l) (g := g) (fun i => (.inl (i : Int) : Int ⊕ Unit)) (.inr ()) (by
    intro i x hx
    have hi := lt_of_get hx
    simp only [slices_IndexFunc_int_l1, getI_nat' hx, Option.bind_some, h x (List.mem_of_getElem? hx), wsucc (n := i) (by omega)]
    rw [if_pos (by simpa using hi)]
    cases g x <;> simp) (by simp [slices_IndexFunc_int_l1]) (by omega) with ⟨h1, i, hi, h2⟩ | ⟨h1, h2⟩
  · rw [h2, h1]; simp
  · rw [h2, h1]; simp
theorem contains_cell {l : List T_api_Cell} {f : T_api_Cell → Option Bool} {g : T_api_Cell → Bool} (h : ∀ x ∈ l, f x = some (g x)) (hf : l.length ≤ 9223372036854775806) : slices_ContainsFunc_apiCell l f = some (l.any g) := by
  unfold slices_ContainsFunc_apiCell slices_IndexFunc_apiCell
  rcases iter_any (step := fun s => slices_IndexFunc_apiCell_l1 l f s) (l := l) (g := g) (fun i => (.inl (i : Int) : Int ⊕ Unit)) (.inr ()) (by
    intro i x hx
    have hi := lt_of_get hx
    simp only [slices_IndexFunc_apiCell_l1, getI_nat' hx, Option.bind_some, h x (List.mem_of_getElem? hx), wsucc (n := i) (by omega)]
    rw [if_pos (by simpa using hi)]
    cases g x <;> simp) (by simp [slices_IndexFunc_apiCell_l1]) (by omega) with ⟨h1, i, hi, h2⟩ | ⟨h1, h2⟩
  · rw [h2, h1]; simp
  · rw [h2, h1]; simp
theorem contains_line {l : List T_api_Line} {f : T_api_Line → Option Bool} {g : T_api_Line → Bool} (h : ∀ x ∈ l, f x = some (g x)) (hf : l.length ≤ 9223372036854775806) : slices_ContainsFunc_apiLine l f = some (l.any g) := by
  unfold slices_ContainsFunc_apiLine slices_IndexFunc_apiLine
  rcases iter_any (step := fun s => slices_IndexFunc_apiLine_l1 l f s) (l := l) (g := g) (fun i => (.inl (i : Int) : Int ⊕ Unit)) (.inr ()) (by
    intro i x hx
    have hi := lt_of_get hx
    simp only [slices_IndexFunc_apiLine_l1, getI_nat' hx, Option.bind_some, h x (List.mem_of_getElem? hx), wsucc (n := i) (by omega)]
    rw [if_pos (by simpa using hi)]
    cases g x <;> simp) (by simp [slices_IndexFunc_apiLine_l1]) (by omega) with ⟨h1, i, hi, h2⟩ | ⟨h1, h2⟩
  · rw [h2, h1]; simp
  · rw [h2, h1]; simp
theorem ValidRune_T (c : Int) : T (utf8u_ValidRune c) := by unfold utf8u_ValidRune; repeat (first | exact T.some _ | refine T.ite (fun _ => ?_) (fun _ => ?_) | refine T.bind ?_ (fun _ => ?_))
theorem chars_Class_T (c : Int) : T (chars_Class c) := by
  unfold chars_Class
  refine T.bind (ValidRune_T c) fun _ => ?_
  repeat (first | exact T.some _ | refine T.ite (fun _ => ?_) (fun _ => ?_) | refine T.bind ?_ (fun _ => ?_))
theorem chars_May_T (c : Int) : T (chars_May c) := by
  unfold chars_May
  exact T.bind (chars_Class_T c) fun _ => T.some _
theorem ref01u_Class_T (c : Int) : T (quillworkref01u_Class c) := by unfold quillworkref01u_Class; repeat (first | exact T.some _ | refine T.ite (fun _ => ?_) (fun _ => ?_) | refine T.bind ?_ (fun _ => ?_))
theorem ref01u_May_T (c : Int) : T (quillworkref01u_May c) := by
  unfold quillworkref01u_May
  exact T.bind (ref01u_Class_T c) fun _ => T.some _
theorem cut_len (s sep : List UInt8) : (Lib.cut s sep).1.length ≤ s.length := by
  unfold Lib.cut; split
  · simp; omega
  · exact Nat.le_refl _
theorem attrs_Value_T {h : List UInt8} (hh : h.length ≤ 200000) : T (attrs_Value h) := by
  unfold attrs_Value
  refine T.bind (T.foldS (fun x s => ?_) _ _) fun o => ?_
  · unfold attrs_Value_s1
    refine T.bind (chars_May_T _) fun _ => ?_
    repeat (first | exact T.some _ | refine T.ite (fun _ => ?_) (fun _ => ?_) | refine T.bind ?_ (fun _ => ?_))
  · cases o with
    | inl _ =>
      show T (Option.bind _ _)
      refine T.bind (T.ite (fun _ => T.bind ?_ fun _ => T.some _) fun _ => T.some _) fun _ => T.some _
      unfold utf8u_ValidString
      rw [if_pos (by omega)]; exact T.some _
    | inr _ => exact T.some _
theorem getI_T {α : Type} {l : List α} {i : Int} (h0 : 0 ≤ i) (h : i < l.length) : T (getI l i) := by
  unfold getI; rw [if_pos h0, List.getElem?_eq_getElem (by omega)]; exact T.some _
theorem last_idx {α : Type} {l : List α} (h : l ≠ []) (hl : l.length ≤ 1000000000) : 0 ≤ IntKind.wrap .i64 ((l.length : Int) - 1) ∧ IntKind.wrap .i64 ((l.length : Int) - 1) < l.length := by
  have := List.length_pos_iff.2 h
  rw [w_id (by omega) (by omega)]; omega
theorem attrs_Target_T {h : List UInt8} (hh : h.length ≤ 200000) : T (attrs_Target h) := by
  unfold attrs_Target strings_Cut strings_Map
  have hc := cut_len h [58]
  rw [if_pos (by omega), Option.bind_some, if_pos (by omega), Option.bind_some]
  refine T.bind (T.bind (attrs_Value_T hh) fun v => T.ite (fun _ => T.ite (fun hn => ?_) fun _ => T.some _) fun _ => T.some _) fun _ => T.some _
  have hne : h ≠ [] := by simpa using hn
  have hp := List.length_pos_iff.2 hne
  obtain ⟨hl1, hl2⟩ := last_idx hne (by omega)
  refine T.bind (getI_T (by omega) (by omega)) fun _ => T.ite (fun _ => T.bind (getI_T hl1 hl2) fun _ => ?_) fun _ => T.some _
  repeat (first | exact T.some _ | refine T.ite (fun _ => ?_) (fun _ => ?_) | refine T.bind ?_ (fun _ => ?_))
theorem ref03u_Value_T {h : List UInt8} (hh : h.length ≤ 200000) : T (quillworkref03u_Value h) := by
  unfold quillworkref03u_Value quillworkref01u_Runes runesO
  rw [if_pos (by omega)]
  simp only [Option.bind_some]
  have hn : (runesB (bs h)).length ≤ 200000 := Nat.le_trans (runesB_len _) hh
  generalize runesB (bs h) = v at hn
  refine T.bind (T.ite (fun _ => T.some _) fun _ => T.some _) fun q => T.ite (fun _ => T.some _) fun _ => ?_
  obtain ⟨r, hr, _⟩ := iter_post (step := fun s => quillworkref03u_Value_l1 v s) (inv := fun s m => ∃ k : Nat, s = (k : Int) ∧ k ≤ v.length ∧ m = v.length - k) (Q := fun _ => True) (by
    rintro s m ⟨k, rfl, h3, rfl⟩
    simp only [quillworkref03u_Value_l1]
    by_cases hk : k < v.length
    · rw [if_pos (by simpa using hk), getI_nat' (List.getElem?_eq_getElem hk)]
      simp only [Option.bind_some]
      obtain ⟨b, hb⟩ := ref01u_May_T (v[k])
      rw [hb]
      simp only [Option.bind_some, wsucc (n := k) (by omega)]
      cases b
      · left; exact ⟨_, rfl, trivial⟩
      · right; exact ⟨_, v.length - (k + 1), rfl, ⟨k + 1, rfl, by omega, rfl⟩, by omega⟩
    · left
      exact ⟨_, by rw [if_neg (by simpa using hk)], trivial⟩) fuel (0 : Int) v.length ⟨0, rfl, by omega, by omega⟩ (fuel_big (by omega))
  rw [hr]
  cases r <;> exact T.some _
theorem ref03u_Target_T {h : List UInt8} (hh : h.length ≤ 200000) : T (quillworkref03u_Target h) := by
  unfold quillworkref03u_Target
  have hq : T ((quillworkref03u_Value h).bind fun v2 => if v2 then (if h == [] then (some true) else ((getI h 0).bind fun v3 => if ((v3.toNat : Int) : Int) == 32 then (some true) else ((getI h (IntKind.wrap .i64 ((h.length : Int) - 1))).bind fun v4 => some (((v4.toNat : Int) : Int) == 32)))) else (some true) : Option (Bool)) := by
    refine T.bind (ref03u_Value_T hh) fun v => T.ite (fun _ => T.ite (fun _ => T.some _) fun hn => ?_) fun _ => T.some _
    have hne : h ≠ [] := by simpa using hn
    have hp := List.length_pos_iff.2 hne
    obtain ⟨hl1, hl2⟩ := last_idx hne (by omega)
    refine T.bind (getI_T (by omega) (by omega)) fun _ => T.ite (fun _ => T.some _) fun _ => T.bind (getI_T hl1 hl2) fun _ => T.some _
  refine T.bind hq fun q => T.ite (fun _ => T.some _) fun _ => ?_
  obtain ⟨r, hr, k0, rfl, hk0⟩ := iter_post (step := fun s => quillworkref03u_Target_l1 h s) (inv := fun s m => ∃ k : Nat, s = (k : Int) ∧ k ≤ h.length ∧ m = h.length - k) (Q := fun r => ∃ k : Nat, r = (k : Int) ∧ k ≤ h.length) (by
    rintro s m ⟨k, rfl, h3, rfl⟩
    simp only [quillworkref03u_Target_l1]
    by_cases hk : k < h.length
    · rw [if_pos (by simpa using hk), getI_nat' (List.getElem?_eq_getElem hk)]
      simp only [Option.bind_some, wsucc (n := k) (by omega)]
      split
      · right; exact ⟨_, h.length - (k + 1), rfl, ⟨k + 1, rfl, by omega, rfl⟩, by omega⟩
      · left; exact ⟨_, rfl, k, rfl, h3⟩
    · left
      exact ⟨_, by rw [if_neg (by simpa using hk)]; rfl, k, rfl, h3⟩) fuel (0 : Int) h.length ⟨0, rfl, by omega, by omega⟩ (fuel_big (by omega))
  rw [hr, Option.bind_some]
  refine T.ite (fun _ => T.some _) fun hne => ?_
  have hk : k0 = 10 := by simp at hne; omega
  subst hk
  obtain ⟨r, hr, _⟩ := iter_post (step := fun s => quillworkref03u_Target_l2 h ((10 : Nat) : Int) s) (inv := fun s m => ∃ k : Nat, s = (k : Int) ∧ k ≤ 10 ∧ m = 10 - k) (Q := fun _ => True) (by
    rintro s m ⟨k, rfl, h3, rfl⟩
    simp only [quillworkref03u_Target_l2]
    by_cases hk : k < 10
    · rw [if_pos (by simp; omega), getI_nat' (List.getElem?_eq_getElem (show k < h.length by omega))]
      simp only [Option.bind_some, wsucc (n := k) (by omega)]
      rw [getI_nat' (List.getElem?_eq_getElem (show k < ([106, 97, 118, 97, 115, 99, 114, 105, 112, 116] : List UInt8).length from hk))]
      simp only [Option.bind_some]
      generalize ([106, 97, 118, 97, 115, 99, 114, 105, 112, 116] : List UInt8)[k] = y
      generalize h[k] = x
      obtain ⟨q, hq⟩ : T (if decide ((x.toNat : Int) ≥ 65) = true then some (decide ((x.toNat : Int) ≤ 90)) else some false) := T.ite (fun _ => T.some _) fun _ => T.some _
      rw [hq, Option.bind_some]
      obtain ⟨z, hz⟩ : T (if q = true then some (IntKind.u8.wrap ((x.toNat : Int) + 32)) else some (x.toNat : Int)) := T.ite (fun _ => T.some _) fun _ => T.some _
      rw [hz, Option.bind_some]
      split
      · left; exact ⟨_, rfl, trivial⟩
      · right; exact ⟨_, 10 - (k + 1), rfl, ⟨k + 1, rfl, by omega, rfl⟩, by omega⟩
    · left
      exact ⟨_, by rw [if_neg (by simp; omega)], trivial⟩) fuel (0 : Int) 10 ⟨0, rfl, by omega, by omega⟩ (fuel_big (by omega))
  rw [hr, Option.bind_some]
  cases r <;> exact T.some _
end Go.PM

namespace Go.PM
set_option linter.unusedVariables false
set_option linter.unusedSimpArgs false
def hsh (c : T_api_Cell) : Prop := c.f_Href.length ≤ 200000
def cellOk (c : T_api_Cell) : Bool := cells_May_1 c == some false
theorem cells_link_T {h : List UInt8} (hh : h.length ≤ 200000) : T (cells_link h) := by
  unfold cells_link
  exact T.bind (T.ite (fun _ => T.some _) fun _ => T.bind (attrs_Target_T hh) fun _ => T.some _) fun _ => T.some _
theorem cells_May_1u_T {c : T_api_Cell} (hh : hsh c) : T (cells_May_1 c) := by
  have hl := cells_link_T hh
  unfold cells_May_1
  refine T.bind (T.bind (chars_May_T _) fun _ => ?_) fun _ => T.some _
  repeat' (first | exact T.some _ | assumption | refine T.ite (fun _ => ?_) (fun _ => ?_) | refine T.bind ?_ (fun _ => ?_))
theorem cells_May_1u_eq {c : T_api_Cell} (hh : hsh c) : cells_May_1 c = some (!cellOk c) := by
  obtain ⟨b, hb⟩ := cells_May_1u_T hh
  unfold cellOk; rw [hb]; cases b <;> rfl
theorem any_not {α : Type} (g : α → Bool) (l : List α) : (!(l.any fun x => !g x)) = l.all g := by
  induction l with
  | nil => rfl
  | cons x l ih => simp only [List.any_cons, List.all_cons, Bool.not_or, Bool.not_not, ih]
theorem cells_May_eq {l : List T_api_Cell} (h : ∀ c ∈ l, hsh c) (hl : l.length ≤ 9223372036854775806) : cells_May l = some (l.all cellOk) := by
  unfold cells_May
  rw [contains_cell (g := fun c => !cellOk c) (fun c hc => cells_May_1u_eq (h c hc)) hl, Option.bind_some, any_not]
def frameOk (l : T_api_Line) : Bool := lines_May ⟨l.f_Quote, l.f_Lists, l.f_Kind, []⟩ == some true
def lineOk (l : T_api_Line) : Bool := frameOk l && l.f_Cells.all cellOk
theorem lists_T (l : List Int) (hl : l.length ≤ 9223372036854775806) : T (slices_ContainsFunc_int l (fun x0 => lines_May_1 x0)) := by
  have h : ∀ x, ∃ b, lines_May_1 x = some b := by
    intro x; show T _
    unfold lines_May_1; repeat (first | exact T.some _ | refine T.ite (fun _ => ?_) (fun _ => ?_) | refine T.bind ?_ (fun _ => ?_))
  exact ⟨_, contains_int (g := fun x => (h x).choose) (fun x _ => (h x).choose_spec) hl⟩
theorem lines_May_eq {l : T_api_Line} (h : ∀ c ∈ l.f_Cells, hsh c) (hl : l.f_Cells.length ≤ 9223372036854775806) (hi : l.f_Lists.length ≤ 9223372036854775806) : lines_May l = some (lineOk l) := by
  have h0 : cells_May [] = some true := cells_May_eq (l := []) (by simp) (by simp)
  obtain ⟨q, ls, k, cs⟩ := l
  simp only at h hl hi
  unfold lineOk frameOk lines_May
  simp only [h0, cells_May_eq h hl]
  obtain ⟨b, hb⟩ := lists_T ls hi
  simp only [hb, Option.bind_some]
  obtain ⟨x, hx⟩ : T (if decide (q < 0) = true then some true else if decide (q > 6) = true then some true else if decide ((ls.length : Int) > 6) = true then some true else if decide (k < 0) = true then some true else some (decide (k > 3))) := by repeat (first | exact T.some _ | refine T.ite (fun _ => ?_) (fun _ => ?_) | refine T.bind ?_ (fun _ => ?_))
  obtain ⟨y, hy⟩ : T (if decide ((ls.length : Int) > 0) = true then some (k != 0) else some false) := by repeat (first | exact T.some _ | refine T.ite (fun _ => ?_) (fun _ => ?_) | refine T.bind ?_ (fun _ => ?_))
  simp only [hx, hy, Option.bind_some]
  cases x
  · cases y
    · cases b
      · simp
      · rfl
    · rfl
  · rfl
structure Fit (p : List T_api_Line) : Prop where
  len : p.length ≤ 100000
  siz : szl p ≤ 100000
  lis : ∀ l ∈ p, l.f_Lists.length ≤ 100000
  href : ∀ l ∈ p, ∀ c ∈ l.f_Cells, hsh c
theorem sum_mem_le {α : Type} {p : List α} {f : α → Nat} {x : α} (h : x ∈ p) : f x ≤ (p.map f).sum := by
  induction p with
  | nil => cases h
  | cons y p ih =>
    simp only [List.map_cons, List.sum_cons]
    rcases List.mem_cons.1 h with rfl | h
    · omega
    · have := ih h; omega
theorem Shrt.fit {p : List T_api_Line} (h : Shrt p) : Fit p := ⟨by have := h.len; omega, by have := szl_tot p; have := h.tot; omega, fun l hl => by
  have h1 := sum_mem_le (f := fun l : T_api_Line => l.f_Cells.length + l.f_Lists.length) hl
  have h2 : ((p.map fun l => l.f_Cells.length + l.f_Lists.length).sum) ≤ 20000 := h.tot
  omega, h.href⟩
theorem Fit.bd {p : List T_api_Line} (h : Fit p) : Bd p := ⟨by have := h.len; omega, by have := h.siz; omega⟩
theorem Fit.cells {p : List T_api_Line} (h : Fit p) {l : T_api_Line} (hl : l ∈ p) : l.f_Cells.length ≤ 100000 := by
  have h1 := sum_mem_le (f := fun l : T_api_Line => l.f_Cells.length) hl
  have := h.siz; unfold szl at this; omega
theorem Fit.may {p : List T_api_Line} (h : Fit p) {l : T_api_Line} (hl : l ∈ p) : lines_May l = some (lineOk l) :=
  lines_May_eq (h.href l hl) (by have := h.cells hl; omega) (by have := h.lis l hl; omega)
def docOk (p : List T_api_Line) : Bool := decide (1 ≤ p.length) && (decide (p.length ≤ 200) && (decide (szl p ≤ 4000) && p.all lineOk))
theorem doc_May_eq {p : List T_api_Line} (h : Fit p) : doc_May p = some (docOk p) := by
  unfold doc_May docOk
  rw [doc_Size_eq h.bd]
  simp only [Option.bind_some]
  rw [contains_line (g := fun l => !lineOk l) (fun l hl => by unfold doc_May_1; rw [h.may hl]; rfl) (by have := h.len; omega)]
  simp only [Option.bind_some, any_not]
  have e1 : decide ((p.length : Int) ≥ 1) = decide (1 ≤ p.length) := by rw [decide_eq_decide]; omega
  have e2 : decide ((p.length : Int) ≤ 200) = decide (p.length ≤ 200) := by rw [decide_eq_decide]; omega
  have e3 : decide ((szl p : Int) ≤ 4000) = decide (szl p ≤ 4000) := by rw [decide_eq_decide]; omega
  rw [e1, e2, e3]
  cases decide (1 ≤ p.length) <;> cases decide (p.length ≤ 200) <;> cases decide (szl p ≤ 4000) <;> rfl
theorem doc_Is_cases (p : List T_api_Line) (a : T_api_Pos) : doc_Is p a = some false ∨ (doc_Is p a = some true ∧ ∃ i k, a = ps i k ∧ At p i k) := by
  obtain ⟨x, y⟩ := a
  by_cases h1 : x ≥ 0
  · by_cases h2 : x < p.length
    · by_cases h3 : y ≥ 0
      · obtain ⟨i, rfl⟩ : ∃ i : Nat, x = i := ⟨x.toNat, by omega⟩
        obtain ⟨k, rfl⟩ : ∃ k : Nat, y = k := ⟨y.toNat, by omega⟩
        have hg := List.getElem?_eq_getElem (show i < p.length by omega)
        by_cases h4 : (k : Int) ≤ (p[i]).f_Cells.length
        · right
          have ha : At p i k := ⟨_, hg, by omega⟩
          exact ⟨doc_Is_eq ha, i, k, rfl, ha⟩
        · left
          unfold doc_Is
          simp only [getI_nat' hg, Option.bind_some]
          rw [if_pos (by simp), if_pos (by simpa using h2), if_pos (by simp)]
          simp; omega
      · left; unfold doc_Is; simp [h1, h2, h3]
    · left; unfold doc_Is; simp [h1, h2]
  · left; unfold doc_Is; simp [h1]
def Ord (i k j m : Nat) : Prop := i < j ∨ (i = j ∧ k ≤ m)
theorem cmp_ord (i k j m : Nat) : ∃ c, doc_Cmp (ps i k) (ps j m) = some c ∧ (c ≤ 0 ↔ Ord i k j m) := by
  refine ⟨_, doc_Cmp_eq _ _, ?_⟩
  unfold ps Ord
  simp only
  repeat' split
  all_goals omega
theorem doc_span_true {p : List T_api_Line} (h : Fit p) (ho : docOk p = true) {i k j m : Nat} (ha : At p i k) (hb : At p j m) (hc : Ord i k j m) : doc_span p (ps i k) (ps j m) = some true := by
  obtain ⟨c, h1, h2⟩ := cmp_ord i k j m
  unfold doc_span
  simp only [doc_May_eq h, ho, Option.bind_some, if_true, doc_Is_eq ha, doc_Is_eq hb, h1]
  simp [h2.2 hc]
theorem doc_span_cases {p : List T_api_Line} (h : Fit p) (a b : T_api_Pos) : doc_span p a b = some false ∨ (doc_span p a b = some true ∧ docOk p = true ∧ ∃ i k j m, a = ps i k ∧ b = ps j m ∧ At p i k ∧ At p j m ∧ Ord i k j m) := by
  unfold doc_span
  rw [doc_May_eq h]
  cases ho : docOk p with
  | false => left; rfl
  | true =>
    simp only [Option.bind_some, if_true]
    rcases doc_Is_cases p a with h1 | ⟨h1, i, k, rfl, h2⟩
    · left; rw [h1]; rfl
    · rw [h1]; simp only [Option.bind_some, if_true]
      rcases doc_Is_cases p b with h3 | ⟨h3, j, m, rfl, h4⟩
      · left; rw [h3]; rfl
      · rw [h3]; simp only [Option.bind_some, if_true]
        obtain ⟨c, h5, h6⟩ := cmp_ord i k j m
        rw [h5]; simp only [Option.bind_some]
        by_cases hc : c ≤ 0
        · right; exact ⟨by simp [hc], trivial, i, k, j, m, rfl, rfl, h2, h4, h6.1 hc⟩
        · left; simp [hc]
end Go.PM

namespace Go.PM
set_option linter.unusedVariables false
set_option linter.unusedSimpArgs false
def cellsAt (p : List T_api_Line) (t : Nat) : List T_api_Cell := match p[t]? with | some l => l.f_Cells | none => []
def fr (i k t : Nat) : Nat := if t = i then k else 0
def tt (p : List T_api_Line) (j m t : Nat) : Nat := if t = j then m else (cellsAt p t).length
def sub (p : List T_api_Line) (i k j m t : Nat) : List T_api_Cell := ((cellsAt p t).take (tt p j m t)).drop (fr i k t)
def seg (p : List T_api_Line) (i k j m t : Nat) : Int × (Int × Int) := ((t : Int), ((fr i k t : Int), (tt p j m t : Int)))
def pre (p : List T_api_Line) (i k j m n : Nat) : List T_api_Cell := (List.range' i n).flatMap (sub p i k j m)
def btw (p : List T_api_Line) (i k j m : Nat) : List T_api_Cell := pre p i k j m (j + 1 - i)
theorem cellsAt_some {p : List T_api_Line} {t : Nat} {l : T_api_Line} (h : p[t]? = some l) : cellsAt p t = l.f_Cells := by
  unfold cellsAt; rw [h]
theorem pre_succ (p : List T_api_Line) (i k j m n : Nat) : pre p i k j m (n + 1) = pre p i k j m n ++ sub p i k j m (i + n) := by
  unfold pre; rw [List.range'_1_concat, List.flatMap_append]; simp
theorem szl_step (p : List T_api_Line) (t : Nat) : szl (p.take (t + 1)) = szl (p.take t) + (cellsAt p t).length := by
  cases h : p[t]? with
  | some l => rw [szl_succ h, cellsAt_some h]
  | none =>
    have h1 : p.length ≤ t := List.getElem?_eq_none_iff.1 h
    rw [List.take_of_length_le (by omega), List.take_of_length_le h1]
    unfold cellsAt; rw [h]; rfl
theorem sub_len (p : List T_api_Line) (i k j m t : Nat) : (sub p i k j m t).length ≤ (cellsAt p t).length := by
  unfold sub; rw [List.length_drop, List.length_take]; omega
theorem pre_len (p : List T_api_Line) (i k j m : Nat) : ∀ n, (pre p i k j m n).length ≤ szl (p.take (i + n))
  | 0 => by simp [pre]
  | n + 1 => by
    have h1 := pre_len p i k j m n
    have h2 := sub_len p i k j m (i + n)
    have h3 := szl_step p (i + n)
    rw [pre_succ, List.length_append, show i + (n + 1) = i + n + 1 by omega]; omega
theorem seg_ok {p : List T_api_Line} {i k j m t : Nat} (ha : At p i k) (hb : At p j m) (ho : Ord i k j m) (h1 : i ≤ t) (h2 : t ≤ j) : ∃ l, p[t]? = some l ∧ cellsAt p t = l.f_Cells ∧ fr i k t ≤ tt p j m t ∧ tt p j m t ≤ l.f_Cells.length := by
  obtain ⟨la, ha1, ha2⟩ := ha
  obtain ⟨lb, hb1, hb2⟩ := hb
  have hlt := lt_of_get hb1
  have hg := List.getElem?_eq_getElem (show t < p.length by omega)
  refine ⟨_, hg, cellsAt_some hg, ?_, ?_⟩
  · unfold fr tt
    rw [cellsAt_some hg]
    by_cases e1 : t = i
    · subst e1
      rw [hg] at ha1
      rw [if_pos rfl, Option.some.inj ha1]
      split
      · unfold Ord at ho; omega
      · exact ha2
    · rw [if_neg e1]; omega
  · unfold tt
    rw [cellsAt_some hg]
    split
    · rename_i e; subst e
      rw [hg] at hb1
      rw [Option.some.inj hb1]; exact hb2
    · exact Nat.le_refl _
theorem Ord.le {i k j m : Nat} (h : Ord i k j m) : i ≤ j := by unfold Ord at h; omega
theorem iterY_range {Y : Type} {step : Int → Option (Option (Y × Int))} (f : Nat → Y) {hi : Nat} (h2 : step (hi : Int) = some none) : ∀ (n lo : Nat), (∀ t, lo ≤ t → t < hi → step (t : Int) = some (some (f t, ((t + 1 : Nat) : Int)))) → lo ≤ hi → hi - lo < n → iterY step n (lo : Int) = some ((List.range' lo (hi - lo)).map f)
  | 0, lo, _, _, hn => by omega
  | n + 1, lo, h, hl, hn => by
    unfold iterY
    by_cases e : lo = hi
    · subst e; rw [h2]; simp
    · rw [h lo (Nat.le_refl _) (by omega)]
      have := iterY_range f h2 n (lo + 1) (fun t a b => h t (by omega) b) (by omega) (by omega)
      simp only [this]
      rw [show hi - lo = (hi - (lo + 1)) + 1 by omega, List.range'_succ]
      rfl
theorem foldO_range {α σ : Type} {step : α → σ → Option σ} (f : Nat → α) (S : Nat → σ) : ∀ (n lo : Nat), (∀ t, lo ≤ t → t < lo + n → step (f t) (S t) = some (S (t + 1))) → foldO step ((List.range' lo n).map f) (S lo) = some (S (lo + n))
  | 0, lo, _ => rfl
  | n + 1, lo, h => by
    rw [List.range'_succ, List.map_cons]
    unfold foldO
    rw [h lo (Nat.le_refl _) (by omega), Option.bind_some, foldO_range f S n (lo + 1) (fun t a b => h t (by omega) (by omega)), show lo + 1 + n = lo + (n + 1) by omega]
theorem beqI (a b : Nat) : ((a : Int) == (b : Int)) = decide (a = b) := by
  rw [Bool.eq_iff_iff, beq_iff_eq, decide_eq_true_eq]; omega
theorem between_eq {p : List T_api_Line} {i k j m : Nat} (hf : Fit p) (ha : At p i k) (hb : At p j m) (ho : Ord i k j m) : doc_between_1 (ps i k) (ps j m) p = some ((List.range' i (j + 1 - i)).map (seg p i k j m)) := by
  have hle := ho.le
  have hlen := hf.len
  have hj : j < p.length := by obtain ⟨l, h, _⟩ := hb; exact lt_of_get h
  unfold doc_between_1 ps
  refine iterY_range (seg p i k j m) (hi := j + 1) ?_ fuel i ?_ (by omega) (fuel_big (by omega))
  · simp only [doc_between_1u_l1]
    have hd : decide (((j + 1 : Nat) : Int) ≤ (j : Int)) = false := by simp; omega
    rw [hd]; rfl
  · intro t h1 h2
    obtain ⟨l, hl, hc, _, _⟩ := seg_ok ha hb ho h1 (by omega)
    simp only [doc_between_1u_l1]
    have hd : decide ((t : Int) ≤ (j : Int)) = true := by simp; omega
    rw [hd, getI_nat' hl]
    simp only [Option.bind_some, wsucc (n := t) (by omega), if_true]
    unfold seg fr tt
    rw [hc]
    simp only [beqI]
    by_cases e1 : t = i
    · subst e1
      by_cases e2 : t = j
      · subst e2; simp
      · simp [e2]
    · by_cases e2 : t = j
      · subst e2; simp [e1]
      · simp [e1, e2]
theorem cutI_eq {α : Type} {l : List α} {a b : Nat} (h1 : a ≤ b) (h2 : b ≤ l.length) : cutI l (a : Int) (b : Int) = some ((l.take b).drop a) := by
  unfold cutI
  rw [if_pos ⟨by omega, by omega, by omega⟩]; simp
theorem countP_take_succ {α : Type} {v : List α} {g : α → Bool} {i : Nat} {x : α} (h : v[i]? = some x) : (v.take (i + 1)).countP g = (v.take i).countP g + (if g x then 1 else 0) := by
  rw [List.take_add_one, h, Option.toList_some, List.countP_append]
  congr 1
  cases e : g x <;> simp [List.countP_cons, e]
theorem tells_l3u_eq {so : T_api_Cell → Option Bool} {g : T_api_Cell → Bool} {v : List T_api_Cell} (h : ∀ c ∈ v, so c = some (g c)) (hv : v.length ≤ 1000000) {n c : Nat} (hn : n ≤ 1000000) (hc : c ≤ 1000000) : iter (fun s => doc_tells_l3 so v s.1 s.2.1 s.2.2) fuel ((n : Int), (c : Int), 0) = some (((n + v.length : Nat) : Int), ((c + v.countP g : Nat) : Int)) := by
  have := iter_to (step := fun s : Int × Int × Int => doc_tells_l3 so v s.1 s.2.1 s.2.2) (fun u => (((n + u : Nat) : Int), ((c + (v.take u).countP g : Nat) : Int), (u : Int))) (k := v.length) (r := (((n + v.length : Nat) : Int), ((c + v.countP g : Nat) : Int))) (fun u hu => by
    have hg := List.getElem?_eq_getElem hu
    have hcp : (v.take u).countP g ≤ u := Nat.le_trans List.countP_le_length (by simp; omega)
    simp only [doc_tells_l3, getI_nat' hg, Option.bind_some, h _ (List.getElem_mem hu)]
    rw [if_pos (by simpa using hu), wsucc (n := n + u) (by omega), wsucc (n := u) (by omega), wsucc (n := c + (v.take u).countP g) (by omega), countP_take_succ hg]
    cases g v[u]
    · simp; omega
    · simp; omega) (by
    simp only [doc_tells_l3]
    rw [if_neg (by simp), List.take_length]) fuel 0 (by omega) (fuel_big (by omega))
  simpa using this
theorem tells_eq {p : List T_api_Line} {i k j m : Nat} (hf : Fit p) (hs : doc_span p (ps i k) (ps j m) = some true) (ha : At p i k) (hb : At p j m) (ho : Ord i k j m) {so : T_api_Cell → Option Bool} {g : T_api_Cell → Bool} (h : ∀ c ∈ btw p i k j m, so c = some (g c)) : doc_tells p (ps i k) (ps j m) so = some (((btw p i k j m).length : Int), ((btw p i k j m).countP g : Int)) := by
  have hsz := hf.siz
  have hle := ho.le
  unfold doc_tells doc_between
  rw [hs]
  simp only [Option.bind_some, between_eq hf ha hb ho]
  have := foldO_range (step := fun x (s : Int × Int) => doc_tells_r4 p so x s.1 s.2) (seg p i k j m) (fun t => (((pre p i k j m (t - i)).length : Int), ((pre p i k j m (t - i)).countP g : Int))) (j + 1 - i) i (fun t h1 h2 => by
    obtain ⟨l, hl, hc, h3, h4⟩ := seg_ok ha hb ho h1 (by omega)
    have hlen := pre_len p i k j m (t - i)
    have h5 := szl_take p (i + (t - i))
    have h6 : (pre p i k j m (t - i)).countP g ≤ (pre p i k j m (t - i)).length := List.countP_le_length
    have h7 := hf.cells (List.mem_of_getElem? hl)
    have e : pre p i k j m (t + 1 - i) = pre p i k j m (t - i) ++ sub p i k j m t := by
      rw [show t + 1 - i = (t - i) + 1 by omega, pre_succ, show i + (t - i) = t by omega]
    simp only [doc_tells_r4, seg, getI_nat' hl, Option.bind_some, cutI_eq h3 h4]
    have hsub : (l.f_Cells.take (tt p j m t)).drop (fr i k t) = sub p i k j m t := by unfold sub; rw [hc]
    rw [hsub, tells_l3u_eq (g := g) (fun c hc' => h c (by
      unfold btw pre
      exact List.mem_flatMap.2 ⟨t, List.mem_range'_1.2 ⟨h1, h2⟩, hc'⟩)) (by have := sub_len p i k j m t; rw [hc] at this; omega) (by omega) (by omega), e, List.length_append, List.countP_append]
    rfl)
  rw [show i + (j + 1 - i) = j + 1 by omega] at this
  simp only [Nat.sub_self, pre, List.range'_zero, List.flatMap_nil, List.length_nil, List.countP_nil] at this
  rw [if_neg (by simp)]
  have h0 : ((0 : Int), (0 : Int)) = (((0 : Nat) : Int), ((0 : Nat) : Int)) := rfl
  rw [h0, this]
  rfl
end Go.PM

namespace Go.PM
set_option linter.unusedVariables false
set_option linter.unusedSimpArgs false
theorem capO_eq {α : Type} {n : Nat} {l : List α} (h : l.length * (n + 1) ≤ 140737488355328) : capO n l = some l := by
  unfold capO; rw [if_pos h]
theorem lines_Own_eq {l : T_api_Line} (h1 : l.f_Lists.length ≤ 1000000) (h2 : l.f_Cells.length ≤ 1000000) : lines_Own l = some l := by
  unfold lines_Own slices_Clone_int slices_Clone_apiCell
  rw [capO_eq (by omega), Option.bind_some, capO_eq (by omega), Option.bind_some]
theorem doc_Own_eq {p : List T_api_Line} (hf : Fit p) : doc_Own p = some p := by
  have hl := hf.len
  have := iter_to (step := fun s : List T_api_Line × Int => doc_Own_l1 p s.1 s.2) (fun u => (p.take u, (u : Int))) (k := p.length) (r := p) (fun u hu => by
    have hg := List.getElem?_eq_getElem hu
    have hm := List.getElem_mem hu
    simp only [doc_Own_l1, getI_nat' hg, Option.bind_some, lines_Own_eq (l := p[u]) (by have := hf.lis _ hm; omega) (by have := hf.cells hm; omega)]
    rw [if_pos (by simpa using hu), capO_eq (by simp; omega), Option.bind_some, wsucc (n := u) (by omega), List.take_add_one, hg]
    rfl) (by
    simp only [doc_Own_l1]
    rw [if_neg (by simp), List.take_length]) fuel 0 (by omega) (fuel_big (by omega))
  unfold doc_Own
  have h0 : (p.take 0, ((0 : Nat) : Int)) = (([] : List T_api_Line), (0 : Int)) := rfl
  rw [h0] at this
  rw [this, Option.bind_some]
section
variable {α : Type} {x d : List α} {t : Nat}
theorem upd_get (h : x.length = d.length) : (x.take t ++ d.drop t)[t]? = d[t]? := by
  rw [List.getElem?_append, List.length_take]
  by_cases h1 : t < d.length
  · rw [if_neg (by omega), List.getElem?_drop, show t + (t - min t x.length) = t by omega]
  · rw [if_neg (by omega), List.getElem?_drop, List.getElem?_eq_none (by omega), List.getElem?_eq_none (by omega)]
theorem upd_set (h : x.length = d.length) {y : α} (hy : x[t]? = some y) : (x.take t ++ d.drop t).set t y = x.take (t + 1) ++ d.drop (t + 1) := by
  have ht := lt_of_get hy
  have hd := List.getElem?_eq_getElem (show t < d.length by omega)
  rw [List.set_append, List.length_take, if_neg (by omega), show t - min t x.length = 0 by omega, List.take_add_one, hy, List.drop_eq_getElem_cons (show t < d.length by omega)]
  rw [List.set_cons_zero]; simp
theorem upd_lo (h : x.length = d.length) (he : ∀ u, u < t → x[u]? = d[u]?) : x.take t ++ d.drop t = d := by
  have : x.take t = d.take t := by
    apply List.ext_getElem?
    intro u
    rw [List.getElem?_take, List.getElem?_take]
    split
    · exact he u ‹_›
    · rfl
  rw [this, List.take_append_drop]
theorem upd_hi (h : x.length = d.length) (he : ∀ u, t ≤ u → x[u]? = d[u]?) : x.take t ++ d.drop t = x := by
  have : d.drop t = x.drop t := by
    apply List.ext_getElem?
    intro u
    rw [List.getElem?_drop, List.getElem?_drop, he _ (by omega)]
  rw [this, List.take_append_drop]
end
def part (f : T_api_Cell → T_api_Cell) (a b : Nat) (l : List T_api_Cell) : List T_api_Cell := l.mapIdx fun u c => if a ≤ u ∧ u < b then f c else c
theorem part_len (f : T_api_Cell → T_api_Cell) (a b : Nat) (l : List T_api_Cell) : (part f a b l).length = l.length := by unfold part; simp
theorem part_get (f : T_api_Cell → T_api_Cell) (a b : Nat) (l : List T_api_Cell) (u : Nat) : (part f a b l)[u]? = (l[u]?).map fun c => if a ≤ u ∧ u < b then f c else c := by unfold part; rw [List.getElem?_mapIdx]
theorem cells_each_eq {l : List T_api_Cell} {ch : T_api_Cell → Option T_api_Cell} {f : T_api_Cell → T_api_Cell} {a b : Nat} (h : ∀ c ∈ l, ch c = some (f c)) (hl : l.length ≤ 1000000) (h1 : a ≤ b) (h2 : b ≤ l.length) : cells_each l (a : Int) (b : Int) ch = some (part f a b l, 0) := by
  have hx := part_len f a b l
  unfold cells_each cells_span slices_Clone_apiCell
  rw [if_pos (by simp), if_pos (by simpa using h1)]
  have hd : decide ((b : Int) ≤ (l.length : Int)) = true := by simpa using h2
  rw [hd, capO_eq (by omega)]
  simp only [Option.bind_some, Bool.not_true]
  rw [if_neg (by simp)]
  have := iter_to (step := fun s : List T_api_Cell × Int => cells_each_l1 (b : Int) ch s.1 s.2) (fun u => ((part f a b l).take (a + u) ++ l.drop (a + u), ((a + u : Nat) : Int))) (k := b - a) (r := part f a b l) (fun u hu => by
    have hg := List.getElem?_eq_getElem (show a + u < l.length by omega)
    have hp : (part f a b l)[a + u]? = some (f l[a + u]) := by
      rw [part_get, hg, Option.map_some, if_pos (by omega)]
    simp only [cells_each_l1]
    rw [if_pos (by simp; omega), getI_nat' (by rw [upd_get hx, hg])]
    simp only [Option.bind_some, h _ (List.getElem_mem (show a + u < l.length by omega)), wsucc (n := a + u) (by omega)]
    unfold setI
    rw [Int.toNat_natCast, upd_set hx hp]
    rfl) (by
    simp only [cells_each_l1]
    rw [if_neg (by simp; omega), upd_hi hx (fun u hu => by
      rw [part_get]
      have : (fun c => if a ≤ u ∧ u < b then f c else c) = id := by
        funext c; rw [if_neg (by omega)]; rfl
      rw [this]; simp)]) fuel 0 (by omega) (fuel_big (by omega))
  have h0 : (part f a b l).take (a + 0) ++ l.drop (a + 0) = l := upd_lo hx (fun u hu => by
    rw [part_get]
    have : (fun c => if a ≤ u ∧ u < b then f c else c) = id := by
      funext c; rw [if_neg (by omega)]; rfl
    rw [this]; simp)
  rw [h0, Nat.add_zero] at this
  rw [this, Option.bind_some]
def inn (i k j m t u : Nat) : Bool := decide ((i < t ∨ (i = t ∧ k ≤ u)) ∧ (t < j ∨ (t = j ∧ u < m)))
def chgL (i k j m : Nat) (f : T_api_Cell → T_api_Cell) (t : Nat) (l : T_api_Line) : T_api_Line := ⟨l.f_Quote, l.f_Lists, l.f_Kind, l.f_Cells.mapIdx fun u c => if inn i k j m t u then f c else c⟩
def chg (i k j m : Nat) (f : T_api_Cell → T_api_Cell) (p : List T_api_Line) : List T_api_Line := p.mapIdx (chgL i k j m f)
theorem chg_len (i k j m : Nat) (f : T_api_Cell → T_api_Cell) (p : List T_api_Line) : (chg i k j m f p).length = p.length := by unfold chg; simp
theorem chg_get (i k j m : Nat) (f : T_api_Cell → T_api_Cell) (p : List T_api_Line) (t : Nat) : (chg i k j m f p)[t]? = (p[t]?).map (chgL i k j m f t) := by unfold chg; rw [List.getElem?_mapIdx]
theorem chgL_part {p : List T_api_Line} {i k j m t : Nat} {f : T_api_Cell → T_api_Cell} {l : T_api_Line} (hl : p[t]? = some l) (h1 : i ≤ t) (h2 : t ≤ j) : (chgL i k j m f t l).f_Cells = part f (fr i k t) (tt p j m t) l.f_Cells := by
  unfold chgL part
  apply List.ext_getElem?
  intro u
  simp only [List.getElem?_mapIdx]
  cases hu : l.f_Cells[u]? with
  | none => rfl
  | some c =>
    have hlt := lt_of_get hu
    simp only [Option.map_some]
    congr 1
    have : (inn i k j m t u = true) ↔ (fr i k t ≤ u ∧ u < tt p j m t) := by
      unfold inn fr tt
      rw [decide_eq_true_eq, cellsAt_some hl]
      split <;> split <;> omega
    by_cases hi : inn i k j m t u = true
    · rw [if_pos hi, if_pos (this.1 hi)]
    · rw [if_neg hi, if_neg (fun h => hi (this.2 h))]
theorem chgL_out {i k j m t : Nat} {f : T_api_Cell → T_api_Cell} {l : T_api_Line} (h : t < i ∨ j < t) : chgL i k j m f t l = l := by
  unfold chgL
  have : (l.f_Cells.mapIdx fun u c => if inn i k j m t u then f c else c) = l.f_Cells := by
    apply List.ext_getElem?
    intro u
    rw [List.getElem?_mapIdx]
    have : (fun c => if inn i k j m t u = true then f c else c) = id := by
      funext c
      have : inn i k j m t u = false := by unfold inn; rw [decide_eq_false_iff_not]; omega
      rw [this]; rfl
    rw [this]; simp
  rw [this]
theorem each_fold {p : List T_api_Line} {i k j m : Nat} {F : List T_api_Cell → Int → Int → Option (List T_api_Cell × Int)} {f : T_api_Cell → T_api_Cell} (ha : At p i k) (hb : At p j m) (ho : Ord i k j m)
    (hF : ∀ t l, p[t]? = some l → i ≤ t → t ≤ j → fr i k t ≤ tt p j m t → tt p j m t ≤ l.f_Cells.length → ∃ e, F l.f_Cells (fr i k t : Int) (tt p j m t : Int) = some (part f (fr i k t) (tt p j m t) l.f_Cells, e)) :
    foldO (fun x s => doc_each_r1 F x s) ((List.range' i (j + 1 - i)).map (seg p i k j m)) p = some (chg i k j m f p) := by
  have hle := ho.le
  have hx := chg_len i k j m f p
  have := foldO_range (step := fun x s => doc_each_r1 F x s) (seg p i k j m) (fun t => (chg i k j m f p).take t ++ p.drop t) (j + 1 - i) i (fun t h1 h2 => by
    obtain ⟨l, hl, hc, h3, h4⟩ := seg_ok ha hb ho h1 (by omega)
    obtain ⟨e, he⟩ := hF t l hl h1 (by omega) h3 h4
    have hp : (chg i k j m f p)[t]? = some ⟨l.f_Quote, l.f_Lists, l.f_Kind, part f (fr i k t) (tt p j m t) l.f_Cells⟩ := by
      rw [chg_get, hl, Option.map_some, ← chgL_part (f := f) (k := k) (m := m) hl h1 (show t ≤ j by omega)]
      rfl
    simp only [doc_each_r1, seg]
    rw [getI_nat' (by rw [upd_get hx, hl])]
    simp only [Option.bind_some, he]
    unfold setI
    rw [Int.toNat_natCast, upd_set hx hp])
  rw [show i + (j + 1 - i) = j + 1 by omega] at this
  rw [upd_lo hx (fun u hu => by
    rw [chg_get]; cases p[u]? with
    | none => rfl
    | some l => rw [Option.map_some, chgL_out (.inl hu)]), upd_hi hx (fun u hu => by
    rw [chg_get]; cases p[u]? with
    | none => rfl
    | some l => rw [Option.map_some, chgL_out (.inr (by omega))])] at this
  exact this
theorem doc_Count_eq {p : List T_api_Line} {i k j m : Nat} (hf : Fit p) (hs : doc_span p (ps i k) (ps j m) = some true) (ha : At p i k) (hb : At p j m) (ho : Ord i k j m) : doc_Count p (ps i k) (ps j m) = some ((btw p i k j m).length : Int) := by
  unfold doc_Count
  rw [tells_eq hf hs ha hb ho (so := fun x0 => doc_Count_1 x0) (g := fun _ => false) (fun c _ => rfl), Option.bind_some]
theorem doc_each_eq {p : List T_api_Line} {i k j m : Nat} {F : List T_api_Cell → Int → Int → Option (List T_api_Cell × Int)} {f : T_api_Cell → T_api_Cell} (hf : Fit p) (hs : doc_span p (ps i k) (ps j m) = some true) (ha : At p i k) (hb : At p j m) (ho : Ord i k j m)
    (hF : ∀ t l, p[t]? = some l → i ≤ t → t ≤ j → fr i k t ≤ tt p j m t → tt p j m t ≤ l.f_Cells.length → ∃ e, F l.f_Cells (fr i k t : Int) (tt p j m t : Int) = some (part f (fr i k t) (tt p j m t) l.f_Cells, e)) :
    doc_each p (ps i k) (ps j m) F = if (btw p i k j m).length = 0 then some ([], 7) else some (chg i k j m f p, 0) := by
  unfold doc_each doc_between
  rw [hs, doc_Count_eq hf hs ha hb ho, doc_Own_eq hf]
  simp only [Option.bind_some, between_eq hf ha hb ho, each_fold ha hb ho hF, Bool.not_true]
  rw [if_neg (by simp)]
  by_cases h : (btw p i k j m).length = 0
  · rw [if_pos h, h]; rfl
  · rw [if_neg h, if_neg (by simpa using h)]
end Go.PM

namespace Go.PM
set_option linter.unusedVariables false
set_option linter.unusedSimpArgs false
def chm (r : Int) : Bool := chars_May r == some true
def lk (h : List UInt8) : Bool := cells_link h == some true
theorem cellOk_eq {c : T_api_Cell} (h : hsh c) : cellOk c = ((chm c.f_R || c.f_R == 10) && (decide (0 ≤ c.f_Bits ∧ c.f_Bits ≤ 15) && lk c.f_Href)) := by
  obtain ⟨a, ha⟩ := chars_May_T c.f_R
  obtain ⟨b, hb⟩ := cells_link_T h
  unfold cellOk chm lk cells_May_1
  rw [ha, hb]
  simp only [Option.bind_some]
  by_cases h1 : c.f_Bits < 0
  · have e : decide (0 ≤ c.f_Bits ∧ c.f_Bits ≤ 15) = false := by rw [decide_eq_false_iff_not]; omega
    rw [e, decide_eq_true h1]
    cases a <;> cases hr : (c.f_R == 10) <;> simp [bne, hr]
  · by_cases h2 : c.f_Bits > 15
    · have e : decide (0 ≤ c.f_Bits ∧ c.f_Bits ≤ 15) = false := by rw [decide_eq_false_iff_not]; omega
      rw [e, decide_eq_false h1, decide_eq_true h2]
      cases a <;> cases hr : (c.f_R == 10) <;> simp [bne, hr]
    · have e : decide (0 ≤ c.f_Bits ∧ c.f_Bits ≤ 15) = true := by rw [decide_eq_true_eq]; omega
      rw [e, decide_eq_false h1, decide_eq_false h2]
      cases a <;> cases b <;> cases hr : (c.f_R == 10) <;> simp [bne, hr]
theorem cellOk_bits {c : T_api_Cell} (h : hsh c) (ho : cellOk c = true) : 0 ≤ c.f_Bits ∧ c.f_Bits ≤ 15 := by
  rw [cellOk_eq h] at ho
  simp only [Bool.and_eq_true, decide_eq_true_eq] at ho
  exact ho.2.1
theorem chg_line {i k j m t : Nat} {f : T_api_Cell → T_api_Cell} {p : List T_api_Line} {l : T_api_Line} (h : (chg i k j m f p)[t]? = some l) : ∃ l0, p[t]? = some l0 ∧ l = chgL i k j m f t l0 := by
  rw [chg_get] at h
  cases h1 : p[t]? with
  | none => rw [h1] at h; cases h
  | some l0 => rw [h1] at h; exact ⟨l0, rfl, (Option.some.inj h).symm⟩
theorem chgL_mem {i k j m t : Nat} {f : T_api_Cell → T_api_Cell} {l : T_api_Line} {c : T_api_Cell} (h : c ∈ (chgL i k j m f t l).f_Cells) : ∃ c0 ∈ l.f_Cells, c = c0 ∨ c = f c0 := by
  unfold chgL at h
  simp only at h
  rw [List.mem_mapIdx] at h
  obtain ⟨u, hu, rfl⟩ := h
  refine ⟨_, List.getElem_mem hu, ?_⟩
  split
  · exact .inr rfl
  · exact .inl rfl
theorem chgL_lenC {i k j m t : Nat} {f : T_api_Cell → T_api_Cell} {l : T_api_Line} : (chgL i k j m f t l).f_Cells.length = l.f_Cells.length := by unfold chgL; simp
theorem mem_idx {α : Type} {p : List α} {x : α} (h : x ∈ p) : ∃ t : Nat, p[t]? = some x := by
  obtain ⟨t, ht, rfl⟩ := List.getElem_of_mem h
  exact ⟨t, List.getElem?_eq_getElem ht⟩
theorem chg_szl (i k j m : Nat) (f : T_api_Cell → T_api_Cell) (p : List T_api_Line) : szl (chg i k j m f p) = szl p := by
  unfold szl
  congr 1
  apply List.ext_getElem?
  intro t
  rw [List.getElem?_map, List.getElem?_map, chg_get]
  cases p[t]? with
  | none => rfl
  | some l => simp only [Option.map_some, chgL_lenC]
theorem chg_fit {i k j m : Nat} {f : T_api_Cell → T_api_Cell} {p : List T_api_Line} (h : Fit p) (hf : ∀ c, hsh c → hsh (f c)) : Fit (chg i k j m f p) := by
  refine ⟨by rw [chg_len]; exact h.len, by rw [chg_szl]; exact h.siz, fun l hl => ?_, fun l hl c hc => ?_⟩
  · obtain ⟨t, ht⟩ := mem_idx hl
    obtain ⟨l0, h0, rfl⟩ := chg_line ht
    exact h.lis l0 (List.mem_of_getElem? h0)
  · obtain ⟨t, ht⟩ := mem_idx hl
    obtain ⟨l0, h0, rfl⟩ := chg_line ht
    obtain ⟨c0, hc0, rfl | rfl⟩ := chgL_mem hc
    · exact h.href l0 (List.mem_of_getElem? h0) _ hc0
    · exact hf _ (h.href l0 (List.mem_of_getElem? h0) _ hc0)
theorem docOk_cell {p : List T_api_Line} (ho : docOk p = true) {l : T_api_Line} (hl : l ∈ p) {c : T_api_Cell} (hc : c ∈ l.f_Cells) : cellOk c = true := by
  unfold docOk at ho
  simp only [Bool.and_eq_true] at ho
  have := List.all_eq_true.1 ho.2.2.2 l hl
  unfold lineOk at this
  simp only [Bool.and_eq_true] at this
  exact List.all_eq_true.1 this.2 c hc
theorem chg_docOk {i k j m : Nat} {f : T_api_Cell → T_api_Cell} {p : List T_api_Line} (h : Fit p) (ho : docOk p = true) (hf : ∀ c, hsh c → cellOk c = true → cellOk (f c) = true) : docOk (chg i k j m f p) = true := by
  have hcell := fun l hl c hc => docOk_cell ho (l := l) hl (c := c) hc
  unfold docOk at ho ⊢
  rw [chg_len, chg_szl]
  simp only [Bool.and_eq_true] at ho ⊢
  refine ⟨ho.1, ho.2.1, ho.2.2.1, ?_⟩
  rw [List.all_eq_true]
  intro l hl
  obtain ⟨t, ht⟩ := mem_idx hl
  obtain ⟨l0, h0, rfl⟩ := chg_line ht
  have hm := List.mem_of_getElem? h0
  have hl0 := List.all_eq_true.1 ho.2.2.2 l0 hm
  unfold lineOk at hl0 ⊢
  simp only [Bool.and_eq_true] at hl0 ⊢
  refine ⟨hl0.1, ?_⟩
  rw [List.all_eq_true]
  intro c hc
  obtain ⟨c0, hc0, rfl | rfl⟩ := chgL_mem hc
  · exact hcell l0 hm _ hc0
  · exact hf _ (h.href l0 hm _ hc0) (hcell l0 hm _ hc0)
theorem chg_At {i k j m a b : Nat} {f : T_api_Cell → T_api_Cell} {p : List T_api_Line} (h : At p a b) : At (chg i k j m f p) a b := by
  obtain ⟨l, hl, hb⟩ := h
  exact ⟨chgL i k j m f a l, by rw [chg_get, hl]; rfl, by rw [chgL_lenC]; exact hb⟩
theorem chg_sub {i k j m t : Nat} {f : T_api_Cell → T_api_Cell} {p : List T_api_Line} (ha : At p i k) (hb : At p j m) (ho : Ord i k j m) (h1 : i ≤ t) (h2 : t ≤ j) : sub (chg i k j m f p) i k j m t = (sub p i k j m t).map f := by
  obtain ⟨l, hl, hc, h3, h4⟩ := seg_ok ha hb ho h1 h2
  have hl' : (chg i k j m f p)[t]? = some (chgL i k j m f t l) := by rw [chg_get, hl]; rfl
  have htt : tt (chg i k j m f p) j m t = tt p j m t := by
    unfold tt; rw [cellsAt_some hl', hc, chgL_lenC]
  unfold sub
  rw [htt, cellsAt_some hl', hc, chgL_part hl h1 h2]
  apply List.ext_getElem?
  intro u
  rw [List.getElem?_drop, List.getElem?_take, List.getElem?_map, List.getElem?_drop, List.getElem?_take]
  split
  · rename_i h
    rw [part_get]
    cases l.f_Cells[fr i k t + u]? with
    | none => rfl
    | some c => rw [Option.map_some, Option.map_some, if_pos ⟨by omega, h⟩]
  · rfl
theorem chg_btw {i k j m : Nat} {f : T_api_Cell → T_api_Cell} {p : List T_api_Line} (ha : At p i k) (hb : At p j m) (ho : Ord i k j m) : btw (chg i k j m f p) i k j m = (btw p i k j m).map f := by
  have hle := ho.le
  have : ∀ n, n ≤ j + 1 - i → pre (chg i k j m f p) i k j m n = (pre p i k j m n).map f := by
    intro n
    induction n with
    | zero => intro _; rfl
    | succ n ih =>
      intro hn
      rw [pre_succ, pre_succ, List.map_append, ih (by omega), chg_sub ha hb ho (by omega) (by omega)]
  exact this _ (Nat.le_refl _)
theorem btw_mem {i k j m : Nat} {p : List T_api_Line} {c : T_api_Cell} (h : c ∈ btw p i k j m) : ∃ l ∈ p, c ∈ l.f_Cells := by
  unfold btw pre at h
  obtain ⟨t, _, hc⟩ := List.mem_flatMap.1 h
  unfold sub at hc
  have := List.mem_of_mem_take (List.mem_of_mem_drop hc)
  unfold cellsAt at this
  split at this
  · rename_i l hl; exact ⟨l, List.mem_of_getElem? hl, this⟩
  · cases this
theorem band15 (x : Int) : 0 ≤ bit_and .i64 x 15 ∧ bit_and .i64 x 15 ≤ 15 := by
  unfold bit_and
  have h : (BitVec.ofInt IntKind.i64.bits x &&& BitVec.ofInt IntKind.i64.bits 15).toNat ≤ 15 := by
    rw [BitVec.toNat_and]; exact Nat.le_trans Nat.and_le_right (by decide)
  generalize (BitVec.ofInt IntKind.i64.bits x &&& BitVec.ofInt IntKind.i64.bits 15).toNat = n at h
  rw [w_id (by omega) (by omega)]; omega
def over (b s c : Int) : Int := bit_or .i64 (bit_andNot .i64 b (bit_and .i64 c 15)) (bit_and .i64 s 15)
theorem over_law : ∀ b, b < 16 → ∀ s, s < 16 → ∀ c, c < 16 → (0 ≤ over (b : Nat) (s : Nat) (c : Nat) ∧ over b s c ≤ 15) ∧ (bit_and .i64 (over b s c) s == s) = true ∧ (bit_and .i64 (over b s c) (bit_andNot .i64 c s) != 0) = false := by decide +kernel
end Go.PM

namespace Go.PM
set_option linter.unusedVariables false
set_option linter.unusedSimpArgs false
theorem ref05u_Link_T {h : List UInt8} (hh : h.length ≤ 200000) : T (quillworkref05u_Link h) := by
  unfold quillworkref05u_Link
  exact T.bind (T.ite (fun _ => T.some _) fun _ => T.bind (ref03u_Target_T hh) fun _ => T.some _) fun _ => T.some _
def rbad (v2 : T_api_Cell) : Option Bool := if (v2.f_R : Int) != 10 then ((quillworkref01u_May v2.f_R).bind fun v4 => if v4 then (if decide ((v2.f_Bits : Int) < 0) then (some true) else (if decide ((v2.f_Bits : Int) > 15) then (some true) else ((quillworkref05u_Link v2.f_Href).bind fun v5 => some (!v5)))) else (some true)) else (if decide ((v2.f_Bits : Int) < 0) then (some true) else (if decide ((v2.f_Bits : Int) > 15) then (some true) else ((quillworkref05u_Link v2.f_Href).bind fun v6 => some (!v6))))
def rok (c : T_api_Cell) : Bool := rbad c == some false
theorem rbad_T {c : T_api_Cell} (hh : hsh c) : T (rbad c) := by
  have hl := ref05u_Link_T hh
  have hm := ref01u_May_T c.f_R
  unfold rbad
  repeat' (first | exact T.some _ | assumption | refine T.ite (fun _ => ?_) (fun _ => ?_) | refine T.bind ?_ (fun _ => ?_))
theorem rbad_eq {c : T_api_Cell} (hh : hsh c) : rbad c = some (!rok c) := by
  obtain ⟨b, hb⟩ := rbad_T hh
  unfold rok; rw [hb]; cases b <;> rfl
theorem ref05u_May_eq {l : List T_api_Cell} (h : ∀ c ∈ l, hsh c) (hl : l.length ≤ 9223372036854775806) : quillworkref05u_May l = some (l.all rok) := by
  have hn := any_not rok l
  unfold quillworkref05u_May
  rcases iter_any (step := fun s => quillworkref05u_May_l1 l s) (l := l) (g := fun c => !rok c) (fun _ => (.inl () : Unit ⊕ Unit)) (.inr ()) (by
    intro i c hc
    have hi := lt_of_get hc
    have hb := rbad_eq (h c (List.mem_of_getElem? hc))
    simp only [quillworkref05u_May_l1, getI_nat' hc, Option.bind_some]
    rw [if_pos (by simpa using hi)]
    show ((rbad c).bind _) = _
    rw [hb, Option.bind_some, wsucc (n := i) (by omega)]
    cases rok c <;> rfl) (by simp [quillworkref05u_May_l1]) (by omega) with ⟨h1, i, hi, h2⟩ | ⟨h1, h2⟩
  · rw [h2, ← hn, h1]; rfl
  · rw [h2, ← hn, h1]; rfl
theorem ref06u_May_cases {l : T_api_Line} (h : ∀ c ∈ l.f_Cells, hsh c) (hl : l.f_Cells.length ≤ 9223372036854775806) (hi : l.f_Lists.length ≤ 9223372036854775806) : ∃ b, quillworkref06u_May l = some b ∧ (b = true → l.f_Cells.all rok = true) := by
  unfold quillworkref06u_May
  have hq : T (if decide ((l.f_Quote : Int) < 0) then (some true) else (if decide ((l.f_Quote : Int) > 6) then (some true) else (if decide (((l.f_Lists.length : Int) : Int) > 6) then (some true) else (if decide ((l.f_Kind : Int) < 0) then (some true) else (some (decide ((l.f_Kind : Int) > 3)))))) : Option (Bool)) := by repeat (first | exact T.some _ | refine T.ite (fun _ => ?_) (fun _ => ?_) | refine T.bind ?_ (fun _ => ?_))
  obtain ⟨q, hq⟩ := hq
  rw [hq, Option.bind_some]
  cases q with
  | true => exact ⟨false, rfl, by simp⟩
  | false =>
    rw [if_neg (by simp)]
    rcases iter_any (step := fun s => quillworkref06u_May_l1 l s) (l := l.f_Lists) (g := fun x => (x != 0 && x != 1) || l.f_Kind != 0) (fun _ => (.inl () : Unit ⊕ Unit)) (.inr ()) (by
      intro i c hc
      have hi := lt_of_get hc
      simp only [quillworkref06u_May_l1, getI_nat' hc, Option.bind_some, wsucc (n := i) (by omega)]
      rw [if_pos (by simpa using hi)]
      cases (c != 0) <;> cases (c != 1) <;> cases (l.f_Kind != 0) <;> rfl) (by simp [quillworkref06u_May_l1]) (by omega) with ⟨h1, i, hi, h2⟩ | ⟨h1, h2⟩
    · rw [h2]; exact ⟨false, rfl, by simp⟩
    · rw [h2]
      show ∃ b, ((quillworkref05u_May l.f_Cells).bind fun v7 => some v7) = some b ∧ _
      rw [ref05u_May_eq h hl]
      exact ⟨_, rfl, id⟩
theorem ref07u_Size_eq {p : List T_api_Line} (hb : Bd p) : quillworkref07u_Size p = some (szl p : Int) := doc_Size_eq hb
theorem ref07u_May_cases {p : List T_api_Line} (hf : Fit p) : ∃ b, quillworkref07u_May p = some b ∧ (b = true → ∀ l ∈ p, l.f_Cells.all rok = true) := by
  unfold quillworkref07u_May
  rw [ref07u_Size_eq hf.bd]
  simp only [Option.bind_some]
  have hq : T (if decide (((p.length : Int) : Int) < 1) then (some true) else (if decide (((p.length : Int) : Int) > 200) then (some true) else some (decide ((szl p : Int) > 4000))) : Option (Bool)) := by repeat (first | exact T.some _ | refine T.ite (fun _ => ?_) (fun _ => ?_) | refine T.bind ?_ (fun _ => ?_))
  obtain ⟨q, hq⟩ := hq
  rw [hq, Option.bind_some]
  cases q with
  | true => exact ⟨false, rfl, by simp⟩
  | false =>
    rw [if_neg (by simp)]
    have hm : ∀ l ∈ p, ∃ b, quillworkref06u_May l = some b ∧ (b = true → l.f_Cells.all rok = true) := fun l hl => ref06u_May_cases (hf.href l hl) (by have := hf.cells hl; omega) (by have := hf.lis l hl; omega)
    have hlen := hf.len
    rcases iter_any (step := fun s => quillworkref07u_May_l1 p s) (l := p) (g := fun l => !(quillworkref06u_May l == some true)) (fun _ => (.inl () : Unit ⊕ Unit)) (.inr ()) (by
      intro i c hc
      have hi := lt_of_get hc
      obtain ⟨b, hb, _⟩ := hm c (List.mem_of_getElem? hc)
      simp only [quillworkref07u_May_l1, getI_nat' hc, Option.bind_some, wsucc (n := i) (by omega), hb]
      rw [if_pos (by simpa using hi)]
      cases b <;> rfl) (by simp [quillworkref07u_May_l1]) (by omega) with ⟨h1, i, hi, h2⟩ | ⟨h1, h2⟩
    · rw [h2]; exact ⟨false, rfl, by simp⟩
    · rw [h2]
      refine ⟨true, rfl, fun _ l hl => ?_⟩
      obtain ⟨b, hb, hbt⟩ := hm l hl
      rw [List.any_eq_false] at h1
      have := h1 l hl
      rw [hb] at this
      cases b
      · simp at this
      · exact hbt rfl
theorem ref07u_Is_eq {p : List T_api_Line} {i k : Nat} (h : At p i k) : quillworkref07u_Is p (ps i k) = some true := by
  obtain ⟨l, hl, hk⟩ := h
  have := lt_of_get hl
  unfold quillworkref07u_Is ps
  simp [getI_nat' hl, this, hk]
  rw [if_neg (by omega)]
  simp; omega
def cmpN (i k j m : Nat) : Int := if i = j ∧ k = m then 0 else if i < j ∨ (i = j ∧ k < m) then -1 else 1
theorem ref07u_Cmp_eq (i k j m : Nat) : quillworkref07u_Cmp (ps i k) (ps j m) = some (cmpN i k j m) := by
  unfold quillworkref07u_Cmp ps cmpN
  simp only [beqI]
  by_cases e1 : i = j
  · subst e1
    by_cases e2 : k = m
    · subst e2; simp
    · by_cases e3 : k < m
      · simp [e2, e3]
      · simp [e2, e3]
  · by_cases e3 : i < j
    · simp [e1, e3]
    · simp [e1, e3]
theorem cmpN_le (i k j m : Nat) : cmpN i k j m ≤ 0 ↔ Ord i k j m := by
  unfold cmpN Ord; split
  · omega
  · split <;> omega
theorem cmpN_lt (i k j m : Nat) : cmpN i k j m < 0 ↔ (i < j ∨ (i = j ∧ k < m)) := by
  unfold cmpN; split
  · omega
  · split <;> omega
theorem ref07u_From_eq {p : List T_api_Line} {i k j m t : Nat} {l : T_api_Line} (hl : p[t]? = some l) : quillworkref07u_From p (ps i k) (ps j m) (t : Int) = some ((fr i k t : Int), (tt p j m t : Int)) := by
  unfold quillworkref07u_From ps fr tt
  rw [getI_nat' hl, cellsAt_some hl]
  simp only [Option.bind_some, beqI]
  by_cases e1 : t = i
  · subst e1
    by_cases e2 : t = j
    · subst e2; simp
    · simp [e2]
  · by_cases e2 : t = j
    · subst e2; simp [e1]
    · simp [e1, e2]
def parts (p : List T_api_Line) (i k j m n : Nat) : List T_api_Line := (List.range' i n).map fun t => match p[t]? with | some l => ⟨l.f_Quote, l.f_Lists, l.f_Kind, sub p i k j m t⟩ | none => ⟨0, [], 0, []⟩
theorem ref07u_Part_eq {p : List T_api_Line} {i k j m : Nat} (hf : Fit p) (ha : At p i k) (hb : At p j m) (ho : Ord i k j m) {b : Bool} (hm : quillworkref07u_May p = some b) : quillworkref07u_Part p (ps i k) (ps j m) = some (if b then (parts p i k j m (j + 1 - i), 0) else ([], 1)) := by
  have hle := ho.le
  have hlen := hf.len
  have hj : j < p.length := by obtain ⟨l, h, _⟩ := hb; exact lt_of_get h
  have hsp : quillworkref07u_Span p (ps i k) (ps j m) = some b := by
    unfold quillworkref07u_Span
    rw [hm]
    simp only [Option.bind_some]
    cases b with
    | false => rfl
    | true =>
      simp only [if_true, ref07u_Is_eq ha, ref07u_Is_eq hb, ref07u_Cmp_eq, Option.bind_some]
      rw [decide_eq_true ((cmpN_le i k j m).2 ho)]
  unfold quillworkref07u_Part
  rw [hsp]
  simp only [Option.bind_some]
  cases b with
  | false => rfl
  | true =>
    simp only [Bool.not_true, if_true]
    rw [if_neg (by simp)]
    have := iter_to (step := fun s : List T_api_Line × Int => quillworkref07u_Part_l1 p (ps i k) (ps j m) s.1 s.2) (fun u => (parts p i k j m u, ((i + u : Nat) : Int))) (k := j + 1 - i) (r := parts p i k j m (j + 1 - i)) (fun u hu => by
      obtain ⟨l, hl, hc, h3, h4⟩ := seg_ok ha hb ho (show i ≤ i + u by omega) (by omega)
      have hmem := List.mem_of_getElem? hl
      have h5 := hf.lis l hmem
      have h6 := hf.cells hmem
      have hs : sub p i k j m (i + u) = (l.f_Cells.take (tt p j m (i + u))).drop (fr i k (i + u)) := by unfold sub; rw [hc]
      have h7 := sub_len p i k j m (i + u)
      rw [hc] at h7
      have hd : decide (((i + u : Nat) : Int) ≤ (ps j m).f_Line) = true := decide_eq_true (by show ((i + u : Nat) : Int) ≤ (j : Int); omega)
      simp only [quillworkref07u_Part_l1, ref07u_From_eq hl, getI_nat' hl, Option.bind_some, cutI_eq h3 h4, ← hs]
      unfold quillworkref06u_Frame quillworkref05u_Own
      rw [hd, if_pos rfl, capO_eq (by simp; omega), Option.bind_some, capO_eq (by simp; omega), Option.bind_some]
      simp only [Option.bind_some]
      rw [capO_eq (by simp [parts]; omega), Option.bind_some, wsucc (n := i + u) (by omega)]
      unfold parts
      rw [List.range'_1_concat, List.map_append]
      simp only [List.map_cons, List.map_nil, hl, List.nil_append]
      rfl) (by
      simp only [quillworkref07u_Part_l1]
      have hd : decide (((i + (j + 1 - i) : Nat) : Int) ≤ (ps j m).f_Line) = false := decide_eq_false (by show ¬ ((i + (j + 1 - i) : Nat) : Int) ≤ (j : Int); omega)
      rw [hd]; rfl) fuel 0 (by omega) (fuel_big (by omega))
    simp only [parts, Nat.add_zero, List.range'_zero, List.map_nil] at this
    rw [show (ps i k).f_Line = (i : Int) from rfl, this]
    rfl
theorem ref07u_Cells_eq {p : List T_api_Line} {i k j m : Nat} (hf : Fit p) (ha : At p i k) (hb : At p j m) (ho : Ord i k j m) {b : Bool} (hm : quillworkref07u_May p = some b) : quillworkref07u_Cells p (ps i k) (ps j m) = some (if b then btw p i k j m else []) := by
  have hle := ho.le
  have hlen := hf.len
  have hsz := hf.siz
  have hj : j < p.length := by obtain ⟨l, h, _⟩ := hb; exact lt_of_get h
  unfold quillworkref07u_Cells
  rw [ref07u_Part_eq hf ha hb ho hm]
  cases b with
  | false =>
    have := iter_to (step := fun s : List T_api_Cell × Int => quillworkref07u_Cells_l1 ([], 1) s.1 s.2) (fun u => ([], 0)) (k := 0) (r := []) (fun u hu => by omega) rfl fuel 0 (by omega) (fuel_big (by omega))
    simp only [Option.bind_some]
    show Option.bind (iter (fun s : List T_api_Cell × Int => quillworkref07u_Cells_l1 ([], 1) s.1 s.2) fuel ([], 0)) _ = _
    rw [this]; rfl
  | true =>
    simp only [Option.bind_some, if_true]
    have hpl : (parts p i k j m (j + 1 - i)).length = j + 1 - i := by simp [parts]
    have := iter_to (step := fun s : List T_api_Cell × Int => quillworkref07u_Cells_l1 (parts p i k j m (j + 1 - i), 0) s.1 s.2) (fun u => (pre p i k j m u, (u : Int))) (k := j + 1 - i) (r := btw p i k j m) (fun u hu => by
      obtain ⟨l, hl, hc, h3, h4⟩ := seg_ok ha hb ho (show i ≤ i + u by omega) (by omega)
      have hg : (parts p i k j m (j + 1 - i))[u]? = some ⟨l.f_Quote, l.f_Lists, l.f_Kind, sub p i k j m (i + u)⟩ := by
        unfold parts
        rw [List.getElem?_map, List.getElem?_range' hu]
        simp only [Nat.one_mul, Option.map_some, hl]
      have h5 := pre_len p i k j m (u + 1)
      have h6 := szl_take p (i + (u + 1))
      rw [pre_succ] at h5
      simp only [quillworkref07u_Cells_l1, getI_nat' hg, Option.bind_some, hpl]
      rw [if_pos (by simp; omega), capO_eq (by omega), Option.bind_some, wsucc (n := u) (by omega), pre_succ]) (by
      simp only [quillworkref07u_Cells_l1, hpl]
      rw [if_neg (by simp)]; rfl) fuel 0 (by omega) (fuel_big (by omega))
    have h0 : pre p i k j m 0 = [] := rfl
    rw [h0] at this
    have h1 : (([] : List T_api_Cell), ((0 : Nat) : Int)) = ([], 0) := rfl
    rw [h1] at this
    rw [this, Option.bind_some]
end Go.PM

namespace Go.PM
set_option linter.unusedVariables false
set_option linter.unusedSimpArgs false
def setC (s c : Int) (x : T_api_Cell) : T_api_Cell := ⟨x.f_R, over x.f_Bits s c, x.f_Href⟩
def lnkC (h : List UInt8) (x : T_api_Cell) : T_api_Cell := ⟨x.f_R, x.f_Bits, h⟩
section
variable {p : List T_api_Line} {i k j m : Nat}
theorem doc_Set_eq (hf : Fit p) (hs : doc_span p (ps i k) (ps j m) = some true) (ha : At p i k) (hb : At p j m) (ho : Ord i k j m) (s c : Int) : doc_Set p (ps i k) (ps j m) s c = if (btw p i k j m).length = 0 then some ([], 7) else some (chg i k j m (setC s c) p, 0) := by
  unfold doc_Set
  rw [doc_each_eq (f := setC s c) hf hs ha hb ho (fun t l hl h1 h2 h3 h4 => ⟨0, by
    have := hf.cells (List.mem_of_getElem? hl)
    unfold doc_Set_1 cells_Set
    rw [cells_each_eq (ch := fun x0 => cells_Set_1 x0 s c) (f := setC s c) (fun c _ => rfl) (by omega) h3 h4]; rfl⟩)]
  split <;> rfl
theorem doc_Set_bad {a b : T_api_Pos} (hs : doc_span p a b = some false) (s c : Int) : doc_Set p a b s c = some ([], 1) := by
  unfold doc_Set doc_each
  rw [hs]; rfl
theorem doc_Link_eq (hf : Fit p) (hs : doc_span p (ps i k) (ps j m) = some true) (ha : At p i k) (hb : At p j m) (ho : Ord i k j m) {h : List UInt8} (hh : cells_link h = some true) : doc_Link p (ps i k) (ps j m) h = if (btw p i k j m).length = 0 then some ([], 7) else some (chg i k j m (lnkC h) p, 0) := by
  have hq : ((if !(h == []) then ((attrs_Target h).bind fun v2 => some (!v2)) else (some false) : Option (Bool))) = some false := by
    unfold cells_link at hh
    cases hn : (h == []) with
    | true => rfl
    | false =>
      rw [hn] at hh
      simp only [Bool.not_false, if_true]
      cases ht : attrs_Target h with
      | none => rw [ht] at hh; simp at hh
      | some b => rw [ht] at hh; simp at hh; rw [hh]; rfl
  unfold doc_Link
  rw [hq, Option.bind_some, if_neg (by simp), doc_each_eq (f := lnkC h) hf hs ha hb ho (fun t l hl h1 h2 h3 h4 => ⟨0, by
    have := hf.cells (List.mem_of_getElem? hl)
    unfold doc_Link_1 cells_Link
    rw [hh, Option.bind_some, if_neg (by simp), cells_each_eq (ch := fun x0 => cells_Link_1 x0 h) (f := lnkC h) (fun c _ => rfl) (by omega) h3 h4]; rfl⟩)]
  split <;> rfl
end
theorem link_x : cells_link [120] = some true := by kernel_rfl
theorem lk_x : lk [120] = true := by unfold lk; rw [link_x]; rfl
theorem over_ok {b s c : Int} (hb : 0 ≤ b ∧ b ≤ 15) (hs : 0 ≤ s ∧ s ≤ 15) (hc : 0 ≤ c ∧ c ≤ 15) : (0 ≤ over b s c ∧ over b s c ≤ 15) ∧ (bit_and .i64 (over b s c) s == s) = true ∧ (bit_and .i64 (over b s c) (bit_andNot .i64 c s) != 0) = false := by
  obtain ⟨b', rfl⟩ : ∃ n : Nat, b = n := ⟨b.toNat, by omega⟩
  obtain ⟨s', rfl⟩ : ∃ n : Nat, s = n := ⟨s.toNat, by omega⟩
  obtain ⟨c', rfl⟩ : ∃ n : Nat, c = n := ⟨c.toNat, by omega⟩
  exact over_law b' (by omega) s' (by omega) c' (by omega)
theorem setC_ok {s c : Int} (hs : 0 ≤ s ∧ s ≤ 15) (hc : 0 ≤ c ∧ c ≤ 15) (x : T_api_Cell) (hx : hsh x) (ho : cellOk x = true) : cellOk (setC s c x) = true := by
  have hb := cellOk_bits hx ho
  rw [cellOk_eq hx] at ho
  rw [cellOk_eq (c := setC s c x) hx]
  unfold setC
  simp only [Bool.and_eq_true, decide_eq_true_eq] at ho ⊢
  exact ⟨ho.1, (over_ok hb hs hc).1, ho.2.2⟩
theorem lnkC_ok {h : List UInt8} (hl : h.length ≤ 200000) (hk : lk h = true) (x : T_api_Cell) (hx : hsh x) (ho : cellOk x = true) : cellOk (lnkC h x) = true := by
  rw [cellOk_eq hx] at ho
  rw [cellOk_eq (c := lnkC h x) hl]
  unfold lnkC
  simp only [Bool.and_eq_true, decide_eq_true_eq] at ho ⊢
  exact ⟨ho.1, ho.2.1, hk⟩
theorem doc_All_eq {p : List T_api_Line} {i k j m : Nat} (hf : Fit p) (hs : doc_span p (ps i k) (ps j m) = some true) (ha : At p i k) (hb : At p j m) (ho : Ord i k j m) (s : Int) : doc_All p (ps i k) (ps j m) s = some (decide (0 < (btw p i k j m).length) && (btw p i k j m).all fun c => bit_and .i64 c.f_Bits s == s) := by
  unfold doc_All
  rw [tells_eq hf hs ha hb ho (so := fun x0 => doc_All_1 x0 s) (g := fun c => bit_and .i64 c.f_Bits s == s) (fun c _ => rfl)]
  simp only [Option.bind_some]
  generalize btw p i k j m = l
  by_cases h : 0 < l.length
  · rw [if_pos (by simpa using h), Option.bind_some, decide_eq_true h, Bool.true_and, beqI]
    congr 1
    rw [Bool.eq_iff_iff, decide_eq_true_eq, List.countP_eq_length, List.all_eq_true]
  · rw [if_neg (by simpa using h), Option.bind_some, decide_eq_false h]; rfl
theorem doc_Some_eq {p : List T_api_Line} {i k j m : Nat} (hf : Fit p) (hs : doc_span p (ps i k) (ps j m) = some true) (ha : At p i k) (hb : At p j m) (ho : Ord i k j m) (s : Int) : doc_Some p (ps i k) (ps j m) s = some ((btw p i k j m).any fun c => bit_and .i64 c.f_Bits s != 0) := by
  unfold doc_Some
  rw [tells_eq hf hs ha hb ho (so := fun x0 => doc_Some_1 x0 s) (g := fun c => bit_and .i64 c.f_Bits s != 0) (fun c _ => rfl)]
  simp only [Option.bind_some]
  generalize btw p i k j m = l
  congr 1
  rw [Bool.eq_iff_iff, decide_eq_true_eq, List.any_eq_true, ← List.countP_pos_iff]
  omega
theorem ref06u_Frame_eq {l : T_api_Line} (h : l.f_Lists.length ≤ 1000000) : quillworkref06u_Frame l = some ⟨l.f_Quote, l.f_Lists, l.f_Kind, []⟩ := by
  unfold quillworkref06u_Frame
  rw [capO_eq (by simp; omega)]; rfl
section
variable {p : List T_api_Line} {i k j m : Nat}
theorem styles_l4 (hf : Fit p) {f : T_api_Cell → T_api_Cell} (hfr : ∀ c, (f c).f_R = c.f_R ∧ (f c).f_Href = c.f_Href) {t : Nat} {l : T_api_Line} (hl : p[t]? = some l) {e e' : Int} :
    iter (fun s => quillworklaw07u_DocStyles_l4 p (ps i k) (ps j m) (chg i k j m f p, e) (chg i k j m (lnkC [120]) p, e') (t : Int) s) fuel 0 = some (.inr ()) := by
  have hlen := hf.cells (List.mem_of_getElem? hl)
  have hx : (chg i k j m f p)[t]? = some (chgL i k j m f t l) := by rw [chg_get, hl]; rfl
  have hy : (chg i k j m (lnkC [120]) p)[t]? = some (chgL i k j m (lnkC [120]) t l) := by rw [chg_get, hl]; rfl
  have := iter_to (step := fun s => quillworklaw07u_DocStyles_l4 p (ps i k) (ps j m) (chg i k j m f p, e) (chg i k j m (lnkC [120]) p, e') (t : Int) s) (fun u => (u : Int)) (k := l.f_Cells.length) (r := .inr ()) (fun u hu => by
    have hc := List.getElem?_eq_getElem hu
    generalize l.f_Cells[u] = c at hc
    have hcx : (chgL i k j m f t l).f_Cells[u]? = some (if inn i k j m t u then f c else c) := by
      unfold chgL; simp only [List.getElem?_mapIdx, hc, Option.map_some]
    have hcy : (chgL i k j m (lnkC [120]) t l).f_Cells[u]? = some (if inn i k j m t u then lnkC [120] c else c) := by
      unfold chgL; simp only [List.getElem?_mapIdx, hc, Option.map_some]
    have hq : ((quillworkref07u_Cmp (ps i k) (T_api_Pos.mk (t : Int) (u : Int))).bind fun v31 => if decide ((v31 : Int) ≤ 0) then ((quillworkref07u_Cmp (T_api_Pos.mk (t : Int) (u : Int)) (ps j m)).bind fun v32 => some (decide ((v32 : Int) < 0))) else (some false)) = some (inn i k j m t u) := by
      have h1 : quillworkref07u_Cmp (ps i k) (T_api_Pos.mk (t : Int) (u : Int)) = some (cmpN i k t u) := ref07u_Cmp_eq i k t u
      have h2 : quillworkref07u_Cmp (T_api_Pos.mk (t : Int) (u : Int)) (ps j m) = some (cmpN t u j m) := ref07u_Cmp_eq t u j m
      rw [h1, Option.bind_some, h2, Option.bind_some]
      have h3 := cmpN_le i k t u
      have h4 := cmpN_lt t u j m
      unfold inn
      unfold Ord at h3
      by_cases c1 : cmpN i k t u ≤ 0
      · rw [decide_eq_true c1, if_pos rfl]
        congr 1
        rw [decide_eq_decide, h4]
        have := h3.1 c1
        constructor
        · intro h; exact ⟨this, h⟩
        · intro h; exact h.2
      · rw [decide_eq_false c1, if_neg (by simp)]
        congr 1
        symm
        rw [decide_eq_false_iff_not]
        intro h; exact c1 (h3.2 h.1)
    simp only [quillworklaw07u_DocStyles_l4, hq, getI_nat' hl, getI_nat' hc, getI_nat' hx, getI_nat' hy, getI_nat' hcx, getI_nat' hcy, Option.bind_some]
    rw [if_pos (by simpa using hu), wsucc (n := u) (by omega)]
    cases hin : inn i k j m t u with
    | true => simp [hfr c, lnkC]
    | false => simp) (by
    simp only [quillworklaw07u_DocStyles_l4, getI_nat' hl, Option.bind_some]
    rw [if_neg (by simp)]) fuel 0 (by omega) (fuel_big (by omega))
  exact this
theorem styles_l3 (hf : Fit p) {f : T_api_Cell → T_api_Cell} (hfr : ∀ c, (f c).f_R = c.f_R ∧ (f c).f_Href = c.f_Href) {e e' : Int} :
    iter (fun s => quillworklaw07u_DocStyles_l3 p (ps i k) (ps j m) (chg i k j m f p, e) (chg i k j m (lnkC [120]) p, e') s) fuel 0 = some (.inr ()) := by
  have hlen := hf.len
  have := iter_to (step := fun s => quillworklaw07u_DocStyles_l3 p (ps i k) (ps j m) (chg i k j m f p, e) (chg i k j m (lnkC [120]) p, e') s) (fun u => (u : Int)) (k := p.length) (r := .inr ()) (fun t ht => by
    have hl := List.getElem?_eq_getElem ht
    generalize p[t] = l at hl
    have hli := hf.lis l (List.mem_of_getElem? hl)
    have hx : (chg i k j m f p)[t]? = some (chgL i k j m f t l) := by rw [chg_get, hl]; rfl
    have hy : (chg i k j m (lnkC [120]) p)[t]? = some (chgL i k j m (lnkC [120]) t l) := by rw [chg_get, hl]; rfl
    have hfx : quillworkref06u_Frame (chgL i k j m f t l) = some ⟨l.f_Quote, l.f_Lists, l.f_Kind, []⟩ := ref06u_Frame_eq (l := chgL i k j m f t l) (by show l.f_Lists.length ≤ _; omega)
    have hfl : quillworkref06u_Frame l = some ⟨l.f_Quote, l.f_Lists, l.f_Kind, []⟩ := ref06u_Frame_eq (by omega)
    have hsame : quillworkref06u_Same ⟨l.f_Quote, l.f_Lists, l.f_Kind, []⟩ ⟨l.f_Quote, l.f_Lists, l.f_Kind, []⟩ = some true := by
      rw [ref06u_Same_eq ⟨by show l.f_Lists.length ≤ _; omega, by simp⟩, eqL_refl]
    simp only [quillworklaw07u_DocStyles_l3, getI_nat' hl, getI_nat' hx, getI_nat' hy, Option.bind_some, hfx, hfl, hsame, chgL_lenC, styles_l4 hf hfr hl]
    rw [if_pos (by simpa using ht), wsucc (n := t) (by omega)]
    simp) (by
    simp only [quillworklaw07u_DocStyles_l3]
    rw [if_neg (by simp)]) fuel 0 (by omega) (fuel_big (by omega))
  exact this
end
theorem DocStyles_plain {p : List T_api_Line} (hp : good_Lapi_Line p) (a b : T_api_Pos) (s0 c0 : Int) : quillworklaw07u_DocStyles p a b s0 c0 = some true := by
  unfold quillworklaw07u_DocStyles
  rcases sh_cases hp with h | ⟨h, hsrt⟩
  · rw [h, Option.bind_some, if_pos rfl, awake_true]; rfl
  · have hf := hsrt.fit
    have hs := band15 s0
    have hc := band15 c0
    generalize bit_and .i64 s0 15 = s at hs
    generalize bit_and .i64 c0 15 = c at hc
    rw [h, Option.bind_some, if_neg (by simp)]
    rcases doc_span_cases hf a b with hsp | ⟨hsp, hok, i, k, j, m, rfl, rfl, ha, hb, ho⟩
    · rw [doc_Set_bad hsp, Option.bind_some]
      simp [awake_true]
    · rw [doc_Set_eq hf hsp ha hb ho]
      by_cases h0 : (btw p i k j m).length = 0
      · rw [if_pos h0, Option.bind_some]
        simp only [doc_Count_eq hf hsp ha hb ho, h0, awake_true]
        rfl
      · rw [if_neg h0, Option.bind_some, doc_Link_eq hf hsp ha hb ho link_x, if_neg h0]
        have hfx : Fit (chg i k j m (setC s c) p) := chg_fit hf (fun c h => h)
        have hfy : Fit (chg i k j m (lnkC [120]) p) := chg_fit hf (fun c h => by unfold hsh lnkC; simp)
        have hox : docOk (chg i k j m (setC s c) p) = true := chg_docOk hf hok (setC_ok hs hc)
        have hoy : docOk (chg i k j m (lnkC [120]) p) = true := chg_docOk hf hok (lnkC_ok (by simp) lk_x)
        have hax : At (chg i k j m (setC s c) p) i k := chg_At ha
        have hbx : At (chg i k j m (setC s c) p) j m := chg_At hb
        have hspx := doc_span_true hfx hox hax hbx ho
        have hbt := chg_btw (f := setC s c) ha hb ho
        have hbits : ∀ x ∈ btw p i k j m, 0 ≤ x.f_Bits ∧ x.f_Bits ≤ 15 := fun x hx => by
          obtain ⟨l, hl, hc⟩ := btw_mem hx
          exact cellOk_bits (hf.href l hl x hc) (docOk_cell hok hl hc)
        have hall : doc_All (chg i k j m (setC s c) p) (ps i k) (ps j m) s = some true := by
          rw [doc_All_eq hfx hspx hax hbx ho, hbt, List.length_map, decide_eq_true (by omega), Bool.true_and]
          congr 1
          rw [List.all_eq_true]
          intro x hx
          obtain ⟨y, hy, rfl⟩ := List.mem_map.1 hx
          exact (over_ok (hbits y hy) hs hc).2.1
        have hsome : doc_Some (chg i k j m (setC s c) p) (ps i k) (ps j m) (bit_andNot .i64 c s) = some false := by
          rw [doc_Some_eq hfx hspx hax hbx ho, hbt]
          congr 1
          rw [List.any_eq_false]
          intro x hx
          obtain ⟨y, hy, rfl⟩ := List.mem_map.1 hx
          have := (over_ok (hbits y hy) hs hc).2.2
          show ¬ (bit_and .i64 (over y.f_Bits s c) (bit_andNot .i64 c s) != 0) = true
          rw [this]; simp
        obtain ⟨bm, hbm, hbt2⟩ := ref07u_May_cases hfx
        have hcells := ref07u_Cells_eq hfx hax hbx ho hbm
        have hfin : quillworkref05u_May (if bm then btw (chg i k j m (setC s c) p) i k j m else []) = some true := by
          cases bm with
          | false => exact ref05u_May_eq (by simp) (by simp)
          | true =>
            rw [if_pos rfl, ref05u_May_eq (fun x hx => by
              obtain ⟨l, hl, hc⟩ := btw_mem hx
              exact hfx.href l hl x hc) (by
              have h1 := pre_len (chg i k j m (setC s c) p) i k j m (j + 1 - i)
              have h2 := szl_take (chg i k j m (setC s c) p) (i + (j + 1 - i))
              have h3 := hfx.siz
              unfold btw; omega)]
            congr 1
            rw [List.all_eq_true]
            intro x hx
            obtain ⟨l, hl, hc⟩ := btw_mem hx
            exact List.all_eq_true.1 (hbt2 rfl l hl) x hc
        simp only [Option.bind_some, chg_len, doc_May_eq hfx, hox, doc_May_eq hfy, hoy, hall, hsome, hcells, hfin, awake_true]
        rw [styles_l3 hf (f := setC s c) (fun c => ⟨rfl, rfl⟩)]
        simp [awake_true]
theorem DocStyles_law {p : List T_api_Line} {a b : T_api_Pos} {s c : Int} (hp : good_Lapi_Line p) (_ : good_api_Pos a) (_ : good_api_Pos b) (_ : good_i64 s) (_ : good_i64 c) : quillworklaw07u_DocStyles p a b s c = some true := DocStyles_plain hp a b s c
end Go.PM

