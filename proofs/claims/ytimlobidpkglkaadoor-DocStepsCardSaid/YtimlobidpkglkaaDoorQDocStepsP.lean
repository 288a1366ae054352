/-
  The plain law of quillworklaw07.DocSteps: its plain Lean function answers true at every input. No condition but that lengths are at most 2^63 - 1.
-/
import Derived.Test.YtimlobidpkglkaaDoorQDocStepsD
set_option linter.unusedVariables false
set_option linter.unusedSimpArgs false
set_option linter.unusedSectionVars false
set_option linter.unnecessarySimpa false
/- Plain laws: loops; documents that are long. -/
namespace Go.PM
set_option linter.unusedVariables false
set_option linter.unusedSimpArgs false
/-- A loop with an invariant, a measure, and what is so of its outcome. -/
theorem iter_post {σ ρ : Type} {step : σ → Option (σ ⊕ ρ)} {inv : σ → Nat → Prop} {Q : ρ → Prop} (h : ∀ s m, inv s m → (∃ r, step s = some (.inr r) ∧ Q r) ∨ ∃ s' m', step s = some (.inl s') ∧ inv s' m' ∧ m' < m) : ∀ (n : Nat) (s : σ) (m : Nat), inv s m → m < n → ∃ r, iter step n s = some r ∧ Q r
  | 0, s, m, _, hn => by omega
  | n + 1, s, m, hi, hn => by
    unfold iter
    rcases h s m hi with ⟨r, h1, h2⟩ | ⟨s', m', h1, h2, h3⟩
    · rw [h1]; exact ⟨r, rfl, h2⟩
    · rw [h1]; exact iter_post h n s' m' h2 (by omega)
/-- A loop that goes k rounds through known states, and out. -/
theorem iter_to {σ ρ : Type} {step : σ → Option (σ ⊕ ρ)} (f : Nat → σ) {k : Nat} {r : ρ} (h : ∀ i, i < k → step (f i) = some (.inl (f (i + 1)))) (he : step (f k) = some (.inr r)) : ∀ (n i : Nat), i ≤ k → k - i < n → iter step n (f i) = some r
  | 0, i, _, hn => by omega
  | n + 1, i, hi, hn => by
    unfold iter
    by_cases e : i = k
    · subst e; rw [he]
    · rw [h i (by omega)]
      exact iter_to f h he n (i + 1) (by omega) (by omega)
theorem w_id {n : Int} (h1 : -9223372036854775808 ≤ n) (h2 : n ≤ 9223372036854775807) : IntKind.wrap .i64 n = n := by
  rw [IntKind.wrap_i64]; omega
theorem getI_nat' {α : Type} {l : List α} {i : Nat} {x : α} (h : l[i]? = some x) : getI l (i : Int) = some x := by
  unfold getI; rw [if_pos (by omega)]; simpa using h
theorem reach_eq : reachBytes = 140737488351232 := rfl
/-- How much a document holds, as the guard counts it, without the links. -/
def tot (p : List T_api_Line) : Nat := (p.map fun l => l.f_Cells.length + l.f_Lists.length).sum
def szl (p : List T_api_Line) : Nat := (p.map fun l => l.f_Cells.length).sum
theorem sum_take_succ {α : Type} {p : List α} {f : α → Nat} {i : Nat} {x : α} (h : p[i]? = some x) : ((p.take (i + 1)).map f).sum = ((p.take i).map f).sum + f x := by
  rw [List.take_add_one, h]; simp
theorem sum_take_le {α : Type} {p : List α} {f : α → Nat} (i : Nat) : ((p.take i).map f).sum ≤ (p.map f).sum := by
  have h : (p.map f).sum = ((p.take i).map f).sum + ((p.drop i).map f).sum := by
    rw [← List.sum_append, ← List.map_append, List.take_append_drop]
  omega
theorem szl_tot (p : List T_api_Line) : szl p ≤ tot p := by
  unfold szl tot
  induction p with
  | nil => simp
  | cons l p ih => simp only [List.map_cons, List.sum_cons]; omega
theorem long_l4u_post {p : List T_api_Line} {j : Nat} {l : T_api_Line} (hl : p[j]? = some l) (ho : good_api_Line l) {a : Int} (ha : 0 ≤ a) (ha2 : a ≤ 1000000000000000) : ∃ r, iter (fun s => quillworkref07u_Long_l4 p (j : Int) s.1 s.2) fuel (a, 0) = some r ∧ a ≤ r ∧ r ≤ 2000000000000000 := by
  have hc : l.f_Cells.length * 32 ≤ reachBytes := ho.2.2.2.1.1
  rw [reach_eq] at hc
  refine iter_post (inv := fun s m => ∃ k : Nat, s.2 = (k : Int) ∧ k ≤ l.f_Cells.length ∧ m = l.f_Cells.length - k ∧ a ≤ s.1 ∧ s.1 ≤ 2000000000000000) ?_ fuel (a, 0) l.f_Cells.length ⟨0, rfl, by omega, by omega, Int.le_refl _, by omega⟩ (by unfold fuel; omega)
  rintro ⟨b, c⟩ m ⟨k, rfl, h1, rfl, h2, h3⟩
  simp only at h2 h3
  simp only [quillworkref07u_Long_l4, getI_nat' hl, Option.bind_some]
  by_cases hk : k < l.f_Cells.length
  · by_cases hb : b ≤ 20000
    · right
      rw [getI_nat' (List.getElem?_eq_getElem hk)]
      have hh : (l.f_Cells[k]).f_Href.length ≤ reachBytes := (ho.2.2.2.1.2 _ (List.getElem_mem hk)).2.2.1
      rw [reach_eq] at hh
      have hq : (((l.f_Cells[k]).f_Href.length : Int)).tdiv 8 = (((l.f_Cells[k]).f_Href.length : Int) / 8) := by
        rw [Int.tdiv_eq_ediv_of_nonneg (by omega)]
      have e1 : IntKind.wrap .i64 ((((l.f_Cells[k]).f_Href.length : Int) / 8)) = (((l.f_Cells[k]).f_Href.length : Int) / 8) := w_id (by omega) (by omega)
      have e2 : IntKind.wrap .i64 (b + (((l.f_Cells[k]).f_Href.length : Int) / 8)) = b + (((l.f_Cells[k]).f_Href.length : Int) / 8) := w_id (by omega) (by omega)
      have e3 : IntKind.wrap .i64 ((k : Int) + 1) = ((k + 1 : Nat) : Int) := by rw [w_id (by omega) (by omega)]; omega
      refine ⟨(b + (((l.f_Cells[k]).f_Href.length : Int) / 8), ((k + 1 : Nat) : Int)), l.f_Cells.length - (k + 1), ?_, ⟨k + 1, rfl, by omega, rfl, ?_, ?_⟩, by omega⟩
      · simp [hk, hb, quoO, hq, e1, e2, e3]
      · show a ≤ b + _; omega
      · show b + _ ≤ _; omega
    · left
      exact ⟨b, by simp [hk, hb], h2, h3⟩
  · left
    exact ⟨b, by simp [hk], h2, h3⟩
theorem long_cases {p : List T_api_Line} (hp : good_Lapi_Line p) : quillworklaw07u_long p = some true ∨ (quillworklaw07u_long p = some false ∧ p.length ≤ 300 ∧ tot p ≤ 20000) := by
  unfold quillworklaw07u_long quillworkref07u_Long
  by_cases h3 : (p.length : Int) > 300
  · left; simp [h3]
  · rw [if_neg (by simp; omega)]
    obtain ⟨r, hr, hQ⟩ := iter_post (step := fun s : Int × Int => quillworkref07u_Long_l3 p s.1 s.2) (inv := fun s m => ∃ k : Nat, s.2 = (k : Int) ∧ k ≤ p.length ∧ m = p.length - k ∧ (tot (p.take k) : Int) ≤ s.1 ∧ s.1 ≤ 20000) (Q := fun r => r = .inl () ∨ (r = .inr () ∧ tot p ≤ 20000)) (by
      rintro ⟨a, b⟩ m ⟨k, rfl, h1, rfl, h2, h4⟩
      simp only at h2 h4
      simp only [quillworkref07u_Long_l3]
      by_cases hk : k < p.length
      · rw [if_pos (by simp; exact hk)]
        have hl := List.getElem?_eq_getElem hk
        have hg := hp.2 _ (List.getElem_mem hk)
        have hc : (p[k]).f_Cells.length * 32 ≤ reachBytes := hg.2.2.2.1.1
        have hs : (p[k]).f_Lists.length * 8 ≤ reachBytes := hg.2.1.1
        rw [reach_eq] at hc hs
        simp only [getI_nat' hl, Option.bind_some]
        have e1 : IntKind.wrap .i64 (((p[k]).f_Cells.length : Int) + ((p[k]).f_Lists.length : Int)) = (((p[k]).f_Cells.length + (p[k]).f_Lists.length : Nat) : Int) := by rw [w_id (by omega) (by omega)]; omega
        have e2 : IntKind.wrap .i64 (a + (((p[k]).f_Cells.length + (p[k]).f_Lists.length : Nat) : Int)) = a + (((p[k]).f_Cells.length + (p[k]).f_Lists.length : Nat) : Int) := w_id (by omega) (by omega)
        have e3 : IntKind.wrap .i64 ((k : Int) + 1) = ((k + 1 : Nat) : Int) := by rw [w_id (by omega) (by omega)]; omega
        rw [e1, e2]
        obtain ⟨r, hr, h5, h6⟩ := long_l4u_post hl hg (a := a + (((p[k]).f_Cells.length + (p[k]).f_Lists.length : Nat) : Int)) (by omega) (by omega)
        rw [hr]
        simp only [Option.bind_some]
        by_cases hr2 : r > 20000
        · left; exact ⟨_, by rw [if_pos (by simp; exact hr2)], .inl rfl⟩
        · right
          refine ⟨(r, ((k + 1 : Nat) : Int)), p.length - (k + 1), ?_, ⟨k + 1, rfl, by omega, rfl, ?_, ?_⟩, by omega⟩
          · rw [if_neg (by simp; omega), e3]
          · show (tot (p.take (k + 1)) : Int) ≤ r
            have : tot (p.take (k + 1)) = tot (p.take k) + ((p[k]).f_Cells.length + (p[k]).f_Lists.length) := sum_take_succ hl
            omega
          · show r ≤ 20000; omega
      · left
        refine ⟨_, by rw [if_neg (by simp; omega)], .inr ⟨rfl, ?_⟩⟩
        have : p.take k = p := List.take_of_length_le (by omega)
        rw [this] at h2; omega) fuel (0, 0) p.length ⟨0, rfl, by omega, by omega, by simp [tot], by omega⟩ (by have := hp.1; rw [reach_eq] at this; unfold fuel; omega)
    rw [hr]
    rcases hQ with rfl | ⟨rfl, h5⟩
    · left; rfl
    · right; exact ⟨rfl, by omega, h5⟩
end Go.PM

/- Plain laws: places in documents. -/
namespace Go.PM
set_option linter.unusedVariables false
set_option linter.unusedSimpArgs false
/-- A place: the line's number, and how far in it. -/
def At (p : List T_api_Line) (i k : Nat) : Prop := ∃ l, p[i]? = some l ∧ k ≤ l.f_Cells.length
def off (p : List T_api_Line) (i k : Nat) : Nat := szl (p.take i) + i + k
def ps (i k : Nat) : T_api_Pos := ⟨(i : Int), (k : Int)⟩
structure Bd (p : List T_api_Line) : Prop where
  len : p.length ≤ 1000000
  siz : szl p ≤ 1000000
theorem szl_take (p : List T_api_Line) (i : Nat) : szl (p.take i) ≤ szl p := sum_take_le i
theorem szl_succ {p : List T_api_Line} {i : Nat} {l : T_api_Line} (h : p[i]? = some l) : szl (p.take (i + 1)) = szl (p.take i) + l.f_Cells.length := sum_take_succ h
theorem Bd.take {p : List T_api_Line} (h : Bd p) (i : Nat) : Bd (p.take i) := ⟨by have := h.len; simp; omega, Nat.le_trans (szl_take p i) h.siz⟩
theorem Bd.line {p : List T_api_Line} (h : Bd p) {i : Nat} {l : T_api_Line} (hl : p[i]? = some l) : l.f_Cells.length ≤ 1000000 := by
  have := szl_succ hl; have := szl_take p (i + 1); have := h.siz; omega
theorem lt_of_get {α : Type} {p : List α} {i : Nat} {l : α} (h : p[i]? = some l) : i < p.length := (List.getElem?_eq_some_iff.1 h).1
theorem wsucc {n : Nat} (h : n < 9223372036854775807) : IntKind.wrap .i64 ((n : Int) + 1) = ((n + 1 : Nat) : Int) := by rw [w_id (by omega) (by omega)]; omega
theorem doc_Size_eq {p : List T_api_Line} (hb : Bd p) : doc_Size p = some (szl p : Int) := by
  have hl := hb.len
  have := iter_to (step := fun s : Int × Int => doc_Size_l1 p s.1 s.2) (fun i => ((szl (p.take i) : Int), (i : Int))) (k := p.length) (r := (szl p : Int)) (fun i hi => by
    have hg := List.getElem?_eq_getElem hi
    have h1 := szl_succ hg; have h2 := szl_take p (i + 1); have h3 := hb.siz
    simp only [doc_Size_l1, getI_nat' hg, Option.bind_some]
    rw [if_pos (by simp; exact hi), w_id (by omega) (by omega), wsucc (by omega), h1]
    simp) (by
    simp only [doc_Size_l1]
    rw [if_neg (by simp)]
    simp) fuel 0 (by omega) (by unfold fuel; omega)
  unfold doc_Size
  have h0 : ((szl (p.take 0) : Int), ((0 : Nat) : Int)) = ((0 : Int), (0 : Int)) := by simp [szl]
  rw [h0] at this
  rw [this]; rfl
theorem doc_Is_eq {p : List T_api_Line} {i k : Nat} (h : At p i k) : doc_Is p (ps i k) = some true := by
  obtain ⟨l, hl, hk⟩ := h
  have := lt_of_get hl
  unfold doc_Is ps
  simp [getI_nat' hl, this, hk]
theorem cutI_take {α : Type} {p : List α} {i : Nat} (h : i ≤ p.length) : cutI p 0 (i : Int) = some (p.take i) := by
  unfold cutI
  rw [if_pos ⟨by omega, by omega, by omega⟩]; simp
theorem off_bd {p : List T_api_Line} (hb : Bd p) {i k : Nat} (h : At p i k) : off p i k + 1 ≤ szl p + p.length ∧ szl (p.take i) + k ≤ szl p := by
  obtain ⟨l, hl, hk⟩ := h
  have := szl_succ hl; have := szl_take p (i + 1); have := lt_of_get hl
  unfold off; omega
theorem doc_Offset_eq {p : List T_api_Line} (hb : Bd p) {i k : Nat} (h : At p i k) : doc_Offset p (ps i k) = some ((off p i k : Int), 0) := by
  have h1 := off_bd hb h
  unfold doc_Offset
  rw [doc_Is_eq h]
  obtain ⟨l, hl, hk⟩ := h
  have h2 := lt_of_get hl; have h3 := hb.len; have h4 := hb.siz
  simp only [Option.bind_some, ps, cutI_take (Nat.le_of_lt h2), doc_Size_eq (hb.take i)]
  rw [if_neg (by simp), w_id (n := (szl (p.take i) : Int) + (i : Int)) (by omega) (by omega), w_id (by unfold off at h1; omega) (by unfold off at h1; omega)]
  unfold off
  congr 2 <;> omega
theorem doc_Clamp_eq {p : List T_api_Line} {i k : Nat} (h : At p i k) : doc_Clamp p (ps i k) = some (ps i k) := by
  obtain ⟨l, hl, hk⟩ := h
  have h2 := lt_of_get hl
  unfold doc_Clamp ps
  simp only
  rw [if_neg (by simp; rintro rfl; simp at h2)]
  simp only [getI_nat' hl, Option.bind_some]
  rw [if_neg (by simp), if_neg (by simp; omega), if_neg (show ¬ (0 : Int) > (k : Int) by omega), if_neg (by omega)]
theorem at_end {p : List T_api_Line} (hp : p ≠ []) : ∃ l, p[p.length - 1]? = some l ∧ At p (p.length - 1) l.f_Cells.length ∧ off p (p.length - 1) l.f_Cells.length + 1 = szl p + p.length := by
  have hlen : 0 < p.length := List.length_pos_iff.2 hp
  have hg := List.getElem?_eq_getElem (show p.length - 1 < p.length by omega)
  refine ⟨_, hg, ⟨_, hg, Nat.le_refl _⟩, ?_⟩
  have := szl_succ hg
  rw [show p.length - 1 + 1 = p.length by omega, List.take_length] at this
  unfold off; omega
theorem doc_End_eq {p : List T_api_Line} (hb : Bd p) {l : T_api_Line} (hl : p[p.length - 1]? = some l) : doc_End p = some (ps (p.length - 1) l.f_Cells.length) := by
  have h2 := lt_of_get hl; have h3 := hb.len
  have e : IntKind.wrap .i64 ((p.length : Int) - 1) = ((p.length - 1 : Nat) : Int) := by rw [w_id (by omega) (by omega)]; omega
  unfold doc_End
  rw [if_neg (by simp; intro h; subst h; simp at h2), e, getI_nat' hl]
  rfl
theorem doc_At_eq {p : List T_api_Line} (hb : Bd p) {i k : Nat} (h : At p i k) : doc_At p (off p i k : Int) = some (ps i k, 0) := by
  have h1 := off_bd hb h
  obtain ⟨l, hl, hk⟩ := h
  have h2 := lt_of_get hl; have h3 := hb.len; have h4 := hb.siz
  have mono : ∀ j, j ≤ i → szl (p.take j) ≤ szl (p.take i) := fun j hj => by
    have : p.take j = (p.take i).take j := by rw [List.take_take, Nat.min_eq_left hj]
    rw [this]; exact szl_take _ _
  have := iter_to (step := fun s : Int × Int => doc_At_l1 p s.1 s.2) (fun j => ((off p i k : Int) - (szl (p.take j) : Int) - (j : Int), (j : Int))) (k := i) (r := .inr ((i : Int), (k : Int))) (fun j hj => by
    have hj2 : j < p.length := by omega
    have hg := List.getElem?_eq_getElem hj2
    have h5 := szl_succ hg
    have h6 := mono (j + 1) (by omega)
    simp only [doc_At_l1, getI_nat' hg, Option.bind_some]
    rw [if_pos (by simp; exact hj2), if_neg (by simp; unfold off; omega), if_neg (by simp; unfold off; omega), w_id (n := ((p[j]).f_Cells.length : Int) + 1) (by omega) (by have := hb.line hg; omega), w_id (by unfold off at h1 ⊢; omega) (by unfold off at h1 ⊢; omega), wsucc (by omega), h5]
    congr 3
    omega) (by
    simp only [doc_At_l1, getI_nat' hl, Option.bind_some]
    rw [if_pos (by simp; exact h2), if_neg (by simp; unfold off; omega), if_pos (by simp; unfold off; omega)]
    congr 3
    congr 1; unfold off; omega) fuel 0 (by omega) (by unfold fuel; omega)
  unfold doc_At
  have h0 : ((off p i k : Int) - (szl (p.take 0) : Int) - ((0 : Nat) : Int), ((0 : Nat) : Int)) = ((off p i k : Int), (0 : Int)) := by simp [szl]
  rw [h0] at this
  rw [this]; rfl
theorem at_exists {p : List T_api_Line} {n : Nat} (h : n + 1 ≤ szl p + p.length) : ∃ i k, At p i k ∧ n = off p i k := by
  induction p generalizing n with
  | nil => simp [szl] at h
  | cons l p ih =>
    have hs : szl (l :: p) = l.f_Cells.length + szl p := by simp [szl]
    rw [hs] at h
    simp only [List.length_cons] at h
    by_cases hn : n ≤ l.f_Cells.length
    · exact ⟨0, n, ⟨l, rfl, hn⟩, by simp [off, szl]⟩
    · obtain ⟨i, k, h1, h2⟩ := ih (n := n - (l.f_Cells.length + 1)) (by omega)
      refine ⟨i + 1, k, ?_, ?_⟩
      · obtain ⟨m, h3, h4⟩ := h1
        exact ⟨m, by simpa using h3, h4⟩
      · have : szl ((l :: p).take (i + 1)) = l.f_Cells.length + szl (p.take i) := by simp [szl]
        unfold off at h2 ⊢
        rw [this]; omega
theorem off_lt {p : List T_api_Line} {i k j m : Nat} (h : At p i k) (hij : i < j) : off p i k < off p j m := by
  obtain ⟨l, hl, hk⟩ := h
  have h5 := szl_succ hl
  have : p.take (i + 1) = (p.take j).take (i + 1) := by rw [List.take_take, Nat.min_eq_left hij]
  have h6 : szl (p.take (i + 1)) ≤ szl (p.take j) := by rw [this]; exact szl_take _ _
  unfold off; omega
theorem off_inj {p : List T_api_Line} {i k j m : Nat} (h : At p i k) (h' : At p j m) (e : off p i k = off p j m) : i = j ∧ k = m := by
  rcases Nat.lt_trichotomy i j with h1 | h1 | h1
  · have := off_lt (m := m) h h1; omega
  · subst h1; unfold off at e; omega
  · have := off_lt (m := k) h' h1; omega
theorem cmp_Compare_eq (a b : Int) : cmp_Compare_int a b = some (if a < b then -1 else if a > b then 1 else 0) := by
  unfold cmp_Compare_int cmp_isNaN_int
  by_cases h1 : a < b
  · simp [h1]
  · by_cases h2 : a > b <;> simp [h1, h2]
theorem cmp_Or2 (a b : Int) : cmp_Or_int [a, b] = some (if a = 0 then b else a) := by
  unfold cmp_Or_int
  have g0 : getI [a, b] ((0 : Nat) : Int) = some a := rfl
  have g1 : getI [a, b] ((1 : Nat) : Int) = some b := rfl
  by_cases ha : a = 0
  · by_cases hb : b = 0
    · have := iter_to (step := fun s : Int => cmp_Or_int_l1 [a, b] s) (fun i => (i : Int)) (k := 2) (r := .inr ()) (fun i hi => by
        match i, hi with
        | 0, _ => subst ha; rfl
        | 1, _ => subst hb; rfl) rfl fuel 0 (by omega) (by unfold fuel; omega)
      rw [show ((0 : Nat) : Int) = 0 from rfl] at this
      rw [this, if_pos ha, hb]; rfl
    · have := iter_to (step := fun s : Int => cmp_Or_int_l1 [a, b] s) (fun i => (i : Int)) (k := 1) (r := .inl b) (fun i hi => by
        match i, hi with
        | 0, _ => subst ha; rfl) (by
        simp only [cmp_Or_int_l1, g1, Option.bind_some]
        rw [if_pos (by simp), if_pos (by simpa using hb)]) fuel 0 (by omega) (by unfold fuel; omega)
      rw [show ((0 : Nat) : Int) = 0 from rfl] at this
      rw [this, if_pos ha]; rfl
  · have := iter_to (step := fun s : Int => cmp_Or_int_l1 [a, b] s) (fun i => (i : Int)) (k := 0) (r := .inl a) (fun i hi => by omega) (by
      simp only [cmp_Or_int_l1, g0, Option.bind_some]
      rw [if_pos (by simp), if_pos (by simpa using ha)]) fuel 0 (by omega) (by unfold fuel; omega)
    rw [show ((0 : Nat) : Int) = 0 from rfl] at this
    rw [this, if_neg ha]; rfl
theorem doc_Cmp_eq (a b : T_api_Pos) : doc_Cmp a b = some (if a.f_Line < b.f_Line then -1 else if a.f_Line > b.f_Line then 1 else if a.f_At < b.f_At then -1 else if a.f_At > b.f_At then 1 else 0) := by
  unfold doc_Cmp
  simp only [cmp_Compare_eq, cmp_Or2, Option.bind_some]
  congr 1
  by_cases h1 : a.f_Line < b.f_Line
  · simp [h1]
  · by_cases h2 : a.f_Line > b.f_Line <;> simp [h1, h2]
theorem doc_Cmp_off {p : List T_api_Line} {i k j m : Nat} (h : At p i k) (h' : At p j m) : doc_Cmp (ps i k) (ps j m) = some (if off p i k < off p j m then -1 else if off p i k > off p j m then 1 else 0) := by
  rw [doc_Cmp_eq]
  show some (if (i : Int) < (j : Int) then (-1 : Int) else if (i : Int) > (j : Int) then 1 else if (k : Int) < (m : Int) then -1 else if (k : Int) > (m : Int) then 1 else 0) = _
  rcases Nat.lt_trichotomy i j with h1 | h1 | h1
  · have := off_lt (m := m) h h1
    rw [if_pos (by omega), if_pos this]
  · subst h1
    rw [if_neg (by omega), if_neg (by omega)]
    unfold off
    by_cases h2 : k < m
    · rw [if_pos (by omega), if_pos (by omega)]
    · rw [if_neg (show ¬ (k : Int) < (m : Int) by omega), if_neg (show ¬ szl (List.take i p) + i + k < szl (List.take i p) + i + m by omega)]
      by_cases h3 : k > m
      · rw [if_pos (by omega), if_pos (by omega)]
      · rw [if_neg (by omega), if_neg (by omega)]
  · have := off_lt (m := k) h' h1
    rw [if_neg (by omega), if_pos (by omega), if_neg (by omega), if_pos (by omega)]
/-- A step from a place. -/
theorem doc_Step_eq {p : List T_api_Line} (hb : Bd p) {i k : Nat} (h : At p i k) {by_ : Int} : doc_Step p (ps i k) by_ = 
    if by_ < -(off p i k : Int) then some (ps 0 0, false) else if by_ > (szl p : Int) + p.length - 1 - off p i k then (doc_End p).bind fun e => some (e, false) else (doc_At p ((off p i k : Int) + by_)).bind fun q => some (q.1, true) := by
  have h1 := off_bd hb h; have h3 := hb.len; have h4 := hb.siz
  have hp : p ≠ [] := by
    rintro rfl; obtain ⟨l, hl, _⟩ := h; simp at hl
  obtain ⟨l, hl, he, hlast⟩ := at_end hp
  unfold doc_Step
  rw [if_neg (by simp; exact hp), doc_Clamp_eq h]
  simp only [Option.bind_some, doc_Offset_eq hb h, doc_End_eq hb hl, doc_Offset_eq hb he]
  rw [w_id (n := 0 - (off p i k : Int)) (by omega) (by omega), w_id (n := (off p (p.length - 1) l.f_Cells.length : Int) - (off p i k : Int)) (by omega) (by omega)]
  by_cases c1 : by_ < -(off p i k : Int)
  · rw [if_pos (by simp; omega), if_pos c1]; rfl
  · rw [if_neg (by simp; omega), if_neg c1]
    by_cases c2 : by_ > (szl p : Int) + p.length - 1 - off p i k
    · rw [if_pos (by simp; omega), if_pos c2]
    · rw [if_neg (by simp; omega), if_neg c2, w_id (by omega) (by omega)]
end Go.PM

namespace Go.PM
set_option maxRecDepth 100000
theorem awake_true : quillworklaw07u_awake = some true := by kernel_rfl
end Go.PM

/- Plain law of DocSteps. -/
namespace Go.PM
set_option linter.unusedVariables false
set_option linter.unusedSimpArgs false
theorem bit_mask (x : Int) : ∃ n : Nat, bit_and .i64 x 16777215 = (n : Int) := by
  unfold bit_and
  have h : (BitVec.ofInt (IntKind.bits .i64) x &&& BitVec.ofInt (IntKind.bits .i64) 16777215).toNat ≤ 16777215 := by
    rw [BitVec.toNat_and]
    exact Nat.le_trans Nat.and_le_right (by decide)
  refine ⟨_, w_id (by omega) (by omega)⟩
theorem remO_eq {x : Nat} {m : Nat} : remO .i64 (x : Int) ((m + 1 : Nat) : Int) = some ((x % (m + 1) : Nat) : Int) := by
  unfold remO
  rw [if_neg (by omega)]
  congr 1
theorem ps_eq {i k : Nat} : ((((ps i k).f_Line : Int) == (ps i k).f_Line) && (((ps i k).f_At : Int) == (ps i k).f_At && true)) = true := by simp
theorem DocSteps_plain {p : List T_api_Line} {n m by_ : Int} (hp : good_Lapi_Line p) (hn : good_i64 n) (hm : good_i64 m) (hby : good_i64 by_) : quillworklaw07u_DocSteps p n m by_ = some true := by
  unfold quillworklaw07u_DocSteps
  rw [awake_true]
  rcases long_cases hp with hl | ⟨hl, hlen, htot⟩
  · rw [hl]; rfl
  rw [hl]
  simp only [Option.bind_some]
  by_cases h0 : p = []
  · subst h0; rfl
  have hlen0 : 0 < p.length := List.length_pos_iff.2 h0
  rw [if_neg (by simp)]
  simp only [Option.bind_some]
  rw [if_neg (by simp; exact h0)]
  have hb : Bd p := ⟨by omega, by have := szl_tot p; omega⟩
  obtain ⟨l, hgl, hAl, hol⟩ := at_end h0
  simp only [doc_End_eq hb hgl, doc_Offset_eq hb hAl, doc_Size_eq hb, Option.bind_some, bne_self_eq_false, Bool.false_eq_true, if_false]
  have hsz := hb.siz; have hln := hb.len
  have e1 : IntKind.wrap .i64 (IntKind.wrap .i64 ((szl p : Int) + (p.length : Int)) - 1) = (off p (p.length - 1) l.f_Cells.length : Int) := by
    rw [w_id (n := (szl p : Int) + (p.length : Int)) (by omega) (by omega), w_id (by omega) (by omega)]; omega
  have e2 : IntKind.wrap .i64 ((off p (p.length - 1) l.f_Cells.length : Int) + 1) = ((off p (p.length - 1) l.f_Cells.length + 1 : Nat) : Int) := wsucc (by omega)
  obtain ⟨n', hn'⟩ := bit_mask n
  obtain ⟨m', hm'⟩ := bit_mask m
  have hn2 : n' % (off p (p.length - 1) l.f_Cells.length + 1) < off p (p.length - 1) l.f_Cells.length + 1 := Nat.mod_lt _ (by omega)
  have hm2 : m' % (off p (p.length - 1) l.f_Cells.length + 1) < off p (p.length - 1) l.f_Cells.length + 1 := Nat.mod_lt _ (by omega)
  rw [e1, e2, hn', hm', remO_eq, remO_eq]
  obtain ⟨i, k, hA, hA2⟩ := at_exists (p := p) (n := n' % (off p (p.length - 1) l.f_Cells.length + 1)) (by omega)
  obtain ⟨j, q, hB, hB2⟩ := at_exists (p := p) (n := m' % (off p (p.length - 1) l.f_Cells.length + 1)) (by omega)
  rw [hA2, hB2]
  rw [hA2] at hn2; rw [hB2] at hm2
  have ho1 := off_bd hb hA; have ho2 := off_bd hb hB
  simp only [doc_At_eq hb hA, doc_At_eq hb hB, doc_Offset_eq hb hA, doc_Is_eq hA, doc_Clamp_eq hA, Option.bind_some, doc_Cmp_off hA hB, ps_eq]
  have e3 : IntKind.wrap .i64 ((off p j q : Int) - (off p i k : Int)) = (off p j q : Int) - (off p i k : Int) := w_id (by omega) (by omega)
  rw [e3]
  have s1 : doc_Step p (ps i k) ((off p j q : Int) - (off p i k : Int)) = some (ps j q, true) := by
    rw [doc_Step_eq hb hA, if_neg (by omega), if_neg (by omega), show (off p i k : Int) + ((off p j q : Int) - (off p i k : Int)) = (off p j q : Int) by omega, doc_At_eq hb hB]; rfl
  rw [s1]
  simp only [Option.bind_some, ps_eq]
  -- the order
  have hcmp : ∀ (f : Bool → Option Bool), ((if decide ((off p i k : Int) < (off p j q : Int)) then (if ((if off p i k < off p j q then (-1 : Int) else if off p i k > off p j q then 1 else 0) : Int) != (-1) then (some true) else (if decide ((off p i k : Int) > (off p j q : Int)) then (if ((if off p i k < off p j q then (-1 : Int) else if off p i k > off p j q then 1 else 0) : Int) != 1 then (some true) else (if (off p i k : Int) == (off p j q : Int) then (some (((if off p i k < off p j q then (-1 : Int) else if off p i k > off p j q then 1 else 0) : Int) != 0)) else (some false))) else (if (off p i k : Int) == (off p j q : Int) then (some (((if off p i k < off p j q then (-1 : Int) else if off p i k > off p j q then 1 else 0) : Int) != 0)) else (some false)))) else (if decide ((off p i k : Int) > (off p j q : Int)) then (if ((if off p i k < off p j q then (-1 : Int) else if off p i k > off p j q then 1 else 0) : Int) != 1 then (some true) else (if (off p i k : Int) == (off p j q : Int) then (some (((if off p i k < off p j q then (-1 : Int) else if off p i k > off p j q then 1 else 0) : Int) != 0)) else (some false))) else (if (off p i k : Int) == (off p j q : Int) then (some (((if off p i k < off p j q then (-1 : Int) else if off p i k > off p j q then 1 else 0) : Int) != 0)) else (some false))) : Option (Bool)).bind f) = f false := by
    intro f
    rcases Nat.lt_trichotomy (off p i k) (off p j q) with h | h | h
    · have a1 : ¬ off p j q < off p i k := by omega
      have a2 : ¬ (off p i k : Int) = (off p j q : Int) := by omega
      simp [h, a1, a2]
    · rw [h]; simp
    · have a1 : ¬ off p i k < off p j q := by omega
      have a2 : ¬ (off p i k : Int) = (off p j q : Int) := by omega
      simp [h, a1, a2]
  simp only [bne_self_eq_false, Bool.false_eq_true, if_false, if_true, Bool.not_true, Bool.not_false, beq_self_eq_true, Option.bind_some, hcmp]
  -- so many steps on
  by_cases c1 : by_ < -(off p i k : Int)
  · rw [doc_Step_eq hb hA, if_pos c1]
    have : by_ < 0 := by omega
    simp [this, ps]
  · by_cases c2 : by_ > (szl p : Int) + p.length - 1 - off p i k
    · rw [doc_Step_eq hb hA, if_neg c1, if_pos c2, doc_End_eq hb hgl]
      have a1 : ¬ by_ < 0 := by omega
      have a2 : 0 < by_ := by omega
      simp [a1, a2, ps]
    · obtain ⟨r, t, hC, hC2⟩ := at_exists (p := p) (n := ((off p i k : Int) + by_).toNat) (by omega)
      have e5 : (off p i k : Int) + by_ = (off p r t : Int) := by omega
      have ho3 := off_bd hb hC
      have e6 : IntKind.wrap .i64 (0 - by_) = -by_ := by rw [w_id (by omega) (by omega)]; omega
      have s2 : doc_Step p (ps r t) (-by_) = some (ps i k, true) := by
        rw [doc_Step_eq hb hC, if_neg (by omega), if_neg (by omega), show (off p r t : Int) + -by_ = (off p i k : Int) by omega, doc_At_eq hb hA]; rfl
      rw [doc_Step_eq hb hA, if_neg c1, if_neg c2, e5, doc_At_eq hb hC, e6]
      simp [s2]
end Go.PM

