/-
  An abstract semantics of the programs of the model: what a piece of Go code makes of abstract values, proved sound over any program. Part 4 of 4. No condition.
-/
import Derived.Test.YtimlobidpkglkaaGreatDoorQDocPartsM3
import Derived.Deep.Slices
import Derived.ChangeArms
import Derived.ChangeShapes
import Derived.WideShapes
import Derived.Carry
import Derived.ChangeSame
import Derived.ChangeVars
import Derived.OpenShut
set_option linter.unusedVariables false
set_option linter.unusedSimpArgs false
set_option linter.unusedSectionVars false
set_option linter.unnecessarySimpa false
namespace Go.PM
variable [Tbl]
set_option linter.unusedSectionVars false
open Go.RowKit Go.ChangeShapes Go.WideShapes Go.Deep
set_option linter.unusedVariables false

def wOk (l : List Nat) : Prop := ∀ x ∈ l, x ≤ reachBytes
theorem wOk.left {l m : List Nat} (h : wOk (l ++ m)) : wOk l := fun x hx => h x (List.mem_append_left _ hx)
theorem wOk.right {l m : List Nat} (h : wOk (l ++ m)) : wOk m := fun x hx => h x (List.mem_append_right _ hx)
theorem wOk.mem {H : Type} {P : Program} {e : TypeId} : ∀ {l : List (DataW H)}, wOk (DataW.weightsAll P e l) → ∀ d ∈ l, wOk (d.weights P e)
  | [], _, d, hd => by cases hd
  | x :: l, h, d, hd => by
    have h' : wOk (x.weights P e ++ DataW.weightsAll P e l) := by simpa [DataW.weightsAll] using h
    rcases List.mem_cons.1 hd with rfl | hd
    · exact h'.left
    · exact wOk.mem h'.right d hd
structure Dn (P : Program) (t : TypeId) {α : Type} (n : Nat) (f : α → List DV) (good : α → Prop) : Prop where
  sz : P.cellsOf t = n
  len : ∀ x, (f x).length = n
  down : ∀ {H : Type} (enc : TypeId × Value → H) (w : World) (base : Nat) (spare : Nat → Bool) (held : Bool) (fuel : Nat) (cs : List Value) (y : DataW H × List MemPlace), DataW.trod enc P w base spare held fuel t cs = some y → wOk (y.1.weights P t) →
    ∃ x, good x ∧ cs.length = n ∧ ∀ (N : Nat → Prop) (j : Nat) (d : DV), (f x)[j]? = some d → VR w N (fun _ => True) d (cs.getD j undef)

section
variable {P : Program} {t : TypeId}
theorem dn_int {k : IntKind} (ht : P.underlying t = some (.int k)) (hc : P.cellsOf t = 1) : Dn P t 1 (fun n : Int => [.int k n]) (fun n => (Lit.int k n).wf = true) where
  sz := hc
  len _ := rfl
  down enc w base spare held fuel cs y h hwo := by
    obtain ⟨n, rfl, _, hw⟩ := DataW.trod_int ht h
    refine ⟨n, hw, rfl, fun N j d hd => ?_⟩
    match j, hd with
    | 0, hd => simp at hd; subst hd; exact .int _ _
theorem dn_str (ht : P.underlying t = some .string) (hc : P.cellsOf t = 1) : Dn P t 1 (fun s : List UInt8 => [.str (bs s)]) (fun s => s.length ≤ reachBytes) where
  sz := hc
  len _ := rfl
  down enc w base spare held fuel cs y h hwo := by
    obtain ⟨s, rfl, rfl, hs⟩ := DataW.trod_string ht h
    refine ⟨s.data.toList, by simpa [DataW.weights, wOk] using hwo, rfl, fun N j d hd => ?_⟩
    match j, hd with
    | 0, hd => simp at hd; subst hd; exact .str _
theorem dn_slice {e : TypeId} {α : Type} [Inhabited α] {n : Nat} {f : α → List DV} {good : α → Prop} (he : Dn P e n f good) (hn : 0 < n) (ht : P.underlying t = some (.slice e)) (hc : P.cellsOf t = 1) :
    Dn P t 1 (fun l : List α => [.sl false (l.map f)]) (fun l => l.length * P.bytesOf e ≤ reachBytes ∧ ∀ x ∈ l, good x) where
  sz := hc
  len _ := rfl
  down enc w base spare held fuel cs y h hwo := by
    rcases open_slice ht h with ⟨rfl, _⟩ | ⟨a, len, cap, m, k, D, Pl, rfl, hb, hl, hm, hmm, rfl, hx⟩
    · refine ⟨[], ⟨by simp, fun x hx => by cases hx⟩, rfl, fun N j d hd => ?_⟩
      match j, hd with
      | 0, hd => simp at hd; subst hd; exact .empty _ _ _
    · have hlm : len ≤ m := by rw [hmm]; split <;> omega
      have hwo' : wOk ((len + (m - len)) * P.bytesOf e :: (DataW.weightsAll P e ((List.range len).map D) ++ DataW.weightsAll P e ((List.range (m - len)).map fun j => D (len + j)))) := by simpa [DataW.weights, ht] using hwo
      have hw1 : (len + (m - len)) * P.bytesOf e ≤ reachBytes := hwo' _ (List.mem_cons_self ..)
      have hw2 : wOk (DataW.weightsAll P e ((List.range len).map D)) := fun x hx => hwo' x (List.mem_cons_of_mem _ (List.mem_append_left _ hx))
      obtain ⟨X, hX⟩ := choose_lt (α := α × List Value) (n := len) (p := fun i x => good x.1 ∧ w.cells? base (a.add (i * P.cellsOf e)) (P.cellsOf e) = some x.2 ∧ x.2.length = n ∧ ∀ (N : Nat → Prop) (j : Nat) (d : DV), (f x.1)[j]? = some d → VR w N (fun _ => True) d (x.2.getD j undef)) (fun i hi => by
        obtain ⟨cs', h1, h2⟩ := hx i (by omega)
        obtain ⟨x, h3, h4, h5⟩ := he.down enc w base spare held k cs' _ h2 (hw2.mem _ (List.mem_map.2 ⟨i, List.mem_range.2 hi, rfl⟩))
        exact ⟨(x, cs'), h3, h1, h4, h5⟩)
      let l := (List.range len).map fun i => (X i).1
      have hll : l.length = len := by simp [l]
      have hget : ∀ i x, l[i]? = some x → i < len ∧ x = (X i).1 := by
        intro i x h
        have hi : i < len := by rw [← hll]; exact (List.getElem?_eq_some_iff.1 h).1
        refine ⟨hi, ?_⟩
        simp [l, hi] at h
        exact h.symm
      refine ⟨l, ⟨by rw [hll]; exact Nat.le_trans (Nat.mul_le_mul_right _ (Nat.le_add_right _ _)) hw1, fun x hx => ?_⟩, rfl, fun N j d hd => ?_⟩
      · obtain ⟨i, hi⟩ := List.getElem?_of_mem hx
        obtain ⟨h1, rfl⟩ := hget i x hi
        exact (hX i h1).1
      · match j, hd with
        | 0, hd =>
          simp only [List.getElem?_cons_zero, Option.some.injEq] at hd; subst hd
          show VR w N (fun _ => True) (.sl false (l.map f)) (.slice (some a) len cap)
          by_cases h0 : len = 0
          · have hl0 : l = [] := List.eq_nil_of_length_eq_zero (by omega)
            rw [hl0, h0]; exact .empty _ _ _
          have hlt : a.block < w.heap.size := by
            obtain ⟨_, h1, h2, _⟩ := hX 0 (by omega)
            obtain ⟨_, _, h3⟩ := World.cells?_some h1
            have h4 := h3 0 (by rw [he.sz]; omega)
            rw [List.getElem?_eq_getElem (by omega)] at h4
            unfold World.cell? at h4
            rw [addr_add_block, addr_add_block] at h4
            rcases Nat.lt_or_ge a.block w.heap.size with h5 | h5
            · exact h5
            · rw [Array.getElem?_eq_none h5] at h4; cases h4
          have := VR.sl (w := w) (B := N) (ok := fun _ => True) false (l.map f) a cap n (fun i j => (X i).2.getD j undef) (by simp [hll]; exact hl) trivial hlt (fun h => by cases h)
            (fun i x h => by
              rw [List.getElem?_map] at h
              cases hq : l[i]? with
              | none => rw [hq] at h; cases h
              | some z => rw [hq] at h; simp at h; subst h; exact he.len z)
            (fun i x j d h1 h2 => by
              rw [List.getElem?_map] at h1
              cases hq : l[i]? with
              | none => rw [hq] at h1; cases h1
              | some z =>
                rw [hq] at h1; simp at h1; subst h1
                obtain ⟨h3, rfl⟩ := hget i z hq
                obtain ⟨_, h4, h5, _⟩ := hX i h3
                have hj : j < n := by rw [← he.len (X i).1]; exact (List.getElem?_eq_some_iff.1 h2).1
                obtain ⟨_, _, h6⟩ := World.cells?_some h4
                have h7 := h6 j (by rw [he.sz]; exact hj)
                rw [add_add, he.sz] at h7
                rw [h7, List.getD_eq_getElem?_getD, List.getElem?_eq_getElem (by omega)]; rfl)
            (fun i x j d h1 h2 => by
              rw [List.getElem?_map] at h1
              cases hq : l[i]? with
              | none => rw [hq] at h1; cases h1
              | some z =>
                rw [hq] at h1; simp at h1; subst h1
                obtain ⟨h3, rfl⟩ := hget i z hq
                exact (hX i h3).2.2.2 N j d h2)
          rw [List.length_map, hll] at this
          exact this
end

def fldsT (P : Program) (t : TypeId) : Option (List (TypeId × Nat)) := match P.underlying t with | some (.struct fs) => some (fs.toList.map fun f => (f.type, f.offset)) | _ => none
structure DnF (P : Program) (fs : List (TypeId × Nat)) (o : Nat) {α : Type} (n : Nat) (f : α → List DV) (good : α → Prop) : Prop where
  len : ∀ x, (f x).length = n
  down : ∀ {H : Type} (enc : TypeId × Value → H) (w : World) (base : Nat) (spare : Nat → Bool) (held : Bool) (fuel : Nat) (cs : List Value), (∀ (i : Nat) (g : TypeId × Nat), fs[i]? = some g → ∃ y, DataW.trod enc P w base spare held fuel g.1 ((cs.drop g.2).take (P.cellsOf g.1)) = some y ∧ wOk (y.1.weights P g.1)) →
    ∃ x, good x ∧ ∀ (N : Nat → Prop) (j : Nat) (d : DV), (f x)[j]? = some d → VR w N (fun _ => True) d (cs.getD (o + j) undef)
section
variable {P : Program} {t : TypeId}
theorem dnf_nil {o : Nat} : DnF P [] o 0 (fun _ : Unit => []) (fun _ => True) where
  len _ := rfl
  down enc w base spare held fuel cs h := ⟨(), trivial, fun N j d hd => by simp at hd⟩
theorem dnf_cons {fs : List (TypeId × Nat)} {o n m : Nat} {α β : Type} {f : α → List DV} {g : β → List DV} {good : α → Prop} {good' : β → Prop} (h : Dn P t n f good) (hr : DnF P fs (o + n) m g good') :
    DnF P ((t, o) :: fs) o (n + m) (fun x : α × β => f x.1 ++ g x.2) (fun x => good x.1 ∧ good' x.2) where
  len x := by rw [List.length_append, h.len, hr.len]
  down enc w base spare held fuel cs hh := by
    obtain ⟨y, hy, hy2⟩ := hh 0 (t, o) rfl
    obtain ⟨x, h1, h2, h3⟩ := h.down enc w base spare held fuel _ y hy hy2
    obtain ⟨z, h4, h5⟩ := hr.down enc w base spare held fuel cs (fun i g hg => hh (i + 1) g hg)
    refine ⟨(x, z), ⟨h1, h4⟩, fun N j d hd => ?_⟩
    have hl : (f (x, z).1).length = n := h.len x
    by_cases hj : j < n
    · rw [List.getElem?_append_left (by omega)] at hd
      have h6 := h3 N j d hd
      rw [h.sz, List.getD_eq_getElem?_getD, List.getElem?_take, if_pos hj, List.getElem?_drop, ← List.getD_eq_getElem?_getD] at h6
      exact h6
    · rw [List.getElem?_append_right (by omega), hl] at hd
      have h6 := h5 N (j - n) d hd
      rw [show o + n + (j - n) = o + j by omega] at h6
      exact h6
theorem wOk.each {H : Type} : ∀ {ts : List TypeId} {l : List (DataW H)}, wOk (DataW.weightsEach P ts l) → ∀ (i : Nat) (u : TypeId) (d : DataW H), ts[i]? = some u → l[i]? = some d → wOk (d.weights P u)
  | [], _, _, i, u, d, h1, _ => by simp at h1
  | _ :: _, [], _, i, u, d, _, h2 => by simp at h2
  | t :: ts, x :: l, h, i, u, d, h1, h2 => by
    have h' : wOk (x.weights P t ++ DataW.weightsEach P ts l) := by simpa [DataW.weightsEach] using h
    match i, h1, h2 with
    | 0, h1, h2 => simp at h1 h2; subst h1; subst h2; exact h'.left
    | i + 1, h1, h2 => exact wOk.each h'.right i u d (by simpa using h1) (by simpa using h2)
theorem dn_struct {fs : List (TypeId × Nat)} {n : Nat} {α γ : Type} {f : α → List DV} {good : α → Prop} (mk : α → γ) {f' : γ → List DV} {good' : γ → Prop} (hs : fldsT P t = some fs) (hc : P.cellsOf t = n) (h : DnF P fs 0 n f good)
    (he : ∀ x, f' (mk x) = f x) (hl : ∀ y, (f' y).length = n) (hg : ∀ x, good x → good' (mk x)) : Dn P t n f' good' where
  sz := hc
  len := hl
  down enc w base spare held fuel cs y hy hwo := by
    unfold fldsT at hs
    split at hs
    · rename_i gs ht
      obtain rfl : gs.toList.map (fun f => (f.type, f.offset)) = fs := by simpa using hs
      obtain ⟨xs, k, rfl, rfl, h1, h2, h3⟩ := DataW.trod_struct ht hy
      have hwo' : wOk (DataW.weightsEach P (gs.toList.map (·.type)) (xs.map (·.1))) := by simpa [DataW.weights, ht] using hwo
      obtain ⟨x, h4, h5⟩ := h.down enc w base spare held k cs (fun i g hg => by
        rw [List.getElem?_map] at hg
        cases hq : gs.toList[i]? with
        | none => rw [hq] at hg; cases hg
        | some fl =>
          rw [hq] at hg
          obtain rfl : (fl.type, fl.offset) = g := by simpa using hg
          have hi : gs[i]? = some fl := by simpa using hq
          have hlt : i < gs.size := (Array.getElem?_eq_some_iff.1 hi).1
          refine ⟨xs[i], ?_, hwo'.each i fl.type xs[i].1 (by rw [List.getElem?_map, hq]; rfl) (by rw [List.getElem?_map, List.getElem?_eq_getElem (by omega)]; rfl)⟩
          have h6 := h3 i fl hi
          rw [List.getElem?_eq_getElem (by omega)] at h6
          exact h6)
      refine ⟨mk x, hg x h4, by omega, fun N j d hd => ?_⟩
      rw [he] at hd
      have h6 := h5 N j d hd
      rw [Nat.zero_add] at h6
      exact h6
    · cases hs
end

structure DnV (P : Program) (t : TypeId) {α : Type} (e : α → DV) (good : α → Prop) : Prop where
  down : ∀ {H : Type} (enc : TypeId × Value → H) (w : World) (base b0 : Nat) (spare : Nat → Bool) (held : Bool) (v : Value) (d : DataW H) (ps : List MemPlace), Value.okWide P w .any b0 t v → DataW.Trod enc P w base spare held t v d ps → wOk (d.weights P t) →
    ∃ x, good x ∧ ∀ N : Nat → Prop, VR w N (fun _ => True) (e x) v
structure DnA (P : Program) (ts : List TypeId) {α : Type} (e : α → List DV) (good : α → Prop) : Prop where
  down : ∀ {H : Type} (enc : TypeId × Value → H) (w : World) (base b0 : Nat) (spare : Nat → Bool) (held : Bool) (vs : List Value) (ds : List (DataW H)) (ps : List MemPlace), (∀ (j : Nat) (t : TypeId) (v : Value), ts[j]? = some t → vs[j]? = some v → Value.okWide P w .any b0 t v) → DataW.TrodAll enc P w base spare held ts vs ds ps → wOk (DataW.weightsEach P ts ds) →
    ∃ x, good x ∧ vs.length = (e x).length ∧ ∀ (N : Nat → Prop) (i : Nat) (d : DV), (e x)[i]? = some d → VR w N (fun _ => True) d (vs.getD i undef)
section
variable {P : Program} {t : TypeId}
theorem dnv_one {α : Type} {f : α → List DV} {good : α → Prop} {e : α → DV} (h : Dn P t 1 f good) (he : ∀ x, f x = [e x]) (hc : ∀ (w : World) (b0 : Nat) (v : Value), Value.okWide P w .any b0 t v → v.cells = #[v]) : DnV P t e good where
  down enc w base b0 spare held v d ps hok hT hwo := by
    obtain ⟨fuel, hf⟩ := hT
    rw [hc w b0 v hok] at hf
    obtain ⟨x, h1, _, h2⟩ := h.down enc w base spare held fuel _ _ hf hwo
    exact ⟨x, h1, fun N => h2 N 0 (e x) (by rw [he]; rfl)⟩
theorem dnv_agg {α : Type} {n : Nat} {f : α → List DV} {good : α → Prop} (h : Dn P t n f good) (hs : (fldsT P t).isSome = true) : DnV P t (fun x => .agg (f x)) good where
  down enc w base b0 spare held v d ps hok hT hwo := by
    obtain ⟨fuel, hf⟩ := hT
    unfold fldsT at hs
    split at hs
    · rename_i gs ht
      obtain ⟨cs, rfl, h1⟩ := okWide_struct ht hok
      obtain ⟨x, h2, h3, h4⟩ := h.down enc w base spare held fuel _ _ hf hwo
      refine ⟨x, h2, fun N => .agg _ _ (by rw [h1, h.sz, h.len]) (fun i d hd => ?_)⟩
      have h5 := h4 N i d hd
      have h6 : (Value.agg cs).cells.toList = cs.toList := rfl
      rw [h6, List.getD_eq_getElem?_getD, Array.getElem?_toList, ← Array.getD_eq_getD_getElem?] at h5
      exact h5
    · cases hs
theorem cells_slice {u : TypeId} (ht : P.underlying t = some (.slice u)) (w : World) (b0 : Nat) (v : Value) (h : Value.okWide P w .any b0 t v) : v.cells = #[v] := by
  obtain ⟨a, l, c, rfl⟩ := okWide_slice ht h; rfl
theorem dna_nil : DnA P [] (fun _ : Unit => []) (fun _ => True) where
  down enc w base b0 spare held vs ds ps hok h hwo := by
    cases vs with
    | nil => exact ⟨(), trivial, rfl, fun N i d hd => by simp at hd⟩
    | cons v vs => cases ds <;> exact absurd h (by intro h; cases h)
theorem dna_cons {ts : List TypeId} {α β : Type} {e : α → DV} {es : β → List DV} {good : α → Prop} {good' : β → Prop} (h : DnV P t e good) (hr : DnA P ts es good') :
    DnA P (t :: ts) (fun x : α × β => e x.1 :: es x.2) (fun x => good x.1 ∧ good' x.2) where
  down enc w base b0 spare held vs ds ps hok hT hwo := by
    cases vs with
    | nil => cases ds <;> exact absurd hT (by intro h; cases h)
    | cons v vs =>
      cases ds with
      | nil => exact absurd hT (by intro h; cases h)
      | cons d ds =>
        obtain ⟨p, q, h1, h2, _⟩ := hT
        have hwo' : wOk (d.weights P t ++ DataW.weightsEach P ts ds) := by simpa [DataW.weightsEach] using hwo
        obtain ⟨x, h3, h4⟩ := h.down enc w base b0 spare held v d p (hok 0 t v rfl rfl) h1 hwo'.left
        obtain ⟨y, h5, h6, h7⟩ := hr.down enc w base b0 spare held vs ds q (fun j u v h8 h9 => hok (j + 1) u v h8 h9) h2 hwo'.right
        refine ⟨(x, y), ⟨h3, h5⟩, by simp [h6], fun N i d' hd => ?_⟩
        match i, hd with
        | 0, hd => simp at hd; subst hd; exact h4 N
        | i + 1, hd => exact h7 N i d' (by simpa using hd)

theorem calls_true {f : FuncId} {ts : List TypeId} {α : Type} {e : α → List DV} {good : α → Prop} (hA : DnA P ts e good) (hl : ∀ x, good x → OkB P f (e x) [] [] (.bool true) [] []) {H : Type} {enc : TypeId × Value → H} {W : World} {b0 : Nat} {args : Array Value} {ds : List (DataW H)} {p : List MemPlace}
    (hok : ∀ (j : Nat) (t : TypeId) (v : Value), ts[j]? = some t → args[j]? = some v → Value.okWide P W .any b0 t v) (hT : DataW.TrodAll enc P W 0 (fun _ => true) true ts args.toList ds p) (hwo : wOk (DataW.weightsEach P ts ds)) (hTB : TB W) :
    Calls P f args W fun r W' => r = .returned (.bool true) ∧ Below W.heap.size W W' := by
  obtain ⟨x, h1, h2, h3⟩ := hA.down enc W 0 b0 _ _ args.toList ds p (fun j t v h4 h5 => hok j t v h4 (by simpa using h5)) hT hwo
  let g : Gh := ⟨fun _ => 0, fun _ => 0, fun _ => 0, fun _ => undef, fun _ => false, fun _ => False⟩
  have hm : ∀ k, ¬ mutb g (argSt [] []) k := by
    rintro k (⟨i, ⟨cs, h⟩, _⟩ | ⟨i, ⟨⟨cs, h⟩, _⟩, _⟩)
    · simp [argSt] at h
    · simp [argSt] at h
  have hb : ∀ k, ¬ bad g (argSt [] []) k := by
    rintro k (h | h)
    · exact h
    · exact hm k h
  refine (hl x h1 W args g (fun _ => True) { size := by simpa using h2, arg := fun i d hd => ?_, box := fun i cs h => by simp at h, row := fun i cs h => by simp at h, bb := fun i j h => ?_, rr := fun i j h => ?_, br := fun i j h => ?_, mN := fun k h => absurd h (hm k), nn := fun k h => h.elim, new := fun _ _ => trivial, tb := hTB, mG := fun k h => absurd h (hm k) }).mono fun r W' ⟨v, g', hr, hR⟩ => ?_
  · have h4 := h3 (fun _ => True) i d hd
    rw [List.getD_eq_getElem?_getD, Array.getElem?_toList, ← Array.getD_eq_getD_getElem?] at h4
    exact SR.vr (h4.mono (fun _ _ _ => rfl) (Nat.le_refl _) (fun k _ _ => hb k) (fun _ h _ => h))
  · obtain ⟨cs, h⟩ := h; simp [argSt] at h
  · obtain ⟨⟨cs, h⟩, _⟩ := h; simp [argSt] at h
  · obtain ⟨cs, h⟩ := h; simp [argSt] at h
  · have hv : v = .bool true := by
      have := hR.res.toVr rfl
      cases this; rfl
    subst hv
    exact ⟨hr, ⟨hR.os, hR.tape, hR.output, hR.size, fun k hk => hR.block k hk (hm k)⟩⟩
theorem trodAll_stays {H : Type} {enc : TypeId × Value → H} (hl : laidOutB P = true) {W W' : World} (hb : Below W.heap.size W W') : ∀ (ts : List TypeId) (vs : List Value) (ds : List (DataW H)) (p : List MemPlace), (∀ t ∈ ts, P.readableRec t = true ∧ t < P.types.size) → (∀ x ∈ p, x.block < W.heap.size) →
    DataW.TrodAll enc P W 0 (fun _ => true) true ts vs ds p → DataW.TrodAll enc P W' 0 (fun b => decide (b < W.heap.size)) true ts vs ds p
  | [], [], [], _, _, _, h => h
  | [], [], _ :: _, _, _, _, h => by cases h
  | [], _ :: _, [], _, _, _, h => by cases h
  | [], _ :: _, _ :: _, _, _, _, h => by cases h
  | _ :: _, [], [], _, _, _, h => by cases h
  | _ :: _, [], _ :: _, _, _, _, h => by cases h
  | _ :: _, _ :: _, [], _, _, _, h => by cases h
  | t :: ts, v :: vs, d :: ds, p, hr, hlt, h => by
    obtain ⟨a, b, h1, h2, rfl⟩ := h
    refine ⟨a, b, ?_, ?_, rfl⟩
    · exact Below.trod hl (hr t (List.mem_cons_self ..)).1 (hr t (List.mem_cons_self ..)).2 h1 hb (fun x hx => hlt x (List.mem_append_left _ hx))
    · exact trodAll_stays hl hb ts vs ds b (fun t ht => hr t (List.mem_cons_of_mem _ ht)) (fun x hx => hlt x (List.mem_append_right _ hx)) h2
theorem contract_true {f : FuncId} {fn : Func} {s : ChangeSpec} {apart fresh : Bool} {ts : List TypeId} {tb : TypeId} {α : Type} {e : α → List DV} {good : α → Prop} (hA : DnA P ts e good) (hl : ∀ x, good x → OkB P f (e x) [] [] (.bool true) [] [])
    (hp : fn.params.toList = ts) (hr : fn.resultTypes = #[tb]) (htb : P.underlying tb = some .bool) (hv : s.vars = []) (hs : ∀ (H : Type) (ds : List (DataW H)), ds.length = ts.length → s.fn H (ds ++ []) = { results := [.lit (.bool true)], args := ds })
    (hlo : laidOutB P = true) (hrd : ts.all (fun t => P.readableRec t && decide (t < P.types.size)) = true) {H : Type} {enc : TypeId × Value → H} {W : World} {b0 : Nat} {args : Array Value} {ds gs : List (DataW H)} {before : List MemPlace}
    (hval : ∀ (j : Nat) (t : TypeId) (v : Value), fn.params[j]? = some t → args[j]? = some v → Value.okWide P W .any b0 t v) (hW : DataW.Whole enc P fn.params.toList s.vars apart W args.toList ds gs before) (hwo : (DataW.weightsEach P (fn.params.toList ++ []) (ds ++ gs)).all (· ≤ reachBytes) = true) (hTB : TB W) :
    Calls P f args W fun r W' => ∃ v, r = .returned v ∧ s.post enc P fn apart fresh false false W args v W' := by
  have hW' := hW
  obtain ⟨p, q, hT, hV, rfl, hfz, hnd⟩ := hW
  rw [hv] at hV
  have hgq : gs = [] ∧ q = [] := by
    cases gs with
    | nil => exact ⟨rfl, hV⟩
    | cons g r => exact absurd hV (by intro h; cases h)
  obtain ⟨rfl, rfl⟩ := hgq
  have hlen : ds.length = ts.length := by
    rw [← hp]
    clear hval hW' hfz hnd hwo
    generalize fn.params.toList = us at hT
    generalize args.toList = vs at hT
    induction us generalizing vs ds p with
    | nil => cases vs <;> cases ds <;> first | rfl | exact absurd hT (by intro h; cases h)
    | cons u us ih =>
      cases vs with
      | nil => cases ds <;> exact absurd hT (by intro h; cases h)
      | cons v vs =>
        cases ds with
        | nil => exact absurd hT (by intro h; cases h)
        | cons d ds =>
          obtain ⟨_, _, _, h2, _⟩ := hT
          simp [ih _ _ h2]
  have hlt : ∀ x ∈ p, x.block < W.heap.size := fun x hx => hW'.lt x (List.mem_append_left _ hx)
  refine (calls_true (P := P) hA hl (b0 := b0) (fun j t v h1 h2 => hval j t v (by rw [← hp] at h1; simpa using h1) h2) (by rw [← hp]; exact hT) (fun x hx => by
    rw [← hp] at hx
    have := List.all_eq_true.1 hwo x (by simpa using hx)
    simpa using this) hTB).mono fun r W' ⟨hr', hb⟩ => ?_
  subst hr'
  refine ⟨_, rfl, ds, [], p ++ [], [], p, [], hW', ?_, ?_, ?_, hb.frame _, fun h => by cases h⟩
  · rw [hs H ds hlen, hr]
    exact trodAll_mk1 (shut_bool htb true)
  · rw [hs H ds hlen]
    refine trodAll_stays hlo hb fn.params.toList args.toList ds p (fun t ht => ?_) hlt hT
    rw [hp] at ht
    have := List.all_eq_true.1 hrd t ht
    simpa using this
  · rw [hs H ds hlen, hv]; rfl
end
end Go.PM

