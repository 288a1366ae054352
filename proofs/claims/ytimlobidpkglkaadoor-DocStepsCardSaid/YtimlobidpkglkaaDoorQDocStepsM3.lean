/-
  An abstract semantics of the programs of the model: what a piece of Go code makes of abstract values, proved sound over any program. Part 3 of 3. No condition.
-/
import Derived.Test.YtimlobidpkglkaaDoorQDocStepsM2
import Derived.IntWalk
import Derived.RangeFuncIn
import Derived.Tactics
import Derived.Deep.Slices
import Derived.ChangeArms
import Derived.ChangeShapes
import Derived.WideShapes
import Derived.Carry
import Derived.ChangeSame
import Derived.ChangeVars
import Derived.OpenShut
set_option linter.unusedVariables false
set_option linter.unusedSimpArgs false
set_option linter.unusedSectionVars false
set_option linter.unnecessarySimpa false
/- Regions in which two operations that may not change places stand beside each other: shown in both orders. -/
namespace Go.PM
open Go.RowKit
set_option linter.unusedSimpArgs false
set_option linter.unusedVariables false
variable {P : Program} {B : Base} {w0 : World} {g : Gh} {A : St} {a : Act} {w : World}

/-- The orders in which a region is shown. -/
inductive Sh
  | nil
  | step (i : Nat) (s : Sh)
  | fork (p q : Nat) (s1 s2 : Sh)
def Sh.mem : Sh → List Nat
  | .nil => []
  | .step i s => i :: s.mem
  | .fork p q s1 s2 => p :: s1.mem
def anc (T : List (List Nat)) (i j : Nat) : Bool := match T[i]? with | some ts => ts.contains j | none => false
def Sh.good (ops : Array Oper) (effs : List Nat) (T : List (List Nat)) : Sh → Bool
  | .nil => true
  | .step j s => !s.mem.contains j && s.mem.all (fun i => anc T i j || apart ops effs j i) && s.good ops effs T
  | .fork p q s1 s2 => !s1.mem.contains p && !s2.mem.contains q && s1.mem.contains q && s1.mem.all (fun i => i == q || anc T i p || anc T i q) && (p :: s1.mem).all ((q :: s2.mem).contains ·) && (q :: s2.mem).all ((p :: s1.mem).contains ·) && s1.good ops effs T && s2.good ops effs T
def DoSh (P : Program) (ops : Array Oper) (effs : List Nat) (K : St → Prop) : Sh → St → Prop
  | .nil, A => K A
  | .step i s, A => ∃ A1, DoE P ops effs i A A1 ∧ DoSh P ops effs K s A1
  | .fork p q s1 s2, A => (∃ A1, DoE P ops effs p A A1 ∧ DoSh P ops effs K s1 A1) ∧ ∃ A2, DoE P ops effs q A A2 ∧ DoSh P ops effs K s2 A2

variable {ops : Array Oper} {effs : List Nat} {T : List (List Nat)} {K : St → Prop}
theorem DoSh.move {i : Nat} : ∀ {s : Sh} {A : St}, DoSh P ops effs K s A → s.good ops effs T = true → i ∈ s.mem → (∀ j ∈ s.mem, anc T i j = false) → ∃ (A1 : St) (s' : Sh), DoE P ops effs i A A1 ∧ DoSh P ops effs K s' A1 ∧ s'.good ops effs T = true ∧ ∀ k, k ∈ s'.mem ↔ k ∈ s.mem ∧ k ≠ i
  | .nil, A, _, _, hi, _ => by simp [Sh.mem] at hi
  | .step j s, A, h, hg, hi, ha => by
    obtain ⟨A1, h1, h2⟩ := h
    simp only [Sh.good, Bool.and_eq_true, Bool.not_eq_true', List.all_eq_true, Bool.or_eq_true] at hg
    obtain ⟨⟨g1, g2⟩, g3⟩ := hg
    have g1' : j ∉ s.mem := fun h3 => by rw [List.contains_iff_mem.2 h3] at g1; cases g1
    by_cases e : i = j
    · subst e
      refine ⟨A1, s, h1, h2, g3, fun k => ⟨fun hk => ⟨by simp [Sh.mem, hk], fun e => g1' (e ▸ hk)⟩, fun hk => ?_⟩⟩
      simp only [Sh.mem, List.mem_cons] at hk
      exact hk.1.resolve_left hk.2
    · have hi' : i ∈ s.mem := by simp only [Sh.mem, List.mem_cons] at hi; exact hi.resolve_left e
      obtain ⟨A', s', d, ds, gs, hm⟩ := DoSh.move h2 g3 hi' (fun k hk => ha k (by simp [Sh.mem, hk]))
      have hap : apart ops effs j i = true := (g2 i hi').resolve_left (fun h3 => by rw [ha j (by simp [Sh.mem])] at h3; cases h3)
      obtain ⟨B1, h4, h5⟩ := h1.swap d hap
      refine ⟨B1, .step j s', h4, ⟨A', h5, ds⟩, ?_, fun k => ?_⟩
      · simp only [Sh.good, Bool.and_eq_true, Bool.not_eq_true', List.all_eq_true, Bool.or_eq_true]
        refine ⟨⟨?_, fun k hk => g2 k ((hm k).1 hk).1⟩, gs⟩
        cases hc : s'.mem.contains j with
        | false => rfl
        | true => exact absurd ((hm j).1 (List.contains_iff_mem.1 hc)).1 g1'
      · simp only [Sh.mem, List.mem_cons, hm]
        constructor
        · rintro (rfl | ⟨h6, h7⟩)
          · exact ⟨.inl rfl, fun e' => e e'.symm⟩
          · exact ⟨.inr h6, h7⟩
        · rintro ⟨rfl | h6, h7⟩
          · exact .inl rfl
          · exact .inr ⟨h6, h7⟩
  | .fork p q s1 s2, A, h, hg, hi, ha => by
    obtain ⟨⟨A1, h1, h2⟩, A2, h3, h4⟩ := h
    simp only [Sh.good, Bool.and_eq_true, Bool.not_eq_true', List.all_eq_true, Bool.or_eq_true, beq_iff_eq] at hg
    obtain ⟨⟨⟨⟨⟨⟨⟨g1, g2⟩, g3⟩, g4⟩, g5⟩, g6⟩, g7⟩, g8⟩ := hg
    have g1' : p ∉ s1.mem := fun h3 => by rw [List.contains_iff_mem.2 h3] at g1; cases g1
    have g2' : q ∉ s2.mem := fun h3 => by rw [List.contains_iff_mem.2 h3] at g2; cases g2
    by_cases e : i = p
    · subst e
      refine ⟨A1, s1, h1, h2, g7, fun k => ⟨fun hk => ⟨by simp [Sh.mem, hk], fun e => g1' (e ▸ hk)⟩, fun hk => ?_⟩⟩
      simp only [Sh.mem, List.mem_cons] at hk
      exact hk.1.resolve_left hk.2
    · by_cases e' : i = q
      · subst e'
        refine ⟨A2, s2, h3, h4, g8, fun k => ⟨fun hk => ⟨?_, fun e => g2' (e ▸ hk)⟩, fun hk => ?_⟩⟩
        · exact List.contains_iff_mem.1 (g6 k (by simp [hk]))
        · have := List.contains_iff_mem.1 (g5 k hk.1)
          simp only [List.mem_cons] at this
          exact this.resolve_left hk.2
      · have hi' : i ∈ s1.mem := by simp only [Sh.mem, List.mem_cons] at hi; exact hi.resolve_left e
        exfalso
        rcases g4 i hi' with (h5 | h5) | h5
        · exact e' h5
        · rw [ha p (by simp [Sh.mem])] at h5; cases h5
        · rw [ha q (by simp [Sh.mem, List.contains_iff_mem.1 g3])] at h5; cases h5

/-- T is of ancestors, and the orders shown are all that matter. -/
def shOk (ops : Array Oper) (effs : List Nat) (T : List (List Nat)) (s : Sh) : Bool :=
  drawOk ops ((List.range ops.size).map (1000 + ·)) T && s.good ops effs T && (List.range ops.size).all (s.mem.contains ·) && s.mem.all (fun i => decide (i < ops.size))

theorem DoSh.any {effs0 : List Nat} (h : drawOk ops effs0 T = true) {ro : Option Nat} {n : Nat} {Q : Exit → Act → World → Prop} {a0 : Act} (hK : ∀ A2 g' a' w', K A2 → Rel B w0 g' A2 a' w' → Same (wrOps ops) a0 a' → Q .normal a' w') :
    ∀ (fuel : Nat) (listed : Array Bool) (s : Sh) (A : St) (g : Gh) (a : Act) (w : World), listed.size = ops.size → Closed ops listed → (rem ops.size listed).length = fuel → (∀ k, k ∈ s.mem ↔ k ∈ rem ops.size listed) → s.good ops effs T = true → DoSh P ops effs K s A → Rel B w0 g A a w → Same (wrOps ops) a0 a → wpAnyIn (Fw ro) n P .any ops Q fuel listed a w := by
  have hnil : ∀ (listed : Array Bool), listed.size = ops.size → Closed ops listed → Region.ready .any ops listed = [] → rem ops.size listed = [] := by
    intro listed hs hc hr
    cases hrem : rem ops.size listed with
    | nil => rfl
    | cons i l =>
      exfalso
      have hi : i ∈ rem ops.size listed := by rw [hrem]; simp
      obtain ⟨h1, h2⟩ := List.mem_filter.1 hi
      have hin : i < ops.size := List.mem_range.1 h1
      have key : ∀ k, k < ops.size → listed.getD k true = false → ∃ m, m ∈ Region.ready .any ops listed := by
        intro k
        induction k using Nat.strongRecOn with
        | _ k ih =>
          intro hk hl
          obtain ⟨o, ts, ho, hts, h3, _, _⟩ := drawOk_at h hk
          by_cases hall : ∀ e ∈ preds o, listed.getD e true = true
          · refine ⟨k, mem_ready.2 ⟨hl, o, ho, fun e he hb => ?_⟩⟩
            have hep : e.on ∈ preds o := List.mem_map.2 ⟨e, List.mem_filter.2 ⟨by simpa using he, hb⟩, rfl⟩
            have := h3 _ hep
            rw [getD_lt (by omega) false true]
            exact hall _ hep
          · simp only [Classical.not_forall] at hall
            obtain ⟨e, he, hn⟩ := hall
            have := h3 e he
            exact ih e this (by omega) (by simpa using hn)
      obtain ⟨m, hm⟩ := key i hin (by simpa using h2)
      rw [hr] at hm; cases hm
  intro fuel
  induction fuel with
  | zero =>
    intro listed s A g a w hs hc hl hsm hsg hd hr hdf
    have h0 : rem ops.size listed = [] := List.length_eq_zero_iff.1 hl
    have hsn : s = .nil := by
      cases s with
      | nil => rfl
      | step i s => have := (hsm i).1 (by simp [Sh.mem]); rw [h0] at this; cases this
      | fork p q s1 s2 => have := (hsm p).1 (by simp [Sh.mem]); rw [h0] at this; cases this
    subst hsn
    refine ⟨?_, hK A g a w hd hr hdf⟩
    cases hq : Region.ready .any ops listed with
    | nil => rfl
    | cons i l =>
      exfalso
      have hi : i ∈ Region.ready .any ops listed := by rw [hq]; simp
      obtain ⟨h1, o, h2, _⟩ := mem_ready.1 hi
      have : i ∈ rem ops.size listed := List.mem_filter.2 ⟨List.mem_range.2 (Array.getElem?_eq_some_iff.1 h2).1, by simp [h1]⟩
      rw [h0] at this; cases this
  | succ fuel ih =>
    intro listed s A g a w hs hc hl hsm hsg hd hr hdf
    refine ⟨fun hq => ?_, fun i hi => ?_⟩
    · rw [hnil listed hs hc hq] at hl; cases hl
    · obtain ⟨h1, o, h2, h3⟩ := mem_ready.1 hi
      have hin : i < ops.size := (Array.getElem?_eq_some_iff.1 h2).1
      have hp := preds_ready h3
      obtain ⟨pre, post, h4, h5, h6⟩ := filter_split (q := fun i => !listed.getD i true) hin (by simp [h1])
      obtain ⟨o', ts, ho, hts, h7, h8, h9⟩ := drawOk_at h hin
      rw [h2] at ho; cases ho
      have him : i ∈ s.mem := (hsm i).2 (List.mem_filter.2 ⟨List.mem_range.2 hin, by simp [h1]⟩)
      obtain ⟨A1, s', h10, h11, h12, h13⟩ := hd.move hsg him (fun j hj => by
        have hj' := (List.mem_filter.1 ((hsm j).1 hj)).2
        unfold anc
        rw [hts]
        cases hq : ts.contains j with
        | false => exact hq
        | true =>
          have := closed_T h hs hc i hin o h2 hp ts hts j (List.contains_iff_mem.1 hq)
          have hjn := List.mem_range.1 (List.mem_filter.1 ((hsm j).1 hj)).1
          rw [getD_lt (by omega) false true] at this
          rw [this] at hj'; cases hj')
      have hrem : rem ops.size (listed.setIfInBounds i true) = pre ++ post := by
        rw [← h6]
        unfold rem
        apply List.filter_congr
        intro j hj
        have hjl := List.mem_range.1 hj
        by_cases e : j = i
        · subst e
          simp [Array.getD, hs, hin]
        · have e' : ¬ i = j := fun h => e h.symm
          have : (listed.setIfInBounds i true).getD j true = listed.getD j true := by
            rw [Array.getD_eq_getD_getElem?, Array.getElem?_setIfInBounds, if_neg e', ← Array.getD_eq_getD_getElem?]
          rw [this]; simp [e]
      refine h10.do1.sound hr (fun g' a' w' hr' hdf' => ih (listed.setIfInBounds i true) s' A1 g' a' w' (by simp [hs]) ?_ ?_ ?_ h12 h11 hr' (hdf.trans hdf'))
      · intro k ok hok hk e he
        have hput : ∀ m, listed.getD m false = true → (listed.setIfInBounds i true).getD m false = true := fun m hm => getD_set_true hm
        by_cases hki : k = i
        · subst hki
          rw [h2] at hok; cases hok
          exact hput e (hp e he)
        · have e' : ¬ i = k := fun h => hki h.symm
          have : (listed.setIfInBounds i true).getD k true = listed.getD k true := by
            rw [Array.getD_eq_getD_getElem?, Array.getElem?_setIfInBounds, if_neg e', ← Array.getD_eq_getD_getElem?]
          rw [this] at hk
          exact hput e (hc k ok hok hk e he)
      · rw [hrem]
        have := hl
        unfold rem at this
        rw [h4] at this
        simp at this ⊢
        omega
      · intro k
        rw [h13, hsm, hrem, ← h6]
        unfold rem
        simp only [List.mem_filter, Bool.and_eq_true, bne_iff_ne]
        constructor
        · rintro ⟨⟨h14, h15⟩, h16⟩; exact ⟨h14, h15, h16⟩
        · rintro ⟨h14, h15, h16⟩; exact ⟨⟨h14, h15⟩, h16⟩

theorem region_sh (hm : P.follows .mixedOrders = true) {s : Sh} (h : shOk ops effs T s = true) {id : Nat} (hd : DoSh P ops effs K s A) (hr : Rel B w0 g A a w) {ro : Option Nat} {n : Nat} {Q : Exit → Act → World → Prop}
    (hK : ∀ A2 g' a' w', K A2 → Rel B w0 g' A2 a' w' → Same (wrOps ops) a a' → Q .normal a' w') : (Code.region id ops true).wpIn (Fw ro) n P Q a w := by
  unfold shOk at h
  simp only [Bool.and_eq_true, List.all_eq_true, decide_eq_true_eq] at h
  obtain ⟨⟨⟨h1, h2⟩, h3⟩, h4⟩ := h
  refine wpIn_region_any hm ?_
  have hall : rem ops.size (Array.replicate ops.size false) = List.range ops.size := by
    unfold rem
    rw [List.filter_eq_self]
    intro j hj
    have := List.mem_range.1 hj
    simp [Array.getD, this]
  refine DoSh.any h1 hK ops.size (Array.replicate ops.size false) s A g a _ (by simp) ?_ (by rw [hall]; simp) ?_ h2 hd ?_ (.refl _ _)
  · intro k o hk hl
    have hkl := (Array.getElem?_eq_some_iff.1 hk).1
    simp [Array.getD, hkl] at hl
  · intro k
    rw [hall]
    exact ⟨fun hk => List.mem_range.2 (h4 k hk), fun hk => List.contains_iff_mem.1 (h3 k hk)⟩
  · have hb : Below w.heap.size w ({ w with drawn := w.drawn + 1 } : World) := ⟨rfl, rfl, rfl, Nat.le_refl _, fun _ _ => rfl⟩
    exact hr.grow hb

def Sh.pre : List Nat → Sh → Sh
  | [], s => s
  | i :: l, s => .step i (Sh.pre l s)
theorem sh_pre : ∀ {l : List Nat} {s : Sh} {A : St}, WE P ops effs l A (DoSh P ops effs K s) → DoSh P ops effs K (Sh.pre l s) A
  | [], s, A, h => by
    obtain ⟨A2, h1, h2⟩ := h
    cases h1; exact h2
  | i :: l, s, A, h => by
    obtain ⟨A2, h1, h2⟩ := h
    cases h1 with
    | cons h3 h4 => exact ⟨_, h3, sh_pre ⟨A2, h4, h2⟩⟩
theorem sh_fork {p q : Nat} {l m : List Nat} (h1 : WE P ops effs (p :: l) A K) (h2 : WE P ops effs (q :: m) A K) : DoSh P ops effs K (.fork p q (Sh.pre l .nil) (Sh.pre m .nil)) A := by
  obtain ⟨A1, h3, h4⟩ := h1
  obtain ⟨A2, h5, h6⟩ := h2
  cases h3 with
  | cons h7 h8 =>
    cases h5 with
    | cons h9 h10 => exact ⟨⟨_, h7, sh_pre ⟨A1, h8, h4⟩⟩, _, h9, sh_pre ⟨A2, h10, h6⟩⟩
theorem ex_sh {z : Bool} (hm : P.follows .mixedOrders = true) {id : Nat} {Q : Exit → St → Prop} (effs : List Nat) (s : Sh) (hT : shOk ops effs (predsT ops) s = true) (h : DoSh P ops effs (Q .normal) s A) : Ex z P (.region id ops true) A Q :=
  fun B w0 g a w hr ro hz n K hK => region_sh hm hT h hr (fun A2 g' a' w' h2 hr' hs => hK _ _ _ _ _ h2 hr' ⟨fun _ => hs.1, hs.2⟩)
end Go.PM

/- Contracts, weakened; cuts; loops whose data are a function of their own. -/
namespace Go.PM
open Go.RowKit
set_option linter.unusedSimpArgs false
set_option linter.unusedVariables false
variable {z : Bool} {P : Program} {A : St} {o : Oper}

theorem LeL.refl' {l : List DV} (h : l.all (fun d => !d.tok) = true) : LeL l l := by
  induction l with
  | nil => exact .nil
  | cons d l ih =>
    rw [List.all_cons, Bool.and_eq_true] at h
    exact .cons (.refl (by simpa using h.1)) (ih h.2)
theorem Calls.mono' {f : FuncId} {args : Array Value} {w : World} {R R' : Ending → World → Prop} (h : Calls P f args w R) (hr : ∀ e w', R e w' → R' e w') : Calls P f args w R' := fun cs => by
  obtain ⟨e, w', fr, h1, h2⟩ := h cs
  exact ⟨e, w', fr, hr _ _ h1, h2⟩
theorem OkB.res {f : FuncId} {args : List DV} {ba bz : List (List DV)} {ra rr : List Row} {r r' : DV} (h : OkB P f args ba ra r bz rr) (hl : DV.le r r') : OkB P f args ba ra r' bz rr := by
  intro w vs g N hA
  refine Calls.mono' (h w vs g N hA) ?_
  rintro e w' ⟨v, g', he, hR⟩
  exact ⟨v, g', he, { hR with res := hR.res.le hl }⟩
/-- An empty slice is nil, or it isn't. -/
theorem OkB.split {f : FuncId} {args : List DV} {ba bz : List (List DV)} {ra rr : List Row} {r : DV} {i : Nat} {nw : Bool} (hi : args[i]? = some (.sl nw [])) (h : ∀ nl, OkB P f (args.set i (.em nl)) ba ra r bz rr) : OkB P f args ba ra r bz rr := by
  intro w vs g N hA
  have hv : VR w N (fun k => ¬ bad g (argSt ba ra) k) (.sl nw []) (vs.getD i undef) := hA.arg i _ hi
  obtain ⟨nl, hn⟩ := hv.split
  refine h nl w vs g N { hA with size := by rw [hA.size]; simp, arg := fun j d hd => ?_ }
  rw [List.getElem?_set] at hd
  split at hd
  · rename_i e
    subst e
    split at hd
    · obtain rfl := (by simpa using hd : _ = d)
      exact SR.vr hn
    · cases hd
  · exact hA.arg j d hd

/-- nil, where an empty slice is asked for. -/
theorem OkB.nil {f : FuncId} {args : List DV} {ba bz : List (List DV)} {ra rr : List Row} {r : DV} (i : Nat) {nw : Bool} (h : OkB P f args ba ra r bz rr) (hi : args[i]? = some (.sl nw [])) : OkB P f (args.set i .nil) ba ra r bz rr := by
  intro w vs g N hA
  refine h w vs g N { hA with size := by rw [hA.size]; simp, arg := fun j d hd => ?_ }
  by_cases e : i = j
  · subst e
    have hil := (List.getElem?_eq_some_iff.1 hi).1
    rw [hi] at hd; cases hd
    have h1 := hA.arg i .nil (by simp [hil])
    exact SR.vr (VR.nil_sl nw h1)
  · exact hA.arg j d (by rw [List.getElem?_set_ne e]; exact hd)
theorem Ex.post {c : Code} {Q : Exit → St → Prop} (h : Ex z P c A (fun e A2 => ∃ A3, Gst A2 A3 ∧ Q e A3)) : Ex z P c A Q :=
  fun B w0 g a w hr ro hz n K hK => h B w0 g a w hr ro hz n K (fun e A2 g' a' w' ⟨A3, h1, h2⟩ hr' hk => let ⟨g2, hr2⟩ := h1.rel hr'; hK e A3 g2 a' w' h2 hr2 hk)
/-- A piece of code that comes to one state. -/
theorem ex_cut {c : Code} {Q : Exit → St → Prop} (A3 : St) (h1 : Ex z P c A (fun e A2 => e = .normal ∧ ∃ A', Gst A2 A' ∧ A' = A3)) (h2 : Q .normal A3) : Ex z P c A Q := by
  refine Ex.post (h1.mono ?_)
  rintro e A2 ⟨rfl, A', h3, rfl⟩
  exact ⟨_, h3, h2⟩

theorem bindS {α β : Type} {o : Option α} {f : α → Option β} {r : β} (h : o.bind f = some r) : ∃ a, o = some a ∧ f a = some r := by
  cases o with
  | none => cases h
  | some a => exact ⟨a, rfl, h⟩
theorem iteT {c : Bool} {α : Type} {x y r : α} (h : (if c = true then x else y) = r) (hc : c = true) : x = r := by rw [if_pos hc] at h; exact h
theorem iteF {c : Bool} {α : Type} {x y r : α} (h : (if c = true then x else y) = r) (hc : c = false) : y = r := by rw [if_neg (by rw [hc]; simp)] at h; exact h

/-- A step, again and again: .inl: on; .inr: out. -/
def iter {σ ρ : Type} (step : σ → Option (σ ⊕ ρ)) : Nat → σ → Option ρ
  | 0, _ => none
  | n + 1, s => match step s with
    | none => none
    | some (.inl s') => iter step n s'
    | some (.inr r) => some r
/-- THE LOOP: its data go by a function of their own. -/
theorem ex_iter {σ ρ : Type} {c : Code} {Q : Exit → St → Prop} {step : σ → Option (σ ⊕ ρ)} (enc : σ → St) {n : Nat} {s0 : σ} {out : ρ} (h : iter step n s0 = some out)
    (round : ∀ s y, step s = some y → (∀ o, y = .inr o → o = out) → Ex z P c (enc s) (thenE (fun A' => ∃ A3, Gst A' A3 ∧ ∃ s', y = .inl s' ∧ A3 = enc s') Q)) : Ex z P (.loop c) (enc s0) Q := by
  have key : ∀ n s0, iter step n s0 = some out → Ex z P (.loop c) (enc s0) Q := by
    intro n s0 h
    refine ex_loop (fun m A => ∃ s, A = enc s ∧ iter step (m + 1) s = some out) ?_ (n - 1) ⟨s0, rfl, ?_⟩
    · rintro m A ⟨s, rfl, hs⟩
      simp only [iter] at hs
      cases hst : step s with
      | none => rw [hst] at hs; cases hs
      | some y =>
        rw [hst] at hs
        have hr := round s y hst (fun o ho => by subst ho; simpa using hs)
        refine Ex.post (hr.mono ?_)
        intro e A2 hq
        cases e with
        | normal =>
          obtain ⟨A3, hg, s', rfl, rfl⟩ := hq
          refine ⟨_, hg, ?_⟩
          cases m with
          | zero => simp [iter] at hs
          | succ m => exact ⟨m, by omega, s', rfl, hs⟩
        | _ => exact ⟨A2, .refl _, hq⟩
    · cases n with
      | zero => cases h
      | succ n => exact h
  exact key n s0 h

/-- A function whose results are told of a state said otherwise. -/
theorem okB_of_exG {f : FuncId} {fn : Func} {c : Code} {args : List DV} {ba bz : List (List DV)} {ra rr : List Row} {r : DV} (hf : P.funcs[f]? = some fn) (hb : fn.body = some c) (hbz : bz.length = ba.length) {s0 : List DV} {b0 : List (Option (List DV))} {r0 : List (Option Row)} (hs : args ++ List.replicate (fn.ntmps - args.length) .top = s0) (hb0 : ba.map some = b0) (hr0 : ra.map some = r0)
    (h : Ex true P c ⟨s0, b0, r0, ba.length⟩ (fun e A2 => (e = .normal ∨ e = .ret) ∧ ∃ A3, Gst A2 A3 ∧ FinB P fn A3 r bz rr)) : OkB P f args ba ra r bz rr := by
  subst hs; subst hb0; subst hr0
  exact okB_of_ex hf hb hbz (Ex.post (h.mono (fun e A2 ⟨h1, A3, h2, h3⟩ => ⟨A3, h2, h1, h3⟩)))
/-- The end of a function: its results. -/
theorem finB {fn : Func} {A3 : St} {bz : List (List DV)} {rr : List Row} {r : DV} {e : Exit} (he : e = .normal ∨ e = .ret) (hg : Gst A A3) (ds : List DV) (toks : List Nat) (cb : List (List DV)) (h1 : A3.resL P fn.results.toList = some ds) (h2 : nodupB toks = true) (h3 : A3.rowsOf toks = some rr) (h4 : ds.all (resOk toks) = true) (h5 : r = tupOr (ds.map (DV.ren (toks.idxOf ·))))
    (h6 : A3.boxesOf (List.range bz.length) = some cb) (h7 : cb.all (fun c => c.all (resOk toks)) = true) (h8 : bz = cb.map (List.map (DV.ren (toks.idxOf ·)))) : (e = .normal ∨ e = .ret) ∧ ∃ A3, Gst A A3 ∧ FinB P fn A3 r bz rr :=
  ⟨he, A3, hg, ds, toks, cb, h1, nodupB_nodup h2, h3, resOk_V h4, h5, h6, h7, h8⟩
/-- With views among them. -/
theorem finBV {fn : Func} {A3 : St} {bz : List (List DV)} {rr : List Row} {r : DV} {e : Exit} (he : e = .normal ∨ e = .ret) (hg : Gst A A3) (ds : List DV) (toks : List Nat) (cb : List (List DV)) (h1 : A3.resL P fn.results.toList = some ds) (h2 : nodupB toks = true) (h3 : A3.rowsOf toks = some rr) (h4 : ds.all (resOkV toks bz.length) = true) (h5 : r = tupOr (ds.map (DV.ren (toks.idxOf ·))))
    (h6 : A3.boxesOf (List.range bz.length) = some cb) (h7 : cb.all (fun c => c.all (resOk toks)) = true) (h8 : bz = cb.map (List.map (DV.ren (toks.idxOf ·)))) : (e = .normal ∨ e = .ret) ∧ ∃ A3, Gst A A3 ∧ FinB P fn A3 r bz rr :=
  ⟨he, A3, hg, ds, toks, cb, h1, nodupB_nodup h2, h3, h4, h5, h6, h7, h8⟩
/-- The end of a piece. -/
theorem fin1 {A3 : St} {k : List Bool} {pb pr : List Nat} (A : St) (h : A.reOk pb pr = true) (h2 : A.re k pb pr = A3) : Exit.normal = .normal ∧ ∃ A', Gst A A' ∧ A' = A3 := ⟨rfl, _, .re k pb pr h (.refl _), h2⟩

theorem RowAt.vr {g : Gh} {A : St} {w : World} {N ok : Nat → Prop} {p : Bool} {k : Nat} {v : Value} {ρ : Row} (h : RowAt g A w N p k v ρ) (hok : ∀ k, ¬ bad g A k → ok k) (hk : p = true → ok k ∧ k < w.heap.size) : VR w N ok (.sl false ρ.xs) v := by
  rcases h with ⟨_, h0, ad, h1⟩ | ⟨hp, u, cap, h3, h4, h5, h6, h7, h8, h9⟩
  · rw [h0, h1]; exact .empty _ _ _
  obtain ⟨hk, hlt⟩ := hk hp
  have hmv : ∀ {d : DV} {v : Value}, VR w N (fun k => ¬ bad g A k) d v → VR w N ok d v := fun hv => hv.mono (fun _ _ _ => rfl) (Nat.le_refl _) (fun k hk _ => hok k hk) (fun _ h _ => h)
  rw [h4]
  refine .sl false ρ.xs ⟨k, 0, none⟩ cap ρ.sz (fun i j => u.getD (i * ρ.sz + j) undef) h5 hk hlt (fun e => by cases e) h8 (fun i x j d hi hj => ?_) (fun i x j d hi hj => hmv (h9 i x j d hi hj).2.2)
  have hil : i < ρ.xs.length := (List.getElem?_eq_some_iff.1 hi).1
  have hjl : j < ρ.sz := by rw [← h8 i x hi]; exact (List.getElem?_eq_some_iff.1 hj).1
  have h1 : i * ρ.sz + j < u.size := by
    have : (i + 1) * ρ.sz ≤ cap * ρ.sz := Nat.mul_le_mul_right _ (by omega)
    rw [Nat.succ_mul] at this; omega
  rw [addr0, Nat.zero_add, cell_of_row w _ _ u ρ.e (0, 0) h3, Array.getElem?_eq_getElem h1]
  simp [Array.getD, h1]
/-- A result without rows: what has come is only read. -/
def DV.shutA (rr : List Row) : DV → DV
  | .own t => match rr[t]? with | some ρ => .sl false ρ.xs | none => .own t
  | d => d
def DV.shutT (rr : List Row) : DV → DV
  | .tup vs => .tup (vs.map (DV.shutA rr))
  | d => d.shutA rr
theorem OkB.shut {f : FuncId} {args : List DV} {ba : List (List DV)} {ra rr : List Row} {r : DV} (h : OkB P f args ba ra r [] rr) (hpl : r.plain = true) : OkB P f args ba ra (r.shutT rr) [] [] := by
  intro w vs g N hA
  refine Calls.mono' (h w vs g N hA) ?_
  rintro e w' ⟨v, g', he, hR⟩
  have hlr : ∀ i, ¬ (argSt ([] : List (List DV)) []).lr i := fun i hi => by have := argSt_lr.1 hi; simp at this
  have hlb : ∀ i, ¬ (argSt ([] : List (List DV)) []).lb i := fun i hi => by have := argSt_lb.1 hi; simp at this
  have hmt : ∀ k, ¬ mutb g' (argSt [] []) k := by
    rintro k (⟨i, hi, _⟩ | ⟨i, hi, _⟩)
    · exact hlb i hi
    · exact hlr i hi.1
  have hok : ∀ k, ¬ bad g' (argSt [] rr) k → ¬ bad g' (argSt [] []) k := by
    rintro k hk (h0 | h0)
    · exact hk (.inl h0)
    · exact hmt k h0
  have hno : ∀ t, lp g' (argSt [] rr) t → ¬ bad g' (argSt [] []) (g'.tm t) := by
    rintro t ht (h0 | h0)
    · rw [hR.no] at h0
      obtain ⟨h1, h2⟩ := hA.nn _ h0
      rcases (hR.from_ t ht).1 with h3 | h3
      · omega
      · exact h2 h3
    · exact hmt _ h0
  have one : ∀ {d : DV} {v : Value}, d.plain1 = true → SR1 g' (argSt [] rr) w' N d v → SR1 g' (argSt [] []) w' N (d.shutA rr) v := by
    intro d v hp hs
    cases d with
    | own t =>
      obtain ⟨h1, h2⟩ := hs
      have h1' : t < rr.length := by simpa [argSt] using h1
      simp only [DV.shutA, List.getElem?_eq_getElem h1']
      rw [h2 (argSt_lr.2 h1')]
      refine RowAt.vr (hR.row t _ (List.getElem?_eq_getElem h1')) hok (fun hp => ?_)
      exact ⟨hno t ⟨argSt_lr.2 h1', hp⟩, (hR.from_ t ⟨argSt_lr.2 h1', hp⟩).2⟩
    | bx b o => cases hp
    | vw b o n c => cases hp
    | ex t i j => cases hp
    | tup vs => cases hp
    | _ => exact VR.mono hs (fun _ _ _ => rfl) (Nat.le_refl _) (fun k hk _ => hok k hk) (fun _ h _ => h)
  have hbl : ba.length = 0 := hR.blen.symm
  refine ⟨v, g', he, { os := hR.os, tape := hR.tape, output := hR.output, size := hR.size, block := hR.block, oth := hR.oth, no := hR.no, res := ?_, box := fun i cs hc => by simp at hc, blen := hR.blen, bfix := hR.bfix, bout := fun i cs cs' _ hc => by simp at hc, row := fun t ρ hx => by simp at hx, inj := fun i j hi => absurd hi.1 (hlr i), br := fun i j hi => absurd hi (hlb i), from_ := fun t ht => absurd ht.1 (hlr t) }⟩
  by_cases htp : ∃ vs, r = .tup vs
  · obtain ⟨vs, rfl⟩ := htp
    obtain ⟨us, h1, h2, h3⟩ := hR.res
    refine ⟨us, h1, by simpa using h2, fun i d hd => ?_⟩
    rw [List.getElem?_map] at hd
    cases hq : vs[i]? with
    | none => rw [hq] at hd; cases hd
    | some d0 =>
      rw [hq] at hd
      obtain rfl : d0.shutA rr = d := by simpa using hd
      exact one (List.all_eq_true.1 hpl d0 (List.mem_of_getElem? hq)) (h3 i d0 hq)
  · have hpl' : r.plain1 = true := by cases r <;> first | rfl | exact hpl | exact absurd ⟨_, rfl⟩ htp
    have h5 := one hpl' (hR.res.one' (by cases r <;> first | rfl | cases hpl'))
    have h6 : r.shutT rr = r.shutA rr := by cases r <;> first | rfl | exact absurd ⟨_, rfl⟩ htp
    rw [h6]
    refine h5.up ?_
    cases r <;> first | rfl | (simp only [DV.shutA]; split <;> rfl) | exact absurd ⟨_, rfl⟩ htp
end Go.PM

/- One operation at a time, the state's slots spelled out; operations upon typed data. -/
namespace Go.PM
open Go.RowKit
set_option linter.unusedSimpArgs false
set_option linter.unusedVariables false
theorem c0 {α : Type} {x y : α} {l : List α} : (x :: l).set 0 y = y :: l := rfl
theorem cS {α : Type} {x y : α} {l : List α} {n : Nat} : (x :: l).set (n + 1) y = x :: l.set n y := rfl
section
variable {z : Bool} {P : Program} {ops : Array Oper} {effs : List Nat} {i : Nat} {l : List Nat} {o : Oper} {d : DV} {s s' : List DV} {b b' : List (Option (List DV))} {r r' : List (Option Row)} {kb : Nat} {K : St → Prop}

theorem DoEL.doL {l : List Nat} {A A2 : St} (h : DoEL P ops effs l A A2) : DoL P ops l A A2 := by
  induction h with
  | nil A => exact .nil A
  | cons h1 _ ih => exact .cons (.refl _) h1.do1 ih
theorem ex_ord {A : St} {id : Nat} {Q : Exit → St → Prop} (effs : List Nat) (hl : List.range ops.size = l) (h : WE P ops effs l A (Q .normal)) : Ex z P (.region id ops false) A Q := by
  subst hl
  obtain ⟨A2, h1, h2⟩ := h
  exact ex_region h1.doL h2
theorem ex_drw {A : St} (hm : P.follows .mixedOrders = true) {id : Nat} {Q : Exit → St → Prop} (effs : List Nat) (hT : drawOk ops effs (predsT ops) = true) (hl : List.range ops.size = l) (h : WE P ops effs l A (Q .normal)) : Ex z P (.region id ops true) A Q := ex_we hm hT hl h

theorem at_bx {m off : Nat} {cs c : List DV} (h : b[m]? = some (some cs)) (hc : (if off ≤ cs.length then some (cs.drop off) else none) = some c) : St.at ⟨s, b, r, kb⟩ (.bx m off) = some c := by
  simp only [St.at, h]; exact hc
theorem live_bx {m off : Nat} {cs : List DV} (h : b[m]? = some (some cs)) : St.live ⟨s, b, r, kb⟩ (.bx m off) = true := by
  simp only [St.live, h]
theorem set_out (k : Nat) (x : Option (List DV)) (hk : bxOf effs i = k) (hb : b.set k x = b') : ro effs i = true → ∀ m, m ≠ bxOf effs i → b'[m]? = b[m]? := by
  subst hk; subst hb
  intro _ m hm
  exact List.getElem?_set_ne (Ne.symm hm)
theorem app_out (k : Nat) (x : Option (List DV)) (hk : bxOf effs i = k) (hl : b.length = k) (hb : b ++ [x] = b') : ro effs i = true → ∀ m, m ≠ bxOf effs i → b'[m]? = b[m]? := by
  rw [hk]; subst hl; subst hb
  intro _ m hm
  by_cases h : m < b.length
  · rw [List.getElem?_append_left h]
  · rw [List.getElem?_eq_none (by simp; omega), List.getElem?_eq_none (by omega)]
theorem p_ (t : Tmp) (ho : ops[i]? = some o) (ht : o.dst = some t) (hw : wantD ops ⟨s, b, r, kb⟩ o = some true) (hm : nl effs i = false) (hx : XP P o ⟨s, b, r, kb⟩ d) (h : WE P ops effs l ⟨s', b, r, kb⟩ K) (hs : s.set t d = s' := by simp only [c0, cS]; rfl) (hri : ri effs i = false := by rfl) : WE P ops effs (i :: l) ⟨s, b, r, kb⟩ K := by
  subst hs
  exact we_pure (t := some t) ho ht hw hx (fun h => by rw [hm] at h; cases h) (fun h => by rw [hri] at h; cases h) h
theorem r_ (t : Tmp) (m : Nat) {cs : List DV} (ho : ops[i]? = some o) (ht : o.dst = some t) (hw : wantD ops ⟨s, b, r, kb⟩ o = some true) (hm : nl effs i = false) (hb0 : b[m]? = some (some cs)) (hk : bxOf effs i = m) (hx : ∀ b r, b[m]? = some (some cs) → XP P o ⟨s, b, r, kb⟩ d) (h : WE P ops effs l ⟨s', b, r, kb⟩ K) (hs : s.set t d = s' := by simp only [c0, cS]; rfl) : WE P ops effs (i :: l) ⟨s, b, r, kb⟩ K := by
  subst hs; subst hk
  exact we_pure (t := some t) ho ht hw (hx b r hb0) (fun h => by rw [hm] at h; cases h) (fun _ b' r' hb => hx b' r' (hb.trans hb0)) h
theorem n_ (t : Tmp) (ho : ops[i]? = some o) (ht : o.dst = some t) (hw : wantD ops ⟨s, b, r, kb⟩ o = some true) (hx : ∀ b r, XP P o ⟨s, b, r, kb⟩ d) (h : WE P ops effs l ⟨s', b, r, kb⟩ K) (hs : s.set t d = s' := by simp only [c0, cS]; rfl) : WE P ops effs (i :: l) ⟨s, b, r, kb⟩ K := by
  subst hs
  exact we_pure (t := some t) ho ht hw (hx b r) (fun _ => hx) (fun _ b r _ => hx b r) h
theorem p0 (ho : ops[i]? = some o) (ht : o.dst = none) (hw : wantD ops ⟨s, b, r, kb⟩ o = some true) (hm : nl effs i = false) (hx : XP P o ⟨s, b, r, kb⟩ d) (h : WE P ops effs l ⟨s, b, r, kb⟩ K) (hri : ri effs i = false := by rfl) : WE P ops effs (i :: l) ⟨s, b, r, kb⟩ K := we_pure (t := none) ho ht hw hx (fun h => by rw [hm] at h; cases h) (fun h => by rw [hri] at h; cases h) h
theorem k_ (t : Tmp) (ho : ops[i]? = some o) (ht : o.dst = some t) (hw : wantD ops ⟨s, b, r, kb⟩ o = some false) (h : WE P ops effs l ⟨s', b, r, kb⟩ K) (hs : s.set t (.tup []) = s' := by simp only [c0, cS]; rfl) : WE P ops effs (i :: l) ⟨s, b, r, kb⟩ K := by
  subst hs
  exact we_skip (t := some t) ho ht hw h
theorem k0 (ho : ops[i]? = some o) (ht : o.dst = none) (hw : wantD ops ⟨s, b, r, kb⟩ o = some false) (h : WE P ops effs l ⟨s, b, r, kb⟩ K) : WE P ops effs (i :: l) ⟨s, b, r, kb⟩ K := we_skip (t := none) ho ht hw h
theorem e_ (t : Tmp) (he : effs.contains i = true) (hm : nl effs i = false) (ho : ops[i]? = some o) (ht : o.dst = some t) (hw : wantD ops ⟨s, b, r, kb⟩ o = some true) {A1 : St} (hx : XE P o ⟨s, b, r, kb⟩ d A1) (hA : A1 = ⟨s, b', r', kb⟩) (h : WE P ops effs l ⟨s', b', r', kb⟩ K) (hs : s.set t d = s' := by simp only [c0, cS]; rfl) (hri : ri effs i = false := by rfl) (hb : ro effs i = true → ∀ m, m ≠ bxOf effs i → b'[m]? = b[m]? := by first | exact fun _ _ _ => rfl | exact fun h => absurd h Bool.false_ne_true) : WE P ops effs (i :: l) ⟨s, b, r, kb⟩ K := by
  subst hs; subst hA
  exact we_eff (t := some t) he hm hri hb ho ht hw hx h
theorem e0 (he : effs.contains i = true) (hm : nl effs i = false) (ho : ops[i]? = some o) (ht : o.dst = none) (hw : wantD ops ⟨s, b, r, kb⟩ o = some true) {A1 : St} (hx : XE P o ⟨s, b, r, kb⟩ d A1) (hA : A1 = ⟨s, b', r', kb⟩) (h : WE P ops effs l ⟨s, b', r', kb⟩ K) (hri : ri effs i = false := by rfl) (hb : ro effs i = true → ∀ m, m ≠ bxOf effs i → b'[m]? = b[m]? := by first | exact fun _ _ _ => rfl | exact fun h => absurd h Bool.false_ne_true) : WE P ops effs (i :: l) ⟨s, b, r, kb⟩ K := by
  subst hA
  exact we_eff (t := none) he hm hri hb ho ht hw hx h
/-- A truth value on which later operations hang. -/
theorem pif (t : Tmp) {c : Bool} {s1 s2 : List DV} (ho : ops[i]? = some o) (ht : o.dst = some t) (hw : wantD ops ⟨s, b, r, kb⟩ o = some true) (hm : nl effs i = false) (hx : XP P o ⟨s, b, r, kb⟩ (.bool c))
    (h1 : c = true → WE P ops effs l ⟨s1, b, r, kb⟩ K) (h2 : c = false → WE P ops effs l ⟨s2, b, r, kb⟩ K) (hs1 : s.set t (.bool true) = s1 := by simp only [c0, cS]; rfl) (hs2 : s.set t (.bool false) = s2 := by simp only [c0, cS]; rfl) (hri : ri effs i = false := by rfl) : WE P ops effs (i :: l) ⟨s, b, r, kb⟩ K := by
  subst hs1; subst hs2
  cases c with
  | true => exact we_pure (t := some t) ho ht hw hx (fun h => by rw [hm] at h; cases h) (fun h => by rw [hri] at h; cases h) (h1 rfl)
  | false => exact we_pure (t := some t) ho ht hw hx (fun h => by rw [hm] at h; cases h) (fun h => by rw [hri] at h; cases h) (h2 rfl)
theorem ex_if {A : St} {c : Operand} {x y : Code} {t : Bool} {Q : Exit → St → Prop} (hc : A.ev c = some (.bool t)) (h1 : t = true → Ex z P x A Q) (h2 : t = false → Ex z P y A Q) : Ex z P (.cond c x y) A Q := by
  refine ex_cond hc ?_
  cases t with
  | true => exact h1 rfl
  | false => exact h2 rfl
end

/-! ### typed data -/
def bs (l : List UInt8) : ByteArray := ⟨⟨l⟩⟩
theorem bs_toList (l : List UInt8) : (bs l).toList = l := by simp [bs]
theorem bs_append (l m : List UInt8) : bs l ++ bs m = bs (l ++ m) := by
  apply ByteArray.ext
  simp [bs]
theorem bs_get (l : List UInt8) (i : Nat) : (bs l)[i]? = l[i]? := by
  by_cases h : i < l.length
  · have h' : i < (bs l).size := h
    rw [List.getElem?_eq_getElem h, getElem?_pos (bs l) i h']; rfl
  · have h' : ¬ i < (bs l).size := h
    rw [List.getElem?_eq_none (by omega), getElem?_neg (bs l) i h']

/-- An element. -/
def getI {α : Type} (l : List α) (i : Int) : Option α := if 0 ≤ i then l[i.toNat]? else none
theorem getI_some {α : Type} {l : List α} {i : Int} {x : α} (h : getI l i = some x) : 0 ≤ i ∧ l[i.toNat]? = some x := by
  unfold getI at h; split at h
  · exact ⟨‹_›, h⟩
  · cases h
/-- An element turned. -/
def setI {α : Type} (l : List α) (i : Int) (x : α) : List α := l.set i.toNat x
/-- A part. -/
def cutI {α : Type} (l : List α) (lo hi : Int) : Option (List α) := if 0 ≤ lo ∧ lo ≤ hi ∧ hi ≤ l.length then some ((l.take hi.toNat).drop lo.toNat) else none
theorem cutI_some {α : Type} {l m : List α} {lo hi : Int} (h : cutI l lo hi = some m) : 0 ≤ lo ∧ lo ≤ hi ∧ hi ≤ l.length ∧ m = (l.take hi.toNat).drop lo.toNat := by
  unfold cutI at h; split at h
  · rename_i h1; exact ⟨h1.1, h1.2.1, h1.2.2, by simpa using h.symm⟩
  · cases h
/-- A row that memory bears. -/
def capO {α : Type} (by_ : Nat) (l : List α) : Option (List α) := if l.length * (by_ + 1) ≤ 140737488355328 then some l else none
theorem capO_some {α : Type} {by_ : Nat} {l m : List α} (h : capO by_ l = some m) : m = l ∧ l.length * (by_ + 1) ≤ 140737488355328 := by
  unfold capO at h; split at h
  · exact ⟨by simpa using h.symm, ‹_›⟩
  · cases h
/-- Elements' cells: so many, each of one value, no token. -/
def flatF {α : Type} (n : Nat) (f : α → List DV) : Prop := ∀ x, (f x).length = n ∧ (f x).all (fun d => d.one && !d.tok) = true
theorem flatF.ok {α : Type} {n : Nat} {f : α → List DV} (h : flatF n f) (l : List α) : flatOk n (l.map f) := by
  intro x hx
  obtain ⟨y, _, rfl⟩ := List.mem_map.1 hx
  refine ⟨(h y).1, fun d hd => ?_⟩
  have := List.all_eq_true.1 (h y).2 d hd
  simpa using this
abbrev w64 (n : Int) : Int := IntKind.i64.wrap n

section
variable {P : Program} {A : St} {o : Oper} {α : Type} {f : α → List DV}
theorem x_load {t : TypeId} {x : Operand} {p d : DV} {l : List DV} (ho : o.op = .load t x) (hx : A.ev x = some p) (hl : A.at p = some l) (hn : szT P t = some 1) (hu : (P.underlying t).isSome = true) (hg : isAggT P t = false) (hd : l[0]? = some d) : XP P o A d :=
  .load ho hx hl hn hu (by
    rw [hg]; unfold ldVal
    have : 1 ≤ l.length := by have := (List.getElem?_eq_some_iff.1 hd).1; omega
    rw [if_pos this]; simp [hd])
theorem x_loadA {t : TypeId} {x : Operand} {p : DV} {l l' : List DV} {n : Nat} (ho : o.op = .load t x) (hx : A.ev x = some p) (hl : A.at p = some l) (hn : szT P t = some n) (hu : (P.underlying t).isSome = true) (hg : isAggT P t = true) (hd : ldVal true n l = some (.agg l')) : XP P o A (.agg l') :=
  .load ho hx hl hn hu (by rw [hg]; exact hd)
theorem at_ex {t : Nat} {ρ : Row} {xs : List α} {i j : Nat} {x : α} {c : List DV} (hr : A.r[t]? = some (some ρ)) (hρ : ρ.xs = xs.map f) (hx : xs[i]? = some x) (hf : f x = c) (hj : j ≤ c.length) : A.at (.ex t i j) = some (c.drop j) := by
  subst hf
  simp only [St.at, hr, hρ, List.getElem?_map, hx, Option.map_some, Option.bind_some]
  rw [if_pos hj]
theorem x_idx {l : List α} {t e : TypeId} {x y : Operand} {nw : Bool} {k : IntKind} {i : Int} {n : Nat} {c : α} {cs : List DV} (ho : o.op = .indexAddr t x y) (hx : A.ev x = some (.sl nw (l.map f))) (hy : A.ev y = some (.int k i)) (he : elemT P t = some e) (hn : szT P e = some n) (hc : getI l i = some c) (hf : f c = cs) (hcl : cs.length = n) : XP P o A (.cp cs) := by
  subst hf
  obtain ⟨h0, hc⟩ := getI_some hc
  exact .index ho hx hy he hn h0 (by simp [hc]) hcl
theorem x_idxO {l : List α} {t e : TypeId} {x y : Operand} {tk : Nat} {ρ : Row} {k : IntKind} {i : Int} {n : Nat} {c : α} (ho : o.op = .indexAddr t x y) (hx : A.ev x = some (.own tk)) (hr : A.r[tk]? = some (some ρ)) (hρ : ρ.xs = l.map f) (hy : A.ev y = some (.int k i)) (he : elemT P t = some e) (hn : szT P e = some n) (hc : getI l i = some c) (hsz : ρ.sz = n) : XP P o A (.ex tk i.toNat 0) := by
  obtain ⟨h0, hc⟩ := getI_some hc
  exact .indexOwn ho hx hr hy he hn h0 (by rw [hρ, List.length_map]; exact (List.getElem?_eq_some_iff.1 hc).1) hsz
theorem x_len {l : List α} {t e : TypeId} {x : Operand} {d : DV} (ho : o.op = .call { callee := .builtin .len, args := #[x], argTypes := #[t] }) (hx : A.ev x = some d) (he : A.elems d = some (l.map f)) (ht : elemT P t = some e) : XP P o A (.int .i64 l.length) := by
  have := XP.lenSl (P := P) ho hx he ht
  rwa [List.length_map] at this
theorem x_len0 {t e : TypeId} {x : Operand} {d : DV} (ho : o.op = .call { callee := .builtin .len, args := #[x], argTypes := #[t] }) (hx : A.ev x = some d) (he : A.elems d = some []) (ht : elemT P t = some e) : XP P o A (.int .i64 0) := XP.lenSl (P := P) ho hx he ht
theorem x_lenS {t : TypeId} {x : Operand} {s : List UInt8} (ho : o.op = .call { callee := .builtin .len, args := #[x], argTypes := #[t] }) (hx : A.ev x = some (.str (bs s))) (ht : P.underlying t = some .string) : XP P o A (.int .i64 s.length) := XP.lenStr ho hx ht
theorem x_cut {l m : List α} {t e : TypeId} {x : Operand} {lo hi : Option Operand} {nw : Bool} {a b : Int} {n : Nat} (ho : o.op = .slice t x lo hi none) (hx : A.ev x = some (.sl nw (l.map f))) (he : elemT P t = some e) (hn : szT P e = some n) (hlo : loIs A lo a) (hhi : hiIs A (l.map f).length hi b) (hc : cutI l a b = some m) (hfl : flatF n f) : XP P o A (.sl nw (m.map f)) := by
  obtain ⟨h0, h1, h2, rfl⟩ := cutI_some hc
  have := XP.slice (P := P) ho hx he hn hlo hhi h0 h1 (by simpa using h2) (fun c hc => ((hfl.ok l) c hc).1)
  rwa [← List.map_take, ← List.map_drop] at this
theorem x_idxS {t : TypeId} {x y : Operand} {s : List UInt8} {k : IntKind} {i : Int} {b : UInt8} (ho : o.op = .index t x y) (hx : A.ev x = some (.str (bs s))) (hy : A.ev y = some (.int k i)) (ht : P.underlying t = some .string) (hb : getI s i = some b) : XP P o A (.int .u8 b.toNat) := by
  obtain ⟨h0, hb⟩ := getI_some hb
  exact .indexStr ho hx hy ht h0 (by rw [bs_get]; exact hb)
theorem x_eqS {t t' : TypeId} {x y : Operand} {l m : List UInt8} (ho : o.op = .binOp .eql t x y t') (hx : A.ev x = some (.str (bs l))) (hy : A.ev y = some (.str (bs m))) : XP P o A (.bool (l == m)) :=
  .bin ho hx hy (by simp [xbin, bs_toList])
theorem x_neS {t t' : TypeId} {x y : Operand} {l m : List UInt8} (ho : o.op = .binOp .neq t x y t') (hx : A.ev x = some (.str (bs l))) (hy : A.ev y = some (.str (bs m))) : XP P o A (.bool !(l == m)) :=
  .bin ho hx hy (by simp [xbin, bs_toList])
theorem x_eqlB {t t' : TypeId} {x y : Operand} {p q : Bool} (ho : o.op = .binOp .eql t x y t') (hx : A.ev x = some (.bool p)) (hy : A.ev y = some (.bool q)) (ht : P.underlying t = some .bool) : XP P o A (.bool (p == q)) := by
  have := XP.eqB (P := P) (A := A) (ne := false) ho hx hy ht
  rwa [Bool.bne_false] at this
theorem x_neqB {t t' : TypeId} {x y : Operand} {p q : Bool} (ho : o.op = .binOp .neq t x y t') (hx : A.ev x = some (.bool p)) (hy : A.ev y = some (.bool q)) (ht : P.underlying t = some .bool) : XP P o A (.bool (p != q)) := by
  have := XP.eqB (P := P) (A := A) (ne := true) ho hx hy ht
  rwa [Bool.bne_true] at this
theorem x_eqG {t t' : TypeId} {x y : Operand} {cs ds : List DV} {os : List (Nat × Nat)} {bs : List Bool} {b : Bool} (ho : o.op = .binOp .eql t x y t') (hx : A.ev x = some (.agg cs)) (hy : A.ev y = some (.agg ds)) (ht : eqT P t = some os) (hb : eqLs cs ds os = some bs) (he : bs.all id = b) : XP P o A (.bool b) := by
  have := XP.eqG (P := P) (A := A) (ne := false) ho hx hy ht hb
  rwa [he, Bool.bne_false] at this
theorem x_neG {t t' : TypeId} {x y : Operand} {cs ds : List DV} {os : List (Nat × Nat)} {bs : List Bool} {b : Bool} (ho : o.op = .binOp .neq t x y t') (hx : A.ev x = some (.agg cs)) (hy : A.ev y = some (.agg ds)) (ht : eqT P t = some os) (hb : eqLs cs ds os = some bs) (he : (!bs.all id) = b) : XP P o A (.bool b) := by
  have := XP.eqG (P := P) (A := A) (ne := true) ho hx hy ht hb
  rwa [Bool.bne_true, he] at this
theorem x_build {t : TypeId} {parts : Array (Nat × Operand)} {pl : List (Nat × Nat)} {z cs : List DV} {ps : List (Nat × DV)} (ho : o.op = .build t parts) (hpl : placesT P t = some pl) (hz : zeroT P t = some z) (hp : A.evs parts.toList = some ps) (hk : ps.all (fun p => p.2.cells.all A.okCell) = true) (hf : fillD (pl[·]?) z ps = some cs) (ht : cs.all (fun d => !d.tok) = true) : XP P o A (.agg cs) :=
  .build ho hpl hz hp (fun p h => List.all_eq_true.1 hk p h) hf (fun d h => by simpa using List.all_eq_true.1 ht d h)
theorem x_buildA {t e : TypeId} {m n : Nat} {parts : Array (Nat × Operand)} {z cs : List DV} {ps : List (Nat × DV)} (ho : o.op = .build t parts) (ht : arrT P t = some (m, e)) (hn : szT P e = some n) (hz : zeroT P t = some z) (hp : A.evs parts.toList = some ps) (hk : ps.all (fun p => p.2.cells.all A.okCell) = true) (hf : fillD (fun i => some (i * n, n)) z ps = some cs) (hc : cs.all (fun d => !d.tok) = true) : XP P o A (.agg cs) :=
  .buildA ho ht hn hz hp (fun p h => List.all_eq_true.1 hk p h) hf (fun d h => by simpa using List.all_eq_true.1 hc d h)
theorem x_lit {l : List α} {t e : TypeId} {len : Nat} {parts : Array (Nat × Operand)} {n by_ : Nat} {ps : List (Nat × DV)} (ho : o.op = .buildSlice t len parts) (ht : elemT P t = some e) (hr : rowT P e = some (n, by_)) (hz0 : (zeroT P e).isSome = true)
      (hp : A.evs parts.toList = some ps) (hk : ps.all (fun p => p.2.cells.all A.okCell) = true) (hseq : ps.map (·.1) = List.range len) (hlen : len ≤ 1000) (hn : n ≤ 1000) (hf : flatF n f) (hl : ps.map (·.2.cells) = l.map f) : XE P o A (.own A.r.length) { A with r := A.r ++ [some ⟨e, n, l.map f⟩] } := by
  have := XE.lit (P := P) (A := A) ho ht hr hz0 hp (fun p h => List.all_eq_true.1 hk p h) hseq hlen hn (by rw [hl]; exact hf.ok l)
  rwa [hl] at this
theorem x_litF {l : List α} {t e : TypeId} {len : Nat} {parts : Array (Nat × Operand)} {n by_ : Nat} {ps : List (Nat × DV)} (ho : o.op = .buildSlice t len parts) (ht : elemT P t = some e) (hr : rowT P e = some (n, by_)) (hz0 : (zeroT P e).isSome = true)
      (hp : A.evs parts.toList = some ps) (hk : ps.all (fun p => p.2.cells.all A.okCell) = true) (hseq : ps.map (·.1) = List.range len) (hlen : len ≤ 1000) (hn : n ≤ 1000) (hf : flatF n f) (hl : ps.map (·.2.cells) = l.map f) : XE P o A (.sl false (l.map f)) { A with r := A.r ++ [none] } := by
  have := XE.litF (P := P) (A := A) ho ht hr hz0 hp (fun p h => List.all_eq_true.1 hk p h) hseq hlen hn (by rw [hl]; exact hf.ok l)
  rwa [hl] at this
theorem x_appF {xs ys zs : List α} {t e : TypeId} {x y : Operand} {dy : DV} {tk n by_ : Nat} {ρ : Row} (ho : o.op = .call { callee := .builtin .append, args := #[x, y], argTypes := #[t, t] }) (hx : A.ev x = some (.own tk)) (hy : A.ev y = some dy)
    (ht : elemT P t = some e) (hr : rowT P e = some (n, by_)) (hrow : A.r[tk]? = some (some ρ)) (hρ : ρ = ⟨e, n, xs.map f⟩) (hey : A.elems dy = some (ys.map f)) (hf : flatF n f) (hlim : capO by_ (xs ++ ys) = some zs) :
    XE P o A (.sl false (zs.map f)) { A with r := A.r.set tk none ++ [none] } := by
  subst hρ
  obtain ⟨e1, hl⟩ := capO_some hlim
  subst e1
  have := XE.appF (P := P) (A := A) ho hx hy ht hr (some tk) (.inr ⟨tk, rfl, rfl, hrow⟩) hey (hf.ok ys) (by simpa using hl)
  rwa [← List.map_append] at this
def takO (l : List α) (hi : Int) : Option (List α) := if 0 ≤ hi ∧ hi ≤ l.length then some (l.take hi.toNat) else none
theorem x_cutO {l m : List α} {t e : TypeId} {x y : Operand} {k : IntKind} {tk n sz : Nat} {u : Int} (ho : o.op = .slice t x none (some y) none) (hx : A.ev x = some (.own tk)) (hr : A.r[tk]? = some (some ⟨e, sz, l.map f⟩)) (hy : A.ev y = some (.int k u)) (he : elemT P t = some e) (hn : szT P e = some n) (hc : takO l u = some m) : XE P o A (.own A.r.length) { A with r := A.r.set tk none ++ [some ⟨e, sz, m.map f⟩] } := by
  unfold takO at hc
  split at hc
  · rename_i h1
    obtain rfl := Option.some.inj hc
    have := XE.cutO (P := P) ho hx hr hy he hn h1.1 (by simpa using h1.2)
    simpa [List.map_take] using this
  · cases hc
def zerO {β : Type} (by_ : Nat) (n : Int) (x : β) : Option (List β) := if 0 < n ∧ n.toNat * (by_ + 1) ≤ 140737488355328 then some (List.replicate n.toNat x) else none
theorem x_appZ {x0 : α} {zs : List α} {t tn e : TypeId} {x y : Operand} {k kn : IntKind} {n : Int} {m by_ : Nat} {z : List DV} (ho : o.op = .call { callee := .builtin .append, args := #[x, y], argTypes := #[t, tn] }) (hx : A.ev x = some .nil) (hy : A.ev y = some (.int k n)) (ht : elemT P t = some e) (htn : P.underlying tn = some (.int kn)) (hr : rowT P e = some (m, by_)) (hz : zeroT P e = some z) (hf : z = f x0) (hc : zerO by_ n x0 = some zs) : XE P o A (.own A.r.length) { A with r := A.r ++ [some ⟨e, m, zs.map f⟩] } := by
  subst hf
  unfold zerO at hc
  split at hc
  · rename_i h1
    obtain rfl := Option.some.inj hc
    have hn : n = (n.toNat : Int) := by omega
    have := XE.appZ (P := P) (n := n.toNat) ho hx (by rw [← hn]; exact hy) ht htn hr hz (by omega) h1.2
    simpa using this
  · cases hc
theorem x_quo {t t' : TypeId} {x y : Operand} {k : IntKind} {m n q : Int} (ho : o.op = .binOp .quo t x y t') (hx : A.ev x = some (.int k m)) (hy : A.ev y = some (.int k n)) (hq : (if n = 0 then none else some (k.wrap (m.tdiv n))) = some q) : XP P o A (.int k q) := by
  split at hq
  · cases hq
  · rename_i hn
    obtain rfl := Option.some.inj hq
    exact .bin ho hx hy (by simp [xbin, hn])
theorem x_rem {t t' : TypeId} {x y : Operand} {k : IntKind} {m n q : Int} (ho : o.op = .binOp .rem t x y t') (hx : A.ev x = some (.int k m)) (hy : A.ev y = some (.int k n)) (hq : (if n = 0 then none else some (m.tmod n)) = some q) : XP P o A (.int k q) := by
  split at hq
  · cases hq
  · rename_i hn
    obtain rfl := Option.some.inj hq
    exact .bin ho hx hy (by simp [xbin, hn])
theorem x_shl {t t' : TypeId} {x y : Operand} {k k' : IntKind} {m n q : Int} (ho : o.op = .binOp .shl t x y t') (hx : A.ev x = some (.int k m)) (hy : A.ev y = some (.int k' n)) (hq : (if n < 0 then none else some (k.wrap (m * 2 ^ (min n.toNat k.bits)))) = some q) : XP P o A (.int k q) := by
  split at hq
  · cases hq
  · rename_i hn
    obtain rfl := Option.some.inj hq
    exact .bin ho hx hy (by simp only [xbin]; rw [if_neg hn])
theorem x_pickT {c x y : Operand} {d e : DV} (ho : o.op = .pick c x y) (hc : A.ev c = some (.bool true)) (hx : A.ev x = some d) (hy : A.ev y = some e) : XP P o A d := XP.pick ho hc hx hy
theorem x_pickF {c x y : Operand} {d e : DV} (ho : o.op = .pick c x y) (hc : A.ev c = some (.bool false)) (hx : A.ev x = some d) (hy : A.ev y = some e) : XP P o A e := XP.pick ho hc hx hy
theorem x_call {f : Operand} {args : Array Operand} {ats : Array TypeId} {fid : FuncId} {caps ds : List DV} {cb bz : List (List DV)} {ra rr : List Row} {r r' : DV} {args' : List DV} {ba' : List (List DV)} {A2 : St} (bs toks : List Nat) (ho : o.op = .call { callee := .value f, args := args, argTypes := ats }) (hf : A.ev f = some (.fn fid caps)) (hen : EntersF P fid) (hOk : OkB P fid args' ba' ra r bz rr) (hds : A.evL args.toList = some ds) (ha : (ds ++ caps).map (renA bs toks) = args') (hok : (ds ++ caps).all (argOk bs toks) = true)
      (hnb : nodupB bs = true) (hcb : A.boxesOf bs = some cb) (hb : cb.map (List.map (renA bs toks)) = ba') (hokb : cb.all (fun c => c.all (argOk bs toks)) = true) (hnd : nodupB toks = true) (hra : A.rowsOf toks = some ra) (hpl : r.plain = true) (hpb : bz.all (fun c => c.all DV.plain1) = true) (hcap : caps.all (fun d => !d.tok) = true) (hr : r.renT (A.r.length + ·) = r') (hA : A.called bs toks bz rr = A2) : XE P o A r' A2 := by
  subst ha; subst hb; subst hr; subst hA
  exact .call ho hf hen hds hok (nodupB_nodup hnb) hcb hokb (nodupB_nodup hnd) hra hpl hpb hcap hOk
theorem x_callP {f : Operand} {args : Array Operand} {ats : Array TypeId} {fid : FuncId} {caps ds : List DV} {r : DV} {args' : List DV} (ho : o.op = .call { callee := .value f, args := args, argTypes := ats }) (hf : A.ev f = some (.fn fid caps)) (hen : EntersF P fid) (hOk : OkB P fid args' [] [] r [] []) (hds : A.evL args.toList = some ds) (ha : ds ++ caps = args') (hok : (ds ++ caps).all (argOk [] []) = true) (hcap : caps.all (fun d => !d.tok) = true) (hpl : r.free = true) : XP P o A r := by
  subst ha
  exact .call ho hf hen hds hok hcap hpl hOk
theorem x_callE {α : Type} {cf : α → List DV} {xs : List α} {c c' : α} {f : Operand} {args : Array Operand} {ats : Array TypeId} {fid : FuncId} {caps ds : List DV} {r : DV} {args' : List DV} {tk i : Nat} {ρ : Row} (ho : o.op = .call { callee := .value f, args := args, argTypes := ats }) (hf : A.ev f = some (.fn fid caps)) (hen : EntersF P fid) (hOk : OkB P fid args' [cf c] [] r [cf c'] []) (hds : A.evL args.toList = some ds) (ha : (ds ++ caps).map renE = args')
    (hr : A.r[tk]? = some (some ρ)) (hρ : ρ.xs = xs.map cf) (hc : xs[i]? = some c) (hok : (ds ++ caps).all (argOkE tk i) = true) (hpl : r.free = true) (hyt : (cf c').all (fun d => d.one && !d.tok) = true) : XE P o A r { A with r := A.r.set tk (some { ρ with xs := (xs.set i c').map cf }) } := by
  subst ha
  have := XE.callEx (P := P) (A := A) (y := cf c') ho hf hen hds hr (by rw [hρ, List.getElem?_map, hc]; rfl) hok hpl hyt hOk
  rwa [hρ, ← List.map_set] at this
theorem x_cut3 {α : Type} {f : α → List DV} {l m : List α} {t e : TypeId} {x y z : Operand} {nw : Bool} {k k' : IntKind} {u : Int} {n : Nat} (ho : o.op = .slice t x none (some y) (some z)) (hx : A.ev x = some (.sl nw (l.map f))) (hy : A.ev y = some (.int k u)) (hz : A.ev z = some (.int k' u)) (he : elemT P t = some e) (hn : szT P e = some n) (hc : cutI l 0 u = some m) : XP P o A (.sl nw (m.map f)) := by
  obtain ⟨h0, h1, h2, rfl⟩ := cutI_some hc
  have := XP.slice3 (P := P) ho hx hy hz he hn h1 (by simpa using h2)
  rwa [← List.map_take] at this
theorem all_app {l m : List DV} {p : DV → Bool} (h1 : l.all p = true) (h2 : m.all p = true) : (l ++ m).all p = true := by rw [List.all_append, h1, h2]; rfl
/-- A closure that is handed over. -/
structure Cl (P : Program) (g : FuncId) (cs : List DV) : Prop where
  en : EntersF P g
  nt : cs.all (fun d => !d.tok) = true
  ok : cs.all (argOk [] []) = true
theorem Cl.renE {P : Program} {g : FuncId} {cs : List DV} (h : Cl P g cs) : cs.map renE = cs := by
  refine (List.map_congr_left (fun d hd => ?_)).trans (List.map_id cs)
  have h1 := List.all_eq_true.1 h.nt d hd
  cases d <;> first | rfl | (simp [DV.tok] at h1)
theorem Cl.okE {P : Program} {g : FuncId} {cs : List DV} (h : Cl P g cs) (t i : Nat) : cs.all (argOkE t i) = true := by
  refine List.all_eq_true.2 (fun d hd => ?_)
  have h1 := List.all_eq_true.1 h.nt d hd
  cases d <;> first | rfl | (simp [DV.tok] at h1)
theorem x_callEV {α : Type} {cf : α → List DV} {xs : List α} {c c' : α} {f : Operand} {args : Array Operand} {ats : Array TypeId} {fid : FuncId} {caps ds : List DV} {r : DV} {args' : List DV} {tk i : Nat} {ρ : Row} (ho : o.op = .call { callee := .value f, args := args, argTypes := ats }) (hf : A.ev f = some (.fn fid caps)) (hC : Cl P fid caps) (hOk : OkB P fid (args' ++ caps) [cf c] [] r [cf c'] []) (hds : A.evL args.toList = some ds) (ha : ds.map renE = args')
    (hr : A.r[tk]? = some (some ρ)) (hρ : ρ.xs = xs.map cf) (hc : xs[i]? = some c) (hok : ds.all (argOkE tk i) = true) (hpl : r.free = true) (hyt : (cf c').all (fun d => d.one && !d.tok) = true) : XE P o A r { A with r := A.r.set tk (some { ρ with xs := (xs.set i c').map cf }) } :=
  x_callE ho hf hC.en hOk hds (by rw [List.map_append, ha, hC.renE]) hr hρ hc (by rw [List.all_append, hok, hC.okE]; rfl) hpl hyt
theorem ba_beq (a b : ByteArray) : (a == b) = true ↔ a = b := by
  show (a.data == b.data) = true ↔ _
  rw [beq_iff_eq, ByteArray.ext_iff]
theorem bs_beq (l m : List UInt8) : (bs l == bs m) = (l == m) := by
  rw [Bool.eq_iff_iff, ba_beq, beq_iff_eq]
  constructor
  · intro h; have := congrArg (fun b : ByteArray => b.data.toList) h; exact this
  · rintro rfl; rfl
/-- append. -/
theorem x_app {xs ys zs : List α} {t e : TypeId} {x y : Operand} {dy : DV} {tk n by_ : Nat} {ρ : Row} (ho : o.op = .call { callee := .builtin .append, args := #[x, y], argTypes := #[t, t] }) (hx : A.ev x = some (.own tk)) (hy : A.ev y = some dy)
    (ht : elemT P t = some e) (hr : rowT P e = some (n, by_)) (hrow : A.r[tk]? = some (some ρ)) (hρ : ρ = ⟨e, n, xs.map f⟩) (hey : A.elems dy = some (ys.map f)) (hf : flatF n f) (hlim : capO by_ (xs ++ ys) = some zs) :
    XE P o A (.own A.r.length) { A with r := A.r.set tk none ++ [some ⟨e, n, zs.map f⟩] } := by
  subst hρ
  obtain ⟨e1, hl⟩ := capO_some hlim
  subst e1
  have := XE.append (P := P) (A := A) ho hx hy ht hr (some tk) (.inr ⟨tk, rfl, rfl, hrow⟩) hey (hf.ok ys) (by simpa using hl)
  rwa [← List.map_append] at this
theorem x_appN {ys zs : List α} {t e : TypeId} {x y : Operand} {dy : DV} {n by_ : Nat} (ho : o.op = .call { callee := .builtin .append, args := #[x, y], argTypes := #[t, t] }) (hx : A.ev x = some .nil) (hy : A.ev y = some dy)
    (ht : elemT P t = some e) (hr : rowT P e = some (n, by_)) (hey : A.elems dy = some (ys.map f)) (hf : flatF n f) (hlim : capO by_ ys = some zs) :
    XE P o A (.own A.r.length) { A with r := A.r ++ [some ⟨e, n, zs.map f⟩] } := by
  obtain ⟨e1, hl⟩ := capO_some hlim
  subst e1
  have := XE.append (P := P) (A := A) ho hx hy ht hr none (.inl ⟨rfl, rfl, rfl⟩) hey (hf.ok _) (by simpa using hl)
  simpa [kill] using this
/-- A store into an element. -/
theorem x_stE {xs : List α} {t : TypeId} {x y : Operand} {d : DV} {n tk i j : Nat} {ρ : Row} {c c' : α} (ho : o.op = .store t x y) (hx : A.ev x = some (.ex tk i j)) (hy : A.ev y = some d) (hn : szT P t = some n) (hl : d.cells.length = n) (hk : d.cells.all A.okCell = true)
    (hr : A.r[tk]? = some (some ρ)) (hρ : ρ.xs = xs.map f) (hc : xs[i]? = some c) (hj : j + n ≤ (f c).length) (ht : d.cells.all (fun d => !d.tok) = true) (hs : splice (f c) j d.cells = f c') : XE P o A .top { A with r := A.r.set tk (some { ρ with xs := (xs.set i c').map f }) } := by
  refine .store ho hx hy hn hl hk ?_
  simp only [St.store, hr, hρ, List.getElem?_map, hc, Option.map_some]
  rw [if_pos ⟨by omega, ht⟩, hs, List.map_set]
end
end Go.PM
namespace Go.PM
open Go.RowKit
set_option linter.unusedVariables false
section
variable {z : Bool} {P : Program} {A : St}
theorem ex_gst {c : Code} {Q : Exit → St → Prop} {A1 : St} (A2 : St) (hg : Gst A A1) (he : A1 = A2) (h : Ex z P c A2 Q) : Ex z P c A Q := by
  subst he; exact h.gst hg
/-- THE LOOP, with its ways out. -/
theorem ex_iterX {σ ρ : Type} {c : Code} {Q : Exit → St → Prop} {step : σ → Option (σ ⊕ ρ)} (ex : ρ → Exit) (enc : σ → St) (encX : ρ → St) {n : Nat} {s0 : σ} {out : ρ} (h : iter step n s0 = some out) (h0 : A = enc s0) (hk : Q (ex out) (encX out))
    (round : ∀ s y, step s = some y → Ex z P c (enc s) (fun e A' => ∃ A3, Gst A' A3 ∧ ((e = .normal ∧ ∃ s', y = .inl s' ∧ A3 = enc s') ∨ (∃ o, e = ex o ∧ e ≠ .normal ∧ y = .inr o ∧ A3 = encX o)))) : Ex z P (.loop c) A Q := by
  subst h0
  refine ex_iter enc h (fun s y hs hout => ?_)
  refine Ex.post ((round s y hs).mono ?_)
  rintro e A' ⟨A3, hg, h1⟩
  rcases h1 with ⟨rfl, s', rfl, rfl⟩ | ⟨o, rfl, hne, rfl, rfl⟩
  · exact ⟨_, hg, _, .refl _, s', rfl, rfl⟩
  · refine ⟨_, hg, ?_⟩
    obtain rfl := hout o rfl
    cases hx : ex o with
    | normal => exact absurd hx hne
    | _ => rw [hx] at hk; exact hk
theorem rnd_on {σ ρ : Type} {e : Exit} {A A1 : St} {ex : ρ → Exit} {enc : σ → St} {encX : ρ → St} {y : σ ⊕ ρ} {s' : σ} (he : e = .normal) (h : (some (.inl s') : Option (σ ⊕ ρ)) = some y) (hg : Gst A A1) (h1 : A1 = enc s') : ∃ A3, Gst A A3 ∧ ((e = .normal ∧ ∃ s', y = .inl s' ∧ A3 = enc s') ∨ (∃ o, e = ex o ∧ e ≠ .normal ∧ y = .inr o ∧ A3 = encX o)) :=
  ⟨A1, hg, .inl ⟨he, s', (Option.some.inj h).symm, h1⟩⟩
theorem rnd_out {σ ρ : Type} {e : Exit} {A A1 : St} {ex : ρ → Exit} {enc : σ → St} {encX : ρ → St} {y : σ ⊕ ρ} {o : ρ} (he : e = ex o) (hne : e ≠ .normal) (h : (some (.inr o) : Option (σ ⊕ ρ)) = some y) (hg : Gst A A1) (h1 : A1 = encX o) : ∃ A3, Gst A A3 ∧ ((e = .normal ∧ ∃ s', y = .inl s' ∧ A3 = enc s') ∨ (∃ o, e = ex o ∧ e ≠ .normal ∧ y = .inr o ∧ A3 = encX o)) :=
  ⟨A1, hg, .inr ⟨o, he, hne, (Option.some.inj h).symm, h1⟩⟩
/-- The end of a piece whose data go by a function of their own. -/
theorem fin2 {α : Type} {A A1 A3 : St} {v v' : α} (h : some v = some v') (hg : Gst A A1) (h2 : ∀ u, u = v → some u = some v' → A1 = A3) : Exit.normal = .normal ∧ ∃ A', Gst A A' ∧ A' = A3 := ⟨rfl, _, hg, h2 v rfl h⟩
end
end Go.PM
namespace Go.PM
open Go.RowKit
variable {P : Program} {A : St}
theorem res_tmp {t : Tmp} {d : DV} (h : A.s[t]? = some d) : A.res P (.tmp t) = some d := h
theorem res_cell {a : Tmp} {t : TypeId} {p d : DV} {l : List DV} {n : Nat} {b : Bool} (hp : A.s[a]? = some p) (hl : A.at p = some l) (hn : szT P t = some n) (hu : (P.underlying t).isSome = true) (hg : isAggT P t = b) (hd : ldVal b n l = some d) : A.res P (.cell a t) = some d := by
  simp only [St.res, hp, hl, hn, hu, hg, hd, if_true]
theorem res_nil : A.resL P [] = some [] := rfl
theorem res_cons {x : ResultVar} {l : List ResultVar} {d : DV} {ds : List DV} (h : A.res P x = some d) (h2 : A.resL P l = some ds) : A.resL P (x :: l) = some (d :: ds) := by
  simp only [St.resL, h, h2]
end Go.PM

/- A range over a function: what the function owes, and what the loop then does. -/
namespace Go.PM
open Go.RowKit
set_option linter.unusedSimpArgs false
set_option linter.unusedVariables false
variable {P : Program} {B : Base} {w0 : World} {g : Gh} {A : St} {a : Act} {w : World}

/-- Any block. -/
def Any : Nat → Prop := fun _ => True
/-- AN ITERATOR's CONTRACT: it hands out these, one behind the other, whatever the loop keeps between two of them; where the loop has left, it returns. -/
def SeqOk (P : Program) (f : FuncId) (caps : List DV) {α : Type} (encs : α → Array Value) (xs : List α) : Prop :=
  ∀ (l : Nat) (lb : Array Value) (J Jx : Nat → World → Prop) (W : World), lb.size = caps.length →
    (∀ k W W', J k W → W.grownBy W' none → J k W') → (∀ k W W', Jx k W → W.grownBy W' none → Jx k W') →
    (∀ k W, J k W → ∀ i d, caps[i]? = some d → VR W Any Any d (lb.getD i undef)) → (∀ k W, Jx k W → ∀ i d, caps[i]? = some d → VR W Any Any d (lb.getD i undef)) →
    (∀ k x W1, xs[k]? = some x → J k W1 → YieldAt Fence.wide 0 P l (encs x) W1 fun e W' => (e = .returned (.bool true) ∧ J (k + 1) W') ∨ (e = .returned (.bool false) ∧ Jx (k + 1) W')) →
    J 0 W → Calls P f (#[.func (.yield l) #[] #[]] ++ lb) W fun e W' => (∃ v, e = .returned v) ∧ (J xs.length W' ∨ ∃ k, k ≤ xs.length ∧ Jx k W')

/-- From here on: the world as it is now is the first. -/
theorem Rel.rebase (h : Rel B w0 g A a w) (hd : a.defers = []) {w2 : World} (hs : w.heap.size ≤ w2.heap.size) (hc : ∀ (k : Nat) (c : Array Value) (e : TypeId) (f : Nat × Nat), w.heap[k]? = some (Obj.cells c e f) → w2.heap[k]? = some (Obj.cells c e f)) :
    ∃ B' : Base, B'.N = B.N ∧ B'.no = B.no ∧ (∀ k, B'.own k → B.own k) ∧ B'.kb = B.kb ∧ Rel B' w2 g A a w2 := by
  have hBw : B.n ≤ w2.heap.size := Nat.le_trans (Nat.le_trans h.base h.below.size) hs
  refine ⟨{ n := w2.heap.size, ex := mutb g A, N := B.N, no := B.no, kb := A.kb, bm := g.bm, bo := g.bo, bn := fun i => match A.b[i]? with | some (some cs) => cs.length | _ => 0, hN := fun k hk => B.hN k (hk.elim (fun h1 => .inl (by omega)) (fun h1 => (h.new k h1).1)) }, rfl, rfl, fun k hk => hk.elim (fun h1 => .inl (Nat.le_trans hBw h1)) (fun h1 => (h.new k h1).1), h.kb.1, ?_⟩
  refine { size := h.size, slot := fun i d hi => (h.slot i d hi).monoC hc hs, box := ?_, row := ?_, bb := h.bb, rr := h.rr, br := h.br, kb := ⟨rfl, by have h1 := h.kb.1; have h2 := h.kb.2; simp only; omega⟩, fix := fun _ _ _ => ⟨rfl, rfl⟩, out := ?_, new := fun k hk => ⟨.inr hk, Nat.lt_of_lt_of_le (h.new k hk).2 hs⟩, nn := fun k hk => ⟨Nat.lt_of_lt_of_le (h.nn k hk).1 hs, (h.nn k hk).2⟩, base := Nat.le_refl _, below := Bel.refl _ _, oth := KeepsOthers.refl _, gno := h.gno, dfr := ⟨by rw [hd]; simp, fun d hd' => by rw [hd] at hd'; simp at hd'⟩ }
  · intro i cs hi
    obtain ⟨u, e, h1, h2, h3⟩ := h.box i cs hi
    exact ⟨u, e, hc _ _ _ _ h1, h2, fun j d hj => ⟨(h3 j d hj).1, (h3 j d hj).2.monoC hc hs⟩⟩
  · intro t ρ hx
    rcases h.row t ρ hx with h1 | ⟨hp, u, cap, h1, h2, h3, h4, h5, h6, h7⟩
    · exact .inl h1
    exact .inr ⟨hp, u, cap, hc _ _ _ _ h1, h2, h3, h4, h5, h6, fun i x j d hi hj => ⟨(h7 i x j d hi hj).1, (h7 i x j d hi hj).2.1, (h7 i x j d hi hj).2.2.monoC hc hs⟩⟩

  · intro i cs hi hi2
    obtain ⟨u, e, h1, h2, h3⟩ := h.box i cs hi2
    have h4 : cs.length = (match A.b[i]? with | some (some cs) => cs.length | _ => 0) := by rw [hi2]
    refine ⟨h4, u, u, e, hc _ _ _ _ h1, hc _ _ _ _ h1, rfl, ?_, fun _ _ => rfl⟩
    simp only [hi2]; exact h2

/-- Back again: the slots that a round has left are the loop's. -/
theorem Rel.outer (h : Rel B w0 g A a w) {B' : Base} {wb : World} (hkb : B'.kb = B.kb) (hk0 : B.kb = 0) (hN : B'.N = B.N) (hno : B'.no = B.no) (hoo : ∀ k, B'.own k → B.own k) {g' : Gh} {A' : St} {a' : Act} {w' : World} (h' : Rel B' wb g' A' a' w') (hbel : Bel B w0 w') (hoth : KeepsOthers w0 w')
    (hdfr : a.defers.Nodup ∧ ∀ d ∈ a.defers, ∃ D, d = ⟨.collected D, #[]⟩ ∧ w0.heap.size ≤ D ∧ w'.heap[D]? = some (.deferred (some []))) {s : List DV} (hsl : s.length = A.s.length)
    (hs : ∀ i d, s[i]? = some d → d = .top ∨ (A'.s[i]? = some d ∧ a'.tmps.getD i undef = a.tmps.getD i undef)) : Rel B w0 g' ⟨s, A'.b, A'.r, A'.kb⟩ a w' := by
  refine { size := by rw [h.size, hsl], slot := ?_, box := fun i cs hc => hN ▸ h'.box i cs hc, row := fun t ρ hx => hN ▸ h'.row t ρ hx, bb := h'.bb, rr := h'.rr, br := h'.br, kb := ⟨h'.kb.1.trans hkb, by rw [hk0]; exact Nat.zero_le _⟩, fix := fun i hi => by rw [hk0] at hi; omega, out := fun i cs hi => by rw [hk0] at hi; omega, new := fun k hk => ⟨hoo k (h'.new k hk).1, (h'.new k hk).2⟩, nn := h'.nn, base := h.base, below := hbel, oth := hoth, gno := h'.gno.trans hno, dfr := hdfr }
  intro i d hd
  rcases hs i d hd with rfl | ⟨h1, h2⟩
  · exact SR.vr (.top _)
  · rw [← h2, ← hN]; exact h'.slot i d h1

/-- Slots, filled. -/
def setPs (s : List DV) : List (Tmp × DV) → List DV
  | [] => s
  | p :: l => setPs (s.set p.1 p.2) l
theorem setPs_length : ∀ (l : List (Tmp × DV)) (s : List DV), (setPs s l).length = s.length
  | [], s => rfl
  | p :: l, s => by simp [setPs, setPs_length l]
def putPs (t : Array Value) : List (Tmp × Value) → Array Value
  | [] => t
  | p :: l => putPs (t.setIfInBounds p.1 p.2) l
theorem putPs_keep : ∀ (l : List (Tmp × Value)) (t : Array Value) (i : Nat), i ∉ l.map (·.1) → (putPs t l).getD i undef = t.getD i undef
  | [], t, i, _ => rfl
  | p :: l, t, i, h => by
    simp only [List.map_cons, List.mem_cons, not_or] at h
    rw [putPs, putPs_keep l _ i h.2, Array.getD_eq_getD_getElem?, Array.getElem?_setIfInBounds, if_neg (fun e => h.1 e.symm), ← Array.getD_eq_getD_getElem?]
theorem Rel.puts : ∀ {l : List Tmp} {ds : List DV} {vs : List Value} {a : Act} {A : St}, Rel B w0 g A a w → (∀ (j : Nat) (d : DV) (v : Value), ds[j]? = some d → vs[j]? = some v → VR w B.N (fun k => ¬ bad g A k) d v) → l.length = ds.length → l.length = vs.length →
    Rel B w0 g { A with s := setPs A.s (l.zip ds) } { a with tmps := putPs a.tmps (l.zip vs) } w
  | [], ds, vs, a, A, h, _, _, _ => by cases a; cases A; exact h
  | t :: l, [], vs, a, A, h, _, hl, _ => by simp at hl
  | t :: l, d :: ds, [], a, A, h, _, _, hl => by simp at hl
  | t :: l, d :: ds, v :: vs, a, A, h, hv, h1, h2 => by
    have hp := h.put (some t) (SR.vr (hv 0 d v rfl rfl))
    exact Rel.puts (l := l) (ds := ds) (vs := vs) hp (fun j d' v' hj hj' => hv (j + 1) d' v' (by simpa using hj) (by simpa using hj')) (by simpa using h1) (by simpa using h2)
theorem foldl_put : ∀ (l : List (Tmp × Value)) (t : Array Value), l.foldl (fun t p => t.setIfInBounds p.1 p.2) t = putPs t l
  | [], t => rfl
  | p :: l, t => by rw [List.foldl_cons, foldl_put l]; rfl

theorem wpIn_n {F : Fence} (hF : F.depth = none) {n m : Nat} {c : Code} {Q : Exit → Act → World → Prop} (h : c.wpIn F n P Q a w) : c.wpIn F m P Q a w := fun b k cs hro hb _ => h b k cs hro hb (fun d hd => by rw [hF] at hd; cases hd)

/-- What a round must leave of the loop's slots. -/
def KeepS (s s2 : List DV) (l : List Tmp) : Prop := ∀ i d, s[i]? = some d → d = .top ∨ (s2[i]? = some d ∧ i ∉ l)

theorem Fin.deferred {k D : Nat} {o : Obj} (h : w.heap[k]? = some o) (hD : w.heap.size ≤ D) : k ≠ D := by
  have := (Array.getElem?_eq_some_iff.1 h).1; omega
end Go.PM

/- The loop itself. -/
namespace Go.PM
open Go.RowKit
set_option linter.unusedSimpArgs false
set_option linter.unusedVariables false
variable {P : Program} {B : Base} {w0 : World} {g : Gh} {A : St} {a : Act} {w : World}

theorem oth_grown {m : Nat} {W W' : World} {row : Option Nat} (hg : W.grownBy W' row) (hm : m ≤ W.heap.size) (hr : ∀ r, row = some r → m ≤ r ∧ ∃ o : Obj, W.heap[r]? = some o ∧ o.isCells = false) : Oth m W W' where
  os := hg.os
  tape := hg.tape
  output := hg.output
  size := hg.size
  low k hk := hg.block k (by omega) (fun e => by have := (hr k e.symm).1; omega)
  cells k c e f hk := by
    refine (hg.block k (Array.getElem?_eq_some_iff.1 hk).1 (fun e' => ?_)).trans hk
    obtain ⟨_, o, ho, hc⟩ := hr k e'.symm
    rw [hk] at ho; cases ho; cases hc

/-- THE RANGE OVER A FUNCTION whose rounds go to their ends. -/
theorem ex_range {α : Type} {encs : α → Array Value} {encD : α → List DV} {xs : List α} {f : FuncId} {caps : List DV} {go : Operand} {ps : Array Tmp} {assign body : Code} {Q : Exit → St → Prop}
    (I : Nat → List (Option (List DV)) → List (Option Row) → Prop) (hkb : A.kb = 0) (hg : A.ev go = some (.fn f caps)) (hen : EntersF P f) (hseq : SeqOk P f caps encs xs)
    (henc : ∀ x, (encs x).size = ps.size ∧ (encD x).length = ps.size ∧ ∀ (w : World) (N ok : Nat → Prop) (j : Nat) (d : DV), (encD x)[j]? = some d → VR w N ok d ((encs x).getD j undef))
    (hround : ∀ k x b r, xs[k]? = some x → I k b r → Ex false P assign ⟨setPs A.s (ps.toList.zip (encD x)), b, r, 0⟩ (thenE (fun A1 => Ex false P body A1 (fun e A2 => e = .normal ∧ KeepS A.s A2.s (ps.toList ++ wr assign ++ wr body) ∧ I (k + 1) A2.b A2.r)) (fun _ _ => False)))
    (h0 : I 0 A.b A.r) (hQ : ∀ b r, I xs.length b r → Q .normal ⟨A.s, b, r, 0⟩) : Ex true P (.rangeFunc go ps assign body) A Q := by
  intro B w0 g a w hr ro hz n K hK
  have hB0 : B.kb = 0 := by rw [← hr.kb.1]; exact hkb
  obtain ⟨As, Ab, Ar, Ak⟩ := A
  simp only at hkb
  subst hkb
  obtain rfl : ro = none := hz rfl
  refine wpIn_n rfl (n := 1) ?_
  refine wpIn_rangeFunc ?_
  intro fn hfn
  have hfv : VR w B.N (fun k => ¬ bad g ⟨As, Ab, Ar, 0⟩ k) (.fn f caps) (a.eval go) := hr.ev hg
  generalize hvf : a.eval go = vf at hfv
  cases hfv with
  | fn _ _ lb hcl hcd =>
  have hBw : B.n ≤ w.heap.size := Nat.le_trans hr.base hr.below.size
  have hw0 : w0.heap.size ≤ w.heap.size := hr.below.size
  obtain ⟨rec, hrec⟩ : ∃ rec : LoopState → Option Code → Loop, rec = fun st pe => { state := st, pending := pe, fn, tmps := a.tmps, params := ps, assign, body, defers := w.heap.size } := ⟨_, rfl⟩
  obtain ⟨W1, hW1⟩ : ∃ W1, (w.alloc (.deferred (some []))).alloc (.loop (rec .ready none)) = W1 := ⟨_, rfl⟩
  have hL1 : W1.heap[w.heap.size + 1]? = some (.loop (rec .ready none)) := by
    rw [← hW1]; have := World.alloc_heap_new (w.alloc (.deferred (some []))) (.loop (rec .ready none)); rwa [World.size_alloc] at this
  have hD1 : W1.heap[w.heap.size]? = some (.deferred (some [])) := by
    rw [← hW1]; exact (Below.heap_alloc _ _ _ (by simp)).trans (World.alloc_heap_new w _)
  have hg1 : w.grownBy W1 none := by
    rw [← hW1]
    exact ⟨rfl, rfl, rfl, by rw [World.size_alloc, World.size_alloc]; omega, fun k hk _ => (Below.heap_alloc _ _ _ (by rw [World.size_alloc]; omega)).trans (Below.heap_alloc _ _ _ hk)⟩
  -- the loop's own book-keeping
  let L := w.heap.size + 1
  let D := w.heap.size
  have hdfr : ∀ {W : World}, KeepsOthers w W → a.defers.Nodup ∧ ∀ d ∈ a.defers, ∃ D, d = ⟨.collected D, #[]⟩ ∧ w0.heap.size ≤ D ∧ W.heap[D]? = some (.deferred (some [])) := fun hk =>
    ⟨hr.dfr.1, fun d hd => by obtain ⟨D, h1, h2, h3⟩ := hr.dfr.2 d hd; exact ⟨D, h1, h2, hk.same D _ h3 rfl⟩⟩
  let J : Nat → World → Prop := fun k W => ∃ b r g', I k b r ∧ Rel B w0 g' ⟨As, b, r, 0⟩ a W ∧ W.heap[L]? = some (.loop (rec .ready none)) ∧ W.heap[D]? = some (.deferred (some [])) ∧ KeepsOthers w W
  have hJ : ∀ {k : Nat} {W : World} (l : Nat) (o o' : Obj) (b : List (Option (List DV))) (r : List (Option Row)) (g' : Gh), Rel B w0 g' ⟨As, b, r, 0⟩ a W → w.heap.size < l → W.heap[l]? = some o → o.isCells = false → KeepsOthers w W → Rel B w0 g' ⟨As, b, r, 0⟩ a (W.putObj l o') ∧ KeepsOthers w (W.putObj l o') := by
    intro k W l o o' b r g' h1 h2 h3 h4 h5
    have h6 : KeepsOthers w (W.putObj l o') := ⟨by simpa [World.putObj] using h5.size, fun j x hj hx => by
      refine (World.putObj_heap_other ?_).trans (h5.same j x hj hx)
      rintro rfl
      have := (Array.getElem?_eq_some_iff.1 hj).1; omega⟩
    exact ⟨h1.others (oth_putObj (by omega) h3 h4) rfl (hdfr h6), h6⟩
  have grown : ∀ k W W', J k W → W.grownBy W' none → J k W' := by
    rintro k W W' ⟨b, r, g', h1, h2, h3, h4, h5⟩ hgr
    have hk : KeepsOthers W W' := ⟨hgr.size, fun j x hj _ => (hgr.block j (Array.getElem?_eq_some_iff.1 hj).1 (by simp)).trans hj⟩
    exact ⟨b, r, g', h1, h2.others (oth_grown hgr (Nat.le_trans hw0 h5.size) (fun r e => by cases e)) rfl (hdfr (h5.trans hk)), hk.same _ _ h3 rfl, hk.same _ _ h4 rfl, h5.trans hk⟩
  refine ⟨L, [{ target := .collected D, args := #[] }], W1, { target := .fn (.func f) lb, args := #[.func (.yield L) #[] #[]] }, W1, f, #[.func (.yield L) #[] #[]] ++ lb, W1, ?_, ?_, ?_, ?_, fun _ => Nat.le_refl _, ?_⟩
  · rw [← hW1, hrec]; exact run_enterLoop_outer _ _ _ _ _
  · simp only [resolve, rangeCall, hvf]
    simp [go_sem]
  · intro f' hf'; exact Fw_fn none f'
  · simp [invoke, go_sem, hen _ _]
  · refine (callsIn_wide).2 ?_
    refine Calls.mono' (hseq L lb J (fun _ _ => False) W1 hcl grown (fun _ _ _ h _ => h.elim) ?_ (fun _ _ h => h.elim) ?_ ?_) ?_
    · rintro k W ⟨b, r, g', h1, h2, _⟩ i d hd
      have he : (⟨As, b, r, 0⟩ : St).ev go = some (.fn f caps) := by cases go <;> exact hg
      have hfv : VR W B.N (fun k => ¬ bad g' ⟨As, b, r, 0⟩ k) (.fn f caps) (a.eval go) := h2.ev he
      rw [hvf] at hfv
      cases hfv with
      | fn _ _ _ _ hcd => exact (hcd i d hd).mono (fun _ _ _ => rfl) (Nat.le_refl _) (fun _ _ _ => trivial) (fun _ _ _ => trivial)
    · -- one round
      rintro k x W hx ⟨b, r, g', hI, hrel, hl, hd, hkw⟩
      obtain ⟨e1, e2, e3⟩ := henc x
      have hwW : w.heap.size ≤ W.heap.size := hkw.size
      have hLW : L < W.heap.size := (Array.getElem?_eq_some_iff.1 hl).1
      refine ⟨fn, _, assign, body, by have := run_yield (P := P) (args := encs x) hl (by rw [hrec]; exact e1); rw [hrec] at this; exact this, ?_⟩
      refine roundIn_of_wpIn (Fw_fn none fn) ?_
      -- the round's first state
      have hrel0 : Rel B w0 g' ⟨As, b, r, 0⟩ { tmps := a.tmps, defers := [] } W := hrel.others ⟨rfl, rfl, rfl, Nat.le_refl _, fun _ _ => rfl, fun _ _ _ _ h => h⟩ rfl ⟨by simp, fun d hd => by simp at hd⟩
      obtain ⟨B1, hN1, hno1, hoo1, hkb1, hb1⟩ := hrel0.rebase rfl (w2 := W) (Nat.le_refl _) (fun _ _ _ _ h => h)
      have hp := hb1.puts (l := ps.toList) (ds := encD x) (vs := (encs x).toList) (fun j d v hj hj' => by
        have := e3 W B1.N (fun k => ¬ bad g' ⟨As, b, r, 0⟩ k) j d hj
        rw [toList_getD hj'] at this
        exact this) (by simp [e2]) (by simp [e1])
      have htm : (ps.zip (encs x)).foldl (fun t p => t.setIfInBounds p.1 p.2) a.tmps = putPs a.tmps (ps.toList.zip (encs x).toList) := by
        rw [← Array.foldl_toList, Array.toList_zip, foldl_put]
      have htm' : (ps.zip (encs x)).foldl (fun t (p : Tmp × Value) => match p with | (p, v) => t.setIfInBounds p v) a.tmps = putPs a.tmps (ps.toList.zip (encs x).toList) := htm
      rw [htm']
      refine hround k x b r hx hI B1 W g' _ W hp (some L) (fun e => by cases e) 0 _ ?_
      intro e A1 g1 a1 w1 hq hr1 hk1
      cases e with
      | normal =>
        have hl1 := hr1.oth.same _ _ hl rfl
        have hL1' : L < w1.heap.size := (Array.getElem?_eq_some_iff.1 hl1).1
        refine ⟨_, run_beginRound hl1 (by rw [hrec]), ?_⟩
        have hd1 : a1.defers = [] := hk1.1 rfl
        have hca : ∀ (k : Nat) (c : Array Value) (e : TypeId) (f : Nat × Nat), w1.heap[k]? = some (Obj.cells c e f) → (w1.putObj L (.loop { rec .ready none with state := .busy })).heap[k]? = some (Obj.cells c e f) :=
          (oth_putObj (m := 0) (Nat.zero_le _) hl1 rfl).cells
        have hsz2 : w1.heap.size ≤ (w1.putObj L (.loop { rec .ready none with state := .busy })).heap.size := by simp [World.putObj]
        obtain ⟨B2, hN2, hno2, hoo2, hkb2, hb2⟩ := hr1.rebase hd1 hsz2 hca
        refine hq B2 _ g1 a1 _ hb2 (some L) (fun e => by cases e) 0 _ ?_
        rintro e A2 g2 a2 w3 ⟨rfl, hks, hI2⟩ hr2 hk2
        have hl2 : (w1.putObj L (.loop { rec .ready none with state := .busy })).heap[L]? = some (.loop { rec .ready none with state := .busy }) := World.putObj_heap_same hL1'
        have hl3 := hr2.oth.same _ _ hl2 rfl
        have hd2 : (w1.putObj L (.loop { rec .ready none with state := .busy })).heap[D]? = some (.deferred (some [])) := (World.putObj_heap_other (by omega)).trans (hr1.oth.same _ _ hd rfl)
        have hd3 := hr2.oth.same _ _ hd2 rfl
        refine ⟨_, _, by have := run_endRound (P := P) none hl3; rw [hrec] at this; exact this, .inl ⟨rfl, ?_⟩⟩
        -- all together
        have hko : ∀ {X : World}, X.heap.size ≤ L → KeepsOthers X w1 → KeepsOthers X (w1.putObj L (.loop { rec .ready none with state := .busy })) := fun hX hk => ⟨Nat.le_trans hk.size hsz2, fun j o hj ho => by
          refine (World.putObj_heap_other ?_).trans (hk.same j o hj ho)
          have := (Array.getElem?_eq_some_iff.1 hj).1; omega⟩
        have hk3 : KeepsOthers w w3 := (hko (by omega) (hkw.trans hr1.oth)).trans hr2.oth
        have hk03 : KeepsOthers w0 w3 := (hko (by omega) (hrel.oth.trans hr1.oth)).trans hr2.oth
        have hbel : Bel B w0 w3 := by
          refine hrel.below.trans (Bel.trans (b := w1) ⟨hr1.below.os, hr1.below.tape, hr1.below.output, hr1.below.size, fun k hk => hr1.below.block k (fun h1 => hk (hoo1 k h1))⟩ ?_)
          refine Bel.trans (b := w1.putObj L (.loop { rec .ready none with state := .busy })) ⟨rfl, rfl, rfl, hsz2, fun k hk => World.putObj_heap_other (fun e => hk (.inl (by omega)))⟩ ⟨hr2.below.os, hr2.below.tape, hr2.below.output, hr2.below.size, fun k hk => hr2.below.block k (fun h1 => hk (hoo1 k (hoo2 k h1)))⟩
        have hslots : ∀ i d, As[i]? = some d → d = .top ∨ (A2.s[i]? = some d ∧ a2.tmps.getD i undef = a.tmps.getD i undef) := by
          intro i d hi
          rcases hks i d hi with h1 | ⟨h1, h2⟩
          · exact .inl h1
          · refine .inr ⟨h1, ?_⟩
            simp only [List.mem_append, not_or] at h2
            rw [hk2.2 i h2.2, hk1.2 i h2.1.2]
            refine putPs_keep _ _ _ (fun h3 => h2.1.1 ?_)
            obtain ⟨p, h4, h5⟩ := List.mem_map.1 h3
            rw [← h5]; exact (List.of_mem_zip h4).1
        have hfin : Rel B w0 g2 ⟨As, A2.b, A2.r, 0⟩ a w3 := by
          have hko0 := hrel.outer (hkb2.trans hkb1) hB0 (hN2.trans hN1) (hno2.trans hno1) (fun k hk => hoo1 k (hoo2 k hk)) hr2 hbel hk03 (hdfr hk3) (s := As) rfl hslots
          have hk20 : A2.kb = 0 := by rw [hr2.kb.1, hkb2, hkb1, hB0]
          rw [hk20] at hko0; exact hko0
        obtain ⟨h1, h2⟩ := hJ (k := 0) L _ (.loop { rec .ready none with state := .ready }) A2.b A2.r g2 hfin (by omega) hl3 rfl hk3
        have hL3 : L < w3.heap.size := (Array.getElem?_eq_some_iff.1 hl3).1
        refine ⟨A2.b, A2.r, g2, hI2, ?_, ?_, ?_, ?_⟩
        · rw [hrec] at h1; exact h1
        · rw [hrec]; exact World.putObj_heap_same hL3
        · exact (World.putObj_heap_other (by omega)).trans hd3
        · rw [hrec] at h2; exact h2
      | _ => exact hq.elim
    · exact ⟨Ab, Ar, g, h0, hr.others (oth_grown hg1 hw0 (fun r e => by cases e)) rfl (hdfr ⟨hg1.size, fun j x hj _ => (hg1.block j (Array.getElem?_eq_some_iff.1 hj).1 (by simp)).trans hj⟩), hL1, hD1, ⟨hg1.size, fun j x hj _ => (hg1.block j (Array.getElem?_eq_some_iff.1 hj).1 (by simp)).trans hj⟩⟩
    · rintro e W2 ⟨⟨v, rfl⟩, ⟨b, r, g', hI, hrel, hl, hd, hkw⟩ | ⟨_, _, h⟩⟩
      · refine ⟨none, _, by have := run_endLoop (P := P) hl (by rw [hrec]; simp); rw [hrec] at this; exact this, ?_⟩
        obtain ⟨h1, h2⟩ := hJ (k := 0) L _ (.loop { rec .ready none with state := .exhausted }) b r g' hrel (by omega) hl rfl hkw

        have hd4 : (W2.putObj L (.loop { rec .ready none with state := .exhausted })).heap[D]? = some (.deferred (some [])) := (World.putObj_heap_other (by omega)).trans hd
        have hfresh : ∀ d ∈ a.defers, d ≠ { target := .collected D, args := #[] } := by
          rintro d hd' rfl
          obtain ⟨D', h3, _, h4⟩ := hr.dfr.2 _ hd'
          have h5 : D = D' := by simpa using h3
          have := (Array.getElem?_eq_some_iff.1 h4).1; omega
        have hfin : Rel B w0 g' ⟨As, b, r, 0⟩ { a with defers := [{ target := .collected D, args := #[] }] ++ a.defers } (W2.putObj L (.loop { rec .ready none with state := .exhausted })) := by
          refine h1.others ⟨rfl, rfl, rfl, Nat.le_refl _, fun _ _ => rfl, fun _ _ _ _ h => h⟩ rfl ⟨?_, fun d hd' => ?_⟩
          · exact List.nodup_cons.2 ⟨fun h => hfresh _ h rfl, hr.dfr.1⟩
          · rcases List.mem_cons.1 hd' with rfl | hd'
            · exact ⟨D, rfl, hw0, hd4⟩
            · exact (hdfr h2).2 d hd'
        have hend := hK .normal ⟨As, b, r, 0⟩ g' _ _ (hQ b r hI) hfin ⟨fun e => (by cases e), fun _ _ => rfl⟩
        rw [hrec] at hend
        exact hend
      · exact h.elim
end Go.PM

/- The walk of an iterator: between two of its yields it is as any function; at a yield all that it has in memory must be what it was handed. -/
namespace Go.PM
open Go.RowKit
set_option linter.unusedSimpArgs false
set_option linter.unusedVariables false
variable {P : Program}

def ExG {S : Type} (R : S → Act → World → Prop) (P : Program) (c : Code) (A : S) (Q : Exit → S → Prop) : Prop :=
  ∀ (a : Act) (w : World), R A a w → ∀ (n : Nat) (K : Exit → Act → World → Prop), (∀ e A2 a' w', Q e A2 → R A2 a' w' → K e a' w') → c.wpIn (Fw none) n P K a w
def thenG {S : Type} (next : S → Prop) (Q : Exit → S → Prop) : Exit → S → Prop
  | .normal, A => next A
  | e, A => Q e A
def blockG {S : Type} (id : Nat) (Q : Exit → S → Prop) : Exit → S → Prop
  | .exit id', A => if id' = id then Q .normal A else Q (.exit id') A
  | e, A => Q e A
section
variable {S : Type} {R : S → Act → World → Prop} {A : S} {Q : Exit → S → Prop}
theorem exg_skip (h : Q .normal A) : ExG R P .skip A Q := fun a w hr n K hK => wpIn_skip (hK _ _ _ _ h hr)
theorem exg_exit {id : Nat} (h : Q (.exit id) A) : ExG R P (.exit id) A Q := fun a w hr n K hK => wpIn_exit (hK _ _ _ _ h hr)
theorem exg_ret (h : Q .ret A) : ExG R P .ret A Q := fun a w hr n K hK => wpIn_ret (hK _ _ _ _ h hr)
theorem exg_seq {x y : Code} (h : ExG R P x A (thenG (fun A1 => ExG R P y A1 Q) Q)) : ExG R P (.seq x y) A Q := by
  intro a w hr n K hK
  refine wpIn_seq (h a w hr n _ ?_)
  intro e A2 a' w' hq hr'
  cases e with
  | normal => exact hq a' w' hr' n K hK
  | _ => exact hK _ _ _ _ hq hr'
theorem exg_block {id : Nat} {c : Code} (h : ExG R P c A (blockG id Q)) : ExG R P (.block id c) A Q := by
  intro a w hr n K hK
  refine wpIn_block (h a w hr n _ ?_)
  intro e A2 a' w' hq hr'
  cases e with
  | exit id' =>
    simp only [blockG] at hq
    simp only [Exit.inBlock]
    by_cases e : id' = id
    · rw [if_pos e] at hq ⊢; exact hK _ _ _ _ hq hr'
    · rw [if_neg e] at hq ⊢; exact hK _ _ _ _ hq hr'
  | _ => exact hK _ _ _ _ hq hr'
theorem exg_loop {c : Code} (I : Nat → S → Prop) (round : ∀ m A, I m A → ExG R P c A (thenG (fun A' => ∃ m', m' < m ∧ I m' A') Q)) (m : Nat) (h0 : I m A) : ExG R P (.loop c) A Q := by
  intro a w hr n K hK
  refine wpIn_loop_rounds (m + 1) ?_
  revert A a w
  induction m using Nat.strongRecOn with
  | _ m ih =>
    intro A h0 a w hr
    rw [roundsIn_succ]
    refine round m A h0 a w hr n _ ?_
    intro e A2 a' w' hq hr'
    cases e with
    | normal =>
      obtain ⟨m', hm, hi⟩ := hq
      exact roundsIn_up m (by omega) (ih m' hm hi a' w' hr')
    | _ => exact hK _ _ _ _ hq hr'
end

/-- An iterator's state: its slots, how many it has handed out, and whether it goes on. -/
structure YS where
  s : List DV
  k : Nat
  on : Bool
structure RY (caps : List DV) (lb : Array Value) (J Jx : Nat → World → Prop) (S : YS) (a : Act) (W : World) : Prop where
  size : a.tmps.size = S.s.length
  slot : ∀ i d, S.s[i]? = some d → VR W Any Any d (a.tmps.getD i undef)
  dfr : a.defers = []
  cap : ∀ j, j < caps.length → a.tmps.getD (1 + j) undef = lb.getD j undef
  inv : if S.on then J S.k W else Jx S.k W

def ghN : Gh := { bm := fun _ => 0, bo := fun _ => 0, tm := fun _ => 0, tv := fun _ => undef, pl := fun _ => false, no := fun _ => False }
def bsN (W : World) : Base := { n := W.heap.size, ex := fun _ => False, N := Any, no := fun _ => False, kb := 0, bm := fun _ => 0, bo := fun _ => 0, bn := fun _ => 0, hN := fun _ _ => trivial }
theorem badN {s : List DV} {k : Nat} : ¬ bad ghN ⟨s, [], [], 0⟩ k := by
  rintro (h | ⟨i, ⟨cs, h⟩, _⟩ | ⟨i, ⟨⟨cs, h⟩, _⟩, _⟩)
  · exact h
  · simp at h
  · simp at h
section
variable {caps : List DV} {lb : Array Value} {J Jx : Nat → World → Prop} {S : YS} {a : Act} {W : World}
theorem RY.rel (h : RY caps lb J Jx S a W) : Rel (bsN W) W ghN ⟨S.s, [], [], 0⟩ a W where
  size := h.size
  slot i d hd := SR.vr ((h.slot i d hd).mono (fun _ _ _ => rfl) (Nat.le_refl _) (fun _ _ _ => badN) (fun _ h _ => h))
  box i cs hc := by simp at hc
  row t ρ hx := by simp at hx
  bb i j hi := by obtain ⟨cs, h⟩ := hi; simp at h
  rr i j hi := by obtain ⟨⟨cs, h⟩, _⟩ := hi; simp at h
  br i j hi := by obtain ⟨cs, h⟩ := hi; simp at h
  kb := ⟨rfl, Nat.zero_le _⟩
  fix i hi := by simp [bsN] at hi
  out i cs hi := by simp [bsN] at hi
  new k hk := by
    rcases hk with ⟨i, ⟨cs, h⟩, _⟩ | ⟨i, ⟨⟨cs, h⟩, _⟩, _⟩ <;> simp at h
  nn k hk := hk.elim
  base := Nat.le_refl _
  below := Bel.refl _ _
  oth := KeepsOthers.refl _
  gno := rfl
  dfr := ⟨by rw [h.dfr]; simp, fun d hd => by rw [h.dfr] at hd; simp at hd⟩

/-- No memory of its own. -/
def noTok (s : List DV) : Bool := s.all fun d => !d.tok
theorem RY.of {S' : YS} (h : RY caps lb J Jx S a W) (hJ : ∀ k W W', J k W → W.grownBy W' none → J k W') (hJx : ∀ k W W', Jx k W → W.grownBy W' none → Jx k W') {s2 : List DV} {g' : Gh} {a' : Act} {W' : World} (hr : Rel (bsN W) W g' ⟨s2, [], [], 0⟩ a' W') (hn : noTok s2 = true)
    (hd : a'.defers = a.defers) (hc : ∀ j, j < caps.length → a'.tmps.getD (1 + j) undef = a.tmps.getD (1 + j) undef) : RY caps lb J Jx ⟨s2, S.k, S.on⟩ a' W' := by
  have hg : W.grownBy W' none := ⟨hr.below.os, hr.below.tape, hr.below.output, hr.below.size, fun k hk _ => hr.below.block k (by rintro (h1 | h1); exact absurd hk (Nat.not_lt.2 h1); exact h1)⟩
  refine { size := hr.size, slot := fun i d hi => ?_, dfr := hd.trans h.dfr, cap := fun j hj => (hc j hj).trans (h.cap j hj), inv := ?_ }
  · have ht : d.tok = false := by simpa using List.all_eq_true.1 hn d (List.mem_of_getElem? hi)
    exact ((hr.slot i d hi).toVr ht).mono (fun _ _ _ => rfl) (Nat.le_refl _) (fun _ _ _ => trivial) (fun _ _ _ => trivial)
  · have := h.inv
    cases hon : S.on with
    | true => rw [hon] at this; exact hJ _ _ _ this hg
    | false => rw [hon] at this; exact hJx _ _ _ this hg

/-- Between yields. -/
theorem exg_ex (hJ : ∀ k W W', J k W → W.grownBy W' none → J k W') (hJx : ∀ k W W', Jx k W → W.grownBy W' none → Jx k W') {c : Code} {s : List DV} {k : Nat} {on : Bool} {Q : Exit → YS → Prop} (hw : ∀ j, j < caps.length → 1 + j ∉ wr c)
    (h : Ex false P c ⟨s, [], [], 0⟩ (fun e A2 => ∃ s2, Gst A2 ⟨s2, [], [], 0⟩ ∧ noTok s2 = true ∧ Q e ⟨s2, k, on⟩)) : ExG (RY caps lb J Jx) P c ⟨s, k, on⟩ Q := by
  intro a w hr n K hK
  refine h _ w ghN a w hr.rel none (fun e => by cases e) n K ?_
  rintro e A2 g' a' w' ⟨s2, hg, hn, hq⟩ hr' hk
  obtain ⟨g2, hr2⟩ := hg.rel hr'
  exact hK e _ a' w' hq (RY.of (S' := ⟨s2, k, on⟩) hr hJ hJx hr2 hn (hk.1 rfl) (fun j hj => hk.2 _ (hw j hj)))
theorem exg_if {c : Operand} {x y : Code} {t : Bool} {s : List DV} {k : Nat} {on : Bool} {Q : Exit → YS → Prop} (hc : (⟨s, [], [], 0⟩ : St).ev c = some (.bool t)) (h1 : t = true → ExG (RY caps lb J Jx) P x ⟨s, k, on⟩ Q) (h2 : t = false → ExG (RY caps lb J Jx) P y ⟨s, k, on⟩ Q) : ExG (RY caps lb J Jx) P (.cond c x y) ⟨s, k, on⟩ Q := by
  intro a w hr n K hK
  refine wpIn_cond (SR.inv_bool (hr.rel.ev hc)) ?_
  cases t with
  | true => exact h1 rfl a w hr n K hK
  | false => exact h2 rfl a w hr n K hK
end
end Go.PM

/- A yield; an iterator's contract from its walk. -/
namespace Go.PM
open Go.RowKit
set_option linter.unusedSimpArgs false
set_option linter.unusedVariables false
variable {P : Program}

theorem DoL.soundK {B : Base} {w0 : World} {ops : Array Oper} {l l2 : List Nat} {A A2 : St} (hd : DoL P ops l A A2) : ∀ {g : Gh} {a : Act} {w : World}, Rel B w0 g A a w → ∀ {ro : Option Nat} {n : Nat} {Q : Exit → Act → World → Prop},
    (∀ g' a' w', Rel B w0 g' A2 a' w' → Same (wrOps ops) a a' → wpOpsIn (Fw ro) n P ops Q l2 a' w') → wpOpsIn (Fw ro) n P ops Q (l ++ l2) a w := by
  induction hd with
  | nil => intro g a w h ro n Q hK; exact hK g a w h (.refl _ _)
  | cons hg h1 _ ih =>
    intro g a w h ro n Q hK
    rw [List.cons_append, wpOpsIn_cons]
    obtain ⟨g0, h⟩ := hg.rel h
    exact h1.sound h (fun g' a' w' hr hdf => ih hr (fun g'' a'' w'' hr' hdf' => hK g'' a'' w'' hr' (hdf.trans hdf')))

theorem roundIn_n {F : Fence} (hF : F.depth = none) {n m l : Nat} {f : FuncId} {tmps : Array Value} {assign body : Code} {w : World} {R : Ending → World → Prop} (h : RoundIn F n P l f tmps assign body w R) : RoundIn F m P l f tmps assign body w R :=
  ⟨h.1, fun c cs _ => h.2 c cs (fun d hd => by rw [hF] at hd; cases hd)⟩
theorem RoundIn.mono' {F : Fence} {n l : Nat} {f : FuncId} {tmps : Array Value} {assign body : Code} {w : World} {R R' : Ending → World → Prop} (h : RoundIn F n P l f tmps assign body w R) (hr : ∀ e w', R e w' → R' e w') : RoundIn F n P l f tmps assign body w R' :=
  ⟨h.1, fun c cs hc => let ⟨e, w', r, x⟩ := h.2 c cs hc; ⟨e, w', hr _ _ r, x⟩⟩

/-- What needs no memory. -/
def DV.plainS : DV → Bool
  | .int _ _ | .bool _ | .str _ | .yl _ => true
  | _ => false
def flatS (d : DV) : DV := if d.plainS then d else .top
/-- The slots behind a yield. -/
def yS (caps s : List DV) : List DV := (s.take 1).map flatS ++ caps ++ (s.drop (1 + caps.length)).map flatS
theorem VR.plainS {w w' : World} {N N' ok ok' : Nat → Prop} {d : DV} {v : Value} (h : VR w N ok d v) (hd : d.plainS = true) : VR w' N' ok' d v := by
  cases d <;> first | cases hd | skip
  all_goals cases h
  · exact .int _ _
  · exact .bool _
  · exact .str _
  · exact .yl _
theorem VR.flatS {w w' : World} {N N' ok ok' : Nat → Prop} {d : DV} {v : Value} (h : VR w N ok d v) : VR w' N' ok' (flatS d) v := by
  unfold PM.flatS
  split
  · exact h.plainS ‹_›
  · exact .top _

section
variable {caps : List DV} {lb : Array Value} {J Jx : Nat → World → Prop}
theorem yS_get {s : List DV} (hl : 1 + caps.length ≤ s.length) {i : Nat} {d : DV} (h : (yS caps s)[i]? = some d) : (∃ d0, s[i]? = some d0 ∧ d = flatS d0) ∨ ∃ j, i = 1 + j ∧ caps[j]? = some d := by
  unfold yS at h
  have h1 : ((s.take 1).map flatS).length = 1 := by simp; omega
  by_cases hi0 : i < 1
  · rw [List.append_assoc, List.getElem?_append_left (by omega), List.getElem?_map, List.getElem?_take, if_pos hi0] at h
    left
    cases hq : s[i]? with
    | none => rw [hq] at h; cases h
    | some d0 => rw [hq] at h; exact ⟨d0, rfl, by simpa using h.symm⟩
  · rw [List.append_assoc, List.getElem?_append_right (by omega), h1] at h
    by_cases hi1 : i - 1 < caps.length
    · rw [List.getElem?_append_left hi1] at h
      exact .inr ⟨i - 1, by omega, h⟩
    · rw [List.getElem?_append_right (by omega), List.getElem?_map, List.getElem?_drop] at h
      left
      have e : 1 + caps.length + (i - 1 - caps.length) = i := by omega
      rw [e] at h
      cases hq : s[i]? with
      | none => rw [hq] at h; cases h
      | some d0 => rw [hq] at h; exact ⟨d0, rfl, by simpa using h.symm⟩
theorem yS_length {s : List DV} (hl : 1 + caps.length ≤ s.length) : (yS caps s).length = s.length := by
  simp [yS]; omega

/-- THE YIELD. -/
theorem exg_yield {α : Type} {encs : α → Array Value} {encD : α → List DV} {xs : List α} {l : Nat} {x : α}
    (hJ : ∀ k W W', J k W → W.grownBy W' none → J k W') (hJx : ∀ k W W', Jx k W → W.grownBy W' none → Jx k W')
    (hcap : ∀ k W, J k W → ∀ i d, caps[i]? = some d → VR W Any Any d (lb.getD i undef)) (hcapx : ∀ k W, Jx k W → ∀ i d, caps[i]? = some d → VR W Any Any d (lb.getD i undef))
    (hy : ∀ k x W1, xs[k]? = some x → J k W1 → YieldAt Fence.wide 0 P l (encs x) W1 fun e W' => (e = .returned (.bool true) ∧ J (k + 1) W') ∨ (e = .returned (.bool false) ∧ Jx (k + 1) W'))
    (hex : ∀ (x : α) (W : World) (N ok : Nat → Prop) (vs : Array Value), vs.size = (encD x).length → (∀ j d, (encD x)[j]? = some d → VR W N ok d (vs.getD j undef)) → vs = encs x)
    {id i : Nat} {ops : Array Oper} {l1 l2 : List Nat} (hl : List.range ops.size = l1 ++ i :: l2) {s s1 : List DV} {k : Nat} {Q : Exit → YS → Prop} {o : Oper} {f : Operand} {args : Array Operand} {ats : Array TypeId} {t : Tmp}
    (hlen : 1 + caps.length ≤ s1.length) (hwr : ∀ j, j < caps.length → 1 + j ∉ wrOps ops)
    (hd1 : DoL P ops l1 ⟨s, [], [], 0⟩ ⟨s1, [], [], 0⟩) (hn1 : noTok s1 = true) (ho : ops[i]? = some o) (hop : o.op = .call { callee := .value f, args := args, argTypes := ats }) (hdst : o.dst = some t) (hw : wantD ops ⟨s1, [], [], 0⟩ o = some true)
    (hf : (⟨s1, [], [], 0⟩ : St).ev f = some (.yl l)) (hds : (⟨s1, [], [], 0⟩ : St).evL args.toList = some (encD x)) (hx : xs[k]? = some x) (hnt : (encD x).all (fun d => !d.tok) = true)
    (hpost : ∀ b : Bool, ∃ s2, DoL P ops l2 ⟨(yS caps s1).set t (.bool b), [], [], 0⟩ ⟨s2, [], [], 0⟩ ∧ noTok s2 = true ∧ Q .normal ⟨s2, k + 1, b⟩) : ExG (RY caps lb J Jx) P (.region id ops false) ⟨s, k, true⟩ Q := by
  intro a w hr n K hK
  refine wpIn_region ?_
  rw [hl]
  have hon : J k w := hr.inv
  refine hd1.soundK hr.rel ?_
  intro g1 a1 w1 hr1 hs1
  have hy1 : RY caps lb J Jx ⟨s1, k, true⟩ a1 w1 := RY.of (S' := ⟨s1, k, true⟩) hr hJ hJx hr1 hn1 hs1.1 (fun j hj => hs1.2 _ (hwr j hj))
  rw [wpOpsIn_cons]
  unfold wpOpIn
  rw [ho]
  simp only [wantD_wanted hy1.rel hw, if_true]
  refine ⟨fun f _ => Fw_fn none f, ?_⟩
  have hnd' : Oper.noDefer o = true := by unfold Oper.noDefer; rw [hop]
  rw [semAt_plain o _ _ hnd']
  have hfv : VR w1 (bsN w1).N (fun k => ¬ bad ghN ⟨s1, [], [], 0⟩ k) (.yl l) (a1.eval f) := hy1.rel.ev hf
  have hfe : a1.eval f = .func (.yield l) #[] #[] := by
    generalize a1.eval f = v at hfv
    cases hfv; rfl
  obtain ⟨e1, e2⟩ := evL_get hds
  have hargs : args.map a1.eval = encs x := by
    refine hex x w1 Any Any _ (by simp [e1]) (fun j d hj => ?_)
    obtain ⟨y, h3, h4⟩ := e2 j d hj
    rw [Array.getElem?_toList] at h3
    have h5 : (args.map a1.eval).getD j undef = a1.eval y := getD_of_get (by rw [Array.getElem?_map, h3]; rfl)
    rw [h5]
    have h6 := hy1.rel.evN h4
    have htk : d.tok = false := by simpa using List.all_eq_true.1 hnt d (List.mem_of_getElem? hj)
    exact (h6.toVr htk).mono (fun _ _ _ => rfl) (Nat.le_refl _) (fun _ _ _ => trivial) (fun _ _ _ => trivial)
  obtain ⟨fn, tmps, assign, body, hrun, hround⟩ := hy k x w1 hx hy1.inv
  have hsem : (execOp a1.eval o).run P w1 = .ok (.round l fn tmps assign body) w1 := by
    unfold execOp; rw [hop]
    simp only [resolve, hfe, Deferred.ofValue, Sem.run_bind, Sem.run_pure, Result.andThen_ok, invoke, hargs]
    simpa using hrun
  rw [hsem, Oper.uponIn_round]
  refine ⟨fun h => (by rw [Fw_depth] at h; cases h), roundIn_n (Fw_depth none) (RoundIn.mono' hround ?_)⟩
  have next : ∀ (b : Bool) (W : World), (if b then J (k + 1) W else Jx (k + 1) W) → wpOpsIn (Fw none) n P ops K l2 (a1.put o.dst (.bool b)) W := by
    intro b W hinv
    obtain ⟨s2, hd2, hn2, hq⟩ := hpost b
    have hcaps : ∀ i d, caps[i]? = some d → VR W Any Any d (lb.getD i undef) := by
      cases b with
      | true => exact hcap _ _ hinv
      | false => exact hcapx _ _ hinv
    have hm : o ∈ ops.toList := by rw [← Array.getElem?_toList] at ho; exact List.mem_of_getElem? ho
    have htw : t ∈ wrOps ops := List.mem_filterMap.2 ⟨o, hm, hdst⟩
    have hput : ∀ u, u ≠ t → (a1.put o.dst (.bool b)).tmps.getD u undef = a1.tmps.getD u undef := by
      intro u hu
      rw [hdst]; simp only [Act.put]
      rw [Array.getD_eq_getD_getElem?, Array.getElem?_setIfInBounds, if_neg (fun e => hu e.symm), ← Array.getD_eq_getD_getElem?]
    have hry : RY caps lb J Jx ⟨(yS caps s1).set t (.bool b), k + 1, b⟩ (a1.put o.dst (.bool b)) W := by
      refine { size := ?_, slot := ?_, dfr := ?_, cap := ?_, inv := hinv }
      · rw [hdst]; simp [Act.put, yS_length hlen]; exact hy1.size
      · intro u d hu
        rw [List.getElem?_set] at hu
        split at hu
        · rename_i e
          subst e
          split at hu
          · rename_i hlt
            obtain rfl := (by simpa using hu : _ = d)
            have : t < a1.tmps.size := by rw [hy1.size]; rw [yS_length hlen] at hlt; exact hlt
            rw [hdst]; simp only [Act.put]
            rw [Array.getD_eq_getD_getElem?, Array.getElem?_setIfInBounds]
            simp [this]
            exact .bool b
          · cases hu
        · rename_i e
          rw [hput u (fun h => e h.symm)]
          rcases yS_get hlen hu with ⟨d0, h1, rfl⟩ | ⟨j, rfl, h1⟩
          · exact (hy1.slot u d0 h1).flatS
          · rw [hy1.cap j (List.getElem?_eq_some_iff.1 h1).1]
            exact hcaps j d h1
      · rw [hdst]; exact hy1.dfr
      · intro j hj
        rw [hput (1 + j) (fun e => hwr j hj (e ▸ htw))]
        exact hy1.cap j hj
    have := hd2.sound hry.rel (ro := none) (n := n) (Q := K) (fun g' a' w' hr' hs' => hK _ _ a' w' hq (RY.of (S' := ⟨(yS caps s1).set t (.bool b), k + 1, b⟩) hry hJ hJx hr' hn2 hs'.1 (fun j hj => hs'.2 _ (hwr j hj))))
    exact this
  rintro e W' (⟨rfl, hj⟩ | ⟨rfl, hj⟩)
  · exact next true W' hj
  · exact next false W' hj
end
end Go.PM

/- An iterator's contract from its walk. -/
namespace Go.PM
open Go.RowKit
set_option linter.unusedSimpArgs false
set_option linter.unusedVariables false
variable {P : Program}

theorem seqok_of {α : Type} {encs : α → Array Value} {xs : List α} {caps : List DV} {f : FuncId} {fn : Func} {c : Code} (hf : P.funcs[f]? = some fn) (hb : fn.body = some c) (hres : fn.results = #[])
    (h : ∀ (l : Nat) (lb : Array Value) (J Jx : Nat → World → Prop),
      (∀ k W W', J k W → W.grownBy W' none → J k W') → (∀ k W W', Jx k W → W.grownBy W' none → Jx k W') →
      (∀ k W, J k W → ∀ i d, caps[i]? = some d → VR W Any Any d (lb.getD i undef)) → (∀ k W, Jx k W → ∀ i d, caps[i]? = some d → VR W Any Any d (lb.getD i undef)) →
      (∀ k x W1, xs[k]? = some x → J k W1 → YieldAt Fence.wide 0 P l (encs x) W1 fun e W' => (e = .returned (.bool true) ∧ J (k + 1) W') ∨ (e = .returned (.bool false) ∧ Jx (k + 1) W')) →
      ExG (RY caps lb J Jx) P c ⟨[.yl l] ++ caps ++ List.replicate (fn.ntmps - (1 + caps.length)) .top, 0, true⟩ (fun e S => (e = .normal ∨ e = .ret) ∧ ((S.k = xs.length ∧ S.on = true) ∨ (S.on = false ∧ S.k ≤ xs.length)))) : SeqOk P f caps encs xs := by
  intro l lb J Jx W hlb hJ hJx hcap hcapx hy h0
  refine (callsIn_wide (n := 0)).1 (callsIn_of_wp_marks hf hb trivial ?_)
  have hsz : (#[Value.func (.yield l) #[] #[]] ++ lb).size = 1 + caps.length := by simp [hlb]
  have hry : RY caps lb J Jx ⟨[.yl l] ++ caps ++ List.replicate (fn.ntmps - (1 + caps.length)) .top, 0, true⟩ { tmps := #[Value.func (.yield l) #[] #[]] ++ lb ++ Array.replicate (fn.ntmps - (#[Value.func (.yield l) #[] #[]] ++ lb).size) undef, defers := [] } W := by
    refine { size := ?_, slot := ?_, dfr := rfl, cap := ?_, inv := h0 }
    · rw [hsz]; simp [hlb]; omega
    · intro i d hd
      by_cases hi0 : i = 0
      · subst hi0
        obtain rfl := (by simpa using hd : _ = d)
        have : (#[Value.func (.yield l) #[] #[]] ++ lb ++ Array.replicate (fn.ntmps - (#[Value.func (.yield l) #[] #[]] ++ lb).size) undef).getD 0 undef = .func (.yield l) #[] #[] := by
          apply getD_of_get
          rw [Array.getElem?_append_left (by simp; omega), Array.getElem?_append_left (by simp)]; rfl
        simp only [this]
        exact .yl l
      · obtain ⟨j, rfl⟩ : ∃ j, i = 1 + j := ⟨i - 1, by omega⟩
        by_cases hj : j < caps.length
        · rw [List.getElem?_append_left (by simp; omega), List.getElem?_append_right (by simp)] at hd
          have e : 1 + j - [DV.yl l].length = j := by simp
          rw [e] at hd
          have : (#[Value.func (.yield l) #[] #[]] ++ lb ++ Array.replicate (fn.ntmps - (#[Value.func (.yield l) #[] #[]] ++ lb).size) undef).getD (1 + j) undef = lb.getD j undef := by
            rw [Array.getD_eq_getD_getElem?, Array.getD_eq_getD_getElem?, Array.getElem?_append_left (by rw [hsz]; omega), Array.getElem?_append_right (by simp)]
            simp
          simp only [this]
          exact hcap 0 W h0 j d hd
        · rw [List.getElem?_append_right (by simp; omega)] at hd
          have := List.mem_of_getElem? hd
          rw [(List.mem_replicate.1 this).2]
          exact .top _
    · intro j hj
      show (#[Value.func (.yield l) #[] #[]] ++ lb ++ Array.replicate (fn.ntmps - (#[Value.func (.yield l) #[] #[]] ++ lb).size) undef).getD (1 + j) undef = lb.getD j undef
      rw [Array.getD_eq_getD_getElem?, Array.getD_eq_getD_getElem?, Array.getElem?_append_left (by rw [hsz]; omega), Array.getElem?_append_right (by simp)]
      simp
  refine h l lb J Jx hJ hJx hcap hcapx hy _ W hry 0 _ ?_
  rintro e S a' w' ⟨he, hS⟩ hr
  have key : LeavesInM Fence.wide 0 P fn a'.tmps (fun e W' => (∃ v, e = .returned v) ∧ (J xs.length W' ∨ ∃ k, k ≤ xs.length ∧ Jx k W')) a'.defers .returning w' := by
    rw [hr.dfr]
    refine ⟨.tuple #[], ?_, ⟨_, rfl⟩, ?_⟩
    · exact results_none hres _ _ _
    · have hi := hr.inv
      rcases hS with ⟨h1, h2⟩ | ⟨h1, h2⟩
      · rw [h2, h1] at hi; exact .inl hi
      · rw [h1] at hi; exact .inr ⟨_, h2, hi⟩
  rcases he with rfl | rfl <;> exact key
end Go.PM

/- A range over a function whose data go by a function of their own. -/
namespace Go.PM
open Go.RowKit
set_option linter.unusedSimpArgs false
set_option linter.unusedVariables false
variable {P : Program} {A : St}
def foldO {α σ : Type} (step : α → σ → Option σ) : List α → σ → Option σ
  | [], s => some s
  | x :: l, s => (step x s).bind (foldO step l)
def topB (s : List DV) (l : List Tmp) : Bool := l.all fun i => match s[i]? with | some .top => true | none => true | _ => false
theorem ex_rangeX {α σ : Type} {encs : α → Array Value} {encD : α → List DV} {xs : List α} {f : FuncId} {caps : List DV} {go : Operand} {ps : Array Tmp} {assign body : Code} {Q : Exit → St → Prop} {s : List DV} {b : List (Option (List DV))} {r : List (Option Row)}
    {step : α → σ → Option σ} (encb : σ → List (Option (List DV))) (encr : σ → List (Option Row)) {s0 s1 : σ} (h : foldO step xs s0 = some s1) (hg : (⟨s, b, r, 0⟩ : St).ev go = some (.fn f caps)) (hen : EntersF P f) (hseq : SeqOk P f caps encs xs)
    (henc : ∀ x, (encs x).size = ps.size ∧ (encD x).length = ps.size ∧ ∀ (w : World) (N ok : Nat → Prop) (j : Nat) (d : DV), (encD x)[j]? = some d → VR w N ok d ((encs x).getD j undef))
    (htop : topB s (ps.toList ++ wr assign ++ wr body) = true) (hb0 : b = encb s0) (hr0 : r = encr s0)
    (hQ : Q .normal ⟨s, encb s1, encr s1, 0⟩)
    (hstep : ∀ x t t', step x t = some t' → Ex false P assign ⟨setPs s (ps.toList.zip (encD x)), encb t, encr t, 0⟩ (thenE (fun A1 => Ex false P body A1 (fun e A2 => e = .normal ∧ ∃ A', Gst A2 A' ∧ A' = ⟨s, encb t', encr t', 0⟩)) (fun _ _ => False))) : Ex true P (.rangeFunc go ps assign body) ⟨s, b, r, 0⟩ Q := by
  subst hb0; subst hr0
  refine ex_range (A := ⟨s, encb s0, encr s0, 0⟩) (encD := encD) (fun k b r => ∃ t, foldO step (xs.drop k) t = some s1 ∧ b = encb t ∧ r = encr t) rfl hg hen hseq henc ?_ ⟨s0, h, rfl, rfl⟩ ?_
  · rintro k x b r hx ⟨t, ht, rfl, rfl⟩
    have hdrop : xs.drop k = x :: xs.drop (k + 1) := by
      obtain ⟨hk, hx⟩ := List.getElem?_eq_some_iff.1 hx
      rw [← hx]; exact List.drop_eq_getElem_cons hk
    rw [hdrop] at ht
    obtain ⟨t', h1, h2⟩ := bindS (f := foldO step (xs.drop (k + 1))) ht
    refine (hstep x t t' h1).mono ?_
    intro e A1 hq
    cases e with
    | normal =>
      refine Ex.post (Ex.mono hq ?_)
      rintro e A2 ⟨rfl, A', hg', rfl⟩
      refine ⟨_, hg', rfl, ?_, t', h2, rfl, rfl⟩
      intro i d hi
      by_cases hm : i ∈ ps.toList ++ wr assign ++ wr body
      · left
        have := List.all_eq_true.1 htop i hm
        simp only at hi
        rw [hi] at this
        cases d <;> first | rfl | cases this
      · exact .inr ⟨hi, hm⟩
    | _ => exact hq
  · rintro b r ⟨t, ht, rfl, rfl⟩
    rw [List.drop_length] at ht
    obtain rfl : t = s1 := by simpa [foldO] using ht
    exact hQ
end Go.PM

/- Iterators of one loop with one yield a round, their data by a function of their own. -/
namespace Go.PM
open Go.RowKit
set_option linter.unusedSimpArgs false
set_option linter.unusedVariables false
variable {P : Program}
def iterY {σ Y : Type} (step : σ → Option (Option (Y × σ))) : Nat → σ → Option (List Y)
  | 0, _ => none
  | n + 1, s => match step s with
    | none => none
    | some none => some []
    | some (some (y, s')) => (iterY step n s').map (y :: ·)
theorem ExG.mono {S : Type} {R : S → Act → World → Prop} {c : Code} {A : S} {Q Q' : Exit → S → Prop} (h : ExG R P c A Q) (hq : ∀ e S, Q e S → Q' e S) : ExG R P c A Q' :=
  fun a w hr n K hK => h a w hr n K (fun e A2 a' w' q => hK e A2 a' w' (hq e A2 q))
theorem exg_iter {σ Y : Type} {R : YS → Act → World → Prop} {c : Code} {Q : Exit → YS → Prop} {step : σ → Option (Option (Y × σ))} (enc : σ → List DV) (id : Nat) {xs : List Y} {n k : Nat} {s0 : σ} (h : iterY step n s0 = some (xs.drop k)) (hk : k ≤ xs.length)
    (hend : ∀ S : YS, S.k = xs.length → S.on = true → Q (.exit id) S) (hoff : ∀ S : YS, S.on = false → S.k ≤ xs.length → Q .ret S)
    (round : ∀ s k y, step s = some y → (∀ v s', y = some (v, s') → xs[k]? = some v) → ExG R P c ⟨enc s, k, true⟩ (fun e S => (e = .normal ∧ ∃ v s', y = some (v, s') ∧ S = ⟨enc s', k + 1, true⟩) ∨ (e = .exit id ∧ y = none ∧ S.k = k ∧ S.on = true) ∨ (e = .ret ∧ S.on = false ∧ S.k = k + 1 ∧ ∃ v, y = some v))) : ExG R P (.loop c) ⟨enc s0, k, true⟩ Q := by
  refine exg_loop (fun m S => ∃ s k, S = ⟨enc s, k, true⟩ ∧ k ≤ xs.length ∧ iterY step m s = some (xs.drop k)) ?_ n ⟨s0, k, rfl, hk, h⟩
  rintro m S ⟨s, k, rfl, hk, hi⟩
  cases m with
  | zero => cases hi
  | succ m =>
    simp only [iterY] at hi
    cases hs : step s with
    | none => rw [hs] at hi; cases hi
    | some y =>
      rw [hs] at hi
      have hx : ∀ v s', y = some (v, s') → xs[k]? = some v ∧ iterY step m s' = some (xs.drop (k + 1)) := by
        rintro v s' rfl
        simp only at hi
        cases hm : iterY step m s' with
        | none => rw [hm] at hi; cases hi
        | some l =>
          rw [hm] at hi
          have hd : v :: l = xs.drop k := by simpa using hi
          have h0 : xs[k]? = some v := by
            have := congrArg (·[0]?) hd
            simp at this; exact this.symm
          refine ⟨h0, ?_⟩
          have := congrArg (·.drop 1) hd
          simp at this
          rw [this]
      refine (round s k y hs (fun v s' he => (hx v s' he).1)).mono ?_
      rintro e S (⟨rfl, v, s', rfl, rfl⟩ | ⟨rfl, rfl, h1, h2⟩ | ⟨rfl, h1, h2, v, rfl⟩)
      · obtain ⟨h3, h4⟩ := hx v s' rfl
        have hkl := (List.getElem?_eq_some_iff.1 h3).1
        exact ⟨m, by omega, s', k + 1, rfl, by omega, h4⟩
      · refine hend S ?_ h2
        have h3 : xs.drop k = [] := by simpa using hi.symm
        have := List.drop_eq_nil_iff.1 h3
        omega
      · refine hoff S h1 ?_
        obtain ⟨h3, _⟩ := hx v.1 v.2 rfl
        have hkl := (List.getElem?_eq_some_iff.1 h3).1
        omega
section
variable {caps : List DV} {lb : Array Value} {J Jx : Nat → World → Prop}
/-- A piece between two yields. -/
theorem exg_piece (hJ : ∀ k W W', J k W → W.grownBy W' none → J k W') (hJx : ∀ k W W', Jx k W → W.grownBy W' none → Jx k W') {c : Code} {s : List DV} {k : Nat} {on : Bool} {Q : Exit → YS → Prop} (s3 : List DV) (hw : (List.range caps.length).all (fun j => !(wr c).contains (1 + j)) = true)
    (h : Ex false P c ⟨s, [], [], 0⟩ (fun e A2 => e = .normal ∧ ∃ A', Gst A2 A' ∧ A' = ⟨s3, [], [], 0⟩)) (hn : noTok s3 = true) (hq : Q .normal ⟨s3, k, on⟩) : ExG (RY caps lb J Jx) P c ⟨s, k, on⟩ Q := by
  refine exg_ex hJ hJx (fun j hj => ?_) (h.mono ?_)
  · have := List.all_eq_true.1 hw j (List.mem_range.2 hj)
    simpa using this
  · rintro e A2 ⟨rfl, A', hg, rfl⟩
    exact ⟨s3, hg, hn, hq⟩
theorem exg_yieldW {α : Type} {encs : α → Array Value} {encD : α → List DV} {xs : List α} {l : Nat} {x : α}
    (hJ : ∀ k W W', J k W → W.grownBy W' none → J k W') (hJx : ∀ k W W', Jx k W → W.grownBy W' none → Jx k W')
    (hcap : ∀ k W, J k W → ∀ i d, caps[i]? = some d → VR W Any Any d (lb.getD i undef)) (hcapx : ∀ k W, Jx k W → ∀ i d, caps[i]? = some d → VR W Any Any d (lb.getD i undef))
    (hy : ∀ k x W1, xs[k]? = some x → J k W1 → YieldAt Fence.wide 0 P l (encs x) W1 fun e W' => (e = .returned (.bool true) ∧ J (k + 1) W') ∨ (e = .returned (.bool false) ∧ Jx (k + 1) W'))
    (hex : ∀ (x : α) (W : World) (N ok : Nat → Prop) (vs : Array Value), vs.size = (encD x).length → (∀ j d, (encD x)[j]? = some d → VR W N ok d (vs.getD j undef)) → vs = encs x)
    {id i : Nat} {ops : Array Oper} {l1 l2 : List Nat} (hl : List.range ops.size = l1 ++ i :: l2) {s s1 : List DV} {k : Nat} {Q : Exit → YS → Prop} {o : Oper} {f : Operand} {args : Array Operand} {ats : Array TypeId} {t : Tmp} (s2 s3 : Bool → List DV)
    (hlen : 1 + caps.length ≤ s1.length) (hwr : (List.range caps.length).all (fun j => !(wrOps ops).contains (1 + j)) = true)
    (hd1 : WE P ops [] l1 ⟨s, [], [], 0⟩ (fun A => A = ⟨s1, [], [], 0⟩)) (hn1 : noTok s1 = true) (ho : ops[i]? = some o) (hop : o.op = .call { callee := .value f, args := args, argTypes := ats }) (hdst : o.dst = some t) (hw : wantD ops ⟨s1, [], [], 0⟩ o = some true)
    (hf : (⟨s1, [], [], 0⟩ : St).ev f = some (.yl l)) (hds : (⟨s1, [], [], 0⟩ : St).evL args.toList = some (encD x)) (hx : xs[k]? = some x) (hnt : (encD x).all (fun d => !d.tok) = true)
    (h2 : ∀ b, (yS caps s1).set t (.bool b) = s2 b) (h3 : ∀ b, WE P ops [] l2 ⟨s2 b, [], [], 0⟩ (fun A => A = ⟨s3 b, [], [], 0⟩)) (h4 : ∀ b, noTok (s3 b) = true) (h5 : ∀ b, Q .normal ⟨s3 b, k + 1, b⟩) : ExG (RY caps lb J Jx) P (.region id ops false) ⟨s, k, true⟩ Q := by
  obtain ⟨A1, hA1, rfl⟩ := hd1
  refine exg_yield hJ hJx hcap hcapx hy hex hl hlen (fun j hj => ?_) hA1.doL hn1 ho hop hdst hw hf hds hx hnt (fun b => ?_)
  · have := List.all_eq_true.1 hwr j (List.mem_range.2 hj)
    simpa using this
  · obtain ⟨A2, hA2, rfl⟩ := h3 b
    rw [h2 b]
    exact ⟨s3 b, hA2.doL, h4 b, h5 b⟩
end
end Go.PM

/- A function that writes into views of a row that it was handed: told as of a box over the row's whole capacity. -/
namespace Go.PM
open Go.RowKit
set_option linter.unusedSimpArgs false
set_option linter.unusedVariables false
variable {P : Program}

theorem argSt1u_lb {c : List DV} {ra : List Row} {i : Nat} : (argSt [c] ra).lb i ↔ i = 0 := by rw [argSt_lb]; simp
theorem flat_at {sz : Nat} {xs : List (List DV)} {rest : List DV} (h : ∀ x ∈ xs, x.length = sz) {i j : Nat} {x : List DV} {d : DV} (hi : xs[i]? = some x) (hj : x[j]? = some d) : (xs.flatten ++ rest)[i * sz + j]? = some d := by
  have hjl : j < sz := by rw [← h x (List.mem_of_getElem? hi)]; exact (List.getElem?_eq_some_iff.1 hj).1
  have h1 := flat_get (xs := xs) i j h hjl
  rw [hi] at h1
  have h1 : xs.flatten[i * sz + j]? = some d := by rw [h1]; exact hj
  rw [List.getElem?_append_left (List.getElem?_eq_some_iff.1 h1).1]; exact h1

theorem okB_view {f : FuncId} {args : List DV} {e : TypeId} {sz : Nat} {xs ys : List (List DV)} (hne : xs ≠ []) (hsz : 0 < sz) (hargs : args.all (fun d => !d.tok) = true) (hxs : ∀ x ∈ xs, x.length = sz) (hys : flatOk sz ys)
    (h : ∀ c, xs.length ≤ c → c ≤ maxLen → ∃ (r : DV) (z : List DV) (rr : List Row), OkB P f (.vw 0 0 xs.length c :: args) [xs.flatten ++ List.replicate ((c - xs.length) * sz) .top] [] r [z] rr ∧
      ((∃ rest, r = .vw 0 0 ys.length c ∧ z = ys.flatten ++ rest ∧ ys.length ≤ c ∧ rr = []) ∨ (r = .own 0 ∧ rr = [⟨e, sz, ys⟩]))) :
    OkB P f (.own 0 :: args) [] [⟨e, sz, xs⟩] (.own 0) [] [⟨e, sz, ys⟩] := by
  intro w vs g N hA
  obtain ⟨x0, xs', rfl⟩ := List.exists_cons_of_ne_nil hne
  generalize hX : x0 :: xs' = xs at *
  have hx0 : xs[0]? = some x0 := by rw [← hX]; rfl
  obtain ⟨hp, u, cap, h1, h2, h3, h4, h5, h6, h7⟩ := (hA.row 0 _ rfl).some (ρ := ⟨e, sz, xs⟩) hx0
  simp only at h1 h2 h3 h5 h6 h7
  have hlr0 : lp g (argSt [] [⟨e, sz, xs⟩]) 0 := ⟨argSt_lr.2 (by simp), hp⟩
  have hm : ∀ k, mutb g (argSt [] [⟨e, sz, xs⟩]) k ↔ k = g.tm 0 := by
    intro k
    constructor
    · rintro (⟨i, hi, _⟩ | ⟨t, ⟨ht, _⟩, rfl⟩)
      · have := argSt_lb.1 hi; simp at this
      · have := argSt_lr.1 ht; simp at this; rw [this]
    · rintro rfl; exact .inr ⟨0, hlr0, rfl⟩
  obtain ⟨r, z, rr, hOk, hcase⟩ := h cap h3 h4
  generalize hcs : xs.flatten ++ List.replicate ((cap - xs.length) * sz) DV.top = cells at hOk
  let g1 : Gh := { bm := fun _ => g.tm 0, bo := fun _ => 0, tm := g.tm, tv := g.tv, pl := fun _ => false, no := g.no }
  have hm1 : ∀ k, mutb g1 (argSt [cells] []) k ↔ k = g.tm 0 := by
    intro k
    constructor
    · rintro (⟨i, hi, rfl⟩ | ⟨t, ⟨_, ht⟩, _⟩)
      · rfl
      · cases ht
    · rintro rfl; exact .inl ⟨0, argSt_lb.2 (by simp), rfl⟩
  have hbad1 : ∀ k, bad g1 (argSt [cells] []) k ↔ bad g (argSt [] [⟨e, sz, xs⟩]) k := fun k => or_congr Iff.rfl ((hm1 k).trans (hm k).symm)
  have hvr1 : ∀ {d : DV} {v : Value}, VR w N (fun k => ¬ bad g (argSt [] [⟨e, sz, xs⟩]) k) d v → VR w N (fun k => ¬ bad g1 (argSt [cells] []) k) d v := fun hv => hv.mono (fun _ _ _ => rfl) (Nat.le_refl _) (fun k hk _ => by rw [hbad1]; exact hk) (fun _ h _ => h)
  have hfl : xs.flatten.length = xs.length * sz := flat_len hxs
  have hcl : cells.length = cap * sz := by
    rw [← hcs]; simp only [List.length_append, hfl, List.length_replicate]
    rw [← Nat.add_mul]; congr 1; omega
  have hv0 : vs.getD 0 undef = .slice (some ⟨g.tm 0, 0, none⟩) xs.length cap := by
    have h8 := hA.arg 0 (.own 0) rfl
    rw [h8.2 hlr0.1, h2]
  have hA1 : ArgsR g1 w N (.vw 0 0 xs.length cap :: args) [cells] [] vs := by
    refine { size := by have := hA.size; simpa using this, arg := ?_, box := ?_, row := fun t ρ hx => by simp at hx, bb := ?_, rr := ?_, br := ?_, mN := ?_, nn := ?_, new := hA.new }
    · intro i d hd
      cases i with
      | zero =>
        obtain rfl : DV.vw 0 0 xs.length cap = d := by simpa using hd
        exact ⟨by simp [argSt], fun _ => hv0⟩
      | succ i =>
        have hd' : args[i]? = some d := by simpa using hd
        have ht : d.tok = false := by simpa using List.all_eq_true.1 hargs d (List.mem_of_getElem? hd')
        exact SR.vr (hvr1 ((hA.arg (i + 1) d (by simpa using hd')).toVr ht))
    · intro i cs hc
      cases i with
      | succ i => simp at hc
      | zero =>
        obtain rfl : cells = cs := by simpa using hc
        refine ⟨u, e, h1, by show 0 + cells.length ≤ u.size; omega, fun j d hj => ?_⟩
        show _ ∧ SR g1 _ w N d (u.getD (0 + j) undef)
        rw [Nat.zero_add]
        rw [← hcs] at hj
        by_cases hjl : j < xs.flatten.length
        · rw [List.getElem?_append_left hjl] at hj
          have e1 : j / sz * sz + j % sz = j := by rw [Nat.mul_comm]; exact Nat.div_add_mod j sz
          have h9 := flat_get (xs := xs) (j / sz) (j % sz) hxs (Nat.mod_lt _ hsz)
          rw [e1, hj] at h9
          cases hq : xs[j / sz]? with
          | none => rw [hq] at h9; cases h9
          | some x =>
            rw [hq] at h9
            obtain ⟨h10, h11, h12⟩ := h7 (j / sz) x (j % sz) d hq h9.symm
            rw [e1] at h12
            exact ⟨.inl h10, SR.vr (hvr1 h12)⟩
        · rw [List.getElem?_append_right (by omega), List.getElem?_replicate] at hj
          split at hj
          · obtain rfl : DV.top = d := by simpa using hj
            exact ⟨.inr rfl, SR.vr (.top _)⟩
          · cases hj
    · intro i j hi hj _
      have hi := argSt_lb.1 hi; have hj := argSt_lb.1 hj
      simp at hi hj; omega
    · rintro i j ⟨_, hi⟩; cases hi
    · rintro i j _ ⟨_, hi⟩; cases hi
    · intro k hk
      exact hA.mN k ((hm k).2 ((hm1 k).1 hk))
    · intro k hk
      refine ⟨(hA.nn k hk).1, fun h8 => (hA.nn k hk).2 ((hm k).2 ((hm1 k).1 h8))⟩
  refine (hOk w vs g1 N hA1).mono ?_
  rintro e' w' ⟨v, g', rfl, hR⟩
  have hblock : ∀ k, k < w.heap.size → ¬ mutb g (argSt [] [⟨e, sz, xs⟩]) k → w'.heap[k]? = w.heap[k]? := fun k hk h8 => hR.block k hk (fun h9 => h8 ((hm k).2 ((hm1 k).1 h9)))
  obtain ⟨f1, f2⟩ := hR.bfix 0 (by simp)
  have f1 : g'.bm 0 = g.tm 0 := f1
  have f2 : g'.bo 0 = 0 := f2
  have hno : g'.no = g.no := hR.no
  have hmN := hA.mN (g.tm 0) ((hm _).2 rfl)
  rcases hcase with ⟨rest, rfl, rfl, hle, rfl⟩ | ⟨rfl, rfl⟩
  · have hv : v = .slice (some ⟨g'.bm 0, g'.bo 0 + 0, none⟩) ys.length cap := hR.res.2 (argSt_lb.2 (by simp))
    rw [f1, f2] at hv
    obtain ⟨hyl, u0, u', e0, k1, k2, k3, k4, k5⟩ := hR.bout 0 _ _ rfl rfl
    have k1 : w.heap[g.tm 0]? = some (.cells u0 e0 (0, 0)) := k1
    have k2 : w'.heap[g.tm 0]? = some (.cells u' e0 (0, 0)) := k2
    rw [h1] at k1; cases k1
    obtain ⟨ub, eb, b1, b2, b3⟩ := hR.box 0 _ rfl
    rw [f1, k2] at b1; cases b1
    rw [f2] at b2 b3
    let g2 : Gh := { bm := fun _ => 0, bo := fun _ => 0, tm := fun _ => g.tm 0, tv := fun _ => v, pl := fun _ => true, no := g.no }
    have hm2 : ∀ k, mutb g2 (argSt [] [⟨e, sz, ys⟩]) k ↔ k = g.tm 0 := by
      intro k
      constructor
      · rintro (⟨i, hi, _⟩ | ⟨t, _, rfl⟩)
        · have := argSt_lb.1 hi; simp at this
        · rfl
      · rintro rfl; exact .inr ⟨0, ⟨argSt_lr.2 (by simp), rfl⟩, rfl⟩
    have hvr2 : ∀ {d : DV} {v : Value}, VR w' N (fun k => ¬ bad g' (argSt [ys.flatten ++ rest] []) k) d v → VR w' N (fun k => ¬ bad g2 (argSt [] [⟨e, sz, ys⟩]) k) d v := fun hv => hv.mono (fun _ _ _ => rfl) (Nat.le_refl _) (fun k hk _ => by
      rintro (h8 | h8)
      · exact hk (.inl (by rw [hno]; exact h8))
      · rw [hm2] at h8; exact hk (.inr (.inl ⟨0, argSt_lb.2 (by simp), by rw [f1, h8]⟩))) (fun _ h _ => h)
    have hysl : ∀ y ∈ ys, y.length = sz := fun y hy => (hys y hy).1
    refine ⟨v, g2, rfl, { os := hR.os, tape := hR.tape, output := hR.output, size := hR.size, block := hblock, oth := hR.oth, no := rfl, res := ⟨by simp [argSt], fun _ => rfl⟩, box := fun i cs hc => by simp at hc, blen := rfl, bfix := fun i hi => by simp at hi, bout := fun i cs cs' hc => by simp at hc, row := ?_, inj := ?_, br := ?_, from_ := ?_ }⟩
    · intro t ρ hρ
      cases t with
      | succ t => simp at hρ
      | zero =>
        obtain rfl : (⟨e, sz, ys⟩ : Row) = ρ := by simpa using hρ
        refine .inr ⟨rfl, u', cap, k2, hv, hle, h4, by show u'.size = cap * sz; omega, fun i y hy => hysl y (List.mem_of_getElem? hy), fun i y j d hy hd => ?_⟩
        have h8 := hys y (List.mem_of_getElem? hy)
        have h9 := h8.2 d (List.mem_of_getElem? hd)
        obtain ⟨_, h11⟩ := b3 (i * sz + j) d (flat_at hysl hy hd)
        rw [Nat.zero_add] at h11
        exact ⟨h9.1, h9.2, hvr2 (h11.toVr h9.2)⟩
    · intro i j hi hj _
      have hi := argSt_lr.1 hi.1; have hj := argSt_lr.1 hj.1
      simp at hi hj; omega
    · intro i j hi
      have := argSt_lb.1 hi; simp at this
    · intro t ht
      exact ⟨.inr ((hm _).2 rfl), Nat.lt_of_lt_of_le hmN.2 hR.size⟩
  · have hsub : ∀ k, ¬ bad g' (argSt [z] [⟨e, sz, ys⟩]) k → ¬ bad g' (argSt [] [⟨e, sz, ys⟩]) k := by
      rintro k hk (h8 | ⟨i, hi, _⟩ | ⟨t, ht, h9⟩)
      · exact hk (.inl h8)
      · have := argSt_lb.1 hi; simp at this
      · exact hk (.inr (.inr ⟨t, ⟨argSt_lr.2 (argSt_lr.1 ht.1), ht.2⟩, h9⟩))
    have hlp : ∀ t, lp g' (argSt [] [⟨e, sz, ys⟩]) t → lp g' (argSt [z] [⟨e, sz, ys⟩]) t := fun t ht => ⟨argSt_lr.2 (argSt_lr.1 ht.1), ht.2⟩
    refine ⟨v, g', rfl, { os := hR.os, tape := hR.tape, output := hR.output, size := hR.size, block := hblock, oth := hR.oth, no := hno, res := ?_, box := fun i cs hc => by simp at hc, blen := rfl, bfix := fun i hi => by simp at hi, bout := fun i cs cs' hc => by simp at hc, row := ?_, inj := fun i j hi hj => hR.inj i j (hlp i hi) (hlp j hj), br := ?_, from_ := ?_ }⟩
    · exact ⟨by simp [argSt], fun hl => hR.res.2 (argSt_lr.2 (argSt_lr.1 hl))⟩
    · intro t ρ hρ
      rcases hR.row t ρ hρ with h8 | ⟨hp', u', cap', k1, k2, k3, k4, k5, k6, k7⟩
      · exact .inl h8
      · exact .inr ⟨hp', u', cap', k1, k2, k3, k4, k5, k6, fun i x j d hx hd => ⟨(k7 i x j d hx hd).1, (k7 i x j d hx hd).2.1, (k7 i x j d hx hd).2.2.mono (fun _ _ _ => rfl) (Nat.le_refl _) (fun k hk _ => hsub k hk) (fun _ h _ => h)⟩⟩
    · intro i j hi
      have := argSt_lb.1 hi; simp at this
    · intro t ht
      obtain ⟨h8, h9⟩ := hR.from_ t (hlp t ht)
      exact ⟨h8.imp id (fun h10 => (hm _).2 ((hm1 _).1 h10)), h9⟩
end Go.PM

/- Views: the printed walk's words. -/
namespace Go.PM
open Go.RowKit
set_option linter.unusedSimpArgs false
set_option linter.unusedVariables false
section
variable {P : Program} {A : St} {o : Oper}
theorem x_sliceV {t e : TypeId} {x : Operand} {lo hi : Option Operand} {b off len cap : Nat} {cs : List DV} {l u : Int} {n : Nat} (off' n' c' : Nat) (ho : o.op = .slice t x lo hi none) (hx : A.ev x = some (.vw b off len cap)) (hb : A.b[b]? = some (some cs)) (he : elemT P t = some e) (hn : szT P e = some n)
    (hlo : loIs A lo l) (hhi : hiIs A len hi u) (h0 : 0 ≤ l) (h1 : l ≤ u) (h2 : u ≤ cap) (e1 : (if cap = l.toNat then off else off + l.toNat * n) = off') (e2 : u.toNat - l.toNat = n') (e3 : cap - l.toNat = c') : XP P o A (.vw b off' n' c') := by
  subst e1; subst e2; subst e3
  exact .sliceV ho hx hb he hn hlo hhi h0 h1 h2
end
theorem splice_take_lo {α : Type} {l m : List α} {off k : Nat} (hk : k ≤ off) (h : off ≤ l.length) : (splice l off m).take k = l.take k := by
  unfold splice
  rw [List.append_assoc, List.take_append_of_le_length (by simp; omega), List.take_take, Nat.min_eq_left hk]
theorem splice_take_hi {α : Type} {l m : List α} {off : Nat} (h : off ≤ l.length) : (splice l off m).take (off + m.length) = l.take off ++ m := by
  unfold splice
  exact List.take_left' (by simp; omega)
theorem flat_take {sz : Nat} {X : List (List DV)} {T : List DV} {n : Nat} (h : ∀ x ∈ X, x.length = sz) (hn : n ≤ X.length) : (X.flatten ++ T).take (n * sz) = (X.take n).flatten := by
  have h2 : (X.take n).flatten.length = n * sz := by
    rw [flat_len (fun x hx => h x (List.mem_of_mem_take hx))]; simp; rw [Nat.min_eq_left hn]
  have h1 : X.flatten ++ T = (X.take n).flatten ++ ((X.drop n).flatten ++ T) := by
    rw [← List.append_assoc, ← List.flatten_append, List.take_append_drop]
  rw [h1]
  exact List.take_left' h2
/-- No tokens. -/
def NT (l : List DV) : Prop := ∀ d ∈ l, d.tok = false
theorem NT.app {l m : List DV} (h : NT l) (k : NT m) : NT (l ++ m) := fun d hd => (List.mem_append.1 hd).elim (h d) (k d)
theorem NT.splice {l m : List DV} {off : Nat} (h : NT l) (k : NT m) : NT (splice l off m) := fun d hd => by
  unfold PM.splice at hd
  rcases List.mem_append.1 hd with hd | hd
  · rcases List.mem_append.1 hd with hd | hd
    · exact h d (List.mem_of_mem_take hd)
    · exact k d hd
  · exact h d (List.mem_of_mem_drop hd)
theorem NT.flat {n : Nat} {X : List (List DV)} (h : flatOk n X) : NT X.flatten := fun d hd => by
  obtain ⟨x, hx, hd⟩ := List.mem_flatten.1 hd
  exact ((h x hx).2 d hd).2
theorem NT.rep (n : Nat) : NT (List.replicate n DV.top) := fun d hd => by rw [List.eq_of_mem_replicate hd]; rfl
theorem flatOk_rep {n : Nat} {z : List DV} {k : Nat} (h : z.length = n) (hz : z.all (fun d => d.one && !d.tok) = true) : flatOk n (List.replicate k z) := fun x hx => by
  rw [List.eq_of_mem_replicate hx]
  refine ⟨h, fun d hd => ?_⟩
  have := List.all_eq_true.1 hz d hd
  simpa using this
theorem NT.res {l : List DV} {toks : List Nat} (h : NT l) : [l].all (fun c => c.all (resOk toks)) = true := by
  simp only [List.all_cons, List.all_nil, Bool.and_true]
  refine List.all_eq_true.2 (fun d hd => ?_)
  have := h d hd
  cases d <;> first | rfl | cases this
theorem NT.ren {l : List DV} {f : Nat → Nat} (h : NT l) : [l] = [l].map (List.map (DV.ren f)) := by
  have : l.map (DV.ren f) = l := (List.map_congr_left (fun d hd => by
    have := h d hd
    cases d <;> first | rfl | cases this)).trans (List.map_id l)
  simp [this]
theorem ASrc.all {A : St} {sz : Nat} {y : Operand} {dy : DV} {xs : List (List DV)} (hsz : 0 < sz) (hy : A.ev y = some dy) (hx : A.elems dy = some xs) (hf : flatOk sz xs) : ASrc A sz xs.length y xs.length xs.flatten := by
  have := ASrc.sl hsz hy hx hf (Nat.le_refl xs.length)
  rwa [List.take_length] at this
end Go.PM

namespace Go.PM
open Go.RowKit
/-- Rounds that no loop here comes to. -/
def fuel : Nat := 73786976294838206464
def bit_and (k : IntKind) (x y : Int) : Int := k.wrap (BitVec.ofInt k.bits x &&& BitVec.ofInt k.bits y).toNat
def bit_or (k : IntKind) (x y : Int) : Int := k.wrap (BitVec.ofInt k.bits x ||| BitVec.ofInt k.bits y).toNat
def bit_xor (k : IntKind) (x y : Int) : Int := k.wrap (BitVec.ofInt k.bits x ^^^ BitVec.ofInt k.bits y).toNat
def bit_andNot (k : IntKind) (x y : Int) : Int := k.wrap (BitVec.ofInt k.bits x &&& ~~~ BitVec.ofInt k.bits y).toNat
def shlO (k : IntKind) (x y : Int) : Option Int := if y < 0 then none else some (k.wrap (x * 2 ^ (min y.toNat k.bits)))
def quoO (k : IntKind) (x y : Int) : Option Int := if y = 0 then none else some (k.wrap (x.tdiv y))

def remO (_ : IntKind) (x y : Int) : Option Int := if y = 0 then none else some (x.tmod y)

/-- Values that an iterator hands out. -/
inductive ES where
  | int (k : IntKind) (n : Int)
  | bool (b : Bool)
  | str (l : List UInt8)
inductive EV where
  | sc (e : ES)
  | agg (l : List ES)
def ES.toV : ES → Value
  | .int k n => .int k n
  | .bool b => .bool b
  | .str l => .string (bs l)
def ES.toD : ES → DV
  | .int k n => .int k n
  | .bool b => .bool b
  | .str l => .str (bs l)
def EV.toV : EV → Value
  | .sc e => e.toV
  | .agg l => .agg (l.map ES.toV).toArray
def EV.toD : EV → DV
  | .sc e => e.toD
  | .agg l => .agg (l.map ES.toD)
theorem ES.vr (e : ES) {w : World} {N ok : Nat → Prop} : VR w N ok e.toD e.toV := by
  cases e
  · exact .int _ _
  · exact .bool _
  · exact .str _
theorem ES.ex (e : ES) {w : World} {N ok : Nat → Prop} {v : Value} (h : VR w N ok e.toD v) : v = e.toV := by
  cases e <;> cases h <;> rfl
theorem getD_map {l : List ES} {i : Nat} {e : ES} (h : l[i]? = some e) : ((l.map ES.toV).toArray).getD i undef = e.toV := getD_of_get (by simp [h])
theorem EV.vr (e : EV) {w : World} {N ok : Nat → Prop} : VR w N ok e.toD e.toV := by
  cases e with
  | sc e => exact e.vr
  | agg l =>
    refine .agg _ _ (by simp) (fun i d hd => ?_)
    rw [List.getElem?_map] at hd
    cases hq : l[i]? with
    | none => rw [hq] at hd; cases hd
    | some e =>
      rw [hq] at hd
      obtain rfl : e.toD = d := by simpa using hd
      rw [getD_map hq]; exact e.vr
theorem EV.ex (e : EV) {w : World} {N ok : Nat → Prop} {v : Value} (h : VR w N ok e.toD v) : v = e.toV := by
  cases e with
  | sc e => exact e.ex h
  | agg l =>
    have h' : VR w N ok (.agg (l.map ES.toD)) v := h
    cases h' with
    | agg _ vs hl hd =>
      have : vs = (l.map ES.toV).toArray := by
        apply Array.ext_getElem?
        intro i
        by_cases hi : i < l.length
        · have h1 := hd i (l[i].toD) (by simp [hi])
          have h2 := l[i].ex h1
          have h3 : i < vs.size := by rw [hl]; simpa using hi
          have h4 : vs.getD i undef = vs[i] := by simp [Array.getD, h3]
          rw [h4] at h2
          rw [Array.getElem?_eq_getElem h3, h2]; simp [hi]
        · rw [Array.getElem?_eq_none (by rw [hl]; simpa using hi), Array.getElem?_eq_none (by simpa using hi)]
      rw [this]; rfl
theorem encV_vr {vs : List EV} {encs : Array Value} {encD : List DV} {w : World} {N ok : Nat → Prop} {j : Nat} {d : DV} (h1 : encs = (vs.map EV.toV).toArray) (h2 : encD = vs.map EV.toD) (hd : encD[j]? = some d) : VR w N ok d (encs.getD j undef) := by
  subst h1; subst h2
  rw [List.getElem?_map] at hd
  cases hq : vs[j]? with
  | none => rw [hq] at hd; cases hd
  | some e =>
    rw [hq] at hd
    obtain rfl : e.toD = d := by simpa using hd
    rw [getD_of_get (v := e.toV) (by simp [hq])]; exact e.vr
theorem encV_ex {ys : List EV} {encs vs : Array Value} {encD : List DV} {w : World} {N ok : Nat → Prop} (h1 : encs = (ys.map EV.toV).toArray) (h2 : encD = ys.map EV.toD) (hs : vs.size = encD.length) (hd : ∀ (j : Nat) (d : DV), encD[j]? = some d → VR w N ok d (vs.getD j undef)) : vs = encs := by
  subst h1; subst h2
  apply Array.ext_getElem?
  intro i
  by_cases hi : i < ys.length
  · have h1 := hd i (ys[i].toD) (by simp [hi])
    have h2 := ys[i].ex h1
    have h3 : i < vs.size := by rw [hs]; simpa using hi
    have h4 : vs.getD i undef = vs[i] := by simp [Array.getD, h3]
    rw [h4] at h2
    rw [Array.getElem?_eq_getElem h3, h2]; simp [hi]
  · rw [Array.getElem?_eq_none (by rw [hs]; simpa using hi), Array.getElem?_eq_none (by simpa using hi)]
end Go.PM

/- From a reading of the arguments to typed data. -/
namespace Go.PM
open Go.RowKit Go.ChangeShapes Go.WideShapes Go.Deep
set_option linter.unusedVariables false

def wOk (l : List Nat) : Prop := ∀ x ∈ l, x ≤ reachBytes
theorem wOk.left {l m : List Nat} (h : wOk (l ++ m)) : wOk l := fun x hx => h x (List.mem_append_left _ hx)
theorem wOk.right {l m : List Nat} (h : wOk (l ++ m)) : wOk m := fun x hx => h x (List.mem_append_right _ hx)
theorem wOk.mem {H : Type} {P : Program} {e : TypeId} : ∀ {l : List (DataW H)}, wOk (DataW.weightsAll P e l) → ∀ d ∈ l, wOk (d.weights P e)
  | [], _, d, hd => by cases hd
  | x :: l, h, d, hd => by
    have h' : wOk (x.weights P e ++ DataW.weightsAll P e l) := by simpa [DataW.weightsAll] using h
    rcases List.mem_cons.1 hd with rfl | hd
    · exact h'.left
    · exact wOk.mem h'.right d hd
/-- A type all of whose readings are of typed data: f: the data's cells; good: what a reading says of them. -/
structure Dn (P : Program) (t : TypeId) {α : Type} (n : Nat) (f : α → List DV) (good : α → Prop) : Prop where
  sz : P.cellsOf t = n
  len : ∀ x, (f x).length = n
  down : ∀ {H : Type} (enc : TypeId × Value → H) (w : World) (base : Nat) (spare : Nat → Bool) (held : Bool) (fuel : Nat) (cs : List Value) (y : DataW H × List MemPlace), DataW.trod enc P w base spare held fuel t cs = some y → wOk (y.1.weights P t) →
    ∃ x, good x ∧ cs.length = n ∧ ∀ (N : Nat → Prop) (j : Nat) (d : DV), (f x)[j]? = some d → VR w N (fun _ => True) d (cs.getD j undef)

section
variable {P : Program} {t : TypeId}
theorem dn_int {k : IntKind} (ht : P.underlying t = some (.int k)) (hc : P.cellsOf t = 1) : Dn P t 1 (fun n : Int => [.int k n]) (fun n => (Lit.int k n).wf = true) where
  sz := hc
  len _ := rfl
  down enc w base spare held fuel cs y h hwo := by
    obtain ⟨n, rfl, _, hw⟩ := DataW.trod_int ht h
    refine ⟨n, hw, rfl, fun N j d hd => ?_⟩
    match j, hd with
    | 0, hd => simp at hd; subst hd; exact .int _ _
theorem dn_bool (ht : P.underlying t = some .bool) (hc : P.cellsOf t = 1) : Dn P t 1 (fun b : Bool => [.bool b]) (fun _ => True) where
  sz := hc
  len _ := rfl
  down enc w base spare held fuel cs y h hwo := by
    obtain ⟨n, rfl, _⟩ := DataW.trod_bool ht h
    refine ⟨n, trivial, rfl, fun N j d hd => ?_⟩
    match j, hd with
    | 0, hd => simp at hd; subst hd; exact .bool _
theorem dn_str (ht : P.underlying t = some .string) (hc : P.cellsOf t = 1) : Dn P t 1 (fun s : List UInt8 => [.str (bs s)]) (fun s => s.length ≤ reachBytes) where
  sz := hc
  len _ := rfl
  down enc w base spare held fuel cs y h hwo := by
    obtain ⟨s, rfl, rfl, hs⟩ := DataW.trod_string ht h
    refine ⟨s.data.toList, by simpa [DataW.weights, wOk] using hwo, rfl, fun N j d hd => ?_⟩
    match j, hd with
    | 0, hd => simp at hd; subst hd; exact .str _
theorem dn_slice {e : TypeId} {α : Type} [Inhabited α] {n : Nat} {f : α → List DV} {good : α → Prop} (he : Dn P e n f good) (hn : 0 < n) (ht : P.underlying t = some (.slice e)) (hc : P.cellsOf t = 1) :
    Dn P t 1 (fun l : List α => [.sl false (l.map f)]) (fun l => l.length * P.bytesOf e ≤ reachBytes ∧ ∀ x ∈ l, good x) where
  sz := hc
  len _ := rfl
  down enc w base spare held fuel cs y h hwo := by
    rcases open_slice ht h with ⟨rfl, _⟩ | ⟨a, len, cap, m, k, D, Pl, rfl, hb, hl, hm, hmm, rfl, hx⟩
    · refine ⟨[], ⟨by simp, fun x hx => by cases hx⟩, rfl, fun N j d hd => ?_⟩
      match j, hd with
      | 0, hd => simp at hd; subst hd; exact .empty _ _ _
    · have hlm : len ≤ m := by rw [hmm]; split <;> omega
      have hwo' : wOk ((len + (m - len)) * P.bytesOf e :: (DataW.weightsAll P e ((List.range len).map D) ++ DataW.weightsAll P e ((List.range (m - len)).map fun j => D (len + j)))) := by simpa [DataW.weights, ht] using hwo
      have hw1 : (len + (m - len)) * P.bytesOf e ≤ reachBytes := hwo' _ (List.mem_cons_self ..)
      have hw2 : wOk (DataW.weightsAll P e ((List.range len).map D)) := fun x hx => hwo' x (List.mem_cons_of_mem _ (List.mem_append_left _ hx))
      obtain ⟨X, hX⟩ := choose_lt (α := α × List Value) (n := len) (p := fun i x => good x.1 ∧ w.cells? base (a.add (i * P.cellsOf e)) (P.cellsOf e) = some x.2 ∧ x.2.length = n ∧ ∀ (N : Nat → Prop) (j : Nat) (d : DV), (f x.1)[j]? = some d → VR w N (fun _ => True) d (x.2.getD j undef)) (fun i hi => by
        obtain ⟨cs', h1, h2⟩ := hx i (by omega)
        obtain ⟨x, h3, h4, h5⟩ := he.down enc w base spare held k cs' _ h2 (hw2.mem _ (List.mem_map.2 ⟨i, List.mem_range.2 hi, rfl⟩))
        exact ⟨(x, cs'), h3, h1, h4, h5⟩)
      let l := (List.range len).map fun i => (X i).1
      have hll : l.length = len := by simp [l]
      have hget : ∀ i x, l[i]? = some x → i < len ∧ x = (X i).1 := by
        intro i x h
        have hi : i < len := by rw [← hll]; exact (List.getElem?_eq_some_iff.1 h).1
        refine ⟨hi, ?_⟩
        simp [l, hi] at h
        exact h.symm
      refine ⟨l, ⟨by rw [hll]; exact Nat.le_trans (Nat.mul_le_mul_right _ (Nat.le_add_right _ _)) hw1, fun x hx => ?_⟩, rfl, fun N j d hd => ?_⟩
      · obtain ⟨i, hi⟩ := List.getElem?_of_mem hx
        obtain ⟨h1, rfl⟩ := hget i x hi
        exact (hX i h1).1
      · match j, hd with
        | 0, hd =>
          simp only [List.getElem?_cons_zero, Option.some.injEq] at hd; subst hd
          show VR w N (fun _ => True) (.sl false (l.map f)) (.slice (some a) len cap)
          by_cases h0 : len = 0
          · have hl0 : l = [] := List.eq_nil_of_length_eq_zero (by omega)
            rw [hl0, h0]; exact .empty _ _ _
          have hlt : a.block < w.heap.size := by
            obtain ⟨_, h1, h2, _⟩ := hX 0 (by omega)
            obtain ⟨_, _, h3⟩ := World.cells?_some h1
            have h4 := h3 0 (by rw [he.sz]; omega)
            rw [List.getElem?_eq_getElem (by omega)] at h4
            unfold World.cell? at h4
            rw [addr_add_block, addr_add_block] at h4
            rcases Nat.lt_or_ge a.block w.heap.size with h5 | h5
            · exact h5
            · rw [Array.getElem?_eq_none h5] at h4; cases h4
          have := VR.sl (w := w) (B := N) (ok := fun _ => True) false (l.map f) a cap n (fun i j => (X i).2.getD j undef) (by simp [hll]; exact hl) trivial hlt (fun h => by cases h)
            (fun i x h => by
              rw [List.getElem?_map] at h
              cases hq : l[i]? with
              | none => rw [hq] at h; cases h
              | some z => rw [hq] at h; simp at h; subst h; exact he.len z)
            (fun i x j d h1 h2 => by
              rw [List.getElem?_map] at h1
              cases hq : l[i]? with
              | none => rw [hq] at h1; cases h1
              | some z =>
                rw [hq] at h1; simp at h1; subst h1
                obtain ⟨h3, rfl⟩ := hget i z hq
                obtain ⟨_, h4, h5, _⟩ := hX i h3
                have hj : j < n := by rw [← he.len (X i).1]; exact (List.getElem?_eq_some_iff.1 h2).1
                obtain ⟨_, _, h6⟩ := World.cells?_some h4
                have h7 := h6 j (by rw [he.sz]; exact hj)
                rw [add_add, he.sz] at h7
                rw [h7, List.getD_eq_getElem?_getD, List.getElem?_eq_getElem (by omega)]; rfl)
            (fun i x j d h1 h2 => by
              rw [List.getElem?_map] at h1
              cases hq : l[i]? with
              | none => rw [hq] at h1; cases h1
              | some z =>
                rw [hq] at h1; simp at h1; subst h1
                obtain ⟨h3, rfl⟩ := hget i z hq
                exact (hX i h3).2.2.2 N j d h2)
          rw [List.length_map, hll] at this
          exact this
end

/-- A struct type's fields: types and places. -/
def fldsT (P : Program) (t : TypeId) : Option (List (TypeId × Nat)) := match P.underlying t with | some (.struct fs) => some (fs.toList.map fun f => (f.type, f.offset)) | _ => none
structure DnF (P : Program) (fs : List (TypeId × Nat)) (o : Nat) {α : Type} (n : Nat) (f : α → List DV) (good : α → Prop) : Prop where
  len : ∀ x, (f x).length = n
  down : ∀ {H : Type} (enc : TypeId × Value → H) (w : World) (base : Nat) (spare : Nat → Bool) (held : Bool) (fuel : Nat) (cs : List Value), (∀ (i : Nat) (g : TypeId × Nat), fs[i]? = some g → ∃ y, DataW.trod enc P w base spare held fuel g.1 ((cs.drop g.2).take (P.cellsOf g.1)) = some y ∧ wOk (y.1.weights P g.1)) →
    ∃ x, good x ∧ ∀ (N : Nat → Prop) (j : Nat) (d : DV), (f x)[j]? = some d → VR w N (fun _ => True) d (cs.getD (o + j) undef)
section
variable {P : Program} {t : TypeId}
theorem dnf_nil {o : Nat} : DnF P [] o 0 (fun _ : Unit => []) (fun _ => True) where
  len _ := rfl
  down enc w base spare held fuel cs h := ⟨(), trivial, fun N j d hd => by simp at hd⟩
theorem dnf_cons {fs : List (TypeId × Nat)} {o n m : Nat} {α β : Type} {f : α → List DV} {g : β → List DV} {good : α → Prop} {good' : β → Prop} (h : Dn P t n f good) (hr : DnF P fs (o + n) m g good') :
    DnF P ((t, o) :: fs) o (n + m) (fun x : α × β => f x.1 ++ g x.2) (fun x => good x.1 ∧ good' x.2) where
  len x := by rw [List.length_append, h.len, hr.len]
  down enc w base spare held fuel cs hh := by
    obtain ⟨y, hy, hy2⟩ := hh 0 (t, o) rfl
    obtain ⟨x, h1, h2, h3⟩ := h.down enc w base spare held fuel _ y hy hy2
    obtain ⟨z, h4, h5⟩ := hr.down enc w base spare held fuel cs (fun i g hg => hh (i + 1) g hg)
    refine ⟨(x, z), ⟨h1, h4⟩, fun N j d hd => ?_⟩
    have hl : (f (x, z).1).length = n := h.len x
    by_cases hj : j < n
    · rw [List.getElem?_append_left (by omega)] at hd
      have h6 := h3 N j d hd
      rw [h.sz, List.getD_eq_getElem?_getD, List.getElem?_take, if_pos hj, List.getElem?_drop, ← List.getD_eq_getElem?_getD] at h6
      exact h6
    · rw [List.getElem?_append_right (by omega), hl] at hd
      have h6 := h5 N (j - n) d hd
      rw [show o + n + (j - n) = o + j by omega] at h6
      exact h6
theorem wOk.each {H : Type} : ∀ {ts : List TypeId} {l : List (DataW H)}, wOk (DataW.weightsEach P ts l) → ∀ (i : Nat) (u : TypeId) (d : DataW H), ts[i]? = some u → l[i]? = some d → wOk (d.weights P u)
  | [], _, _, i, u, d, h1, _ => by simp at h1
  | _ :: _, [], _, i, u, d, _, h2 => by simp at h2
  | t :: ts, x :: l, h, i, u, d, h1, h2 => by
    have h' : wOk (x.weights P t ++ DataW.weightsEach P ts l) := by simpa [DataW.weightsEach] using h
    match i, h1, h2 with
    | 0, h1, h2 => simp at h1 h2; subst h1; subst h2; exact h'.left
    | i + 1, h1, h2 => exact wOk.each h'.right i u d (by simpa using h1) (by simpa using h2)
theorem dn_struct {fs : List (TypeId × Nat)} {n : Nat} {α γ : Type} {f : α → List DV} {good : α → Prop} (mk : α → γ) {f' : γ → List DV} {good' : γ → Prop} (hs : fldsT P t = some fs) (hc : P.cellsOf t = n) (h : DnF P fs 0 n f good)
    (he : ∀ x, f' (mk x) = f x) (hl : ∀ y, (f' y).length = n) (hg : ∀ x, good x → good' (mk x)) : Dn P t n f' good' where
  sz := hc
  len := hl
  down enc w base spare held fuel cs y hy hwo := by
    unfold fldsT at hs
    split at hs
    · rename_i gs ht
      obtain rfl : gs.toList.map (fun f => (f.type, f.offset)) = fs := by simpa using hs
      obtain ⟨xs, k, rfl, rfl, h1, h2, h3⟩ := DataW.trod_struct ht hy
      have hwo' : wOk (DataW.weightsEach P (gs.toList.map (·.type)) (xs.map (·.1))) := by simpa [DataW.weights, ht] using hwo
      obtain ⟨x, h4, h5⟩ := h.down enc w base spare held k cs (fun i g hg => by
        rw [List.getElem?_map] at hg
        cases hq : gs.toList[i]? with
        | none => rw [hq] at hg; cases hg
        | some fl =>
          rw [hq] at hg
          obtain rfl : (fl.type, fl.offset) = g := by simpa using hg
          have hi : gs[i]? = some fl := by simpa using hq
          have hlt : i < gs.size := (Array.getElem?_eq_some_iff.1 hi).1
          refine ⟨xs[i], ?_, hwo'.each i fl.type xs[i].1 (by rw [List.getElem?_map, hq]; rfl) (by rw [List.getElem?_map, List.getElem?_eq_getElem (by omega)]; rfl)⟩
          have h6 := h3 i fl hi
          rw [List.getElem?_eq_getElem (by omega)] at h6
          exact h6)
      refine ⟨mk x, hg x h4, by omega, fun N j d hd => ?_⟩
      rw [he] at hd
      have h6 := h5 N j d hd
      rw [Nat.zero_add] at h6
      exact h6
    · cases hs
end

/-- One argument. -/
structure DnV (P : Program) (t : TypeId) {α : Type} (e : α → DV) (good : α → Prop) : Prop where
  down : ∀ {H : Type} (enc : TypeId × Value → H) (w : World) (base b0 : Nat) (spare : Nat → Bool) (held : Bool) (v : Value) (d : DataW H) (ps : List MemPlace), Value.okWide P w .any b0 t v → DataW.Trod enc P w base spare held t v d ps → wOk (d.weights P t) →
    ∃ x, good x ∧ ∀ N : Nat → Prop, VR w N (fun _ => True) (e x) v
/-- All arguments. -/
structure DnA (P : Program) (ts : List TypeId) {α : Type} (e : α → List DV) (good : α → Prop) : Prop where
  down : ∀ {H : Type} (enc : TypeId × Value → H) (w : World) (base b0 : Nat) (spare : Nat → Bool) (held : Bool) (vs : List Value) (ds : List (DataW H)) (ps : List MemPlace), (∀ (j : Nat) (t : TypeId) (v : Value), ts[j]? = some t → vs[j]? = some v → Value.okWide P w .any b0 t v) → DataW.TrodAll enc P w base spare held ts vs ds ps → wOk (DataW.weightsEach P ts ds) →
    ∃ x, good x ∧ vs.length = (e x).length ∧ ∀ (N : Nat → Prop) (i : Nat) (d : DV), (e x)[i]? = some d → VR w N (fun _ => True) d (vs.getD i undef)
section
variable {P : Program} {t : TypeId}
theorem dnv_one {α : Type} {f : α → List DV} {good : α → Prop} {e : α → DV} (h : Dn P t 1 f good) (he : ∀ x, f x = [e x]) (hc : ∀ (w : World) (b0 : Nat) (v : Value), Value.okWide P w .any b0 t v → v.cells = #[v]) : DnV P t e good where
  down enc w base b0 spare held v d ps hok hT hwo := by
    obtain ⟨fuel, hf⟩ := hT
    rw [hc w b0 v hok] at hf
    obtain ⟨x, h1, _, h2⟩ := h.down enc w base spare held fuel _ _ hf hwo
    exact ⟨x, h1, fun N => h2 N 0 (e x) (by rw [he]; rfl)⟩
theorem dnv_agg {α : Type} {n : Nat} {f : α → List DV} {good : α → Prop} (h : Dn P t n f good) (hs : (fldsT P t).isSome = true) : DnV P t (fun x => .agg (f x)) good where
  down enc w base b0 spare held v d ps hok hT hwo := by
    obtain ⟨fuel, hf⟩ := hT
    unfold fldsT at hs
    split at hs
    · rename_i gs ht
      obtain ⟨cs, rfl, h1⟩ := okWide_struct ht hok
      obtain ⟨x, h2, h3, h4⟩ := h.down enc w base spare held fuel _ _ hf hwo
      refine ⟨x, h2, fun N => .agg _ _ (by rw [h1, h.sz, h.len]) (fun i d hd => ?_)⟩
      have h5 := h4 N i d hd
      have h6 : (Value.agg cs).cells.toList = cs.toList := rfl
      rw [h6, List.getD_eq_getElem?_getD, Array.getElem?_toList, ← Array.getD_eq_getD_getElem?] at h5
      exact h5
    · cases hs
theorem cells_slice {u : TypeId} (ht : P.underlying t = some (.slice u)) (w : World) (b0 : Nat) (v : Value) (h : Value.okWide P w .any b0 t v) : v.cells = #[v] := by
  obtain ⟨a, l, c, rfl⟩ := okWide_slice ht h; rfl
theorem cells_int {k : IntKind} (ht : P.underlying t = some (.int k)) (w : World) (b0 : Nat) (v : Value) (h : Value.okWide P w .any b0 t v) : v.cells = #[v] := by
  obtain ⟨a, rfl⟩ := okWide_int ht h; rfl
theorem cells_bool (ht : P.underlying t = some .bool) (w : World) (b0 : Nat) (v : Value) (h : Value.okWide P w .any b0 t v) : v.cells = #[v] := by
  obtain ⟨a, rfl⟩ := okWide_bool ht h; rfl
theorem cells_str (ht : P.underlying t = some .string) (w : World) (b0 : Nat) (v : Value) (h : Value.okWide P w .any b0 t v) : v.cells = #[v] := by
  obtain ⟨a, rfl⟩ := okWide_string ht h; rfl
theorem dna_nil : DnA P [] (fun _ : Unit => []) (fun _ => True) where
  down enc w base b0 spare held vs ds ps hok h hwo := by
    cases vs with
    | nil => exact ⟨(), trivial, rfl, fun N i d hd => by simp at hd⟩
    | cons v vs => cases ds <;> exact absurd h (by intro h; cases h)
theorem dna_cons {ts : List TypeId} {α β : Type} {e : α → DV} {es : β → List DV} {good : α → Prop} {good' : β → Prop} (h : DnV P t e good) (hr : DnA P ts es good') :
    DnA P (t :: ts) (fun x : α × β => e x.1 :: es x.2) (fun x => good x.1 ∧ good' x.2) where
  down enc w base b0 spare held vs ds ps hok hT hwo := by
    cases vs with
    | nil => cases ds <;> exact absurd hT (by intro h; cases h)
    | cons v vs =>
      cases ds with
      | nil => exact absurd hT (by intro h; cases h)
      | cons d ds =>
        obtain ⟨p, q, h1, h2, _⟩ := hT
        have hwo' : wOk (d.weights P t ++ DataW.weightsEach P ts ds) := by simpa [DataW.weightsEach] using hwo
        obtain ⟨x, h3, h4⟩ := h.down enc w base b0 spare held v d p (hok 0 t v rfl rfl) h1 hwo'.left
        obtain ⟨y, h5, h6, h7⟩ := hr.down enc w base b0 spare held vs ds q (fun j u v h8 h9 => hok (j + 1) u v h8 h9) h2 hwo'.right
        refine ⟨(x, y), ⟨h3, h5⟩, by simp [h6], fun N i d' hd => ?_⟩
        match i, hd with
        | 0, hd => simp at hd; subst hd; exact h4 N
        | i + 1, hd => exact h7 N i d' (by simpa using hd)

/-- A law that answers true, told of what its arguments read as. -/
theorem calls_true {f : FuncId} {ts : List TypeId} {α : Type} {e : α → List DV} {good : α → Prop} (hA : DnA P ts e good) (hl : ∀ x, good x → OkB P f (e x) [] [] (.bool true) [] []) {H : Type} {enc : TypeId × Value → H} {W : World} {b0 : Nat} {args : Array Value} {ds : List (DataW H)} {p : List MemPlace}
    (hok : ∀ (j : Nat) (t : TypeId) (v : Value), ts[j]? = some t → args[j]? = some v → Value.okWide P W .any b0 t v) (hT : DataW.TrodAll enc P W 0 (fun _ => true) true ts args.toList ds p) (hwo : wOk (DataW.weightsEach P ts ds)) :
    Calls P f args W fun r W' => r = .returned (.bool true) ∧ Below W.heap.size W W' := by
  obtain ⟨x, h1, h2, h3⟩ := hA.down enc W 0 b0 _ _ args.toList ds p (fun j t v h4 h5 => hok j t v h4 (by simpa using h5)) hT hwo
  let g : Gh := ⟨fun _ => 0, fun _ => 0, fun _ => 0, fun _ => undef, fun _ => false, fun _ => False⟩
  have hm : ∀ k, ¬ mutb g (argSt [] []) k := by
    rintro k (⟨i, ⟨cs, h⟩, _⟩ | ⟨i, ⟨⟨cs, h⟩, _⟩, _⟩)
    · simp [argSt] at h
    · simp [argSt] at h
  have hb : ∀ k, ¬ bad g (argSt [] []) k := by
    rintro k (h | h)
    · exact h
    · exact hm k h
  refine (hl x h1 W args g (fun _ => True) { size := by simpa using h2, arg := fun i d hd => ?_, box := fun i cs h => by simp at h, row := fun i cs h => by simp at h, bb := fun i j h => ?_, rr := fun i j h => ?_, br := fun i j h => ?_, mN := fun k h => absurd h (hm k), nn := fun k h => h.elim, new := fun _ _ => trivial }).mono fun r W' ⟨v, g', hr, hR⟩ => ?_
  · have h4 := h3 (fun _ => True) i d hd
    rw [List.getD_eq_getElem?_getD, Array.getElem?_toList, ← Array.getD_eq_getD_getElem?] at h4
    exact SR.vr (h4.mono (fun _ _ _ => rfl) (Nat.le_refl _) (fun k _ _ => hb k) (fun _ h _ => h))
  · obtain ⟨cs, h⟩ := h; simp [argSt] at h
  · obtain ⟨⟨cs, h⟩, _⟩ := h; simp [argSt] at h
  · obtain ⟨cs, h⟩ := h; simp [argSt] at h
  · have hv : v = .bool true := by
      have := hR.res.toVr rfl
      cases this; rfl
    subst hv
    exact ⟨hr, ⟨hR.os, hR.tape, hR.output, hR.size, fun k hk => hR.block k hk (hm k)⟩⟩
theorem trodAll_stays {H : Type} {enc : TypeId × Value → H} (hl : laidOutB P = true) {W W' : World} (hb : Below W.heap.size W W') : ∀ (ts : List TypeId) (vs : List Value) (ds : List (DataW H)) (p : List MemPlace), (∀ t ∈ ts, P.readableRec t = true ∧ t < P.types.size) → (∀ x ∈ p, x.block < W.heap.size) →
    DataW.TrodAll enc P W 0 (fun _ => true) true ts vs ds p → DataW.TrodAll enc P W' 0 (fun b => decide (b < W.heap.size)) true ts vs ds p
  | [], [], [], _, _, _, h => h
  | [], [], _ :: _, _, _, _, h => by cases h
  | [], _ :: _, [], _, _, _, h => by cases h
  | [], _ :: _, _ :: _, _, _, _, h => by cases h
  | _ :: _, [], [], _, _, _, h => by cases h
  | _ :: _, [], _ :: _, _, _, _, h => by cases h
  | _ :: _, _ :: _, [], _, _, _, h => by cases h
  | t :: ts, v :: vs, d :: ds, p, hr, hlt, h => by
    obtain ⟨a, b, h1, h2, rfl⟩ := h
    refine ⟨a, b, ?_, ?_, rfl⟩
    · exact Below.trod hl (hr t (List.mem_cons_self ..)).1 (hr t (List.mem_cons_self ..)).2 h1 hb (fun x hx => hlt x (List.mem_append_left _ hx))
    · exact trodAll_stays hl hb ts vs ds b (fun t ht => hr t (List.mem_cons_of_mem _ ht)) (fun x hx => hlt x (List.mem_append_right _ hx)) h2
/-- A law's row: what its post asks of a call. -/
theorem contract_true {f : FuncId} {fn : Func} {s : ChangeSpec} {apart fresh : Bool} {ts : List TypeId} {tb : TypeId} {α : Type} {e : α → List DV} {good : α → Prop} (hA : DnA P ts e good) (hl : ∀ x, good x → OkB P f (e x) [] [] (.bool true) [] [])
    (hp : fn.params.toList = ts) (hr : fn.resultTypes = #[tb]) (htb : P.underlying tb = some .bool) (hv : s.vars = []) (hs : ∀ (H : Type) (ds : List (DataW H)), ds.length = ts.length → s.fn H (ds ++ []) = { results := [.lit (.bool true)], args := ds })
    (hlo : laidOutB P = true) (hrd : ts.all (fun t => P.readableRec t && decide (t < P.types.size)) = true) {H : Type} {enc : TypeId × Value → H} {W : World} {b0 : Nat} {args : Array Value} {ds gs : List (DataW H)} {before : List MemPlace}
    (hval : ∀ (j : Nat) (t : TypeId) (v : Value), fn.params[j]? = some t → args[j]? = some v → Value.okWide P W .any b0 t v) (hW : DataW.Whole enc P fn.params.toList s.vars apart W args.toList ds gs before) (hwo : (DataW.weightsEach P (fn.params.toList ++ []) (ds ++ gs)).all (· ≤ reachBytes) = true) :
    Calls P f args W fun r W' => ∃ v, r = .returned v ∧ s.post enc P fn apart fresh false false W args v W' := by
  have hW' := hW
  obtain ⟨p, q, hT, hV, rfl, hfz, hnd⟩ := hW
  rw [hv] at hV
  have hgq : gs = [] ∧ q = [] := by
    cases gs with
    | nil => exact ⟨rfl, hV⟩
    | cons g r => exact absurd hV (by intro h; cases h)
  obtain ⟨rfl, rfl⟩ := hgq
  have hlen : ds.length = ts.length := by
    rw [← hp]
    clear hval hW' hfz hnd hwo
    generalize fn.params.toList = us at hT
    generalize args.toList = vs at hT
    induction us generalizing vs ds p with
    | nil => cases vs <;> cases ds <;> first | rfl | exact absurd hT (by intro h; cases h)
    | cons u us ih =>
      cases vs with
      | nil => cases ds <;> exact absurd hT (by intro h; cases h)
      | cons v vs =>
        cases ds with
        | nil => exact absurd hT (by intro h; cases h)
        | cons d ds =>
          obtain ⟨_, _, _, h2, _⟩ := hT
          simp [ih _ _ h2]
  have hlt : ∀ x ∈ p, x.block < W.heap.size := fun x hx => hW'.lt x (List.mem_append_left _ hx)
  refine (calls_true (P := P) hA hl (b0 := b0) (fun j t v h1 h2 => hval j t v (by rw [← hp] at h1; simpa using h1) h2) (by rw [← hp]; exact hT) (fun x hx => by
    rw [← hp] at hx
    have := List.all_eq_true.1 hwo x (by simpa using hx)
    simpa using this)).mono fun r W' ⟨hr', hb⟩ => ?_
  subst hr'
  refine ⟨_, rfl, ds, [], p ++ [], [], p, [], hW', ?_, ?_, ?_, hb.frame _, fun h => by cases h⟩
  · rw [hs H ds hlen, hr]
    exact trodAll_mk1 (shut_bool htb true)
  · rw [hs H ds hlen]
    refine trodAll_stays hlo hb fn.params.toList args.toList ds p (fun t ht => ?_) hlt hT
    rw [hp] at ht
    have := List.all_eq_true.1 hrd t ht
    simpa using this
  · rw [hs H ds hlen, hv]; rfl
end
end Go.PM

