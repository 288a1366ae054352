/-
  An abstract semantics of the programs of the model: what a piece of Go code makes of abstract values, proved sound over any program. Part 3 of 4. No condition.
-/
import Derived.Test.YtimlobidpkglkaaGreatDoorQDocPartsM2
import Derived.IntWalk
import Derived.RangeFuncIn
import Derived.Tactics
import Derived.Laws.RangeAny
import Derived.Lib.RuneCount
import Derived.Shelf.Strings.MapGrows
import Derived.Shelf.Strings.Cut
import Derived.Shelf.Unicode.ValidAny
set_option linter.unusedVariables false
set_option linter.unusedSimpArgs false
set_option linter.unusedSectionVars false
set_option linter.unnecessarySimpa false
namespace Go.PM
variable [Tbl]
set_option linter.unusedSectionVars false
open Go.RowKit
set_option linter.unusedSimpArgs false
set_option linter.unusedVariables false
variable {P : Program} {B : Base} {w0 : World} {g : Gh} {A : St} {a : Act} {w : World}

theorem Rel.leaves (hd0 : w0.heap.size ≤ B.d0) {fn : Func} {n : Nat} {R : Ending → World → Prop} : ∀ (ds : List Deferred) (a : Act) (w : World), a.defers = ds → Rel B w0 g A a w →
    (∀ w', Rel B w0 g A { a with defers := [] } w' → ∃ v, (Go.results fn a.tmps).run P w' = .ok v w' ∧ R (.returned v) w') → LeavesInM Fence.wide n P fn a.tmps R ds .returning w
  | [], a, w, hd, h, hR => by
    refine hR w ?_
    cases a; cases hd; exact h
  | d :: ds, a, w, hd, h, hR => by
    obtain ⟨h1, h2⟩ := h.dfr
    rw [hd] at h1 h2
    obtain ⟨D, h3, h4, h5⟩ := h2 d (by simp)
    refine ⟨by simp, .inl ⟨D, _, by rw [h3], run_takeDeferred h5, ?_⟩⟩
    have hr : Rel B w0 g A { a with defers := ds } (w.putObj D (.deferred none)) := by
      refine h.others (oth_putObj (Nat.le_trans hd0 h4) h5 rfl) rfl ⟨(List.nodup_cons.1 h1).2, fun d' hd' => ?_⟩
      obtain ⟨D', h6, h7, h8⟩ := h2 d' (List.mem_cons_of_mem _ hd')
      refine ⟨D', h6, h7, ?_⟩
      refine (World.putObj_heap_other ?_).trans h8
      rintro rfl
      exact (List.nodup_cons.1 h1).1 (by rw [h3, ← h6]; exact hd')
    exact Rel.leaves hd0 ds { a with defers := ds } _ rfl hr (fun w' hw' => hR w' hw')

theorem nodup_inj {l : List Nat} (h : l.Nodup) {i j : Nat} (hi : i < l.length) (hj : j < l.length) (e : l[i] = l[j]) : i = j := by
  have hp := List.pairwise_iff_getElem.1 h
  rcases Nat.lt_trichotomy i j with h1 | h1 | h1
  · exact absurd e (hp i j hi hj h1)
  · exact h1
  · exact absurd e.symm (hp j i hj hi h1)

def resOk (toks : List Nat) : DV → Bool
  | .own t => toks.contains t
  | .bx _ _ | .ex _ _ _ | .tup _ | .vw _ _ _ _ => false
  | _ => true
def DV.vwOk (n : Nat) : DV → Bool
  | .vw b _ _ _ => decide (b < n)
  | _ => false
def resOkV (toks : List Nat) (n : Nat) (d : DV) : Bool := resOk toks d || d.vwOk n
theorem resOk_V {toks : List Nat} {n : Nat} {ds : List DV} (h : ds.all (resOk toks) = true) : ds.all (resOkV toks n) = true :=
  List.all_eq_true.2 (fun d hd => by unfold resOkV; rw [List.all_eq_true.1 h d hd]; rfl)
def FinB (P : Program) (fn : Func) (A : St) (r : DV) (bz : List (List DV)) (rr : List Row) : Prop :=
  ∃ (ds : List DV) (toks : List Nat) (cb : List (List DV)), A.resL P fn.results.toList = some ds ∧ toks.Nodup ∧ A.rowsOf toks = some rr ∧ ds.all (resOkV toks bz.length) = true ∧ r = tupOr (ds.map (DV.ren (toks.idxOf ·))) ∧ A.boxesOf (List.range bz.length) = some cb ∧ cb.all (fun c => c.all (resOk toks)) = true ∧ bz = cb.map (List.map (DV.ren (toks.idxOf ·)))
def Fin (P : Program) (fn : Func) (A : St) (r : DV) (rr : List Row) : Prop :=
  ∃ (ds : List DV) (toks : List Nat), A.resL P fn.results.toList = some ds ∧ toks.Nodup ∧ A.rowsOf toks = some rr ∧ ds.all (resOk toks) = true ∧ r = tupOr (ds.map (DV.ren (toks.idxOf ·)))
theorem Fin.b {fn : Func} {r : DV} {rr : List Row} (h : Fin P fn A r rr) : FinB P fn A r [] rr := by
  obtain ⟨ds, toks, h1, h2, h3, h4, h5⟩ := h
  exact ⟨ds, toks, [], h1, h2, h3, resOk_V h4, h5, rfl, rfl, rfl⟩

theorem okB_of_ex {f : FuncId} {fn : Func} {c : Code} {args : List DV} {ba bz : List (List DV)} {ra rr : List Row} {r : DV} (hf : P.funcs[f]? = some fn) (hb : fn.body = some c) (hbz : bz.length = ba.length)
    (h : Ex true P c ⟨args ++ List.replicate (fn.ntmps - args.length) .top, ba.map some, ra.map some, ba.length⟩ (fun e A2 => (e = .normal ∨ e = .ret) ∧ FinB P fn A2 r bz rr)) : OkB P f args ba ra r bz rr := by
  intro w vs g N hA
  refine (callsIn_wide (n := 0)).1 (callsIn_of_wp_marks hf hb trivial ?_)
  generalize hA0 : (⟨args ++ List.replicate (fn.ntmps - args.length) .top, ba.map some, ra.map some, ba.length⟩ : St) = A0 at h
  have hA0r : A0.r = ra.map some := by rw [← hA0]
  have hA0b : A0.b = ba.map some := by rw [← hA0]
  have hA0k : A0.kb = ba.length := by rw [← hA0]
  have hlb : ∀ i, A0.lb i ↔ (argSt ba ra).lb i := fun i => by rw [← hA0]; exact Iff.rfl
  have hlp : ∀ i, lp g A0 i ↔ lp g (argSt ba ra) i := fun i => by rw [← hA0]; exact Iff.rfl
  have hmb : ∀ k, mutb g A0 k ↔ mutb g (argSt ba ra) k := fun k => by rw [← hA0]; exact Iff.rfl
  let B : Base := { n := w.heap.size, ex := mutb g (argSt ba ra), N := N, no := g.no, kb := ba.length, bm := g.bm, bo := g.bo, bn := fun i => match ba[i]? with | some cs => cs.length | none => 0, hN := fun k hk => hk.elim (hA.new k) (fun h1 => (hA.mN k h1).1), d0 := w.heap.size, hd0 := Nat.le_refl _ }
  have hSR : ∀ {d : DV} {v : Value}, SR g (argSt ba ra) w N d v → SR g A0 w N d v := fun h => by rw [← hA0]; exact h
  have h0 : Rel B w g A0 { tmps := vs ++ Array.replicate (fn.ntmps - vs.size) undef, defers := [] } w := by
    refine { size := ?_, slot := ?_, box := ?_, row := ?_, bb := ?_, rr := ?_, br := ?_, kb := ⟨hA0k, by rw [hA0b]; simp [B]⟩, fix := fun _ _ _ => ⟨rfl, rfl⟩, out := ?_, new := ?_, nn := ?_, base := Nat.le_refl _, tb := ⟨fun k hk => hk.elim (fun h1 => Nat.le_trans hA.tb.2 h1) (fun h1 => hA.mG k h1), hA.tb.1⟩, below := Bel.refl _ _, oth := KeepsOthers.refl _, gno := rfl, dfr := ⟨by simp, fun d hd => by simp at hd⟩ }
    · rw [← hA0]; simp [hA.size]
    · intro i d hd
      rw [← hA0] at hd
      simp only at hd
      rw [List.getElem?_append] at hd
      split at hd
      · rename_i hi
        have := hA.arg i d hd
        have hi' : i < vs.size := by rw [hA.size]; exact hi
        have e : (vs ++ Array.replicate (fn.ntmps - vs.size) undef).getD i undef = vs.getD i undef := by
          simp [Array.getD_eq_getD_getElem?, Array.getElem?_append, hi']
        simp only [e]
        exact hSR this
      · have : d = .top := by
          have := List.mem_of_getElem? hd
          exact (List.mem_replicate.1 this).2
        subst this
        exact SR.vr (.top _)
    · intro i cs hc
      have := hA.box i cs (by rw [hA0b] at hc; simpa using hc)
      rw [← hA0]; exact this
    · intro t ρ hx
      have := hA.row t ρ (by rw [hA0r] at hx; simpa using hx)
      rw [← hA0]; exact this
    · exact fun i j hi hj => hA.bb i j ((hlb i).1 hi) ((hlb j).1 hj)
    · exact fun i j hi hj => hA.rr i j ((hlp i).1 hi) ((hlp j).1 hj)
    · exact fun i j hi hj => hA.br i j ((hlb i).1 hi) ((hlp j).1 hj)
    · intro i cs hi hc
      have hc' : ba[i]? = some cs := by rw [hA0b] at hc; simpa using hc
      obtain ⟨u, e, h1, h2, h3⟩ := hA.box i cs hc'
      have h4 : cs.length = B.bn i := by simp [B, hc']
      refine ⟨h4, u, u, e, h1, h1, rfl, ?_, fun _ _ => rfl⟩
      rw [← h4]; exact h2
    · exact fun k hk => ⟨.inr ((hmb k).1 hk), (hA.mN k ((hmb k).1 hk)).2⟩
    · exact fun k hk => ⟨(hA.nn k hk).1, fun h1 => (hA.nn k hk).2 ((hmb k).1 h1)⟩
  refine h B w g _ w h0 none (fun _ => rfl) 0 _ ?_
  rintro e A2 g' a' w' ⟨he, ds, toks, cb, hds, hnd, hrr, hok, rfl, hcb, hokb, hbzE⟩ hr' _
  have key : LeavesInM Fence.wide 0 P fn a'.tmps (fun e w' => ∃ v g', e = .returned v ∧ ResR g g' w w' N ba ra (tupOr (ds.map (DV.ren (toks.idxOf ·)))) bz rr v) a'.defers .returning w' := by
    refine Rel.leaves (Nat.le_refl _) _ a' w' rfl hr' ?_
    intro w'' hr
    obtain ⟨us, h1, h2, h3⟩ := hr.results hds
    obtain ⟨hl, hrow⟩ := rowsOf_get hrr
    obtain ⟨hcl, hbox⟩ := boxesOf_get hcb
    have hcl : cb.length = bz.length := by rw [hcl]; simp
    have hbox : ∀ i c, cb[i]? = some c → A2.b[i]? = some (some c) := fun i c hc => by
      obtain ⟨b, h4, h5⟩ := hbox i c hc
      have hi : i < bz.length := by have := (List.getElem?_eq_some_iff.1 hc).1; omega
      rw [List.getElem?_range hi] at h4
      cases h4; exact h5
    have hlive : ∀ i, i < rr.length → A2.lr (toks.getD i 0) := fun i hi => ⟨rr[i], hrow i _ (List.getElem?_eq_getElem hi)⟩
    have hlivb : ∀ i, i < bz.length → A2.lb i := fun i hi => ⟨_, hbox i _ (List.getElem?_eq_getElem (by omega))⟩
    have hfix : ∀ i, i < bz.length → g'.bm i = g.bm i ∧ g'.bo i = g.bo i := fun i hi => hr.fix i (by simp only [B]; omega) (hlivb i hi)
    let g2 : Gh := { bm := g'.bm, bo := g'.bo, tm := fun i => g'.tm (toks.getD i 0), tv := fun i => g'.tv (toks.getD i 0), pl := fun i => g'.pl (toks.getD i 0), no := g.no }
    have hno : g'.no = g.no := hr.gno
    have hmb2 : ∀ k, mutb g2 (argSt bz rr) k → mutb g' A2 k := by
      rintro k (⟨i, hi, rfl⟩ | ⟨t, ⟨h5, h6⟩, rfl⟩)
      · exact .inl ⟨i, hlivb i (argSt_lb.1 hi), rfl⟩
      · exact .inr ⟨_, ⟨hlive t (argSt_lr.1 h5), h6⟩, rfl⟩
    have hbad : ∀ k, ¬ bad g' A2 k → ¬ bad g2 (argSt bz rr) k := by
      rintro k hk (h4 | h4)
      · exact hk (.inl (by rw [hno]; exact h4))
      · exact hk (.inr (hmb2 k h4))
    have hvr : ∀ {d : DV} {v : Value}, VR w'' N (fun k => ¬ bad g' A2 k) d v → VR w'' N (fun k => ¬ bad g2 (argSt bz rr) k) d v := fun hv => hv.mono (fun _ _ _ => rfl) (Nat.le_refl _) (fun k hk _ => hbad k hk) (fun _ h _ => h)
    have one : ∀ {d : DV} {v : Value}, resOkV toks bz.length d = true → SR g' A2 w'' N d v → SR1 g2 (argSt bz rr) w'' N (d.ren (toks.idxOf ·)) v := by
      intro d v hd hs
      cases d with
      | own t =>
        obtain ⟨h4, h5⟩ := hs
        have ht : t ∈ toks := by simpa [resOkV, DV.vwOk, resOk] using hd
        have hi : toks.idxOf t < toks.length := List.idxOf_lt_length_iff.2 ht
        have hg := idx_getD ht
        refine ⟨by simp [argSt]; omega, fun hl' => ?_⟩
        have h6 := hlive _ (argSt_lr.1 hl')
        rw [hg] at h6
        rw [h5 h6]
        show g'.tv t = g'.tv (toks.getD (toks.idxOf t) 0)
        rw [hg]
      | bx b o => cases hd
      | vw b o n c =>
        have hb : b < bz.length := by simpa [resOkV, DV.vwOk, resOk] using hd
        exact ⟨by simpa [argSt] using hb, fun _ => hs.2 (hlivb b hb)⟩
      | ex t i j => cases hd
      | tup vs => cases hd
      | _ => exact hvr hs
    have one' : ∀ {d : DV} {v : Value}, resOkV toks bz.length d = true → SR g' A2 w'' N d v → SR g2 (argSt bz rr) w'' N (d.ren (toks.idxOf ·)) v := by
      intro d v hd hs
      have := one hd hs
      cases d <;> first | exact this | cases hd
    have hoth : ∀ k, k < w.heap.size → ¬ mutb g (argSt ba ra) k → w''.heap[k]? = w.heap[k]? := fun k hk hne => by
      refine hr.below.block k ?_
      rintro (h4 | h4)
      · exact absurd hk (Nat.not_lt.2 h4)
      · exact hne h4
    refine ⟨_, h1, _, g2, rfl, ?_⟩
    refine { os := hr.below.os, tape := hr.below.tape, output := hr.below.output, size := hr.below.size, block := hoth, oth := hr.oth, no := rfl, res := ?_, box := ?_, blen := hbz, bfix := fun i hi => hfix i (by omega), bout := ?_, row := ?_, inj := ?_, br := ?_, from_ := ?_ }
    · have hall : ∀ (i : Nat) (d : DV), ds[i]? = some d → resOkV toks bz.length d = true := fun i d hd => List.all_eq_true.1 hok d (List.mem_of_getElem? hd)
      by_cases hone : ∃ d, ds = [d]
      · obtain ⟨d, rfl⟩ := hone
        have hus : us.size = 1 := by simpa using h2
        rw [dif_pos hus]
        have h4 := one (hall 0 d rfl) (h3 0 d rfl)
        have h5 : us.getD 0 undef = us[0] := by simp [Array.getD, hus]
        rw [h5] at h4
        simp only [tupOr, List.map]
        refine h4.up ?_
        have := hall 0 d rfl
        cases d <;> first | rfl | cases this
      · have hus : us.size ≠ 1 := by
          intro e
          rw [h2] at e
          obtain ⟨d, hd⟩ := List.length_eq_one_iff.1 e
          exact hone ⟨d, hd⟩
        rw [dif_neg hus]
        have ht : tupOr (ds.map (DV.ren (toks.idxOf ·))) = .tup (ds.map (DV.ren (toks.idxOf ·))) := by
          match ds, hone with
          | [], _ => rfl
          | [d], h => exact absurd ⟨d, rfl⟩ h
          | _ :: _ :: _, _ => rfl
        rw [ht]
        refine ⟨us, rfl, by simpa using h2, fun i d hd => ?_⟩
        rw [List.getElem?_map] at hd
        cases hq : ds[i]? with
        | none => rw [hq] at hd; cases hd
        | some d0 =>
          rw [hq] at hd
          obtain rfl : d0.ren (toks.idxOf ·) = d := by simpa using hd
          exact one (hall i d0 hq) (h3 i d0 hq)
    · intro i c hc
      rw [hbzE, List.getElem?_map] at hc
      cases hq : cb[i]? with
      | none => rw [hq] at hc; cases hc
      | some c0 =>
        rw [hq] at hc
        obtain rfl : c0.map (DV.ren (toks.idxOf ·)) = c := by simpa using hc
        obtain ⟨u, e, h4, h5, h6⟩ := hr.box i c0 (hbox i c0 hq)
        refine ⟨u, e, h4, by simpa using h5, fun j d hj => ?_⟩
        rw [List.getElem?_map] at hj
        cases hq' : c0[j]? with
        | none => rw [hq'] at hj; cases hj
        | some d0 =>
          rw [hq'] at hj
          obtain rfl : d0.ren (toks.idxOf ·) = d := by simpa using hj
          obtain ⟨h7, h8⟩ := h6 j d0 hq'
          have h9 : resOkV toks bz.length d0 = true := by unfold resOkV; rw [List.all_eq_true.1 (List.all_eq_true.1 hokb c0 (List.mem_of_getElem? hq)) d0 (List.mem_of_getElem? hq')]; rfl
          exact ⟨h7.imp (fun h => by cases d0 <;> exact h) (fun e => by rw [e]; rfl), one' h9 h8⟩
    · intro i cs cs' hc hc'
      have hi : i < cb.length := by have := (List.getElem?_eq_some_iff.1 hc').1; omega
      have h4 := hbox i _ (List.getElem?_eq_getElem hi)
      obtain ⟨h5, h6⟩ := hr.out i _ (by have := (List.getElem?_eq_some_iff.1 hc).1; exact this) h4
      have h7 : B.bn i = cs.length := by simp [B, hc]
      have h8 : cs'.length = cb[i].length := by
        have h9 : bz[i]? = some (cb[i].map (DV.ren (toks.idxOf ·))) := by rw [hbzE, List.getElem?_map, List.getElem?_eq_getElem hi]; rfl
        rw [hc'] at h9
        obtain rfl := Option.some.inj h9
        simp
      refine ⟨by omega, ?_⟩
      rw [← h7]; exact h6
    · intro t ρ hx
      rcases hr.row _ ρ (hrow t ρ hx) with h4 | ⟨hp, u, cap, h4, h5, h6, h7, h8, h9, h10⟩
      · exact .inl h4
      · exact .inr ⟨hp, u, cap, h4, h5, h6, h7, h8, h9, fun i x j d hi hj => ⟨(h10 i x j d hi hj).1, (h10 i x j d hi hj).2.1, hvr (h10 i x j d hi hj).2.2⟩⟩
    · intro i j hi hj e
      have hi1 := argSt_lr.1 hi.1
      have hj1 := argSt_lr.1 hj.1
      have h4 := hr.rr _ _ ⟨hlive i hi1, hi.2⟩ ⟨hlive j hj1, hj.2⟩ e
      have hi' : i < toks.length := by omega
      have hj' : j < toks.length := by omega
      rw [List.getD_eq_getElem?_getD, List.getD_eq_getElem?_getD, List.getElem?_eq_getElem hi', List.getElem?_eq_getElem hj'] at h4
      exact nodup_inj hnd hi' hj' (by simpa using h4)
    · intro i j hi hj e
      exact hr.br i _ (hlivb i (argSt_lb.1 hi)) ⟨hlive j (argSt_lr.1 hj.1), hj.2⟩ e
    · intro t ht
      have h4 := hr.new _ (.inr ⟨_, ⟨hlive t (argSt_lr.1 ht.1), ht.2⟩, rfl⟩)
      refine ⟨?_, h4.2⟩
      rcases h4.1 with h5 | h5
      · exact .inl h5
      · exact .inr h5
  rcases he with rfl | rfl <;> exact key
end Go.PM

namespace Go.PM
variable [Tbl]
set_option linter.unusedSectionVars false
open Go.RowKit
set_option linter.unusedSimpArgs false
set_option linter.unusedVariables false
variable {z : Bool} {P : Program} {A : St} {ops : Array Oper} {effs : List Nat} {i : Nat} {l : List Nat} {o : Oper} {d : DV} {t : Option Tmp} {K : St → Prop}

def WE (P : Program) (ops : Array Oper) (effs : List Nat) (l : List Nat) (A : St) (K : St → Prop) : Prop := ∃ A2, DoEL P ops effs l A A2 ∧ K A2

theorem we_nil (h : K A) : WE P ops effs [] A K := ⟨A, .nil A, h⟩
theorem we_pure (ho : ops[i]? = some o) (ht : o.dst = t) (hw : wantD ops A o = some true) (hx : XP P o A d) (hn : nl effs i = true → ∀ b r, XP P o ⟨A.s, b, r, A.kb⟩ d) (hr : ri effs i = true → ∀ b r, b[bxOf effs i]? = A.b[bxOf effs i]? → XP P o ⟨A.s, b, r, A.kb⟩ d) (h : WE P ops effs l (A.put t d) K) : WE P ops effs (i :: l) A K := by
  subst ht
  obtain ⟨A2, h1, h2⟩ := h
  exact ⟨A2, .cons (.pure ho hw hx hn hr) h1, h2⟩
theorem we_skip (ho : ops[i]? = some o) (ht : o.dst = t) (hw : wantD ops A o = some false) (h : WE P ops effs l (A.put t (.tup [])) K) : WE P ops effs (i :: l) A K := by
  subst ht
  obtain ⟨A2, h1, h2⟩ := h
  exact ⟨A2, .cons (.skip ho hw) h1, h2⟩
theorem we_eff {A1 : St} (he : effs.contains i = true) (hm : nl effs i = false) (hm2 : ri effs i = false) (hb : ro effs i = true → ∀ m, m ≠ bxOf effs i → A1.b[m]? = A.b[m]?) (ho : ops[i]? = some o) (ht : o.dst = t) (hw : wantD ops A o = some true) (hx : XE P o A d A1) (h : WE P ops effs l (A1.put t d) K) : WE P ops effs (i :: l) A K := by
  subst ht
  obtain ⟨A2, h1, h2⟩ := h
  exact ⟨A2, .cons (.eff he hm hm2 hb ho hw hx) h1, h2⟩

theorem ex_we (hm : P.follows .mixedOrders = true) {id : Nat} {T : List (List Nat)} {Q : Exit → St → Prop} (hT : drawOk ops effs T = true) (hl : List.range ops.size = l) (h : WE P ops effs l A (Q .normal)) : Ex z P (.region id ops true) A Q := by
  subst hl
  obtain ⟨A2, h1, h2⟩ := h
  exact ex_draw hm hT h1 h2
end Go.PM

namespace Go.PM
variable [Tbl]
set_option linter.unusedSectionVars false
open Go.RowKit
set_option linter.unusedSimpArgs false
set_option linter.unusedVariables false
variable {P : Program} {B : Base} {w0 : World} {g : Gh} {A : St} {a : Act} {w : World}

inductive Sh
  | nil
  | step (i : Nat) (s : Sh)
  | fork (p q : Nat) (s1 s2 : Sh)
  | fork3 (p q r : Nat) (s1 s2 s3 : Sh)
def Sh.mem : Sh → List Nat
  | .nil => []
  | .step i s => i :: s.mem
  | .fork p q s1 s2 => p :: s1.mem
  | .fork3 p q r s1 s2 s3 => p :: s1.mem
def anc (T : List (List Nat)) (i j : Nat) : Bool := match T[i]? with | some ts => ts.contains j | none => false
def Sh.good (ops : Array Oper) (effs : List Nat) (T : List (List Nat)) : Sh → Bool
  | .nil => true
  | .step j s => !s.mem.contains j && s.mem.all (fun i => anc T i j || apart ops effs j i) && s.good ops effs T
  | .fork p q s1 s2 => !s1.mem.contains p && !s2.mem.contains q && s1.mem.contains q && s1.mem.all (fun i => i == q || anc T i p || anc T i q) && (p :: s1.mem).all ((q :: s2.mem).contains ·) && (q :: s2.mem).all ((p :: s1.mem).contains ·) && s1.good ops effs T && s2.good ops effs T
  | .fork3 p q r s1 s2 s3 => !s1.mem.contains p && !s2.mem.contains q && !s3.mem.contains r && s1.mem.contains q && s1.mem.contains r && s1.mem.all (fun i => i == q || i == r || anc T i p || anc T i q || anc T i r) && (p :: s1.mem).all ((q :: s2.mem).contains ·) && (q :: s2.mem).all ((p :: s1.mem).contains ·) && (p :: s1.mem).all ((r :: s3.mem).contains ·) && (r :: s3.mem).all ((p :: s1.mem).contains ·) && s1.good ops effs T && s2.good ops effs T && s3.good ops effs T
def DoSh (P : Program) (ops : Array Oper) (effs : List Nat) (K : St → Prop) : Sh → St → Prop
  | .nil, A => K A
  | .step i s, A => ∃ A1, DoE P ops effs i A A1 ∧ DoSh P ops effs K s A1
  | .fork p q s1 s2, A => (∃ A1, DoE P ops effs p A A1 ∧ DoSh P ops effs K s1 A1) ∧ ∃ A2, DoE P ops effs q A A2 ∧ DoSh P ops effs K s2 A2
  | .fork3 p q r s1 s2 s3, A => (∃ A1, DoE P ops effs p A A1 ∧ DoSh P ops effs K s1 A1) ∧ (∃ A2, DoE P ops effs q A A2 ∧ DoSh P ops effs K s2 A2) ∧ ∃ A3, DoE P ops effs r A A3 ∧ DoSh P ops effs K s3 A3

variable {ops : Array Oper} {effs : List Nat} {T : List (List Nat)} {K : St → Prop}
theorem DoSh.move {i : Nat} : ∀ {s : Sh} {A : St}, DoSh P ops effs K s A → s.good ops effs T = true → i ∈ s.mem → (∀ j ∈ s.mem, anc T i j = false) → ∃ (A1 : St) (s' : Sh), DoE P ops effs i A A1 ∧ DoSh P ops effs K s' A1 ∧ s'.good ops effs T = true ∧ ∀ k, k ∈ s'.mem ↔ k ∈ s.mem ∧ k ≠ i
  | .nil, A, _, _, hi, _ => by simp [Sh.mem] at hi
  | .step j s, A, h, hg, hi, ha => by
    obtain ⟨A1, h1, h2⟩ := h
    simp only [Sh.good, Bool.and_eq_true, Bool.not_eq_true', List.all_eq_true, Bool.or_eq_true] at hg
    obtain ⟨⟨g1, g2⟩, g3⟩ := hg
    have g1' : j ∉ s.mem := fun h3 => by rw [List.contains_iff_mem.2 h3] at g1; cases g1
    by_cases e : i = j
    · subst e
      refine ⟨A1, s, h1, h2, g3, fun k => ⟨fun hk => ⟨by simp [Sh.mem, hk], fun e => g1' (e ▸ hk)⟩, fun hk => ?_⟩⟩
      simp only [Sh.mem, List.mem_cons] at hk
      exact hk.1.resolve_left hk.2
    · have hi' : i ∈ s.mem := by simp only [Sh.mem, List.mem_cons] at hi; exact hi.resolve_left e
      obtain ⟨A', s', d, ds, gs, hm⟩ := DoSh.move h2 g3 hi' (fun k hk => ha k (by simp [Sh.mem, hk]))
      have hap : apart ops effs j i = true := (g2 i hi').resolve_left (fun h3 => by rw [ha j (by simp [Sh.mem])] at h3; cases h3)
      obtain ⟨B1, h4, h5⟩ := h1.swap d hap
      refine ⟨B1, .step j s', h4, ⟨A', h5, ds⟩, ?_, fun k => ?_⟩
      · simp only [Sh.good, Bool.and_eq_true, Bool.not_eq_true', List.all_eq_true, Bool.or_eq_true]
        refine ⟨⟨?_, fun k hk => g2 k ((hm k).1 hk).1⟩, gs⟩
        cases hc : s'.mem.contains j with
        | false => rfl
        | true => exact absurd ((hm j).1 (List.contains_iff_mem.1 hc)).1 g1'
      · simp only [Sh.mem, List.mem_cons, hm]
        constructor
        · rintro (rfl | ⟨h6, h7⟩)
          · exact ⟨.inl rfl, fun e' => e e'.symm⟩
          · exact ⟨.inr h6, h7⟩
        · rintro ⟨rfl | h6, h7⟩
          · exact .inl rfl
          · exact .inr ⟨h6, h7⟩
  | .fork p q s1 s2, A, h, hg, hi, ha => by
    obtain ⟨⟨A1, h1, h2⟩, A2, h3, h4⟩ := h
    simp only [Sh.good, Bool.and_eq_true, Bool.not_eq_true', List.all_eq_true, Bool.or_eq_true, beq_iff_eq] at hg
    obtain ⟨⟨⟨⟨⟨⟨⟨g1, g2⟩, g3⟩, g4⟩, g5⟩, g6⟩, g7⟩, g8⟩ := hg
    have g1' : p ∉ s1.mem := fun h3 => by rw [List.contains_iff_mem.2 h3] at g1; cases g1
    have g2' : q ∉ s2.mem := fun h3 => by rw [List.contains_iff_mem.2 h3] at g2; cases g2
    by_cases e : i = p
    · subst e
      refine ⟨A1, s1, h1, h2, g7, fun k => ⟨fun hk => ⟨by simp [Sh.mem, hk], fun e => g1' (e ▸ hk)⟩, fun hk => ?_⟩⟩
      simp only [Sh.mem, List.mem_cons] at hk
      exact hk.1.resolve_left hk.2
    · by_cases e' : i = q
      · subst e'
        refine ⟨A2, s2, h3, h4, g8, fun k => ⟨fun hk => ⟨?_, fun e => g2' (e ▸ hk)⟩, fun hk => ?_⟩⟩
        · exact List.contains_iff_mem.1 (g6 k (by simp [hk]))
        · have := List.contains_iff_mem.1 (g5 k hk.1)
          simp only [List.mem_cons] at this
          exact this.resolve_left hk.2
      · have hi' : i ∈ s1.mem := by simp only [Sh.mem, List.mem_cons] at hi; exact hi.resolve_left e
        exfalso
        rcases g4 i hi' with (h5 | h5) | h5
        · exact e' h5
        · rw [ha p (by simp [Sh.mem])] at h5; cases h5
        · rw [ha q (by simp [Sh.mem, List.contains_iff_mem.1 g3])] at h5; cases h5
  | .fork3 p q r s1 s2 s3, A, h, hg, hi, ha => by
    obtain ⟨⟨A1, h1, h2⟩, ⟨A2, h3, h4⟩, A3, h5, h6⟩ := h
    simp only [Sh.good, Bool.and_eq_true, Bool.not_eq_true', List.all_eq_true, Bool.or_eq_true, beq_iff_eq] at hg
    obtain ⟨⟨⟨⟨⟨⟨⟨⟨⟨⟨⟨⟨g1, g2⟩, g3⟩, g4⟩, g5⟩, g6⟩, g7⟩, g8⟩, g9⟩, g10⟩, g11⟩, g12⟩, g13⟩ := hg
    have g1' : p ∉ s1.mem := fun h3 => by rw [List.contains_iff_mem.2 h3] at g1; cases g1
    have g2' : q ∉ s2.mem := fun h3 => by rw [List.contains_iff_mem.2 h3] at g2; cases g2
    have g3' : r ∉ s3.mem := fun h3 => by rw [List.contains_iff_mem.2 h3] at g3; cases g3
    by_cases e : i = p
    · subst e
      refine ⟨A1, s1, h1, h2, g11, fun k => ⟨fun hk => ⟨by simp [Sh.mem, hk], fun e => g1' (e ▸ hk)⟩, fun hk => ?_⟩⟩
      simp only [Sh.mem, List.mem_cons] at hk
      exact hk.1.resolve_left hk.2
    · by_cases e' : i = q
      · subst e'
        refine ⟨A2, s2, h3, h4, g12, fun k => ⟨fun hk => ⟨?_, fun e => g2' (e ▸ hk)⟩, fun hk => ?_⟩⟩
        · exact List.contains_iff_mem.1 (g8 k (by simp [hk]))
        · have := List.contains_iff_mem.1 (g7 k hk.1)
          simp only [List.mem_cons] at this
          exact this.resolve_left hk.2
      · by_cases e'' : i = r
        · subst e''
          refine ⟨A3, s3, h5, h6, g13, fun k => ⟨fun hk => ⟨?_, fun e => g3' (e ▸ hk)⟩, fun hk => ?_⟩⟩
          · exact List.contains_iff_mem.1 (g10 k (by simp [hk]))
          · have := List.contains_iff_mem.1 (g9 k hk.1)
            simp only [List.mem_cons] at this
            exact this.resolve_left hk.2
        · have hi' : i ∈ s1.mem := by simp only [Sh.mem, List.mem_cons] at hi; exact hi.resolve_left e
          exfalso
          rcases g6 i hi' with (((h7 | h7) | h7) | h7) | h7
          · exact e' h7
          · exact e'' h7
          · rw [ha p (by simp [Sh.mem])] at h7; cases h7
          · rw [ha q (by simp [Sh.mem, List.contains_iff_mem.1 g4])] at h7; cases h7
          · rw [ha r (by simp [Sh.mem, List.contains_iff_mem.1 g5])] at h7; cases h7

def shOk (ops : Array Oper) (effs : List Nat) (T : List (List Nat)) (s : Sh) : Bool :=
  drawOk ops ((List.range ops.size).map (1000 + ·)) T && s.good ops effs T && (List.range ops.size).all (s.mem.contains ·) && s.mem.all (fun i => decide (i < ops.size))

theorem DoSh.any {effs0 : List Nat} (h : drawOk ops effs0 T = true) {ro : Option Nat} {n : Nat} {Q : Exit → Act → World → Prop} {a0 : Act} (hK : ∀ A2 g' a' w', K A2 → Rel B w0 g' A2 a' w' → Same (wrOps ops) a0 a' → Q .normal a' w') :
    ∀ (fuel : Nat) (listed : Array Bool) (s : Sh) (A : St) (g : Gh) (a : Act) (w : World), listed.size = ops.size → Closed ops listed → (rem ops.size listed).length = fuel → (∀ k, k ∈ s.mem ↔ k ∈ rem ops.size listed) → s.good ops effs T = true → DoSh P ops effs K s A → Rel B w0 g A a w → Same (wrOps ops) a0 a → wpAnyIn (Fw ro) n P .any ops Q fuel listed a w := by
  have hnil : ∀ (listed : Array Bool), listed.size = ops.size → Closed ops listed → Region.ready .any ops listed = [] → rem ops.size listed = [] := by
    intro listed hs hc hr
    cases hrem : rem ops.size listed with
    | nil => rfl
    | cons i l =>
      exfalso
      have hi : i ∈ rem ops.size listed := by rw [hrem]; simp
      obtain ⟨h1, h2⟩ := List.mem_filter.1 hi
      have hin : i < ops.size := List.mem_range.1 h1
      have key : ∀ k, k < ops.size → listed.getD k true = false → ∃ m, m ∈ Region.ready .any ops listed := by
        intro k
        induction k using Nat.strongRecOn with
        | _ k ih =>
          intro hk hl
          obtain ⟨o, ts, ho, hts, h3, _, _⟩ := drawOk_at h hk
          by_cases hall : ∀ e ∈ preds o, listed.getD e true = true
          · refine ⟨k, mem_ready.2 ⟨hl, o, ho, fun e he hb => ?_⟩⟩
            have hep : e.on ∈ preds o := List.mem_map.2 ⟨e, List.mem_filter.2 ⟨by simpa using he, hb⟩, rfl⟩
            have := h3 _ hep
            rw [getD_lt (by omega) false true]
            exact hall _ hep
          · simp only [Classical.not_forall] at hall
            obtain ⟨e, he, hn⟩ := hall
            have := h3 e he
            exact ih e this (by omega) (by simpa using hn)
      obtain ⟨m, hm⟩ := key i hin (by simpa using h2)
      rw [hr] at hm; cases hm
  intro fuel
  induction fuel with
  | zero =>
    intro listed s A g a w hs hc hl hsm hsg hd hr hdf
    have h0 : rem ops.size listed = [] := List.length_eq_zero_iff.1 hl
    have hsn : s = .nil := by
      cases s with
      | nil => rfl
      | step i s => have := (hsm i).1 (by simp [Sh.mem]); rw [h0] at this; cases this
      | fork p q s1 s2 => have := (hsm p).1 (by simp [Sh.mem]); rw [h0] at this; cases this
      | fork3 p q r s1 s2 s3 => have := (hsm p).1 (by simp [Sh.mem]); rw [h0] at this; cases this
    subst hsn
    refine ⟨?_, hK A g a w hd hr hdf⟩
    cases hq : Region.ready .any ops listed with
    | nil => rfl
    | cons i l =>
      exfalso
      have hi : i ∈ Region.ready .any ops listed := by rw [hq]; simp
      obtain ⟨h1, o, h2, _⟩ := mem_ready.1 hi
      have : i ∈ rem ops.size listed := List.mem_filter.2 ⟨List.mem_range.2 (Array.getElem?_eq_some_iff.1 h2).1, by simp [h1]⟩
      rw [h0] at this; cases this
  | succ fuel ih =>
    intro listed s A g a w hs hc hl hsm hsg hd hr hdf
    refine ⟨fun hq => ?_, fun i hi => ?_⟩
    · rw [hnil listed hs hc hq] at hl; cases hl
    · obtain ⟨h1, o, h2, h3⟩ := mem_ready.1 hi
      have hin : i < ops.size := (Array.getElem?_eq_some_iff.1 h2).1
      have hp := preds_ready h3
      obtain ⟨pre, post, h4, h5, h6⟩ := filter_split (q := fun i => !listed.getD i true) hin (by simp [h1])
      obtain ⟨o', ts, ho, hts, h7, h8, h9⟩ := drawOk_at h hin
      rw [h2] at ho; cases ho
      have him : i ∈ s.mem := (hsm i).2 (List.mem_filter.2 ⟨List.mem_range.2 hin, by simp [h1]⟩)
      obtain ⟨A1, s', h10, h11, h12, h13⟩ := hd.move hsg him (fun j hj => by
        have hj' := (List.mem_filter.1 ((hsm j).1 hj)).2
        unfold anc
        rw [hts]
        cases hq : ts.contains j with
        | false => exact hq
        | true =>
          have := closed_T h hs hc i hin o h2 hp ts hts j (List.contains_iff_mem.1 hq)
          have hjn := List.mem_range.1 (List.mem_filter.1 ((hsm j).1 hj)).1
          rw [getD_lt (by omega) false true] at this
          rw [this] at hj'; cases hj')
      have hrem : rem ops.size (listed.setIfInBounds i true) = pre ++ post := by
        rw [← h6]
        unfold rem
        apply List.filter_congr
        intro j hj
        have hjl := List.mem_range.1 hj
        by_cases e : j = i
        · subst e
          simp [Array.getD, hs, hin]
        · have e' : ¬ i = j := fun h => e h.symm
          have : (listed.setIfInBounds i true).getD j true = listed.getD j true := by
            rw [Array.getD_eq_getD_getElem?, Array.getElem?_setIfInBounds, if_neg e', ← Array.getD_eq_getD_getElem?]
          rw [this]; simp [e]
      refine h10.do1.sound hr (fun g' a' w' hr' hdf' => ih (listed.setIfInBounds i true) s' A1 g' a' w' (by simp [hs]) ?_ ?_ ?_ h12 h11 hr' (hdf.trans hdf'))
      · intro k ok hok hk e he
        have hput : ∀ m, listed.getD m false = true → (listed.setIfInBounds i true).getD m false = true := fun m hm => getD_set_true hm
        by_cases hki : k = i
        · subst hki
          rw [h2] at hok; cases hok
          exact hput e (hp e he)
        · have e' : ¬ i = k := fun h => hki h.symm
          have : (listed.setIfInBounds i true).getD k true = listed.getD k true := by
            rw [Array.getD_eq_getD_getElem?, Array.getElem?_setIfInBounds, if_neg e', ← Array.getD_eq_getD_getElem?]
          rw [this] at hk
          exact hput e (hc k ok hok hk e he)
      · rw [hrem]
        have := hl
        unfold rem at this
        rw [h4] at this
        simp at this ⊢
        omega
      · intro k
        rw [h13, hsm, hrem, ← h6]
        unfold rem
        simp only [List.mem_filter, Bool.and_eq_true, bne_iff_ne]
        constructor
        · rintro ⟨⟨h14, h15⟩, h16⟩; exact ⟨h14, h15, h16⟩
        · rintro ⟨h14, h15, h16⟩; exact ⟨⟨h14, h15⟩, h16⟩

theorem region_sh (hm : P.follows .mixedOrders = true) {s : Sh} (h : shOk ops effs T s = true) {id : Nat} (hd : DoSh P ops effs K s A) (hr : Rel B w0 g A a w) {ro : Option Nat} {n : Nat} {Q : Exit → Act → World → Prop}
    (hK : ∀ A2 g' a' w', K A2 → Rel B w0 g' A2 a' w' → Same (wrOps ops) a a' → Q .normal a' w') : (Code.region id ops true).wpIn (Fw ro) n P Q a w := by
  unfold shOk at h
  simp only [Bool.and_eq_true, List.all_eq_true, decide_eq_true_eq] at h
  obtain ⟨⟨⟨h1, h2⟩, h3⟩, h4⟩ := h
  refine wpIn_region_any hm ?_
  have hall : rem ops.size (Array.replicate ops.size false) = List.range ops.size := by
    unfold rem
    rw [List.filter_eq_self]
    intro j hj
    have := List.mem_range.1 hj
    simp [Array.getD, this]
  refine DoSh.any h1 hK ops.size (Array.replicate ops.size false) s A g a _ (by simp) ?_ (by rw [hall]; simp) ?_ h2 hd ?_ (.refl _ _)
  · intro k o hk hl
    have hkl := (Array.getElem?_eq_some_iff.1 hk).1
    simp [Array.getD, hkl] at hl
  · intro k
    rw [hall]
    exact ⟨fun hk => List.mem_range.2 (h4 k hk), fun hk => List.contains_iff_mem.1 (h3 k hk)⟩
  · have hb : Below w.heap.size w ({ w with drawn := w.drawn + 1 } : World) := ⟨rfl, rfl, rfl, Nat.le_refl _, fun _ _ => rfl⟩
    exact hr.grow hb

def Sh.pre : List Nat → Sh → Sh
  | [], s => s
  | i :: l, s => .step i (Sh.pre l s)
theorem sh_pre : ∀ {l : List Nat} {s : Sh} {A : St}, WE P ops effs l A (DoSh P ops effs K s) → DoSh P ops effs K (Sh.pre l s) A
  | [], s, A, h => by
    obtain ⟨A2, h1, h2⟩ := h
    cases h1; exact h2
  | i :: l, s, A, h => by
    obtain ⟨A2, h1, h2⟩ := h
    cases h1 with
    | cons h3 h4 => exact ⟨_, h3, sh_pre ⟨A2, h4, h2⟩⟩
theorem ex_sh {z : Bool} (hm : P.follows .mixedOrders = true) {id : Nat} {Q : Exit → St → Prop} (effs : List Nat) (s : Sh) (hT : shOk ops effs (predsT ops) s = true) (h : DoSh P ops effs (Q .normal) s A) : Ex z P (.region id ops true) A Q :=
  fun B w0 g a w hr ro hz n K hK => region_sh hm hT h hr (fun A2 g' a' w' h2 hr' hs => hK _ _ _ _ _ h2 hr' ⟨fun _ => hs.1, hs.2⟩)
theorem sh_one {p : Nat} {s1 : Sh} (h1 : WE P ops effs [p] A (DoSh P ops effs K s1)) : ∃ A1, DoE P ops effs p A A1 ∧ DoSh P ops effs K s1 A1 := by
  obtain ⟨A1, h3, h4⟩ := h1
  cases h3 with
  | cons h7 h8 => cases h8; exact ⟨_, h7, h4⟩
theorem sh_forkT {p q : Nat} {s1 s2 : Sh} (h1 : WE P ops effs [p] A (DoSh P ops effs K s1)) (h2 : WE P ops effs [q] A (DoSh P ops effs K s2)) : DoSh P ops effs K (.fork p q s1 s2) A := ⟨sh_one h1, sh_one h2⟩
end Go.PM

namespace Go.PM
variable [Tbl]
set_option linter.unusedSectionVars false
open Go.RowKit
set_option linter.unusedSimpArgs false
set_option linter.unusedVariables false
variable {z : Bool} {P : Program} {A : St} {o : Oper}

theorem Calls.mono' {f : FuncId} {args : Array Value} {w : World} {R R' : Ending → World → Prop} (h : Calls P f args w R) (hr : ∀ e w', R e w' → R' e w') : Calls P f args w R' := fun cs => by
  obtain ⟨e, w', fr, h1, h2⟩ := h cs
  exact ⟨e, w', fr, hr _ _ h1, h2⟩
theorem OkB.res {f : FuncId} {args : List DV} {ba bz : List (List DV)} {ra rr : List Row} {r r' : DV} (h : OkB P f args ba ra r bz rr) (hl : DV.le r r') : OkB P f args ba ra r' bz rr := by
  intro w vs g N hA
  refine Calls.mono' (h w vs g N hA) ?_
  rintro e w' ⟨v, g', he, hR⟩
  exact ⟨v, g', he, { hR with res := hR.res.le hl }⟩
theorem OkB.split {f : FuncId} {args : List DV} {ba bz : List (List DV)} {ra rr : List Row} {r : DV} {i : Nat} {nw : Bool} (hi : args[i]? = some (.sl nw [])) (h : ∀ nl, OkB P f (args.set i (.em nl)) ba ra r bz rr) : OkB P f args ba ra r bz rr := by
  intro w vs g N hA
  have hv : VR w N (fun k => ¬ bad g (argSt ba ra) k) (.sl nw []) (vs.getD i undef) := hA.arg i _ hi
  obtain ⟨nl, hn⟩ := hv.split
  refine h nl w vs g N { hA with size := by rw [hA.size]; simp, arg := fun j d hd => ?_ }
  rw [List.getElem?_set] at hd
  split at hd
  · rename_i e
    subst e
    split at hd
    · obtain rfl := (by simpa using hd : _ = d)
      exact SR.vr hn
    · cases hd
  · exact hA.arg j d hd

theorem OkB.nil {f : FuncId} {args : List DV} {ba bz : List (List DV)} {ra rr : List Row} {r : DV} (i : Nat) {nw : Bool} (h : OkB P f args ba ra r bz rr) (hi : args[i]? = some (.sl nw [])) : OkB P f (args.set i .nil) ba ra r bz rr := by
  intro w vs g N hA
  refine h w vs g N { hA with size := by rw [hA.size]; simp, arg := fun j d hd => ?_ }
  by_cases e : i = j
  · subst e
    have hil := (List.getElem?_eq_some_iff.1 hi).1
    rw [hi] at hd; cases hd
    have h1 := hA.arg i .nil (by simp [hil])
    exact SR.vr (VR.nil_sl nw h1)
  · exact hA.arg j d (by rw [List.getElem?_set_ne e]; exact hd)
theorem Ex.post {c : Code} {Q : Exit → St → Prop} (h : Ex z P c A (fun e A2 => ∃ A3, Gst A2 A3 ∧ Q e A3)) : Ex z P c A Q :=
  fun B w0 g a w hr ro hz n K hK => h B w0 g a w hr ro hz n K (fun e A2 g' a' w' ⟨A3, h1, h2⟩ hr' hk => let ⟨g2, hr2⟩ := h1.rel hr'; hK e A3 g2 a' w' h2 hr2 hk)
theorem ex_cut {c : Code} {Q : Exit → St → Prop} (A3 : St) (h1 : Ex z P c A (fun e A2 => e = .normal ∧ ∃ A', Gst A2 A' ∧ A' = A3)) (h2 : Q .normal A3) : Ex z P c A Q := by
  refine Ex.post (h1.mono ?_)
  rintro e A2 ⟨rfl, A', h3, rfl⟩
  exact ⟨_, h3, h2⟩

theorem bindS {α β : Type} {o : Option α} {f : α → Option β} {r : β} (h : o.bind f = some r) : ∃ a, o = some a ∧ f a = some r := by
  cases o with
  | none => cases h
  | some a => exact ⟨a, rfl, h⟩
theorem iteT {c : Bool} {α : Type} {x y r : α} (h : (if c = true then x else y) = r) (hc : c = true) : x = r := by rw [if_pos hc] at h; exact h
theorem iteF {c : Bool} {α : Type} {x y r : α} (h : (if c = true then x else y) = r) (hc : c = false) : y = r := by rw [if_neg (by rw [hc]; simp)] at h; exact h

def iter {σ ρ : Type} (step : σ → Option (σ ⊕ ρ)) : Nat → σ → Option ρ
  | 0, _ => none
  | n + 1, s => match step s with
    | none => none
    | some (.inl s') => iter step n s'
    | some (.inr r) => some r
theorem ex_iter {σ ρ : Type} {c : Code} {Q : Exit → St → Prop} {step : σ → Option (σ ⊕ ρ)} (enc : σ → St) {n : Nat} {s0 : σ} {out : ρ} (h : iter step n s0 = some out)
    (round : ∀ s y, step s = some y → (∀ o, y = .inr o → o = out) → Ex z P c (enc s) (thenE (fun A' => ∃ A3, Gst A' A3 ∧ ∃ s', y = .inl s' ∧ A3 = enc s') Q)) : Ex z P (.loop c) (enc s0) Q := by
  have key : ∀ n s0, iter step n s0 = some out → Ex z P (.loop c) (enc s0) Q := by
    intro n s0 h
    refine ex_loop (fun m A => ∃ s, A = enc s ∧ iter step (m + 1) s = some out) ?_ (n - 1) ⟨s0, rfl, ?_⟩
    · rintro m A ⟨s, rfl, hs⟩
      simp only [iter] at hs
      cases hst : step s with
      | none => rw [hst] at hs; cases hs
      | some y =>
        rw [hst] at hs
        have hr := round s y hst (fun o ho => by subst ho; simpa using hs)
        refine Ex.post (hr.mono ?_)
        intro e A2 hq
        cases e with
        | normal =>
          obtain ⟨A3, hg, s', rfl, rfl⟩ := hq
          refine ⟨_, hg, ?_⟩
          cases m with
          | zero => simp [iter] at hs
          | succ m => exact ⟨m, by omega, s', rfl, hs⟩
        | _ => exact ⟨A2, .refl _, hq⟩
    · cases n with
      | zero => cases h
      | succ n => exact h
  exact key n s0 h

theorem okB_of_exG {f : FuncId} {fn : Func} {c : Code} {args : List DV} {ba bz : List (List DV)} {ra rr : List Row} {r : DV} (hf : P.funcs[f]? = some fn) (hb : fn.body = some c) (hbz : bz.length = ba.length) {s0 : List DV} {b0 : List (Option (List DV))} {r0 : List (Option Row)} (hs : args ++ List.replicate (fn.ntmps - args.length) .top = s0) (hb0 : ba.map some = b0) (hr0 : ra.map some = r0)
    (h : Ex true P c ⟨s0, b0, r0, ba.length⟩ (fun e A2 => (e = .normal ∨ e = .ret) ∧ ∃ A3, Gst A2 A3 ∧ FinB P fn A3 r bz rr)) : OkB P f args ba ra r bz rr := by
  subst hs; subst hb0; subst hr0
  exact okB_of_ex hf hb hbz (Ex.post (h.mono (fun e A2 ⟨h1, A3, h2, h3⟩ => ⟨A3, h2, h1, h3⟩)))
theorem finB {fn : Func} {A3 : St} {bz : List (List DV)} {rr : List Row} {r : DV} {e : Exit} (he : e = .normal ∨ e = .ret) (hg : Gst A A3) (ds : List DV) (toks : List Nat) (cb : List (List DV)) (h1 : A3.resL P fn.results.toList = some ds) (h2 : nodupB toks = true) (h3 : A3.rowsOf toks = some rr) (h4 : ds.all (resOk toks) = true) (h5 : r = tupOr (ds.map (DV.ren (toks.idxOf ·))))
    (h6 : A3.boxesOf (List.range bz.length) = some cb) (h7 : cb.all (fun c => c.all (resOk toks)) = true) (h8 : bz = cb.map (List.map (DV.ren (toks.idxOf ·)))) : (e = .normal ∨ e = .ret) ∧ ∃ A3, Gst A A3 ∧ FinB P fn A3 r bz rr :=
  ⟨he, A3, hg, ds, toks, cb, h1, nodupB_nodup h2, h3, resOk_V h4, h5, h6, h7, h8⟩
theorem finBV {fn : Func} {A3 : St} {bz : List (List DV)} {rr : List Row} {r : DV} {e : Exit} (he : e = .normal ∨ e = .ret) (hg : Gst A A3) (ds : List DV) (toks : List Nat) (cb : List (List DV)) (h1 : A3.resL P fn.results.toList = some ds) (h2 : nodupB toks = true) (h3 : A3.rowsOf toks = some rr) (h4 : ds.all (resOkV toks bz.length) = true) (h5 : r = tupOr (ds.map (DV.ren (toks.idxOf ·))))
    (h6 : A3.boxesOf (List.range bz.length) = some cb) (h7 : cb.all (fun c => c.all (resOk toks)) = true) (h8 : bz = cb.map (List.map (DV.ren (toks.idxOf ·)))) : (e = .normal ∨ e = .ret) ∧ ∃ A3, Gst A A3 ∧ FinB P fn A3 r bz rr :=
  ⟨he, A3, hg, ds, toks, cb, h1, nodupB_nodup h2, h3, h4, h5, h6, h7, h8⟩
theorem RowAt.vr {g : Gh} {A : St} {w : World} {N ok : Nat → Prop} {p : Bool} {k : Nat} {v : Value} {ρ : Row} (h : RowAt g A w N p k v ρ) (hok : ∀ k, ¬ bad g A k → ok k) (hk : p = true → ok k ∧ k < w.heap.size) : VR w N ok (.sl false ρ.xs) v := by
  rcases h with ⟨_, h0, ad, h1⟩ | ⟨hp, u, cap, h3, h4, h5, h6, h7, h8, h9⟩
  · rw [h0, h1]; exact .empty _ _ _
  obtain ⟨hk, hlt⟩ := hk hp
  have hmv : ∀ {d : DV} {v : Value}, VR w N (fun k => ¬ bad g A k) d v → VR w N ok d v := fun hv => hv.mono (fun _ _ _ => rfl) (Nat.le_refl _) (fun k hk _ => hok k hk) (fun _ h _ => h)
  rw [h4]
  refine .sl false ρ.xs ⟨k, 0, none⟩ cap ρ.sz (fun i j => u.getD (i * ρ.sz + j) undef) h5 hk hlt (fun e => by cases e) h8 (fun i x j d hi hj => ?_) (fun i x j d hi hj => hmv (h9 i x j d hi hj).2.2)
  have hil : i < ρ.xs.length := (List.getElem?_eq_some_iff.1 hi).1
  have hjl : j < ρ.sz := by rw [← h8 i x hi]; exact (List.getElem?_eq_some_iff.1 hj).1
  have h1 : i * ρ.sz + j < u.size := by
    have : (i + 1) * ρ.sz ≤ cap * ρ.sz := Nat.mul_le_mul_right _ (by omega)
    rw [Nat.succ_mul] at this; omega
  rw [addr0, Nat.zero_add, cell_of_row w _ _ u ρ.e (0, 0) h3, Array.getElem?_eq_getElem h1]
  simp [Array.getD, h1]
def DV.shutA (rr : List Row) : DV → DV
  | .own t => match rr[t]? with | some ρ => .sl false ρ.xs | none => .own t
  | d => d
def DV.shutT (rr : List Row) : DV → DV
  | .tup vs => .tup (vs.map (DV.shutA rr))
  | d => d.shutA rr
theorem OkB.shut {f : FuncId} {args : List DV} {ba : List (List DV)} {ra rr : List Row} {r : DV} (h : OkB P f args ba ra r [] rr) (hpl : r.plain = true) : OkB P f args ba ra (r.shutT rr) [] [] := by
  intro w vs g N hA
  refine Calls.mono' (h w vs g N hA) ?_
  rintro e w' ⟨v, g', he, hR⟩
  have hlr : ∀ i, ¬ (argSt ([] : List (List DV)) []).lr i := fun i hi => by have := argSt_lr.1 hi; simp at this
  have hlb : ∀ i, ¬ (argSt ([] : List (List DV)) []).lb i := fun i hi => by have := argSt_lb.1 hi; simp at this
  have hmt : ∀ k, ¬ mutb g' (argSt [] []) k := by
    rintro k (⟨i, hi, _⟩ | ⟨i, hi, _⟩)
    · exact hlb i hi
    · exact hlr i hi.1
  have hok : ∀ k, ¬ bad g' (argSt [] rr) k → ¬ bad g' (argSt [] []) k := by
    rintro k hk (h0 | h0)
    · exact hk (.inl h0)
    · exact hmt k h0
  have hno : ∀ t, lp g' (argSt [] rr) t → ¬ bad g' (argSt [] []) (g'.tm t) := by
    rintro t ht (h0 | h0)
    · rw [hR.no] at h0
      obtain ⟨h1, h2⟩ := hA.nn _ h0
      rcases (hR.from_ t ht).1 with h3 | h3
      · omega
      · exact h2 h3
    · exact hmt _ h0
  have one : ∀ {d : DV} {v : Value}, d.plain1 = true → SR1 g' (argSt [] rr) w' N d v → SR1 g' (argSt [] []) w' N (d.shutA rr) v := by
    intro d v hp hs
    cases d with
    | own t =>
      obtain ⟨h1, h2⟩ := hs
      have h1' : t < rr.length := by simpa [argSt] using h1
      simp only [DV.shutA, List.getElem?_eq_getElem h1']
      rw [h2 (argSt_lr.2 h1')]
      refine RowAt.vr (hR.row t _ (List.getElem?_eq_getElem h1')) hok (fun hp => ?_)
      exact ⟨hno t ⟨argSt_lr.2 h1', hp⟩, (hR.from_ t ⟨argSt_lr.2 h1', hp⟩).2⟩
    | bx b o => cases hp
    | vw b o n c => cases hp
    | ex t i j => cases hp
    | tup vs => cases hp
    | _ => exact VR.mono hs (fun _ _ _ => rfl) (Nat.le_refl _) (fun k hk _ => hok k hk) (fun _ h _ => h)
  have hbl : ba.length = 0 := hR.blen.symm
  refine ⟨v, g', he, { os := hR.os, tape := hR.tape, output := hR.output, size := hR.size, block := hR.block, oth := hR.oth, no := hR.no, res := ?_, box := fun i cs hc => by simp at hc, blen := hR.blen, bfix := hR.bfix, bout := fun i cs cs' _ hc => by simp at hc, row := fun t ρ hx => by simp at hx, inj := fun i j hi => absurd hi.1 (hlr i), br := fun i j hi => absurd hi (hlb i), from_ := fun t ht => absurd ht.1 (hlr t) }⟩
  by_cases htp : ∃ vs, r = .tup vs
  · obtain ⟨vs, rfl⟩ := htp
    obtain ⟨us, h1, h2, h3⟩ := hR.res
    refine ⟨us, h1, by simpa using h2, fun i d hd => ?_⟩
    rw [List.getElem?_map] at hd
    cases hq : vs[i]? with
    | none => rw [hq] at hd; cases hd
    | some d0 =>
      rw [hq] at hd
      obtain rfl : d0.shutA rr = d := by simpa using hd
      exact one (List.all_eq_true.1 hpl d0 (List.mem_of_getElem? hq)) (h3 i d0 hq)
  · have hpl' : r.plain1 = true := by cases r <;> first | rfl | exact hpl | exact absurd ⟨_, rfl⟩ htp
    have h5 := one hpl' (hR.res.one' (by cases r <;> first | rfl | cases hpl'))
    have h6 : r.shutT rr = r.shutA rr := by cases r <;> first | rfl | exact absurd ⟨_, rfl⟩ htp
    rw [h6]
    refine h5.up ?_
    cases r <;> first | rfl | (simp only [DV.shutA]; split <;> rfl) | exact absurd ⟨_, rfl⟩ htp
end Go.PM

namespace Go.PM
variable [Tbl]
set_option linter.unusedSectionVars false
open Go.RowKit
set_option linter.unusedSimpArgs false
set_option linter.unusedVariables false
theorem c0 {α : Type} {x y : α} {l : List α} : (x :: l).set 0 y = y :: l := rfl
theorem cS {α : Type} {x y : α} {l : List α} {n : Nat} : (x :: l).set (n + 1) y = x :: l.set n y := rfl
section
variable {z : Bool} {P : Program} {ops : Array Oper} {effs : List Nat} {i : Nat} {l : List Nat} {o : Oper} {d : DV} {s s' : List DV} {b b' : List (Option (List DV))} {r r' : List (Option Row)} {kb : Nat} {K : St → Prop}

theorem DoEL.doL {l : List Nat} {A A2 : St} (h : DoEL P ops effs l A A2) : DoL P ops l A A2 := by
  induction h with
  | nil A => exact .nil A
  | cons h1 _ ih => exact .cons (.refl _) h1.do1 ih
theorem ex_ord {A : St} {id : Nat} {Q : Exit → St → Prop} (effs : List Nat) (hl : List.range ops.size = l) (h : WE P ops effs l A (Q .normal)) : Ex z P (.region id ops false) A Q := by
  subst hl
  obtain ⟨A2, h1, h2⟩ := h
  exact ex_region h1.doL h2
theorem ex_drw {A : St} (hm : P.follows .mixedOrders = true) {id : Nat} {Q : Exit → St → Prop} (effs : List Nat) (hT : drawOk ops effs (predsT ops) = true) (hl : List.range ops.size = l) (h : WE P ops effs l A (Q .normal)) : Ex z P (.region id ops true) A Q := ex_we hm hT hl h

theorem at_bx {m off : Nat} {cs c : List DV} (h : b[m]? = some (some cs)) (hc : (if off ≤ cs.length then some (cs.drop off) else none) = some c) : St.at ⟨s, b, r, kb⟩ (.bx m off) = some c := by
  simp only [St.at, h]; exact hc
theorem live_bx {m off : Nat} {cs : List DV} (h : b[m]? = some (some cs)) : St.live ⟨s, b, r, kb⟩ (.bx m off) = true := by
  simp only [St.live, h]
theorem set_out (k : Nat) (x : Option (List DV)) (hk : bxOf effs i = k) (hb : b.set k x = b') : ro effs i = true → ∀ m, m ≠ bxOf effs i → b'[m]? = b[m]? := by
  subst hk; subst hb
  intro _ m hm
  exact List.getElem?_set_ne (Ne.symm hm)
theorem p_ (t : Tmp) (ho : ops[i]? = some o) (ht : o.dst = some t) (hw : wantD ops ⟨s, b, r, kb⟩ o = some true) (hm : nl effs i = false) (hx : XP P o ⟨s, b, r, kb⟩ d) (h : WE P ops effs l ⟨s', b, r, kb⟩ K) (hs : s.set t d = s' := by simp only [c0, cS]; rfl) (hri : ri effs i = false := by rfl) : WE P ops effs (i :: l) ⟨s, b, r, kb⟩ K := by
  subst hs
  exact we_pure (t := some t) ho ht hw hx (fun h => by rw [hm] at h; cases h) (fun h => by rw [hri] at h; cases h) h
theorem r_ (t : Tmp) (m : Nat) {cs : List DV} (ho : ops[i]? = some o) (ht : o.dst = some t) (hw : wantD ops ⟨s, b, r, kb⟩ o = some true) (hm : nl effs i = false) (hb0 : b[m]? = some (some cs)) (hk : bxOf effs i = m) (hx : ∀ b r, b[m]? = some (some cs) → XP P o ⟨s, b, r, kb⟩ d) (h : WE P ops effs l ⟨s', b, r, kb⟩ K) (hs : s.set t d = s' := by simp only [c0, cS]; rfl) : WE P ops effs (i :: l) ⟨s, b, r, kb⟩ K := by
  subst hs; subst hk
  exact we_pure (t := some t) ho ht hw (hx b r hb0) (fun h => by rw [hm] at h; cases h) (fun _ b' r' hb => hx b' r' (hb.trans hb0)) h
theorem n_ (t : Tmp) (ho : ops[i]? = some o) (ht : o.dst = some t) (hw : wantD ops ⟨s, b, r, kb⟩ o = some true) (hx : ∀ b r, XP P o ⟨s, b, r, kb⟩ d) (h : WE P ops effs l ⟨s', b, r, kb⟩ K) (hs : s.set t d = s' := by simp only [c0, cS]; rfl) : WE P ops effs (i :: l) ⟨s, b, r, kb⟩ K := by
  subst hs
  exact we_pure (t := some t) ho ht hw (hx b r) (fun _ => hx) (fun _ b r _ => hx b r) h
theorem p0 (ho : ops[i]? = some o) (ht : o.dst = none) (hw : wantD ops ⟨s, b, r, kb⟩ o = some true) (hm : nl effs i = false) (hx : XP P o ⟨s, b, r, kb⟩ d) (h : WE P ops effs l ⟨s, b, r, kb⟩ K) (hri : ri effs i = false := by rfl) : WE P ops effs (i :: l) ⟨s, b, r, kb⟩ K := we_pure (t := none) ho ht hw hx (fun h => by rw [hm] at h; cases h) (fun h => by rw [hri] at h; cases h) h
theorem k_ (t : Tmp) (ho : ops[i]? = some o) (ht : o.dst = some t) (hw : wantD ops ⟨s, b, r, kb⟩ o = some false) (h : WE P ops effs l ⟨s', b, r, kb⟩ K) (hs : s.set t (.tup []) = s' := by simp only [c0, cS]; rfl) : WE P ops effs (i :: l) ⟨s, b, r, kb⟩ K := by
  subst hs
  exact we_skip (t := some t) ho ht hw h
theorem k0 (ho : ops[i]? = some o) (ht : o.dst = none) (hw : wantD ops ⟨s, b, r, kb⟩ o = some false) (h : WE P ops effs l ⟨s, b, r, kb⟩ K) : WE P ops effs (i :: l) ⟨s, b, r, kb⟩ K := we_skip (t := none) ho ht hw h
theorem e_ (t : Tmp) (he : effs.contains i = true) (hm : nl effs i = false) (ho : ops[i]? = some o) (ht : o.dst = some t) (hw : wantD ops ⟨s, b, r, kb⟩ o = some true) {A1 : St} (hx : XE P o ⟨s, b, r, kb⟩ d A1) (hA : A1 = ⟨s, b', r', kb⟩) (h : WE P ops effs l ⟨s', b', r', kb⟩ K) (hs : s.set t d = s' := by simp only [c0, cS]; rfl) (hri : ri effs i = false := by rfl) (hb : ro effs i = true → ∀ m, m ≠ bxOf effs i → b'[m]? = b[m]? := by first | exact fun _ _ _ => rfl | exact fun h => absurd h Bool.false_ne_true) : WE P ops effs (i :: l) ⟨s, b, r, kb⟩ K := by
  subst hs; subst hA
  exact we_eff (t := some t) he hm hri hb ho ht hw hx h
theorem e0 (he : effs.contains i = true) (hm : nl effs i = false) (ho : ops[i]? = some o) (ht : o.dst = none) (hw : wantD ops ⟨s, b, r, kb⟩ o = some true) {A1 : St} (hx : XE P o ⟨s, b, r, kb⟩ d A1) (hA : A1 = ⟨s, b', r', kb⟩) (h : WE P ops effs l ⟨s, b', r', kb⟩ K) (hri : ri effs i = false := by rfl) (hb : ro effs i = true → ∀ m, m ≠ bxOf effs i → b'[m]? = b[m]? := by first | exact fun _ _ _ => rfl | exact fun h => absurd h Bool.false_ne_true) : WE P ops effs (i :: l) ⟨s, b, r, kb⟩ K := by
  subst hA
  exact we_eff (t := none) he hm hri hb ho ht hw hx h
theorem pif (t : Tmp) {c : Bool} {s1 s2 : List DV} (ho : ops[i]? = some o) (ht : o.dst = some t) (hw : wantD ops ⟨s, b, r, kb⟩ o = some true) (hm : nl effs i = false) (hx : XP P o ⟨s, b, r, kb⟩ (.bool c))
    (h1 : c = true → WE P ops effs l ⟨s1, b, r, kb⟩ K) (h2 : c = false → WE P ops effs l ⟨s2, b, r, kb⟩ K) (hs1 : s.set t (.bool true) = s1 := by simp only [c0, cS]; rfl) (hs2 : s.set t (.bool false) = s2 := by simp only [c0, cS]; rfl) (hri : ri effs i = false := by rfl) : WE P ops effs (i :: l) ⟨s, b, r, kb⟩ K := by
  subst hs1; subst hs2
  cases c with
  | true => exact we_pure (t := some t) ho ht hw hx (fun h => by rw [hm] at h; cases h) (fun h => by rw [hri] at h; cases h) (h1 rfl)
  | false => exact we_pure (t := some t) ho ht hw hx (fun h => by rw [hm] at h; cases h) (fun h => by rw [hri] at h; cases h) (h2 rfl)
theorem ex_if {A : St} {c : Operand} {x y : Code} {t : Bool} {Q : Exit → St → Prop} (hc : A.ev c = some (.bool t)) (h1 : t = true → Ex z P x A Q) (h2 : t = false → Ex z P y A Q) : Ex z P (.cond c x y) A Q := by
  refine ex_cond hc ?_
  cases t with
  | true => exact h1 rfl
  | false => exact h2 rfl
end

def bs (l : List UInt8) : ByteArray := ⟨⟨l⟩⟩
theorem bs_toList (l : List UInt8) : (bs l).toList = l := by simp [bs]
theorem bs_get (l : List UInt8) (i : Nat) : (bs l)[i]? = l[i]? := by
  by_cases h : i < l.length
  · have h' : i < (bs l).size := h
    rw [List.getElem?_eq_getElem h, getElem?_pos (bs l) i h']; rfl
  · have h' : ¬ i < (bs l).size := h
    rw [List.getElem?_eq_none (by omega), getElem?_neg (bs l) i h']

def getI {α : Type} (l : List α) (i : Int) : Option α := if 0 ≤ i then l[i.toNat]? else none
theorem getI_some {α : Type} {l : List α} {i : Int} {x : α} (h : getI l i = some x) : 0 ≤ i ∧ l[i.toNat]? = some x := by
  unfold getI at h; split at h
  · exact ⟨‹_›, h⟩
  · cases h
def setI {α : Type} (l : List α) (i : Int) (x : α) : List α := l.set i.toNat x
def cutI {α : Type} (l : List α) (lo hi : Int) : Option (List α) := if 0 ≤ lo ∧ lo ≤ hi ∧ hi ≤ l.length then some ((l.take hi.toNat).drop lo.toNat) else none
theorem cutI_some {α : Type} {l m : List α} {lo hi : Int} (h : cutI l lo hi = some m) : 0 ≤ lo ∧ lo ≤ hi ∧ hi ≤ l.length ∧ m = (l.take hi.toNat).drop lo.toNat := by
  unfold cutI at h; split at h
  · rename_i h1; exact ⟨h1.1, h1.2.1, h1.2.2, by simpa using h.symm⟩
  · cases h
def capO {α : Type} (by_ : Nat) (l : List α) : Option (List α) := if l.length * (by_ + 1) ≤ 140737488355328 then some l else none
theorem capO_some {α : Type} {by_ : Nat} {l m : List α} (h : capO by_ l = some m) : m = l ∧ l.length * (by_ + 1) ≤ 140737488355328 := by
  unfold capO at h; split at h
  · exact ⟨by simpa using h.symm, ‹_›⟩
  · cases h
def flatF {α : Type} (n : Nat) (f : α → List DV) : Prop := ∀ x, (f x).length = n ∧ (f x).all (fun d => d.one && !d.tok) = true
theorem flatF.ok {α : Type} {n : Nat} {f : α → List DV} (h : flatF n f) (l : List α) : flatOk n (l.map f) := by
  intro x hx
  obtain ⟨y, _, rfl⟩ := List.mem_map.1 hx
  refine ⟨(h y).1, fun d hd => ?_⟩
  have := List.all_eq_true.1 (h y).2 d hd
  simpa using this
section
variable {P : Program} {A : St} {o : Oper} {α : Type} {f : α → List DV}
theorem x_load {t : TypeId} {x : Operand} {p d : DV} {l : List DV} (ho : o.op = .load t x) (hx : A.ev x = some p) (hl : A.at p = some l) (hn : szT P t = some 1) (hu : (P.underlying t).isSome = true) (hg : isAggT P t = false) (hd : l[0]? = some d) : XP P o A d :=
  .load ho hx hl hn hu (by
    rw [hg]; unfold ldVal
    have : 1 ≤ l.length := by have := (List.getElem?_eq_some_iff.1 hd).1; omega
    rw [if_pos this]; simp [hd])
theorem x_loadA {t : TypeId} {x : Operand} {p : DV} {l l' : List DV} {n : Nat} (ho : o.op = .load t x) (hx : A.ev x = some p) (hl : A.at p = some l) (hn : szT P t = some n) (hu : (P.underlying t).isSome = true) (hg : isAggT P t = true) (hd : ldVal true n l = some (.agg l')) : XP P o A (.agg l') :=
  .load ho hx hl hn hu (by rw [hg]; exact hd)
theorem at_ex {t : Nat} {ρ : Row} {xs : List α} {i j : Nat} {x : α} {c : List DV} (hr : A.r[t]? = some (some ρ)) (hρ : ρ.xs = xs.map f) (hx : xs[i]? = some x) (hf : f x = c) (hj : j ≤ c.length) : A.at (.ex t i j) = some (c.drop j) := by
  subst hf
  simp only [St.at, hr, hρ, List.getElem?_map, hx, Option.map_some, Option.bind_some]
  rw [if_pos hj]
theorem x_idx {l : List α} {t e : TypeId} {x y : Operand} {nw : Bool} {k : IntKind} {i : Int} {n : Nat} {c : α} {cs : List DV} (ho : o.op = .indexAddr t x y) (hx : A.ev x = some (.sl nw (l.map f))) (hy : A.ev y = some (.int k i)) (he : elemT P t = some e) (hn : szT P e = some n) (hc : getI l i = some c) (hf : f c = cs) (hcl : cs.length = n) : XP P o A (.cp cs) := by
  subst hf
  obtain ⟨h0, hc⟩ := getI_some hc
  exact .index ho hx hy he hn h0 (by simp [hc]) hcl
theorem x_idxO {l : List α} {t e : TypeId} {x y : Operand} {tk : Nat} {ρ : Row} {k : IntKind} {i : Int} {n : Nat} {c : α} (ho : o.op = .indexAddr t x y) (hx : A.ev x = some (.own tk)) (hr : A.r[tk]? = some (some ρ)) (hρ : ρ.xs = l.map f) (hy : A.ev y = some (.int k i)) (he : elemT P t = some e) (hn : szT P e = some n) (hc : getI l i = some c) (hsz : ρ.sz = n) : XP P o A (.ex tk i.toNat 0) := by
  obtain ⟨h0, hc⟩ := getI_some hc
  exact .indexOwn ho hx hr hy he hn h0 (by rw [hρ, List.length_map]; exact (List.getElem?_eq_some_iff.1 hc).1) hsz
theorem x_len {l : List α} {t e : TypeId} {x : Operand} {d : DV} (ho : o.op = .call { callee := .builtin .len, args := #[x], argTypes := #[t] }) (hx : A.ev x = some d) (he : A.elems d = some (l.map f)) (ht : elemT P t = some e) : XP P o A (.int .i64 l.length) := by
  have := XP.lenSl (P := P) ho hx he ht
  rwa [List.length_map] at this
theorem x_len0 {t e : TypeId} {x : Operand} {d : DV} (ho : o.op = .call { callee := .builtin .len, args := #[x], argTypes := #[t] }) (hx : A.ev x = some d) (he : A.elems d = some []) (ht : elemT P t = some e) : XP P o A (.int .i64 0) := XP.lenSl (P := P) ho hx he ht
theorem x_lenS {t : TypeId} {x : Operand} {s : List UInt8} (ho : o.op = .call { callee := .builtin .len, args := #[x], argTypes := #[t] }) (hx : A.ev x = some (.str (bs s))) (ht : P.underlying t = some .string) : XP P o A (.int .i64 s.length) := XP.lenStr ho hx ht
theorem x_cut {l m : List α} {t e : TypeId} {x : Operand} {lo hi : Option Operand} {nw : Bool} {a b : Int} {n : Nat} (ho : o.op = .slice t x lo hi none) (hx : A.ev x = some (.sl nw (l.map f))) (he : elemT P t = some e) (hn : szT P e = some n) (hlo : loIs A lo a) (hhi : hiIs A (l.map f).length hi b) (hc : cutI l a b = some m) (hfl : flatF n f) : XP P o A (.sl nw (m.map f)) := by
  obtain ⟨h0, h1, h2, rfl⟩ := cutI_some hc
  have := XP.slice (P := P) ho hx he hn hlo hhi h0 h1 (by simpa using h2) (fun c hc => ((hfl.ok l) c hc).1)
  rwa [← List.map_take, ← List.map_drop] at this
theorem x_idxS {t : TypeId} {x y : Operand} {s : List UInt8} {k : IntKind} {i : Int} {b : UInt8} (ho : o.op = .index t x y) (hx : A.ev x = some (.str (bs s))) (hy : A.ev y = some (.int k i)) (ht : P.underlying t = some .string) (hb : getI s i = some b) : XP P o A (.int .u8 b.toNat) := by
  obtain ⟨h0, hb⟩ := getI_some hb
  exact .indexStr ho hx hy ht h0 (by rw [bs_get]; exact hb)
theorem x_eqS {t t' : TypeId} {x y : Operand} {l m : List UInt8} (ho : o.op = .binOp .eql t x y t') (hx : A.ev x = some (.str (bs l))) (hy : A.ev y = some (.str (bs m))) : XP P o A (.bool (l == m)) :=
  .bin ho hx hy (by simp [xbin, bs_toList])
theorem x_neS {t t' : TypeId} {x y : Operand} {l m : List UInt8} (ho : o.op = .binOp .neq t x y t') (hx : A.ev x = some (.str (bs l))) (hy : A.ev y = some (.str (bs m))) : XP P o A (.bool !(l == m)) :=
  .bin ho hx hy (by simp [xbin, bs_toList])
theorem x_eqG {t t' : TypeId} {x y : Operand} {cs ds : List DV} {os : List (Nat × Nat)} {bs : List Bool} {b : Bool} (ho : o.op = .binOp .eql t x y t') (hx : A.ev x = some (.agg cs)) (hy : A.ev y = some (.agg ds)) (ht : eqT P t = some os) (hb : eqLs cs ds os = some bs) (he : bs.all id = b) : XP P o A (.bool b) := by
  have := XP.eqG (P := P) (A := A) (ne := false) ho hx hy ht hb
  rwa [he, Bool.bne_false] at this
theorem x_neG {t t' : TypeId} {x y : Operand} {cs ds : List DV} {os : List (Nat × Nat)} {bs : List Bool} {b : Bool} (ho : o.op = .binOp .neq t x y t') (hx : A.ev x = some (.agg cs)) (hy : A.ev y = some (.agg ds)) (ht : eqT P t = some os) (hb : eqLs cs ds os = some bs) (he : (!bs.all id) = b) : XP P o A (.bool b) := by
  have := XP.eqG (P := P) (A := A) (ne := true) ho hx hy ht hb
  rwa [Bool.bne_true, he] at this
theorem x_build {t : TypeId} {parts : Array (Nat × Operand)} {pl : List (Nat × Nat)} {z cs : List DV} {ps : List (Nat × DV)} (ho : o.op = .build t parts) (hpl : placesT P t = some pl) (hz : zeroT P t = some z) (hp : A.evs parts.toList = some ps) (hk : ps.all (fun p => p.2.cells.all A.okCell) = true) (hf : fillD (pl[·]?) z ps = some cs) (ht : cs.all (fun d => !d.tok) = true) : XP P o A (.agg cs) :=
  .build ho hpl hz hp (fun p h => List.all_eq_true.1 hk p h) hf (fun d h => by simpa using List.all_eq_true.1 ht d h)
theorem x_buildA {t e : TypeId} {m n : Nat} {parts : Array (Nat × Operand)} {z cs : List DV} {ps : List (Nat × DV)} (ho : o.op = .build t parts) (ht : arrT P t = some (m, e)) (hn : szT P e = some n) (hz : zeroT P t = some z) (hp : A.evs parts.toList = some ps) (hk : ps.all (fun p => p.2.cells.all A.okCell) = true) (hf : fillD (fun i => some (i * n, n)) z ps = some cs) (hc : cs.all (fun d => !d.tok) = true) : XP P o A (.agg cs) :=
  .buildA ho ht hn hz hp (fun p h => List.all_eq_true.1 hk p h) hf (fun d h => by simpa using List.all_eq_true.1 hc d h)
theorem x_lit {l : List α} {t e : TypeId} {len : Nat} {parts : Array (Nat × Operand)} {n by_ : Nat} {ps : List (Nat × DV)} (ho : o.op = .buildSlice t len parts) (ht : elemT P t = some e) (hr : rowT P e = some (n, by_)) (hz0 : (zeroT P e).isSome = true)
      (hp : A.evs parts.toList = some ps) (hk : ps.all (fun p => p.2.cells.all A.okCell) = true) (hseq : ps.map (·.1) = List.range len) (hlen : len ≤ 1000) (hn : n ≤ 1000) (hf : flatF n f) (hl : ps.map (·.2.cells) = l.map f) : XE P o A (.own A.r.length) { A with r := A.r ++ [some ⟨e, n, l.map f⟩] } := by
  have := XE.lit (P := P) (A := A) ho ht hr hz0 hp (fun p h => List.all_eq_true.1 hk p h) hseq hlen hn (by rw [hl]; exact hf.ok l)
  rwa [hl] at this
theorem x_litF {l : List α} {t e : TypeId} {len : Nat} {parts : Array (Nat × Operand)} {n by_ : Nat} {ps : List (Nat × DV)} (ho : o.op = .buildSlice t len parts) (ht : elemT P t = some e) (hr : rowT P e = some (n, by_)) (hz0 : (zeroT P e).isSome = true)
      (hp : A.evs parts.toList = some ps) (hk : ps.all (fun p => p.2.cells.all A.okCell) = true) (hseq : ps.map (·.1) = List.range len) (hlen : len ≤ 1000) (hn : n ≤ 1000) (hf : flatF n f) (hl : ps.map (·.2.cells) = l.map f) : XE P o A (.sl false (l.map f)) { A with r := A.r ++ [none] } := by
  have := XE.litF (P := P) (A := A) ho ht hr hz0 hp (fun p h => List.all_eq_true.1 hk p h) hseq hlen hn (by rw [hl]; exact hf.ok l)
  rwa [hl] at this
theorem x_appF {xs ys zs : List α} {t e : TypeId} {x y : Operand} {dy : DV} {tk n by_ : Nat} {ρ : Row} (ho : o.op = .call { callee := .builtin .append, args := #[x, y], argTypes := #[t, t] }) (hx : A.ev x = some (.own tk)) (hy : A.ev y = some dy)
    (ht : elemT P t = some e) (hr : rowT P e = some (n, by_)) (hrow : A.r[tk]? = some (some ρ)) (hρ : ρ = ⟨e, n, xs.map f⟩) (hey : A.elems dy = some (ys.map f)) (hf : flatF n f) (hlim : capO by_ (xs ++ ys) = some zs) :
    XE P o A (.sl false (zs.map f)) { A with r := A.r.set tk none ++ [none] } := by
  subst hρ
  obtain ⟨e1, hl⟩ := capO_some hlim
  subst e1
  have := XE.appF (P := P) (A := A) ho hx hy ht hr (some tk) (.inr ⟨tk, rfl, rfl, hrow⟩) hey (hf.ok ys) (by simpa using hl)
  rwa [← List.map_append] at this
def takO (l : List α) (hi : Int) : Option (List α) := if 0 ≤ hi ∧ hi ≤ l.length then some (l.take hi.toNat) else none
theorem x_cutO {l m : List α} {t e : TypeId} {x y : Operand} {k : IntKind} {tk n sz : Nat} {u : Int} (ho : o.op = .slice t x none (some y) none) (hx : A.ev x = some (.own tk)) (hr : A.r[tk]? = some (some ⟨e, sz, l.map f⟩)) (hy : A.ev y = some (.int k u)) (he : elemT P t = some e) (hn : szT P e = some n) (hc : takO l u = some m) : XE P o A (.own A.r.length) { A with r := A.r.set tk none ++ [some ⟨e, sz, m.map f⟩] } := by
  unfold takO at hc
  split at hc
  · rename_i h1
    obtain rfl := Option.some.inj hc
    have := XE.cutO (P := P) ho hx hr hy he hn h1.1 (by simpa using h1.2)
    simpa [List.map_take] using this
  · cases hc
def zerO {β : Type} (by_ : Nat) (n : Int) (x : β) : Option (List β) := if 0 < n ∧ n.toNat * (by_ + 1) ≤ 140737488355328 then some (List.replicate n.toNat x) else none
theorem x_appZ {x0 : α} {zs : List α} {t tn e : TypeId} {x y : Operand} {k kn : IntKind} {n : Int} {m by_ : Nat} {z : List DV} (ho : o.op = .call { callee := .builtin .append, args := #[x, y], argTypes := #[t, tn] }) (hx : A.ev x = some .nil) (hy : A.ev y = some (.int k n)) (ht : elemT P t = some e) (htn : P.underlying tn = some (.int kn)) (hr : rowT P e = some (m, by_)) (hz : zeroT P e = some z) (hf : z = f x0) (hc : zerO by_ n x0 = some zs) : XE P o A (.own A.r.length) { A with r := A.r ++ [some ⟨e, m, zs.map f⟩] } := by
  subst hf
  unfold zerO at hc
  split at hc
  · rename_i h1
    obtain rfl := Option.some.inj hc
    have hn : n = (n.toNat : Int) := by omega
    have := XE.appZ (P := P) (n := n.toNat) ho hx (by rw [← hn]; exact hy) ht htn hr hz (by omega) h1.2
    simpa using this
  · cases hc
theorem x_quo {t t' : TypeId} {x y : Operand} {k : IntKind} {m n q : Int} (ho : o.op = .binOp .quo t x y t') (hx : A.ev x = some (.int k m)) (hy : A.ev y = some (.int k n)) (hq : (if n = 0 then none else some (k.wrap (m.tdiv n))) = some q) : XP P o A (.int k q) := by
  split at hq
  · cases hq
  · rename_i hn
    obtain rfl := Option.some.inj hq
    exact .bin ho hx hy (by simp [xbin, hn])
theorem x_pickT {c x y : Operand} {d e : DV} (ho : o.op = .pick c x y) (hc : A.ev c = some (.bool true)) (hx : A.ev x = some d) (hy : A.ev y = some e) : XP P o A d := XP.pick ho hc hx hy
theorem x_pickF {c x y : Operand} {d e : DV} (ho : o.op = .pick c x y) (hc : A.ev c = some (.bool false)) (hx : A.ev x = some d) (hy : A.ev y = some e) : XP P o A e := XP.pick ho hc hx hy
theorem x_call {f : Operand} {args : Array Operand} {ats : Array TypeId} {fid : FuncId} {caps ds : List DV} {cb bz : List (List DV)} {ra rr : List Row} {r r' : DV} {args' : List DV} {ba' : List (List DV)} {A2 : St} (bs toks : List Nat) (ho : o.op = .call { callee := .value f, args := args, argTypes := ats }) (hf : A.ev f = some (.fn fid caps)) (hen : EntersF P fid) (hOk : OkB P fid args' ba' ra r bz rr) (hds : A.evL args.toList = some ds) (ha : (ds ++ caps).map (renA bs toks) = args') (hok : (ds ++ caps).all (argOk bs toks) = true)
      (hnb : nodupB bs = true) (hcb : A.boxesOf bs = some cb) (hb : cb.map (List.map (renA bs toks)) = ba') (hokb : cb.all (fun c => c.all (argOk bs toks)) = true) (hnd : nodupB toks = true) (hra : A.rowsOf toks = some ra) (hpl : r.plain = true) (hpb : bz.all (fun c => c.all DV.plain1) = true) (hcap : caps.all (fun d => !d.tok) = true) (hr : r.renT (A.r.length + ·) = r') (hA : A.called bs toks bz rr = A2) : XE P o A r' A2 := by
  subst ha; subst hb; subst hr; subst hA
  exact .call ho hf hen hds hok (nodupB_nodup hnb) hcb hokb (nodupB_nodup hnd) hra hpl hpb hcap hOk
theorem x_callP {f : Operand} {args : Array Operand} {ats : Array TypeId} {fid : FuncId} {caps ds : List DV} {r : DV} {args' : List DV} (ho : o.op = .call { callee := .value f, args := args, argTypes := ats }) (hf : A.ev f = some (.fn fid caps)) (hen : EntersF P fid) (hOk : OkB P fid args' [] [] r [] []) (hds : A.evL args.toList = some ds) (ha : ds ++ caps = args') (hok : (ds ++ caps).all (argOk [] []) = true) (hcap : caps.all (fun d => !d.tok) = true) (hpl : r.free = true) : XP P o A r := by
  subst ha
  exact .call ho hf hen hds hok hcap hpl hOk
theorem x_callE {α : Type} {cf : α → List DV} {xs : List α} {c c' : α} {f : Operand} {args : Array Operand} {ats : Array TypeId} {fid : FuncId} {caps ds : List DV} {r : DV} {args' : List DV} {tk i : Nat} {ρ : Row} (ho : o.op = .call { callee := .value f, args := args, argTypes := ats }) (hf : A.ev f = some (.fn fid caps)) (hen : EntersF P fid) (hOk : OkB P fid args' [cf c] [] r [cf c'] []) (hds : A.evL args.toList = some ds) (ha : (ds ++ caps).map renE = args')
    (hr : A.r[tk]? = some (some ρ)) (hρ : ρ.xs = xs.map cf) (hc : xs[i]? = some c) (hok : (ds ++ caps).all (argOkE tk i) = true) (hpl : r.free = true) (hyt : (cf c').all (fun d => d.one && !d.tok) = true) : XE P o A r { A with r := A.r.set tk (some { ρ with xs := (xs.set i c').map cf }) } := by
  subst ha
  have := XE.callEx (P := P) (A := A) (y := cf c') ho hf hen hds hr (by rw [hρ, List.getElem?_map, hc]; rfl) hok hpl hyt hOk
  rwa [hρ, ← List.map_set] at this
theorem x_cut3 {α : Type} {f : α → List DV} {l m : List α} {t e : TypeId} {x y z : Operand} {nw : Bool} {k k' : IntKind} {u : Int} {n : Nat} (ho : o.op = .slice t x none (some y) (some z)) (hx : A.ev x = some (.sl nw (l.map f))) (hy : A.ev y = some (.int k u)) (hz : A.ev z = some (.int k' u)) (he : elemT P t = some e) (hn : szT P e = some n) (hc : cutI l 0 u = some m) : XP P o A (.sl nw (m.map f)) := by
  obtain ⟨h0, h1, h2, rfl⟩ := cutI_some hc
  have := XP.slice3 (P := P) ho hx hy hz he hn h1 (by simpa using h2)
  rwa [← List.map_take] at this
theorem all_app {l m : List DV} {p : DV → Bool} (h1 : l.all p = true) (h2 : m.all p = true) : (l ++ m).all p = true := by rw [List.all_append, h1, h2]; rfl
structure Cl (P : Program) (g : FuncId) (cs : List DV) : Prop where
  en : EntersF P g
  nt : cs.all (fun d => !d.tok) = true
  ok : cs.all (argOk [] []) = true
theorem Cl.renE {P : Program} {g : FuncId} {cs : List DV} (h : Cl P g cs) : cs.map renE = cs := by
  refine (List.map_congr_left (fun d hd => ?_)).trans (List.map_id cs)
  have h1 := List.all_eq_true.1 h.nt d hd
  cases d <;> first | rfl | (simp [DV.tok] at h1)
theorem Cl.okE {P : Program} {g : FuncId} {cs : List DV} (h : Cl P g cs) (t i : Nat) : cs.all (argOkE t i) = true := by
  refine List.all_eq_true.2 (fun d hd => ?_)
  have h1 := List.all_eq_true.1 h.nt d hd
  cases d <;> first | rfl | (simp [DV.tok] at h1)
theorem x_callEV {α : Type} {cf : α → List DV} {xs : List α} {c c' : α} {f : Operand} {args : Array Operand} {ats : Array TypeId} {fid : FuncId} {caps ds : List DV} {r : DV} {args' : List DV} {tk i : Nat} {ρ : Row} (ho : o.op = .call { callee := .value f, args := args, argTypes := ats }) (hf : A.ev f = some (.fn fid caps)) (hC : Cl P fid caps) (hOk : OkB P fid (args' ++ caps) [cf c] [] r [cf c'] []) (hds : A.evL args.toList = some ds) (ha : ds.map renE = args')
    (hr : A.r[tk]? = some (some ρ)) (hρ : ρ.xs = xs.map cf) (hc : xs[i]? = some c) (hok : ds.all (argOkE tk i) = true) (hpl : r.free = true) (hyt : (cf c').all (fun d => d.one && !d.tok) = true) : XE P o A r { A with r := A.r.set tk (some { ρ with xs := (xs.set i c').map cf }) } :=
  x_callE ho hf hC.en hOk hds (by rw [List.map_append, ha, hC.renE]) hr hρ hc (by rw [List.all_append, hok, hC.okE]; rfl) hpl hyt
theorem ba_beq (a b : ByteArray) : (a == b) = true ↔ a = b := by
  show (a.data == b.data) = true ↔ _
  rw [beq_iff_eq, ByteArray.ext_iff]
theorem bs_beq (l m : List UInt8) : (bs l == bs m) = (l == m) := by
  rw [Bool.eq_iff_iff, ba_beq, beq_iff_eq]
  constructor
  · intro h; have := congrArg (fun b : ByteArray => b.data.toList) h; exact this
  · rintro rfl; rfl
theorem x_app {xs ys zs : List α} {t e : TypeId} {x y : Operand} {dy : DV} {tk n by_ : Nat} {ρ : Row} (ho : o.op = .call { callee := .builtin .append, args := #[x, y], argTypes := #[t, t] }) (hx : A.ev x = some (.own tk)) (hy : A.ev y = some dy)
    (ht : elemT P t = some e) (hr : rowT P e = some (n, by_)) (hrow : A.r[tk]? = some (some ρ)) (hρ : ρ = ⟨e, n, xs.map f⟩) (hey : A.elems dy = some (ys.map f)) (hf : flatF n f) (hlim : capO by_ (xs ++ ys) = some zs) :
    XE P o A (.own A.r.length) { A with r := A.r.set tk none ++ [some ⟨e, n, zs.map f⟩] } := by
  subst hρ
  obtain ⟨e1, hl⟩ := capO_some hlim
  subst e1
  have := XE.append (P := P) (A := A) ho hx hy ht hr (some tk) (.inr ⟨tk, rfl, rfl, hrow⟩) hey (hf.ok ys) (by simpa using hl)
  rwa [← List.map_append] at this
theorem x_stE {xs : List α} {t : TypeId} {x y : Operand} {d : DV} {n tk i j : Nat} {ρ : Row} {c c' : α} (ho : o.op = .store t x y) (hx : A.ev x = some (.ex tk i j)) (hy : A.ev y = some d) (hn : szT P t = some n) (hl : d.cells.length = n) (hk : d.cells.all A.okCell = true)
    (hr : A.r[tk]? = some (some ρ)) (hρ : ρ.xs = xs.map f) (hc : xs[i]? = some c) (hj : j + n ≤ (f c).length) (ht : d.cells.all (fun d => !d.tok) = true) (hs : splice (f c) j d.cells = f c') : XE P o A .top { A with r := A.r.set tk (some { ρ with xs := (xs.set i c').map f }) } := by
  refine .store ho hx hy hn hl hk ?_
  simp only [St.store, hr, hρ, List.getElem?_map, hc, Option.map_some]
  rw [if_pos ⟨by omega, ht⟩, hs, List.map_set]
end
end Go.PM
namespace Go.PM
variable [Tbl]
set_option linter.unusedSectionVars false
open Go.RowKit
set_option linter.unusedVariables false
section
variable {z : Bool} {P : Program} {A : St}
theorem ex_gst {c : Code} {Q : Exit → St → Prop} {A1 : St} (A2 : St) (hg : Gst A A1) (he : A1 = A2) (h : Ex z P c A2 Q) : Ex z P c A Q := by
  subst he; exact h.gst hg
theorem ex_iterX {σ ρ : Type} {c : Code} {Q : Exit → St → Prop} {step : σ → Option (σ ⊕ ρ)} (ex : ρ → Exit) (enc : σ → St) (encX : ρ → St) {n : Nat} {s0 : σ} {out : ρ} (h : iter step n s0 = some out) (h0 : A = enc s0) (hk : Q (ex out) (encX out))
    (round : ∀ s y, step s = some y → Ex z P c (enc s) (fun e A' => ∃ A3, Gst A' A3 ∧ ((e = .normal ∧ ∃ s', y = .inl s' ∧ A3 = enc s') ∨ (∃ o, e = ex o ∧ e ≠ .normal ∧ y = .inr o ∧ A3 = encX o)))) : Ex z P (.loop c) A Q := by
  subst h0
  refine ex_iter enc h (fun s y hs hout => ?_)
  refine Ex.post ((round s y hs).mono ?_)
  rintro e A' ⟨A3, hg, h1⟩
  rcases h1 with ⟨rfl, s', rfl, rfl⟩ | ⟨o, rfl, hne, rfl, rfl⟩
  · exact ⟨_, hg, _, .refl _, s', rfl, rfl⟩
  · refine ⟨_, hg, ?_⟩
    obtain rfl := hout o rfl
    cases hx : ex o with
    | normal => exact absurd hx hne
    | _ => rw [hx] at hk; exact hk
theorem rnd_on {σ ρ : Type} {e : Exit} {A A1 : St} {ex : ρ → Exit} {enc : σ → St} {encX : ρ → St} {y : σ ⊕ ρ} {s' : σ} (he : e = .normal) (h : (some (.inl s') : Option (σ ⊕ ρ)) = some y) (hg : Gst A A1) (h1 : A1 = enc s') : ∃ A3, Gst A A3 ∧ ((e = .normal ∧ ∃ s', y = .inl s' ∧ A3 = enc s') ∨ (∃ o, e = ex o ∧ e ≠ .normal ∧ y = .inr o ∧ A3 = encX o)) :=
  ⟨A1, hg, .inl ⟨he, s', (Option.some.inj h).symm, h1⟩⟩
theorem rnd_out {σ ρ : Type} {e : Exit} {A A1 : St} {ex : ρ → Exit} {enc : σ → St} {encX : ρ → St} {y : σ ⊕ ρ} {o : ρ} (he : e = ex o) (hne : e ≠ .normal) (h : (some (.inr o) : Option (σ ⊕ ρ)) = some y) (hg : Gst A A1) (h1 : A1 = encX o) : ∃ A3, Gst A A3 ∧ ((e = .normal ∧ ∃ s', y = .inl s' ∧ A3 = enc s') ∨ (∃ o, e = ex o ∧ e ≠ .normal ∧ y = .inr o ∧ A3 = encX o)) :=
  ⟨A1, hg, .inr ⟨o, he, hne, (Option.some.inj h).symm, h1⟩⟩
end
end Go.PM
namespace Go.PM
variable [Tbl]
set_option linter.unusedSectionVars false
open Go.RowKit
variable {P : Program} {A : St}
theorem res_tmp {t : Tmp} {d : DV} (h : A.s[t]? = some d) : A.res P (.tmp t) = some d := h
theorem res_cell {a : Tmp} {t : TypeId} {p d : DV} {l : List DV} {n : Nat} {b : Bool} (hp : A.s[a]? = some p) (hl : A.at p = some l) (hn : szT P t = some n) (hu : (P.underlying t).isSome = true) (hg : isAggT P t = b) (hd : ldVal b n l = some d) : A.res P (.cell a t) = some d := by
  simp only [St.res, hp, hl, hn, hu, hg, hd, if_true]
theorem res_nil : A.resL P [] = some [] := rfl
theorem res_cons {x : ResultVar} {l : List ResultVar} {d : DV} {ds : List DV} (h : A.res P x = some d) (h2 : A.resL P l = some ds) : A.resL P (x :: l) = some (d :: ds) := by
  simp only [St.resL, h, h2]
end Go.PM

namespace Go.PM
variable [Tbl]
set_option linter.unusedSectionVars false
open Go.RowKit
set_option linter.unusedSimpArgs false
set_option linter.unusedVariables false
variable {P : Program} {B : Base} {w0 : World} {g : Gh} {A : St} {a : Act} {w : World}

def Any : Nat → Prop := fun _ => True
def SeqOk (P : Program) (f : FuncId) (caps : List DV) {α : Type} (encs : α → Array Value) (xs : List α) : Prop :=
  ∀ (l : Nat) (lb : Array Value) (J Jx : Nat → World → Prop) (W : World), lb.size = caps.length →
    (∀ k W W', J k W → W.grownBy W' none → J k W') → (∀ k W W', Jx k W → W.grownBy W' none → Jx k W') →
    (∀ k W, J k W → TB W ∧ ∀ i d, caps[i]? = some d → VR W Any Any d (lb.getD i undef)) → (∀ k W, Jx k W → TB W ∧ ∀ i d, caps[i]? = some d → VR W Any Any d (lb.getD i undef)) →
    (∀ k x W1, xs[k]? = some x → J k W1 → YieldAt Fence.wide 0 P l (encs x) W1 fun e W' => (e = .returned (.bool true) ∧ J (k + 1) W') ∨ (e = .returned (.bool false) ∧ Jx (k + 1) W')) →
    J 0 W → Calls P f (#[.func (.yield l) #[] #[]] ++ lb) W fun e W' => (∃ v, e = .returned v) ∧ (J xs.length W' ∨ ∃ k, k ≤ xs.length ∧ Jx k W')

theorem Rel.rebase (h : Rel B w0 g A a w) (hd : a.defers = []) {w2 : World} (hs : w.heap.size ≤ w2.heap.size) (hc : ∀ (k : Nat) (c : Array Value) (e : TypeId) (f : Nat × Nat), w.heap[k]? = some (Obj.cells c e f) → w2.heap[k]? = some (Obj.cells c e f)) :
    ∃ B' : Base, B'.N = B.N ∧ B'.no = B.no ∧ (∀ k, B'.own k → B.own k) ∧ B'.kb = B.kb ∧ Rel B' w2 g A a w2 := by
  have hBw : B.n ≤ w2.heap.size := Nat.le_trans (Nat.le_trans h.base h.below.size) hs
  refine ⟨{ n := w2.heap.size, ex := mutb g A, N := B.N, no := B.no, kb := A.kb, bm := g.bm, bo := g.bo, bn := fun i => match A.b[i]? with | some (some cs) => cs.length | _ => 0, hN := fun k hk => B.hN k (hk.elim (fun h1 => .inl (by omega)) (fun h1 => (h.new k h1).1)), d0 := B.d0, hd0 := Nat.le_trans B.hd0 hBw }, rfl, rfl, fun k hk => hk.elim (fun h1 => .inl (Nat.le_trans hBw h1)) (fun h1 => (h.new k h1).1), h.kb.1, ?_⟩
  refine { size := h.size, slot := fun i d hi => (h.slot i d hi).monoC hc hs, box := ?_, row := ?_, bb := h.bb, rr := h.rr, br := h.br, kb := ⟨rfl, by have h1 := h.kb.1; have h2 := h.kb.2; simp only; omega⟩, fix := fun _ _ _ => ⟨rfl, rfl⟩, out := ?_, new := fun k hk => ⟨.inr hk, Nat.lt_of_lt_of_le (h.new k hk).2 hs⟩, nn := fun k hk => ⟨Nat.lt_of_lt_of_le (h.nn k hk).1 hs, (h.nn k hk).2⟩, base := Nat.le_refl _, tb := ⟨fun k hk => hk.elim (fun h1 => Nat.le_trans (h.tab.ofC hc hs).2 h1) (fun h1 => h.tb.1 k (h.new k h1).1), (h.tab.ofC hc hs).1⟩, below := Bel.refl _ _, oth := KeepsOthers.refl _, gno := h.gno, dfr := ⟨by rw [hd]; simp, fun d hd' => by rw [hd] at hd'; simp at hd'⟩ }
  · intro i cs hi
    obtain ⟨u, e, h1, h2, h3⟩ := h.box i cs hi
    exact ⟨u, e, hc _ _ _ _ h1, h2, fun j d hj => ⟨(h3 j d hj).1, (h3 j d hj).2.monoC hc hs⟩⟩
  · intro t ρ hx
    rcases h.row t ρ hx with h1 | ⟨hp, u, cap, h1, h2, h3, h4, h5, h6, h7⟩
    · exact .inl h1
    exact .inr ⟨hp, u, cap, hc _ _ _ _ h1, h2, h3, h4, h5, h6, fun i x j d hi hj => ⟨(h7 i x j d hi hj).1, (h7 i x j d hi hj).2.1, (h7 i x j d hi hj).2.2.monoC hc hs⟩⟩

  · intro i cs hi hi2
    obtain ⟨u, e, h1, h2, h3⟩ := h.box i cs hi2
    have h4 : cs.length = (match A.b[i]? with | some (some cs) => cs.length | _ => 0) := by rw [hi2]
    refine ⟨h4, u, u, e, hc _ _ _ _ h1, hc _ _ _ _ h1, rfl, ?_, fun _ _ => rfl⟩
    simp only [hi2]; exact h2

theorem Rel.outer (h : Rel B w0 g A a w) {B' : Base} {wb : World} (hkb : B'.kb = B.kb) (hk0 : B.kb = 0) (hN : B'.N = B.N) (hno : B'.no = B.no) (hoo : ∀ k, B'.own k → B.own k) {g' : Gh} {A' : St} {a' : Act} {w' : World} (h' : Rel B' wb g' A' a' w') (hbel : Bel B w0 w') (hoth : KeepsOthers w0 w')
    (hdfr : a.defers.Nodup ∧ ∀ d ∈ a.defers, ∃ D, d = ⟨.collected D, #[]⟩ ∧ B.d0 ≤ D ∧ w'.heap[D]? = some (.deferred (some []))) {s : List DV} (hsl : s.length = A.s.length)
    (hs : ∀ i d, s[i]? = some d → d = .top ∨ (A'.s[i]? = some d ∧ a'.tmps.getD i undef = a.tmps.getD i undef)) : Rel B w0 g' ⟨s, A'.b, A'.r, A'.kb⟩ a w' := by
  refine { size := by rw [h.size, hsl], slot := ?_, box := fun i cs hc => hN ▸ h'.box i cs hc, row := fun t ρ hx => hN ▸ h'.row t ρ hx, bb := h'.bb, rr := h'.rr, br := h'.br, kb := ⟨h'.kb.1.trans hkb, by rw [hk0]; exact Nat.zero_le _⟩, fix := fun i hi => by rw [hk0] at hi; omega, out := fun i cs hi => by rw [hk0] at hi; omega, new := fun k hk => ⟨hoo k (h'.new k hk).1, (h'.new k hk).2⟩, nn := h'.nn, base := h.base, tb := h.tb, below := hbel, oth := hoth, gno := h'.gno.trans hno, dfr := hdfr }
  intro i d hd
  rcases hs i d hd with rfl | ⟨h1, h2⟩
  · exact SR.vr (.top _)
  · rw [← h2, ← hN]; exact h'.slot i d h1

def setPs (s : List DV) : List (Tmp × DV) → List DV
  | [] => s
  | p :: l => setPs (s.set p.1 p.2) l
def putPs (t : Array Value) : List (Tmp × Value) → Array Value
  | [] => t
  | p :: l => putPs (t.setIfInBounds p.1 p.2) l
theorem putPs_keep : ∀ (l : List (Tmp × Value)) (t : Array Value) (i : Nat), i ∉ l.map (·.1) → (putPs t l).getD i undef = t.getD i undef
  | [], t, i, _ => rfl
  | p :: l, t, i, h => by
    simp only [List.map_cons, List.mem_cons, not_or] at h
    rw [putPs, putPs_keep l _ i h.2, Array.getD_eq_getD_getElem?, Array.getElem?_setIfInBounds, if_neg (fun e => h.1 e.symm), ← Array.getD_eq_getD_getElem?]
theorem Rel.puts : ∀ {l : List Tmp} {ds : List DV} {vs : List Value} {a : Act} {A : St}, Rel B w0 g A a w → (∀ (j : Nat) (d : DV) (v : Value), ds[j]? = some d → vs[j]? = some v → VR w B.N (fun k => ¬ bad g A k) d v) → l.length = ds.length → l.length = vs.length →
    Rel B w0 g { A with s := setPs A.s (l.zip ds) } { a with tmps := putPs a.tmps (l.zip vs) } w
  | [], ds, vs, a, A, h, _, _, _ => by cases a; cases A; exact h
  | t :: l, [], vs, a, A, h, _, hl, _ => by simp at hl
  | t :: l, d :: ds, [], a, A, h, _, _, hl => by simp at hl
  | t :: l, d :: ds, v :: vs, a, A, h, hv, h1, h2 => by
    have hp := h.put (some t) (SR.vr (hv 0 d v rfl rfl))
    exact Rel.puts (l := l) (ds := ds) (vs := vs) hp (fun j d' v' hj hj' => hv (j + 1) d' v' (by simpa using hj) (by simpa using hj')) (by simpa using h1) (by simpa using h2)
theorem foldl_put : ∀ (l : List (Tmp × Value)) (t : Array Value), l.foldl (fun t p => t.setIfInBounds p.1 p.2) t = putPs t l
  | [], t => rfl
  | p :: l, t => by rw [List.foldl_cons, foldl_put l]; rfl

theorem wpIn_n {F : Fence} (hF : F.depth = none) {n m : Nat} {c : Code} {Q : Exit → Act → World → Prop} (h : c.wpIn F n P Q a w) : c.wpIn F m P Q a w := fun b k cs hro hb _ => h b k cs hro hb (fun d hd => by rw [hF] at hd; cases hd)

def KeepS (s s2 : List DV) (l : List Tmp) : Prop := ∀ i d, s[i]? = some d → d = .top ∨ (s2[i]? = some d ∧ i ∉ l)

theorem Fin.deferred {k D : Nat} {o : Obj} (h : w.heap[k]? = some o) (hD : w.heap.size ≤ D) : k ≠ D := by
  have := (Array.getElem?_eq_some_iff.1 h).1; omega
end Go.PM

namespace Go.PM
variable [Tbl]
set_option linter.unusedSectionVars false
open Go.RowKit
set_option linter.unusedSimpArgs false
set_option linter.unusedVariables false
variable {P : Program} {B : Base} {w0 : World} {g : Gh} {A : St} {a : Act} {w : World}

theorem oth_grown {m : Nat} {W W' : World} {row : Option Nat} (hg : W.grownBy W' row) (hm : m ≤ W.heap.size) (hr : ∀ r, row = some r → m ≤ r ∧ ∃ o : Obj, W.heap[r]? = some o ∧ o.isCells = false) : Oth m W W' where
  os := hg.os
  tape := hg.tape
  output := hg.output
  size := hg.size
  low k hk := hg.block k (by omega) (fun e => by have := (hr k e.symm).1; omega)
  cells k c e f hk := by
    refine (hg.block k (Array.getElem?_eq_some_iff.1 hk).1 (fun e' => ?_)).trans hk
    obtain ⟨_, o, ho, hc⟩ := hr k e'.symm
    rw [hk] at ho; cases ho; cases hc

theorem ex_range {α : Type} {encs : α → Array Value} {encD : α → List DV} {xs : List α} {f : FuncId} {caps : List DV} {go : Operand} {ps : Array Tmp} {assign body : Code} {Q : Exit → St → Prop}
    (I : Nat → List (Option (List DV)) → List (Option Row) → Prop) (hkb : A.kb = 0) (hg : A.ev go = some (.fn f caps)) (hen : EntersF P f) (hseq : SeqOk P f caps encs xs)
    (henc : ∀ x, (encs x).size = ps.size ∧ (encD x).length = ps.size ∧ ∀ (w : World) (N ok : Nat → Prop) (j : Nat) (d : DV), (encD x)[j]? = some d → VR w N ok d ((encs x).getD j undef))
    (hround : ∀ k x b r, xs[k]? = some x → I k b r → Ex false P assign ⟨setPs A.s (ps.toList.zip (encD x)), b, r, 0⟩ (thenE (fun A1 => Ex false P body A1 (fun e A2 => e = .normal ∧ KeepS A.s A2.s (ps.toList ++ wr assign ++ wr body) ∧ I (k + 1) A2.b A2.r)) (fun _ _ => False)))
    (h0 : I 0 A.b A.r) (hQ : ∀ b r, I xs.length b r → Q .normal ⟨A.s, b, r, 0⟩) : Ex true P (.rangeFunc go ps assign body) A Q := by
  intro B w0 g a w hr ro hz n K hK
  have hB0 : B.kb = 0 := by rw [← hr.kb.1]; exact hkb
  obtain ⟨As, Ab, Ar, Ak⟩ := A
  simp only at hkb
  subst hkb
  obtain rfl : ro = none := hz rfl
  refine wpIn_n rfl (n := 1) ?_
  refine wpIn_rangeFunc ?_
  intro fn hfn
  have hfv : VR w B.N (fun k => ¬ bad g ⟨As, Ab, Ar, 0⟩ k) (.fn f caps) (a.eval go) := hr.ev hg
  generalize hvf : a.eval go = vf at hfv
  cases hfv with
  | fn _ _ lb hcl hcd =>
  have hBw : B.n ≤ w.heap.size := Nat.le_trans hr.base hr.below.size
  have hw0 : w0.heap.size ≤ w.heap.size := hr.below.size
  obtain ⟨rec, hrec⟩ : ∃ rec : LoopState → Option Code → Loop, rec = fun st pe => { state := st, pending := pe, fn, tmps := a.tmps, params := ps, assign, body, defers := w.heap.size } := ⟨_, rfl⟩
  obtain ⟨W1, hW1⟩ : ∃ W1, (w.alloc (.deferred (some []))).alloc (.loop (rec .ready none)) = W1 := ⟨_, rfl⟩
  have hL1 : W1.heap[w.heap.size + 1]? = some (.loop (rec .ready none)) := by
    rw [← hW1]; have := World.alloc_heap_new (w.alloc (.deferred (some []))) (.loop (rec .ready none)); rwa [World.size_alloc] at this
  have hD1 : W1.heap[w.heap.size]? = some (.deferred (some [])) := by
    rw [← hW1]; exact (Below.heap_alloc _ _ _ (by simp)).trans (World.alloc_heap_new w _)
  have hg1 : w.grownBy W1 none := by
    rw [← hW1]
    exact ⟨rfl, rfl, rfl, by rw [World.size_alloc, World.size_alloc]; omega, fun k hk _ => (Below.heap_alloc _ _ _ (by rw [World.size_alloc]; omega)).trans (Below.heap_alloc _ _ _ hk)⟩
  -- the loop's own book-keeping
  let L := w.heap.size + 1
  let D := w.heap.size
  have hdfr : ∀ {W : World}, KeepsOthers w W → a.defers.Nodup ∧ ∀ d ∈ a.defers, ∃ D, d = ⟨.collected D, #[]⟩ ∧ B.d0 ≤ D ∧ W.heap[D]? = some (.deferred (some [])) := fun hk =>
    ⟨hr.dfr.1, fun d hd => by obtain ⟨D, h1, h2, h3⟩ := hr.dfr.2 d hd; exact ⟨D, h1, h2, hk.same D _ h3 rfl⟩⟩
  let J : Nat → World → Prop := fun k W => ∃ b r g', I k b r ∧ Rel B w0 g' ⟨As, b, r, 0⟩ a W ∧ W.heap[L]? = some (.loop (rec .ready none)) ∧ W.heap[D]? = some (.deferred (some [])) ∧ KeepsOthers w W
  have hJ : ∀ {k : Nat} {W : World} (l : Nat) (o o' : Obj) (b : List (Option (List DV))) (r : List (Option Row)) (g' : Gh), Rel B w0 g' ⟨As, b, r, 0⟩ a W → w.heap.size < l → W.heap[l]? = some o → o.isCells = false → KeepsOthers w W → Rel B w0 g' ⟨As, b, r, 0⟩ a (W.putObj l o') ∧ KeepsOthers w (W.putObj l o') := by
    intro k W l o o' b r g' h1 h2 h3 h4 h5
    have h6 : KeepsOthers w (W.putObj l o') := ⟨by simpa [World.putObj] using h5.size, fun j x hj hx => by
      refine (World.putObj_heap_other ?_).trans (h5.same j x hj hx)
      rintro rfl
      have := (Array.getElem?_eq_some_iff.1 hj).1; omega⟩
    exact ⟨h1.others (oth_putObj (by omega) h3 h4) rfl (hdfr h6), h6⟩
  have grown : ∀ k W W', J k W → W.grownBy W' none → J k W' := by
    rintro k W W' ⟨b, r, g', h1, h2, h3, h4, h5⟩ hgr
    have hk : KeepsOthers W W' := ⟨hgr.size, fun j x hj _ => (hgr.block j (Array.getElem?_eq_some_iff.1 hj).1 (by simp)).trans hj⟩
    exact ⟨b, r, g', h1, h2.others (oth_grown hgr (Nat.le_trans hw0 h5.size) (fun r e => by cases e)) rfl (hdfr (h5.trans hk)), hk.same _ _ h3 rfl, hk.same _ _ h4 rfl, h5.trans hk⟩
  refine ⟨L, [{ target := .collected D, args := #[] }], W1, { target := .fn (.func f) lb, args := #[.func (.yield L) #[] #[]] }, W1, f, #[.func (.yield L) #[] #[]] ++ lb, W1, ?_, ?_, ?_, ?_, fun _ => Nat.le_refl _, ?_⟩
  · rw [← hW1, hrec]; exact run_enterLoop_outer _ _ _ _ _
  · simp only [resolve, rangeCall, hvf]
    simp [go_sem]
  · intro f' hf'; exact Fw_fn none f'
  · simp [invoke, go_sem, hen _ _]
  · refine (callsIn_wide).2 ?_
    refine Calls.mono' (hseq L lb J (fun _ _ => False) W1 hcl grown (fun _ _ _ h _ => h.elim) ?_ (fun _ _ h => h.elim) ?_ ?_) ?_
    · rintro k W ⟨b, r, g', h1, h2, _⟩
      refine ⟨h2.tab, ?_⟩
      intro i d hd
      have he : (⟨As, b, r, 0⟩ : St).ev go = some (.fn f caps) := by cases go <;> exact hg
      have hfv : VR W B.N (fun k => ¬ bad g' ⟨As, b, r, 0⟩ k) (.fn f caps) (a.eval go) := h2.ev he
      rw [hvf] at hfv
      cases hfv with
      | fn _ _ _ _ hcd => exact (hcd i d hd).mono (fun _ _ _ => rfl) (Nat.le_refl _) (fun _ _ _ => trivial) (fun _ _ _ => trivial)
    · -- one round
      rintro k x W hx ⟨b, r, g', hI, hrel, hl, hd, hkw⟩
      obtain ⟨e1, e2, e3⟩ := henc x
      have hwW : w.heap.size ≤ W.heap.size := hkw.size
      have hLW : L < W.heap.size := (Array.getElem?_eq_some_iff.1 hl).1
      refine ⟨fn, _, assign, body, by have := run_yield (P := P) (args := encs x) hl (by rw [hrec]; exact e1); rw [hrec] at this; exact this, ?_⟩
      refine roundIn_of_wpIn (Fw_fn none fn) ?_
      -- the round's first state
      have hrel0 : Rel B w0 g' ⟨As, b, r, 0⟩ { tmps := a.tmps, defers := [] } W := hrel.others ⟨rfl, rfl, rfl, Nat.le_refl _, fun _ _ => rfl, fun _ _ _ _ h => h⟩ rfl ⟨by simp, fun d hd => by simp at hd⟩
      obtain ⟨B1, hN1, hno1, hoo1, hkb1, hb1⟩ := hrel0.rebase rfl (w2 := W) (Nat.le_refl _) (fun _ _ _ _ h => h)
      have hp := hb1.puts (l := ps.toList) (ds := encD x) (vs := (encs x).toList) (fun j d v hj hj' => by
        have := e3 W B1.N (fun k => ¬ bad g' ⟨As, b, r, 0⟩ k) j d hj
        rw [toList_getD hj'] at this
        exact this) (by simp [e2]) (by simp [e1])
      have htm : (ps.zip (encs x)).foldl (fun t p => t.setIfInBounds p.1 p.2) a.tmps = putPs a.tmps (ps.toList.zip (encs x).toList) := by
        rw [← Array.foldl_toList, Array.toList_zip, foldl_put]
      have htm' : (ps.zip (encs x)).foldl (fun t (p : Tmp × Value) => match p with | (p, v) => t.setIfInBounds p v) a.tmps = putPs a.tmps (ps.toList.zip (encs x).toList) := htm
      rw [htm']
      refine hround k x b r hx hI B1 W g' _ W hp (some L) (fun e => by cases e) 0 _ ?_
      intro e A1 g1 a1 w1 hq hr1 hk1
      cases e with
      | normal =>
        have hl1 := hr1.oth.same _ _ hl rfl
        have hL1' : L < w1.heap.size := (Array.getElem?_eq_some_iff.1 hl1).1
        refine ⟨_, run_beginRound hl1 (by rw [hrec]), ?_⟩
        have hd1 : a1.defers = [] := hk1.1 rfl
        have hca : ∀ (k : Nat) (c : Array Value) (e : TypeId) (f : Nat × Nat), w1.heap[k]? = some (Obj.cells c e f) → (w1.putObj L (.loop { rec .ready none with state := .busy })).heap[k]? = some (Obj.cells c e f) :=
          (oth_putObj (m := 0) (Nat.zero_le _) hl1 rfl).cells
        have hsz2 : w1.heap.size ≤ (w1.putObj L (.loop { rec .ready none with state := .busy })).heap.size := by simp [World.putObj]
        obtain ⟨B2, hN2, hno2, hoo2, hkb2, hb2⟩ := hr1.rebase hd1 hsz2 hca
        refine hq B2 _ g1 a1 _ hb2 (some L) (fun e => by cases e) 0 _ ?_
        rintro e A2 g2 a2 w3 ⟨rfl, hks, hI2⟩ hr2 hk2
        have hl2 : (w1.putObj L (.loop { rec .ready none with state := .busy })).heap[L]? = some (.loop { rec .ready none with state := .busy }) := World.putObj_heap_same hL1'
        have hl3 := hr2.oth.same _ _ hl2 rfl
        have hd2 : (w1.putObj L (.loop { rec .ready none with state := .busy })).heap[D]? = some (.deferred (some [])) := (World.putObj_heap_other (by omega)).trans (hr1.oth.same _ _ hd rfl)
        have hd3 := hr2.oth.same _ _ hd2 rfl
        refine ⟨_, _, by have := run_endRound (P := P) none hl3; rw [hrec] at this; exact this, .inl ⟨rfl, ?_⟩⟩
        -- all together
        have hko : ∀ {X : World}, X.heap.size ≤ L → KeepsOthers X w1 → KeepsOthers X (w1.putObj L (.loop { rec .ready none with state := .busy })) := fun hX hk => ⟨Nat.le_trans hk.size hsz2, fun j o hj ho => by
          refine (World.putObj_heap_other ?_).trans (hk.same j o hj ho)
          have := (Array.getElem?_eq_some_iff.1 hj).1; omega⟩
        have hk3 : KeepsOthers w w3 := (hko (by omega) (hkw.trans hr1.oth)).trans hr2.oth
        have hk03 : KeepsOthers w0 w3 := (hko (by omega) (hrel.oth.trans hr1.oth)).trans hr2.oth
        have hbel : Bel B w0 w3 := by
          refine hrel.below.trans (Bel.trans (b := w1) ⟨hr1.below.os, hr1.below.tape, hr1.below.output, hr1.below.size, fun k hk => hr1.below.block k (fun h1 => hk (hoo1 k h1))⟩ ?_)
          refine Bel.trans (b := w1.putObj L (.loop { rec .ready none with state := .busy })) ⟨rfl, rfl, rfl, hsz2, fun k hk => World.putObj_heap_other (fun e => hk (.inl (by omega)))⟩ ⟨hr2.below.os, hr2.below.tape, hr2.below.output, hr2.below.size, fun k hk => hr2.below.block k (fun h1 => hk (hoo1 k (hoo2 k h1)))⟩
        have hslots : ∀ i d, As[i]? = some d → d = .top ∨ (A2.s[i]? = some d ∧ a2.tmps.getD i undef = a.tmps.getD i undef) := by
          intro i d hi
          rcases hks i d hi with h1 | ⟨h1, h2⟩
          · exact .inl h1
          · refine .inr ⟨h1, ?_⟩
            simp only [List.mem_append, not_or] at h2
            rw [hk2.2 i h2.2, hk1.2 i h2.1.2]
            refine putPs_keep _ _ _ (fun h3 => h2.1.1 ?_)
            obtain ⟨p, h4, h5⟩ := List.mem_map.1 h3
            rw [← h5]; exact (List.of_mem_zip h4).1
        have hfin : Rel B w0 g2 ⟨As, A2.b, A2.r, 0⟩ a w3 := by
          have hko0 := hrel.outer (hkb2.trans hkb1) hB0 (hN2.trans hN1) (hno2.trans hno1) (fun k hk => hoo1 k (hoo2 k hk)) hr2 hbel hk03 (hdfr hk3) (s := As) rfl hslots
          have hk20 : A2.kb = 0 := by rw [hr2.kb.1, hkb2, hkb1, hB0]
          rw [hk20] at hko0; exact hko0
        obtain ⟨h1, h2⟩ := hJ (k := 0) L _ (.loop { rec .ready none with state := .ready }) A2.b A2.r g2 hfin (by omega) hl3 rfl hk3
        have hL3 : L < w3.heap.size := (Array.getElem?_eq_some_iff.1 hl3).1
        refine ⟨A2.b, A2.r, g2, hI2, ?_, ?_, ?_, ?_⟩
        · rw [hrec] at h1; exact h1
        · rw [hrec]; exact World.putObj_heap_same hL3
        · exact (World.putObj_heap_other (by omega)).trans hd3
        · rw [hrec] at h2; exact h2
      | _ => exact hq.elim
    · exact ⟨Ab, Ar, g, h0, hr.others (oth_grown hg1 hw0 (fun r e => by cases e)) rfl (hdfr ⟨hg1.size, fun j x hj _ => (hg1.block j (Array.getElem?_eq_some_iff.1 hj).1 (by simp)).trans hj⟩), hL1, hD1, ⟨hg1.size, fun j x hj _ => (hg1.block j (Array.getElem?_eq_some_iff.1 hj).1 (by simp)).trans hj⟩⟩
    · rintro e W2 ⟨⟨v, rfl⟩, ⟨b, r, g', hI, hrel, hl, hd, hkw⟩ | ⟨_, _, h⟩⟩
      · refine ⟨none, _, by have := run_endLoop (P := P) hl (by rw [hrec]; simp); rw [hrec] at this; exact this, ?_⟩
        obtain ⟨h1, h2⟩ := hJ (k := 0) L _ (.loop { rec .ready none with state := .exhausted }) b r g' hrel (by omega) hl rfl hkw

        have hd4 : (W2.putObj L (.loop { rec .ready none with state := .exhausted })).heap[D]? = some (.deferred (some [])) := (World.putObj_heap_other (by omega)).trans hd
        have hfresh : ∀ d ∈ a.defers, d ≠ { target := .collected D, args := #[] } := by
          rintro d hd' rfl
          obtain ⟨D', h3, _, h4⟩ := hr.dfr.2 _ hd'
          have h5 : D = D' := by simpa using h3
          have := (Array.getElem?_eq_some_iff.1 h4).1; omega
        have hfin : Rel B w0 g' ⟨As, b, r, 0⟩ { a with defers := [{ target := .collected D, args := #[] }] ++ a.defers } (W2.putObj L (.loop { rec .ready none with state := .exhausted })) := by
          refine h1.others ⟨rfl, rfl, rfl, Nat.le_refl _, fun _ _ => rfl, fun _ _ _ _ h => h⟩ rfl ⟨?_, fun d hd' => ?_⟩
          · exact List.nodup_cons.2 ⟨fun h => hfresh _ h rfl, hr.dfr.1⟩
          · rcases List.mem_cons.1 hd' with rfl | hd'
            · exact ⟨D, rfl, Nat.le_trans B.hd0 (Nat.le_trans hr.base hw0), hd4⟩
            · exact (hdfr h2).2 d hd'
        have hend := hK .normal ⟨As, b, r, 0⟩ g' _ _ (hQ b r hI) hfin ⟨fun e => (by cases e), fun _ _ => rfl⟩
        rw [hrec] at hend
        exact hend
      · exact h.elim
end Go.PM

namespace Go.PM
variable [Tbl]
set_option linter.unusedSectionVars false
open Go.RowKit
set_option linter.unusedSimpArgs false
set_option linter.unusedVariables false
variable {P : Program}

def ExG {S : Type} (R : S → Act → World → Prop) (P : Program) (c : Code) (A : S) (Q : Exit → S → Prop) : Prop :=
  ∀ (a : Act) (w : World), R A a w → ∀ (n : Nat) (K : Exit → Act → World → Prop), (∀ e A2 a' w', Q e A2 → R A2 a' w' → K e a' w') → c.wpIn (Fw none) n P K a w
def thenG {S : Type} (next : S → Prop) (Q : Exit → S → Prop) : Exit → S → Prop
  | .normal, A => next A
  | e, A => Q e A
def blockG {S : Type} (id : Nat) (Q : Exit → S → Prop) : Exit → S → Prop
  | .exit id', A => if id' = id then Q .normal A else Q (.exit id') A
  | e, A => Q e A
section
variable {S : Type} {R : S → Act → World → Prop} {A : S} {Q : Exit → S → Prop}
theorem exg_skip (h : Q .normal A) : ExG R P .skip A Q := fun a w hr n K hK => wpIn_skip (hK _ _ _ _ h hr)
theorem exg_exit {id : Nat} (h : Q (.exit id) A) : ExG R P (.exit id) A Q := fun a w hr n K hK => wpIn_exit (hK _ _ _ _ h hr)
theorem exg_ret (h : Q .ret A) : ExG R P .ret A Q := fun a w hr n K hK => wpIn_ret (hK _ _ _ _ h hr)
theorem exg_seq {x y : Code} (h : ExG R P x A (thenG (fun A1 => ExG R P y A1 Q) Q)) : ExG R P (.seq x y) A Q := by
  intro a w hr n K hK
  refine wpIn_seq (h a w hr n _ ?_)
  intro e A2 a' w' hq hr'
  cases e with
  | normal => exact hq a' w' hr' n K hK
  | _ => exact hK _ _ _ _ hq hr'
theorem exg_block {id : Nat} {c : Code} (h : ExG R P c A (blockG id Q)) : ExG R P (.block id c) A Q := by
  intro a w hr n K hK
  refine wpIn_block (h a w hr n _ ?_)
  intro e A2 a' w' hq hr'
  cases e with
  | exit id' =>
    simp only [blockG] at hq
    simp only [Exit.inBlock]
    by_cases e : id' = id
    · rw [if_pos e] at hq ⊢; exact hK _ _ _ _ hq hr'
    · rw [if_neg e] at hq ⊢; exact hK _ _ _ _ hq hr'
  | _ => exact hK _ _ _ _ hq hr'
theorem exg_loop {c : Code} (I : Nat → S → Prop) (round : ∀ m A, I m A → ExG R P c A (thenG (fun A' => ∃ m', m' < m ∧ I m' A') Q)) (m : Nat) (h0 : I m A) : ExG R P (.loop c) A Q := by
  intro a w hr n K hK
  refine wpIn_loop_rounds (m + 1) ?_
  revert A a w
  induction m using Nat.strongRecOn with
  | _ m ih =>
    intro A h0 a w hr
    rw [roundsIn_succ]
    refine round m A h0 a w hr n _ ?_
    intro e A2 a' w' hq hr'
    cases e with
    | normal =>
      obtain ⟨m', hm, hi⟩ := hq
      exact roundsIn_up m (by omega) (ih m' hm hi a' w' hr')
    | _ => exact hK _ _ _ _ hq hr'
end

structure YS where
  s : List DV
  k : Nat
  on : Bool
structure RY (caps : List DV) (lb : Array Value) (J Jx : Nat → World → Prop) (S : YS) (a : Act) (W : World) : Prop where
  size : a.tmps.size = S.s.length
  slot : ∀ i d, S.s[i]? = some d → VR W Any Any d (a.tmps.getD i undef)
  dfr : a.defers = []
  cap : ∀ j, j < caps.length → a.tmps.getD (1 + j) undef = lb.getD j undef
  inv : if S.on then J S.k W else Jx S.k W
  tb : TB W

def ghN : Gh := { bm := fun _ => 0, bo := fun _ => 0, tm := fun _ => 0, tv := fun _ => undef, pl := fun _ => false, no := fun _ => False }
def bsN (W : World) : Base := { n := W.heap.size, ex := fun _ => False, N := Any, no := fun _ => False, kb := 0, bm := fun _ => 0, bo := fun _ => 0, bn := fun _ => 0, hN := fun _ _ => trivial, d0 := W.heap.size, hd0 := Nat.le_refl _ }
theorem badN {s : List DV} {k : Nat} : ¬ bad ghN ⟨s, [], [], 0⟩ k := by
  rintro (h | ⟨i, ⟨cs, h⟩, _⟩ | ⟨i, ⟨⟨cs, h⟩, _⟩, _⟩)
  · exact h
  · simp at h
  · simp at h
section
variable {caps : List DV} {lb : Array Value} {J Jx : Nat → World → Prop} {S : YS} {a : Act} {W : World}
theorem RY.rel (h : RY caps lb J Jx S a W) : Rel (bsN W) W ghN ⟨S.s, [], [], 0⟩ a W where
  size := h.size
  slot i d hd := SR.vr ((h.slot i d hd).mono (fun _ _ _ => rfl) (Nat.le_refl _) (fun _ _ _ => badN) (fun _ h _ => h))
  box i cs hc := by simp at hc
  row t ρ hx := by simp at hx
  bb i j hi := by obtain ⟨cs, h⟩ := hi; simp at h
  rr i j hi := by obtain ⟨⟨cs, h⟩, _⟩ := hi; simp at h
  br i j hi := by obtain ⟨cs, h⟩ := hi; simp at h
  kb := ⟨rfl, Nat.zero_le _⟩
  fix i hi := by simp [bsN] at hi
  out i cs hi := by simp [bsN] at hi
  new k hk := by
    rcases hk with ⟨i, ⟨cs, h⟩, _⟩ | ⟨i, ⟨⟨cs, h⟩, _⟩, _⟩ <;> simp at h
  nn k hk := hk.elim
  base := Nat.le_refl _
  tb := ⟨fun k hk => hk.elim (fun h1 => Nat.le_trans h.tb.2 h1) (fun h1 => h1.elim), h.tb.1⟩
  below := Bel.refl _ _
  oth := KeepsOthers.refl _
  gno := rfl
  dfr := ⟨by rw [h.dfr]; simp, fun d hd => by rw [h.dfr] at hd; simp at hd⟩

def noTok (s : List DV) : Bool := s.all fun d => !d.tok
theorem RY.of {S' : YS} (h : RY caps lb J Jx S a W) (hJ : ∀ k W W', J k W → W.grownBy W' none → J k W') (hJx : ∀ k W W', Jx k W → W.grownBy W' none → Jx k W') {s2 : List DV} {g' : Gh} {a' : Act} {W' : World} (hr : Rel (bsN W) W g' ⟨s2, [], [], 0⟩ a' W') (hn : noTok s2 = true)
    (hd : a'.defers = a.defers) (hc : ∀ j, j < caps.length → a'.tmps.getD (1 + j) undef = a.tmps.getD (1 + j) undef) : RY caps lb J Jx ⟨s2, S.k, S.on⟩ a' W' := by
  have hg : W.grownBy W' none := ⟨hr.below.os, hr.below.tape, hr.below.output, hr.below.size, fun k hk _ => hr.below.block k (by rintro (h1 | h1); exact absurd hk (Nat.not_lt.2 h1); exact h1)⟩
  refine { size := hr.size, slot := fun i d hi => ?_, dfr := hd.trans h.dfr, cap := fun j hj => (hc j hj).trans (h.cap j hj), inv := ?_, tb := hr.tab }
  · have ht : d.tok = false := by simpa using List.all_eq_true.1 hn d (List.mem_of_getElem? hi)
    exact ((hr.slot i d hi).toVr ht).mono (fun _ _ _ => rfl) (Nat.le_refl _) (fun _ _ _ => trivial) (fun _ _ _ => trivial)
  · have := h.inv
    cases hon : S.on with
    | true => rw [hon] at this; exact hJ _ _ _ this hg
    | false => rw [hon] at this; exact hJx _ _ _ this hg

theorem exg_ex (hJ : ∀ k W W', J k W → W.grownBy W' none → J k W') (hJx : ∀ k W W', Jx k W → W.grownBy W' none → Jx k W') {c : Code} {s : List DV} {k : Nat} {on : Bool} {Q : Exit → YS → Prop} (hw : ∀ j, j < caps.length → 1 + j ∉ wr c)
    (h : Ex false P c ⟨s, [], [], 0⟩ (fun e A2 => ∃ s2, Gst A2 ⟨s2, [], [], 0⟩ ∧ noTok s2 = true ∧ Q e ⟨s2, k, on⟩)) : ExG (RY caps lb J Jx) P c ⟨s, k, on⟩ Q := by
  intro a w hr n K hK
  refine h _ w ghN a w hr.rel none (fun e => by cases e) n K ?_
  rintro e A2 g' a' w' ⟨s2, hg, hn, hq⟩ hr' hk
  obtain ⟨g2, hr2⟩ := hg.rel hr'
  exact hK e _ a' w' hq (RY.of (S' := ⟨s2, k, on⟩) hr hJ hJx hr2 hn (hk.1 rfl) (fun j hj => hk.2 _ (hw j hj)))
theorem exg_if {c : Operand} {x y : Code} {t : Bool} {s : List DV} {k : Nat} {on : Bool} {Q : Exit → YS → Prop} (hc : (⟨s, [], [], 0⟩ : St).ev c = some (.bool t)) (h1 : t = true → ExG (RY caps lb J Jx) P x ⟨s, k, on⟩ Q) (h2 : t = false → ExG (RY caps lb J Jx) P y ⟨s, k, on⟩ Q) : ExG (RY caps lb J Jx) P (.cond c x y) ⟨s, k, on⟩ Q := by
  intro a w hr n K hK
  refine wpIn_cond (SR.inv_bool (hr.rel.ev hc)) ?_
  cases t with
  | true => exact h1 rfl a w hr n K hK
  | false => exact h2 rfl a w hr n K hK
end
end Go.PM

namespace Go.PM
variable [Tbl]
set_option linter.unusedSectionVars false
open Go.RowKit
set_option linter.unusedSimpArgs false
set_option linter.unusedVariables false
variable {P : Program}

theorem DoL.soundK {B : Base} {w0 : World} {ops : Array Oper} {l l2 : List Nat} {A A2 : St} (hd : DoL P ops l A A2) : ∀ {g : Gh} {a : Act} {w : World}, Rel B w0 g A a w → ∀ {ro : Option Nat} {n : Nat} {Q : Exit → Act → World → Prop},
    (∀ g' a' w', Rel B w0 g' A2 a' w' → Same (wrOps ops) a a' → wpOpsIn (Fw ro) n P ops Q l2 a' w') → wpOpsIn (Fw ro) n P ops Q (l ++ l2) a w := by
  induction hd with
  | nil => intro g a w h ro n Q hK; exact hK g a w h (.refl _ _)
  | cons hg h1 _ ih =>
    intro g a w h ro n Q hK
    rw [List.cons_append, wpOpsIn_cons]
    obtain ⟨g0, h⟩ := hg.rel h
    exact h1.sound h (fun g' a' w' hr hdf => ih hr (fun g'' a'' w'' hr' hdf' => hK g'' a'' w'' hr' (hdf.trans hdf')))

theorem roundIn_n {F : Fence} (hF : F.depth = none) {n m l : Nat} {f : FuncId} {tmps : Array Value} {assign body : Code} {w : World} {R : Ending → World → Prop} (h : RoundIn F n P l f tmps assign body w R) : RoundIn F m P l f tmps assign body w R :=
  ⟨h.1, fun c cs _ => h.2 c cs (fun d hd => by rw [hF] at hd; cases hd)⟩
theorem RoundIn.mono' {F : Fence} {n l : Nat} {f : FuncId} {tmps : Array Value} {assign body : Code} {w : World} {R R' : Ending → World → Prop} (h : RoundIn F n P l f tmps assign body w R) (hr : ∀ e w', R e w' → R' e w') : RoundIn F n P l f tmps assign body w R' :=
  ⟨h.1, fun c cs hc => let ⟨e, w', r, x⟩ := h.2 c cs hc; ⟨e, w', hr _ _ r, x⟩⟩

def DV.plainS : DV → Bool
  | .int _ _ | .bool _ | .str _ | .yl _ => true
  | _ => false
def flatS (d : DV) : DV := if d.plainS then d else .top
def yS (caps s : List DV) : List DV := (s.take 1).map flatS ++ caps ++ (s.drop (1 + caps.length)).map flatS
theorem VR.plainS {w w' : World} {N N' ok ok' : Nat → Prop} {d : DV} {v : Value} (h : VR w N ok d v) (hd : d.plainS = true) : VR w' N' ok' d v := by
  cases d <;> first | cases hd | skip
  all_goals cases h
  · exact .int _ _
  · exact .bool _
  · exact .str _
  · exact .yl _
theorem VR.flatS {w w' : World} {N N' ok ok' : Nat → Prop} {d : DV} {v : Value} (h : VR w N ok d v) : VR w' N' ok' (flatS d) v := by
  unfold PM.flatS
  split
  · exact h.plainS ‹_›
  · exact .top _

section
variable {caps : List DV} {lb : Array Value} {J Jx : Nat → World → Prop}
theorem yS_get {s : List DV} (hl : 1 + caps.length ≤ s.length) {i : Nat} {d : DV} (h : (yS caps s)[i]? = some d) : (∃ d0, s[i]? = some d0 ∧ d = flatS d0) ∨ ∃ j, i = 1 + j ∧ caps[j]? = some d := by
  unfold yS at h
  have h1 : ((s.take 1).map flatS).length = 1 := by simp; omega
  by_cases hi0 : i < 1
  · rw [List.append_assoc, List.getElem?_append_left (by omega), List.getElem?_map, List.getElem?_take, if_pos hi0] at h
    left
    cases hq : s[i]? with
    | none => rw [hq] at h; cases h
    | some d0 => rw [hq] at h; exact ⟨d0, rfl, by simpa using h.symm⟩
  · rw [List.append_assoc, List.getElem?_append_right (by omega), h1] at h
    by_cases hi1 : i - 1 < caps.length
    · rw [List.getElem?_append_left hi1] at h
      exact .inr ⟨i - 1, by omega, h⟩
    · rw [List.getElem?_append_right (by omega), List.getElem?_map, List.getElem?_drop] at h
      left
      have e : 1 + caps.length + (i - 1 - caps.length) = i := by omega
      rw [e] at h
      cases hq : s[i]? with
      | none => rw [hq] at h; cases h
      | some d0 => rw [hq] at h; exact ⟨d0, rfl, by simpa using h.symm⟩
theorem yS_length {s : List DV} (hl : 1 + caps.length ≤ s.length) : (yS caps s).length = s.length := by
  simp [yS]; omega

theorem exg_yield {α : Type} {encs : α → Array Value} {encD : α → List DV} {xs : List α} {l : Nat} {x : α}
    (hJ : ∀ k W W', J k W → W.grownBy W' none → J k W') (hJx : ∀ k W W', Jx k W → W.grownBy W' none → Jx k W')
    (hcap : ∀ k W, J k W → TB W ∧ ∀ i d, caps[i]? = some d → VR W Any Any d (lb.getD i undef)) (hcapx : ∀ k W, Jx k W → TB W ∧ ∀ i d, caps[i]? = some d → VR W Any Any d (lb.getD i undef))
    (hy : ∀ k x W1, xs[k]? = some x → J k W1 → YieldAt Fence.wide 0 P l (encs x) W1 fun e W' => (e = .returned (.bool true) ∧ J (k + 1) W') ∨ (e = .returned (.bool false) ∧ Jx (k + 1) W'))
    (hex : ∀ (x : α) (W : World) (N ok : Nat → Prop) (vs : Array Value), vs.size = (encD x).length → (∀ j d, (encD x)[j]? = some d → VR W N ok d (vs.getD j undef)) → vs = encs x)
    {id i : Nat} {ops : Array Oper} {l1 l2 : List Nat} (hl : List.range ops.size = l1 ++ i :: l2) {s s1 : List DV} {k : Nat} {Q : Exit → YS → Prop} {o : Oper} {f : Operand} {args : Array Operand} {ats : Array TypeId} {t : Tmp}
    (hlen : 1 + caps.length ≤ s1.length) (hwr : ∀ j, j < caps.length → 1 + j ∉ wrOps ops)
    (hd1 : DoL P ops l1 ⟨s, [], [], 0⟩ ⟨s1, [], [], 0⟩) (hn1 : noTok s1 = true) (ho : ops[i]? = some o) (hop : o.op = .call { callee := .value f, args := args, argTypes := ats }) (hdst : o.dst = some t) (hw : wantD ops ⟨s1, [], [], 0⟩ o = some true)
    (hf : (⟨s1, [], [], 0⟩ : St).ev f = some (.yl l)) (hds : (⟨s1, [], [], 0⟩ : St).evL args.toList = some (encD x)) (hx : xs[k]? = some x) (hnt : (encD x).all (fun d => !d.tok) = true)
    (hpost : ∀ b : Bool, ∃ s2, DoL P ops l2 ⟨(yS caps s1).set t (.bool b), [], [], 0⟩ ⟨s2, [], [], 0⟩ ∧ noTok s2 = true ∧ Q .normal ⟨s2, k + 1, b⟩) : ExG (RY caps lb J Jx) P (.region id ops false) ⟨s, k, true⟩ Q := by
  intro a w hr n K hK
  refine wpIn_region ?_
  rw [hl]
  have hon : J k w := hr.inv
  refine hd1.soundK hr.rel ?_
  intro g1 a1 w1 hr1 hs1
  have hy1 : RY caps lb J Jx ⟨s1, k, true⟩ a1 w1 := RY.of (S' := ⟨s1, k, true⟩) hr hJ hJx hr1 hn1 hs1.1 (fun j hj => hs1.2 _ (hwr j hj))
  rw [wpOpsIn_cons]
  unfold wpOpIn
  rw [ho]
  simp only [wantD_wanted hy1.rel hw, if_true]
  refine ⟨fun f _ => Fw_fn none f, ?_⟩
  have hnd' : Oper.noDefer o = true := by unfold Oper.noDefer; rw [hop]
  rw [semAt_plain o _ _ hnd']
  have hfv : VR w1 (bsN w1).N (fun k => ¬ bad ghN ⟨s1, [], [], 0⟩ k) (.yl l) (a1.eval f) := hy1.rel.ev hf
  have hfe : a1.eval f = .func (.yield l) #[] #[] := by
    generalize a1.eval f = v at hfv
    cases hfv; rfl
  obtain ⟨e1, e2⟩ := evL_get hds
  have hargs : args.map a1.eval = encs x := by
    refine hex x w1 Any Any _ (by simp [e1]) (fun j d hj => ?_)
    obtain ⟨y, h3, h4⟩ := e2 j d hj
    rw [Array.getElem?_toList] at h3
    have h5 : (args.map a1.eval).getD j undef = a1.eval y := getD_of_get (by rw [Array.getElem?_map, h3]; rfl)
    rw [h5]
    have h6 := hy1.rel.evN h4
    have htk : d.tok = false := by simpa using List.all_eq_true.1 hnt d (List.mem_of_getElem? hj)
    exact (h6.toVr htk).mono (fun _ _ _ => rfl) (Nat.le_refl _) (fun _ _ _ => trivial) (fun _ _ _ => trivial)
  obtain ⟨fn, tmps, assign, body, hrun, hround⟩ := hy k x w1 hx hy1.inv
  have hsem : (execOp a1.eval o).run P w1 = .ok (.round l fn tmps assign body) w1 := by
    unfold execOp; rw [hop]
    simp only [resolve, hfe, Deferred.ofValue, Sem.run_bind, Sem.run_pure, Result.andThen_ok, invoke, hargs]
    simpa using hrun
  rw [hsem, Oper.uponIn_round]
  refine ⟨fun h => (by rw [Fw_depth] at h; cases h), roundIn_n (Fw_depth none) (RoundIn.mono' hround ?_)⟩
  have next : ∀ (b : Bool) (W : World), (if b then J (k + 1) W else Jx (k + 1) W) → wpOpsIn (Fw none) n P ops K l2 (a1.put o.dst (.bool b)) W := by
    intro b W hinv
    obtain ⟨s2, hd2, hn2, hq⟩ := hpost b
    have hcaps' : TB W ∧ ∀ i d, caps[i]? = some d → VR W Any Any d (lb.getD i undef) := by
      cases b with
      | true => exact hcap _ _ hinv
      | false => exact hcapx _ _ hinv
    obtain ⟨htb, hcaps⟩ := hcaps'
    have hm : o ∈ ops.toList := by rw [← Array.getElem?_toList] at ho; exact List.mem_of_getElem? ho
    have htw : t ∈ wrOps ops := List.mem_filterMap.2 ⟨o, hm, hdst⟩
    have hput : ∀ u, u ≠ t → (a1.put o.dst (.bool b)).tmps.getD u undef = a1.tmps.getD u undef := by
      intro u hu
      rw [hdst]; simp only [Act.put]
      rw [Array.getD_eq_getD_getElem?, Array.getElem?_setIfInBounds, if_neg (fun e => hu e.symm), ← Array.getD_eq_getD_getElem?]
    have hry : RY caps lb J Jx ⟨(yS caps s1).set t (.bool b), k + 1, b⟩ (a1.put o.dst (.bool b)) W := by
      refine { size := ?_, slot := ?_, dfr := ?_, cap := ?_, inv := hinv, tb := htb }
      · rw [hdst]; simp [Act.put, yS_length hlen]; exact hy1.size
      · intro u d hu
        rw [List.getElem?_set] at hu
        split at hu
        · rename_i e
          subst e
          split at hu
          · rename_i hlt
            obtain rfl := (by simpa using hu : _ = d)
            have : t < a1.tmps.size := by rw [hy1.size]; rw [yS_length hlen] at hlt; exact hlt
            rw [hdst]; simp only [Act.put]
            rw [Array.getD_eq_getD_getElem?, Array.getElem?_setIfInBounds]
            simp [this]
            exact .bool b
          · cases hu
        · rename_i e
          rw [hput u (fun h => e h.symm)]
          rcases yS_get hlen hu with ⟨d0, h1, rfl⟩ | ⟨j, rfl, h1⟩
          · exact (hy1.slot u d0 h1).flatS
          · rw [hy1.cap j (List.getElem?_eq_some_iff.1 h1).1]
            exact hcaps j d h1
      · rw [hdst]; exact hy1.dfr
      · intro j hj
        rw [hput (1 + j) (fun e => hwr j hj (e ▸ htw))]
        exact hy1.cap j hj
    have := hd2.sound hry.rel (ro := none) (n := n) (Q := K) (fun g' a' w' hr' hs' => hK _ _ a' w' hq (RY.of (S' := ⟨(yS caps s1).set t (.bool b), k + 1, b⟩) hry hJ hJx hr' hn2 hs'.1 (fun j hj => hs'.2 _ (hwr j hj))))
    exact this
  rintro e W' (⟨rfl, hj⟩ | ⟨rfl, hj⟩)
  · exact next true W' hj
  · exact next false W' hj
end
end Go.PM

namespace Go.PM
variable [Tbl]
set_option linter.unusedSectionVars false
open Go.RowKit
set_option linter.unusedSimpArgs false
set_option linter.unusedVariables false
variable {P : Program}

theorem seqok_of {α : Type} {encs : α → Array Value} {xs : List α} {caps : List DV} {f : FuncId} {fn : Func} {c : Code} (hf : P.funcs[f]? = some fn) (hb : fn.body = some c) (hres : fn.results = #[])
    (h : ∀ (l : Nat) (lb : Array Value) (J Jx : Nat → World → Prop),
      (∀ k W W', J k W → W.grownBy W' none → J k W') → (∀ k W W', Jx k W → W.grownBy W' none → Jx k W') →
      (∀ k W, J k W → TB W ∧ ∀ i d, caps[i]? = some d → VR W Any Any d (lb.getD i undef)) → (∀ k W, Jx k W → TB W ∧ ∀ i d, caps[i]? = some d → VR W Any Any d (lb.getD i undef)) →
      (∀ k x W1, xs[k]? = some x → J k W1 → YieldAt Fence.wide 0 P l (encs x) W1 fun e W' => (e = .returned (.bool true) ∧ J (k + 1) W') ∨ (e = .returned (.bool false) ∧ Jx (k + 1) W')) →
      ExG (RY caps lb J Jx) P c ⟨[.yl l] ++ caps ++ List.replicate (fn.ntmps - (1 + caps.length)) .top, 0, true⟩ (fun e S => (e = .normal ∨ e = .ret) ∧ ((S.k = xs.length ∧ S.on = true) ∨ (S.on = false ∧ S.k ≤ xs.length)))) : SeqOk P f caps encs xs := by
  intro l lb J Jx W hlb hJ hJx hcap hcapx hy h0
  refine (callsIn_wide (n := 0)).1 (callsIn_of_wp_marks hf hb trivial ?_)
  have hsz : (#[Value.func (.yield l) #[] #[]] ++ lb).size = 1 + caps.length := by simp [hlb]
  have hry : RY caps lb J Jx ⟨[.yl l] ++ caps ++ List.replicate (fn.ntmps - (1 + caps.length)) .top, 0, true⟩ { tmps := #[Value.func (.yield l) #[] #[]] ++ lb ++ Array.replicate (fn.ntmps - (#[Value.func (.yield l) #[] #[]] ++ lb).size) undef, defers := [] } W := by
    refine { size := ?_, slot := ?_, dfr := rfl, cap := ?_, inv := h0, tb := (hcap 0 W h0).1 }
    · rw [hsz]; simp [hlb]; omega
    · intro i d hd
      by_cases hi0 : i = 0
      · subst hi0
        obtain rfl := (by simpa using hd : _ = d)
        have : (#[Value.func (.yield l) #[] #[]] ++ lb ++ Array.replicate (fn.ntmps - (#[Value.func (.yield l) #[] #[]] ++ lb).size) undef).getD 0 undef = .func (.yield l) #[] #[] := by
          apply getD_of_get
          rw [Array.getElem?_append_left (by simp; omega), Array.getElem?_append_left (by simp)]; rfl
        simp only [this]
        exact .yl l
      · obtain ⟨j, rfl⟩ : ∃ j, i = 1 + j := ⟨i - 1, by omega⟩
        by_cases hj : j < caps.length
        · rw [List.getElem?_append_left (by simp; omega), List.getElem?_append_right (by simp)] at hd
          have e : 1 + j - [DV.yl l].length = j := by simp
          rw [e] at hd
          have : (#[Value.func (.yield l) #[] #[]] ++ lb ++ Array.replicate (fn.ntmps - (#[Value.func (.yield l) #[] #[]] ++ lb).size) undef).getD (1 + j) undef = lb.getD j undef := by
            rw [Array.getD_eq_getD_getElem?, Array.getD_eq_getD_getElem?, Array.getElem?_append_left (by rw [hsz]; omega), Array.getElem?_append_right (by simp)]
            simp
          simp only [this]
          exact (hcap 0 W h0).2 j d hd
        · rw [List.getElem?_append_right (by simp; omega)] at hd
          have := List.mem_of_getElem? hd
          rw [(List.mem_replicate.1 this).2]
          exact .top _
    · intro j hj
      show (#[Value.func (.yield l) #[] #[]] ++ lb ++ Array.replicate (fn.ntmps - (#[Value.func (.yield l) #[] #[]] ++ lb).size) undef).getD (1 + j) undef = lb.getD j undef
      rw [Array.getD_eq_getD_getElem?, Array.getD_eq_getD_getElem?, Array.getElem?_append_left (by rw [hsz]; omega), Array.getElem?_append_right (by simp)]
      simp
  refine h l lb J Jx hJ hJx hcap hcapx hy _ W hry 0 _ ?_
  rintro e S a' w' ⟨he, hS⟩ hr
  have key : LeavesInM Fence.wide 0 P fn a'.tmps (fun e W' => (∃ v, e = .returned v) ∧ (J xs.length W' ∨ ∃ k, k ≤ xs.length ∧ Jx k W')) a'.defers .returning w' := by
    rw [hr.dfr]
    refine ⟨.tuple #[], ?_, ⟨_, rfl⟩, ?_⟩
    · exact results_none hres _ _ _
    · have hi := hr.inv
      rcases hS with ⟨h1, h2⟩ | ⟨h1, h2⟩
      · rw [h2, h1] at hi; exact .inl hi
      · rw [h1] at hi; exact .inr ⟨_, h2, hi⟩
  rcases he with rfl | rfl <;> exact key
end Go.PM

namespace Go.PM
variable [Tbl]
set_option linter.unusedSectionVars false
open Go.RowKit
set_option linter.unusedSimpArgs false
set_option linter.unusedVariables false
variable {P : Program} {A : St}
def foldO {α σ : Type} (step : α → σ → Option σ) : List α → σ → Option σ
  | [], s => some s
  | x :: l, s => (step x s).bind (foldO step l)
def topB (s : List DV) (l : List Tmp) : Bool := l.all fun i => match s[i]? with | some .top => true | none => true | _ => false
theorem ex_rangeX {α σ : Type} {encs : α → Array Value} {encD : α → List DV} {xs : List α} {f : FuncId} {caps : List DV} {go : Operand} {ps : Array Tmp} {assign body : Code} {Q : Exit → St → Prop} {s : List DV} {b : List (Option (List DV))} {r : List (Option Row)}
    {step : α → σ → Option σ} (encb : σ → List (Option (List DV))) (encr : σ → List (Option Row)) {s0 s1 : σ} (h : foldO step xs s0 = some s1) (hg : (⟨s, b, r, 0⟩ : St).ev go = some (.fn f caps)) (hen : EntersF P f) (hseq : SeqOk P f caps encs xs)
    (henc : ∀ x, (encs x).size = ps.size ∧ (encD x).length = ps.size ∧ ∀ (w : World) (N ok : Nat → Prop) (j : Nat) (d : DV), (encD x)[j]? = some d → VR w N ok d ((encs x).getD j undef))
    (htop : topB s (ps.toList ++ wr assign ++ wr body) = true) (hb0 : b = encb s0) (hr0 : r = encr s0)
    (hQ : Q .normal ⟨s, encb s1, encr s1, 0⟩)
    (hstep : ∀ x t t', step x t = some t' → Ex false P assign ⟨setPs s (ps.toList.zip (encD x)), encb t, encr t, 0⟩ (thenE (fun A1 => Ex false P body A1 (fun e A2 => e = .normal ∧ ∃ A', Gst A2 A' ∧ A' = ⟨s, encb t', encr t', 0⟩)) (fun _ _ => False))) : Ex true P (.rangeFunc go ps assign body) ⟨s, b, r, 0⟩ Q := by
  subst hb0; subst hr0
  refine ex_range (A := ⟨s, encb s0, encr s0, 0⟩) (encD := encD) (fun k b r => ∃ t, foldO step (xs.drop k) t = some s1 ∧ b = encb t ∧ r = encr t) rfl hg hen hseq henc ?_ ⟨s0, h, rfl, rfl⟩ ?_
  · rintro k x b r hx ⟨t, ht, rfl, rfl⟩
    have hdrop : xs.drop k = x :: xs.drop (k + 1) := by
      obtain ⟨hk, hx⟩ := List.getElem?_eq_some_iff.1 hx
      rw [← hx]; exact List.drop_eq_getElem_cons hk
    rw [hdrop] at ht
    obtain ⟨t', h1, h2⟩ := bindS (f := foldO step (xs.drop (k + 1))) ht
    refine (hstep x t t' h1).mono ?_
    intro e A1 hq
    cases e with
    | normal =>
      refine Ex.post (Ex.mono hq ?_)
      rintro e A2 ⟨rfl, A', hg', rfl⟩
      refine ⟨_, hg', rfl, ?_, t', h2, rfl, rfl⟩
      intro i d hi
      by_cases hm : i ∈ ps.toList ++ wr assign ++ wr body
      · left
        have := List.all_eq_true.1 htop i hm
        simp only at hi
        rw [hi] at this
        cases d <;> first | rfl | cases this
      · exact .inr ⟨hi, hm⟩
    | _ => exact hq
  · rintro b r ⟨t, ht, rfl, rfl⟩
    rw [List.drop_length] at ht
    obtain rfl : t = s1 := by simpa [foldO] using ht
    exact hQ
end Go.PM

namespace Go.PM
variable [Tbl]
set_option linter.unusedSectionVars false
open Go.RowKit
set_option linter.unusedSimpArgs false
set_option linter.unusedVariables false
variable {P : Program}
def iterY {σ Y : Type} (step : σ → Option (Option (Y × σ))) : Nat → σ → Option (List Y)
  | 0, _ => none
  | n + 1, s => match step s with
    | none => none
    | some none => some []
    | some (some (y, s')) => (iterY step n s').map (y :: ·)
theorem ExG.mono {S : Type} {R : S → Act → World → Prop} {c : Code} {A : S} {Q Q' : Exit → S → Prop} (h : ExG R P c A Q) (hq : ∀ e S, Q e S → Q' e S) : ExG R P c A Q' :=
  fun a w hr n K hK => h a w hr n K (fun e A2 a' w' q => hK e A2 a' w' (hq e A2 q))
theorem exg_iter {σ Y : Type} {R : YS → Act → World → Prop} {c : Code} {Q : Exit → YS → Prop} {step : σ → Option (Option (Y × σ))} (enc : σ → List DV) (id : Nat) {xs : List Y} {n k : Nat} {s0 : σ} (h : iterY step n s0 = some (xs.drop k)) (hk : k ≤ xs.length)
    (hend : ∀ S : YS, S.k = xs.length → S.on = true → Q (.exit id) S) (hoff : ∀ S : YS, S.on = false → S.k ≤ xs.length → Q .ret S)
    (round : ∀ s k y, step s = some y → (∀ v s', y = some (v, s') → xs[k]? = some v) → ExG R P c ⟨enc s, k, true⟩ (fun e S => (e = .normal ∧ ∃ v s', y = some (v, s') ∧ S = ⟨enc s', k + 1, true⟩) ∨ (e = .exit id ∧ y = none ∧ S.k = k ∧ S.on = true) ∨ (e = .ret ∧ S.on = false ∧ S.k = k + 1 ∧ ∃ v, y = some v))) : ExG R P (.loop c) ⟨enc s0, k, true⟩ Q := by
  refine exg_loop (fun m S => ∃ s k, S = ⟨enc s, k, true⟩ ∧ k ≤ xs.length ∧ iterY step m s = some (xs.drop k)) ?_ n ⟨s0, k, rfl, hk, h⟩
  rintro m S ⟨s, k, rfl, hk, hi⟩
  cases m with
  | zero => cases hi
  | succ m =>
    simp only [iterY] at hi
    cases hs : step s with
    | none => rw [hs] at hi; cases hi
    | some y =>
      rw [hs] at hi
      have hx : ∀ v s', y = some (v, s') → xs[k]? = some v ∧ iterY step m s' = some (xs.drop (k + 1)) := by
        rintro v s' rfl
        simp only at hi
        cases hm : iterY step m s' with
        | none => rw [hm] at hi; cases hi
        | some l =>
          rw [hm] at hi
          have hd : v :: l = xs.drop k := by simpa using hi
          have h0 : xs[k]? = some v := by
            have := congrArg (·[0]?) hd
            simp at this; exact this.symm
          refine ⟨h0, ?_⟩
          have := congrArg (·.drop 1) hd
          simp at this
          rw [this]
      refine (round s k y hs (fun v s' he => (hx v s' he).1)).mono ?_
      rintro e S (⟨rfl, v, s', rfl, rfl⟩ | ⟨rfl, rfl, h1, h2⟩ | ⟨rfl, h1, h2, v, rfl⟩)
      · obtain ⟨h3, h4⟩ := hx v s' rfl
        have hkl := (List.getElem?_eq_some_iff.1 h3).1
        exact ⟨m, by omega, s', k + 1, rfl, by omega, h4⟩
      · refine hend S ?_ h2
        have h3 : xs.drop k = [] := by simpa using hi.symm
        have := List.drop_eq_nil_iff.1 h3
        omega
      · refine hoff S h1 ?_
        obtain ⟨h3, _⟩ := hx v.1 v.2 rfl
        have hkl := (List.getElem?_eq_some_iff.1 h3).1
        omega
section
variable {caps : List DV} {lb : Array Value} {J Jx : Nat → World → Prop}
theorem exg_piece (hJ : ∀ k W W', J k W → W.grownBy W' none → J k W') (hJx : ∀ k W W', Jx k W → W.grownBy W' none → Jx k W') {c : Code} {s : List DV} {k : Nat} {on : Bool} {Q : Exit → YS → Prop} (s3 : List DV) (hw : (List.range caps.length).all (fun j => !(wr c).contains (1 + j)) = true)
    (h : Ex false P c ⟨s, [], [], 0⟩ (fun e A2 => e = .normal ∧ ∃ A', Gst A2 A' ∧ A' = ⟨s3, [], [], 0⟩)) (hn : noTok s3 = true) (hq : Q .normal ⟨s3, k, on⟩) : ExG (RY caps lb J Jx) P c ⟨s, k, on⟩ Q := by
  refine exg_ex hJ hJx (fun j hj => ?_) (h.mono ?_)
  · have := List.all_eq_true.1 hw j (List.mem_range.2 hj)
    simpa using this
  · rintro e A2 ⟨rfl, A', hg, rfl⟩
    exact ⟨s3, hg, hn, hq⟩
theorem exg_yieldW {α : Type} {encs : α → Array Value} {encD : α → List DV} {xs : List α} {l : Nat} {x : α}
    (hJ : ∀ k W W', J k W → W.grownBy W' none → J k W') (hJx : ∀ k W W', Jx k W → W.grownBy W' none → Jx k W')
    (hcap : ∀ k W, J k W → TB W ∧ ∀ i d, caps[i]? = some d → VR W Any Any d (lb.getD i undef)) (hcapx : ∀ k W, Jx k W → TB W ∧ ∀ i d, caps[i]? = some d → VR W Any Any d (lb.getD i undef))
    (hy : ∀ k x W1, xs[k]? = some x → J k W1 → YieldAt Fence.wide 0 P l (encs x) W1 fun e W' => (e = .returned (.bool true) ∧ J (k + 1) W') ∨ (e = .returned (.bool false) ∧ Jx (k + 1) W'))
    (hex : ∀ (x : α) (W : World) (N ok : Nat → Prop) (vs : Array Value), vs.size = (encD x).length → (∀ j d, (encD x)[j]? = some d → VR W N ok d (vs.getD j undef)) → vs = encs x)
    {id i : Nat} {ops : Array Oper} {l1 l2 : List Nat} (hl : List.range ops.size = l1 ++ i :: l2) {s s1 : List DV} {k : Nat} {Q : Exit → YS → Prop} {o : Oper} {f : Operand} {args : Array Operand} {ats : Array TypeId} {t : Tmp} (s2 s3 : Bool → List DV)
    (hlen : 1 + caps.length ≤ s1.length) (hwr : (List.range caps.length).all (fun j => !(wrOps ops).contains (1 + j)) = true)
    (hd1 : WE P ops [] l1 ⟨s, [], [], 0⟩ (fun A => A = ⟨s1, [], [], 0⟩)) (hn1 : noTok s1 = true) (ho : ops[i]? = some o) (hop : o.op = .call { callee := .value f, args := args, argTypes := ats }) (hdst : o.dst = some t) (hw : wantD ops ⟨s1, [], [], 0⟩ o = some true)
    (hf : (⟨s1, [], [], 0⟩ : St).ev f = some (.yl l)) (hds : (⟨s1, [], [], 0⟩ : St).evL args.toList = some (encD x)) (hx : xs[k]? = some x) (hnt : (encD x).all (fun d => !d.tok) = true)
    (h2 : ∀ b, (yS caps s1).set t (.bool b) = s2 b) (h3 : ∀ b, WE P ops [] l2 ⟨s2 b, [], [], 0⟩ (fun A => A = ⟨s3 b, [], [], 0⟩)) (h4 : ∀ b, noTok (s3 b) = true) (h5 : ∀ b, Q .normal ⟨s3 b, k + 1, b⟩) : ExG (RY caps lb J Jx) P (.region id ops false) ⟨s, k, true⟩ Q := by
  obtain ⟨A1, hA1, rfl⟩ := hd1
  refine exg_yield hJ hJx hcap hcapx hy hex hl hlen (fun j hj => ?_) hA1.doL hn1 ho hop hdst hw hf hds hx hnt (fun b => ?_)
  · have := List.all_eq_true.1 hwr j (List.mem_range.2 hj)
    simpa using this
  · obtain ⟨A2, hA2, rfl⟩ := h3 b
    rw [h2 b]
    exact ⟨s3 b, hA2.doL, h4 b, h5 b⟩
end
end Go.PM

namespace Go.PM
variable [Tbl]
set_option linter.unusedSectionVars false
open Go.RowKit
set_option linter.unusedSimpArgs false
set_option linter.unusedVariables false
variable {P : Program}

theorem flat_at {sz : Nat} {xs : List (List DV)} {rest : List DV} (h : ∀ x ∈ xs, x.length = sz) {i j : Nat} {x : List DV} {d : DV} (hi : xs[i]? = some x) (hj : x[j]? = some d) : (xs.flatten ++ rest)[i * sz + j]? = some d := by
  have hjl : j < sz := by rw [← h x (List.mem_of_getElem? hi)]; exact (List.getElem?_eq_some_iff.1 hj).1
  have h1 := flat_get (xs := xs) i j h hjl
  rw [hi] at h1
  have h1 : xs.flatten[i * sz + j]? = some d := by rw [h1]; exact hj
  rw [List.getElem?_append_left (List.getElem?_eq_some_iff.1 h1).1]; exact h1

theorem okB_view {f : FuncId} {args : List DV} {e : TypeId} {sz : Nat} {xs ys : List (List DV)} (hne : xs ≠ []) (hsz : 0 < sz) (hargs : args.all (fun d => !d.tok) = true) (hxs : ∀ x ∈ xs, x.length = sz) (hys : flatOk sz ys)
    (h : ∀ c, xs.length ≤ c → c ≤ maxLen → ∃ (r : DV) (z : List DV) (rr : List Row), OkB P f (.vw 0 0 xs.length c :: args) [xs.flatten ++ List.replicate ((c - xs.length) * sz) .top] [] r [z] rr ∧
      ((∃ rest, r = .vw 0 0 ys.length c ∧ z = ys.flatten ++ rest ∧ ys.length ≤ c ∧ rr = []) ∨ (r = .own 0 ∧ rr = [⟨e, sz, ys⟩]))) :
    OkB P f (.own 0 :: args) [] [⟨e, sz, xs⟩] (.own 0) [] [⟨e, sz, ys⟩] := by
  intro w vs g N hA
  obtain ⟨x0, xs', rfl⟩ := List.exists_cons_of_ne_nil hne
  generalize hX : x0 :: xs' = xs at *
  have hx0 : xs[0]? = some x0 := by rw [← hX]; rfl
  obtain ⟨hp, u, cap, h1, h2, h3, h4, h5, h6, h7⟩ := (hA.row 0 _ rfl).some (ρ := ⟨e, sz, xs⟩) hx0
  simp only at h1 h2 h3 h5 h6 h7
  have hlr0 : lp g (argSt [] [⟨e, sz, xs⟩]) 0 := ⟨argSt_lr.2 (by simp), hp⟩
  have hm : ∀ k, mutb g (argSt [] [⟨e, sz, xs⟩]) k ↔ k = g.tm 0 := by
    intro k
    constructor
    · rintro (⟨i, hi, _⟩ | ⟨t, ⟨ht, _⟩, rfl⟩)
      · have := argSt_lb.1 hi; simp at this
      · have := argSt_lr.1 ht; simp at this; rw [this]
    · rintro rfl; exact .inr ⟨0, hlr0, rfl⟩
  obtain ⟨r, z, rr, hOk, hcase⟩ := h cap h3 h4
  generalize hcs : xs.flatten ++ List.replicate ((cap - xs.length) * sz) DV.top = cells at hOk
  let g1 : Gh := { bm := fun _ => g.tm 0, bo := fun _ => 0, tm := g.tm, tv := g.tv, pl := fun _ => false, no := g.no }
  have hm1 : ∀ k, mutb g1 (argSt [cells] []) k ↔ k = g.tm 0 := by
    intro k
    constructor
    · rintro (⟨i, hi, rfl⟩ | ⟨t, ⟨_, ht⟩, _⟩)
      · rfl
      · cases ht
    · rintro rfl; exact .inl ⟨0, argSt_lb.2 (by simp), rfl⟩
  have hbad1 : ∀ k, bad g1 (argSt [cells] []) k ↔ bad g (argSt [] [⟨e, sz, xs⟩]) k := fun k => or_congr Iff.rfl ((hm1 k).trans (hm k).symm)
  have hvr1 : ∀ {d : DV} {v : Value}, VR w N (fun k => ¬ bad g (argSt [] [⟨e, sz, xs⟩]) k) d v → VR w N (fun k => ¬ bad g1 (argSt [cells] []) k) d v := fun hv => hv.mono (fun _ _ _ => rfl) (Nat.le_refl _) (fun k hk _ => by rw [hbad1]; exact hk) (fun _ h _ => h)
  have hfl : xs.flatten.length = xs.length * sz := flat_len hxs
  have hcl : cells.length = cap * sz := by
    rw [← hcs]; simp only [List.length_append, hfl, List.length_replicate]
    rw [← Nat.add_mul]; congr 1; omega
  have hv0 : vs.getD 0 undef = .slice (some ⟨g.tm 0, 0, none⟩) xs.length cap := by
    have h8 := hA.arg 0 (.own 0) rfl
    rw [h8.2 hlr0.1, h2]
  have hA1 : ArgsR g1 w N (.vw 0 0 xs.length cap :: args) [cells] [] vs := by
    refine { size := by have := hA.size; simpa using this, arg := ?_, box := ?_, row := fun t ρ hx => by simp at hx, bb := ?_, rr := ?_, br := ?_, mN := ?_, nn := ?_, new := hA.new, tb := hA.tb, mG := fun k hk => hA.mG k ((hm k).2 ((hm1 k).1 hk)) }
    · intro i d hd
      cases i with
      | zero =>
        obtain rfl : DV.vw 0 0 xs.length cap = d := by simpa using hd
        exact ⟨by simp [argSt], fun _ => hv0⟩
      | succ i =>
        have hd' : args[i]? = some d := by simpa using hd
        have ht : d.tok = false := by simpa using List.all_eq_true.1 hargs d (List.mem_of_getElem? hd')
        exact SR.vr (hvr1 ((hA.arg (i + 1) d (by simpa using hd')).toVr ht))
    · intro i cs hc
      cases i with
      | succ i => simp at hc
      | zero =>
        obtain rfl : cells = cs := by simpa using hc
        refine ⟨u, e, h1, by show 0 + cells.length ≤ u.size; omega, fun j d hj => ?_⟩
        show _ ∧ SR g1 _ w N d (u.getD (0 + j) undef)
        rw [Nat.zero_add]
        rw [← hcs] at hj
        by_cases hjl : j < xs.flatten.length
        · rw [List.getElem?_append_left hjl] at hj
          have e1 : j / sz * sz + j % sz = j := by rw [Nat.mul_comm]; exact Nat.div_add_mod j sz
          have h9 := flat_get (xs := xs) (j / sz) (j % sz) hxs (Nat.mod_lt _ hsz)
          rw [e1, hj] at h9
          cases hq : xs[j / sz]? with
          | none => rw [hq] at h9; cases h9
          | some x =>
            rw [hq] at h9
            obtain ⟨h10, h11, h12⟩ := h7 (j / sz) x (j % sz) d hq h9.symm
            rw [e1] at h12
            exact ⟨.inl h10, SR.vr (hvr1 h12)⟩
        · rw [List.getElem?_append_right (by omega), List.getElem?_replicate] at hj
          split at hj
          · obtain rfl : DV.top = d := by simpa using hj
            exact ⟨.inr rfl, SR.vr (.top _)⟩
          · cases hj
    · intro i j hi hj _
      have hi := argSt_lb.1 hi; have hj := argSt_lb.1 hj
      simp at hi hj; omega
    · rintro i j ⟨_, hi⟩; cases hi
    · rintro i j _ ⟨_, hi⟩; cases hi
    · intro k hk
      exact hA.mN k ((hm k).2 ((hm1 k).1 hk))
    · intro k hk
      refine ⟨(hA.nn k hk).1, fun h8 => (hA.nn k hk).2 ((hm k).2 ((hm1 k).1 h8))⟩
  refine (hOk w vs g1 N hA1).mono ?_
  rintro e' w' ⟨v, g', rfl, hR⟩
  have hblock : ∀ k, k < w.heap.size → ¬ mutb g (argSt [] [⟨e, sz, xs⟩]) k → w'.heap[k]? = w.heap[k]? := fun k hk h8 => hR.block k hk (fun h9 => h8 ((hm k).2 ((hm1 k).1 h9)))
  obtain ⟨f1, f2⟩ := hR.bfix 0 (by simp)
  have f1 : g'.bm 0 = g.tm 0 := f1
  have f2 : g'.bo 0 = 0 := f2
  have hno : g'.no = g.no := hR.no
  have hmN := hA.mN (g.tm 0) ((hm _).2 rfl)
  rcases hcase with ⟨rest, rfl, rfl, hle, rfl⟩ | ⟨rfl, rfl⟩
  · have hv : v = .slice (some ⟨g'.bm 0, g'.bo 0 + 0, none⟩) ys.length cap := hR.res.2 (argSt_lb.2 (by simp))
    rw [f1, f2] at hv
    obtain ⟨hyl, u0, u', e0, k1, k2, k3, k4, k5⟩ := hR.bout 0 _ _ rfl rfl
    have k1 : w.heap[g.tm 0]? = some (.cells u0 e0 (0, 0)) := k1
    have k2 : w'.heap[g.tm 0]? = some (.cells u' e0 (0, 0)) := k2
    rw [h1] at k1; cases k1
    obtain ⟨ub, eb, b1, b2, b3⟩ := hR.box 0 _ rfl
    rw [f1, k2] at b1; cases b1
    rw [f2] at b2 b3
    let g2 : Gh := { bm := fun _ => 0, bo := fun _ => 0, tm := fun _ => g.tm 0, tv := fun _ => v, pl := fun _ => true, no := g.no }
    have hm2 : ∀ k, mutb g2 (argSt [] [⟨e, sz, ys⟩]) k ↔ k = g.tm 0 := by
      intro k
      constructor
      · rintro (⟨i, hi, _⟩ | ⟨t, _, rfl⟩)
        · have := argSt_lb.1 hi; simp at this
        · rfl
      · rintro rfl; exact .inr ⟨0, ⟨argSt_lr.2 (by simp), rfl⟩, rfl⟩
    have hvr2 : ∀ {d : DV} {v : Value}, VR w' N (fun k => ¬ bad g' (argSt [ys.flatten ++ rest] []) k) d v → VR w' N (fun k => ¬ bad g2 (argSt [] [⟨e, sz, ys⟩]) k) d v := fun hv => hv.mono (fun _ _ _ => rfl) (Nat.le_refl _) (fun k hk _ => by
      rintro (h8 | h8)
      · exact hk (.inl (by rw [hno]; exact h8))
      · rw [hm2] at h8; exact hk (.inr (.inl ⟨0, argSt_lb.2 (by simp), by rw [f1, h8]⟩))) (fun _ h _ => h)
    have hysl : ∀ y ∈ ys, y.length = sz := fun y hy => (hys y hy).1
    refine ⟨v, g2, rfl, { os := hR.os, tape := hR.tape, output := hR.output, size := hR.size, block := hblock, oth := hR.oth, no := rfl, res := ⟨by simp [argSt], fun _ => rfl⟩, box := fun i cs hc => by simp at hc, blen := rfl, bfix := fun i hi => by simp at hi, bout := fun i cs cs' hc => by simp at hc, row := ?_, inj := ?_, br := ?_, from_ := ?_ }⟩
    · intro t ρ hρ
      cases t with
      | succ t => simp at hρ
      | zero =>
        obtain rfl : (⟨e, sz, ys⟩ : Row) = ρ := by simpa using hρ
        refine .inr ⟨rfl, u', cap, k2, hv, hle, h4, by show u'.size = cap * sz; omega, fun i y hy => hysl y (List.mem_of_getElem? hy), fun i y j d hy hd => ?_⟩
        have h8 := hys y (List.mem_of_getElem? hy)
        have h9 := h8.2 d (List.mem_of_getElem? hd)
        obtain ⟨_, h11⟩ := b3 (i * sz + j) d (flat_at hysl hy hd)
        rw [Nat.zero_add] at h11
        exact ⟨h9.1, h9.2, hvr2 (h11.toVr h9.2)⟩
    · intro i j hi hj _
      have hi := argSt_lr.1 hi.1; have hj := argSt_lr.1 hj.1
      simp at hi hj; omega
    · intro i j hi
      have := argSt_lb.1 hi; simp at this
    · intro t ht
      exact ⟨.inr ((hm _).2 rfl), Nat.lt_of_lt_of_le hmN.2 hR.size⟩
  · have hsub : ∀ k, ¬ bad g' (argSt [z] [⟨e, sz, ys⟩]) k → ¬ bad g' (argSt [] [⟨e, sz, ys⟩]) k := by
      rintro k hk (h8 | ⟨i, hi, _⟩ | ⟨t, ht, h9⟩)
      · exact hk (.inl h8)
      · have := argSt_lb.1 hi; simp at this
      · exact hk (.inr (.inr ⟨t, ⟨argSt_lr.2 (argSt_lr.1 ht.1), ht.2⟩, h9⟩))
    have hlp : ∀ t, lp g' (argSt [] [⟨e, sz, ys⟩]) t → lp g' (argSt [z] [⟨e, sz, ys⟩]) t := fun t ht => ⟨argSt_lr.2 (argSt_lr.1 ht.1), ht.2⟩
    refine ⟨v, g', rfl, { os := hR.os, tape := hR.tape, output := hR.output, size := hR.size, block := hblock, oth := hR.oth, no := hno, res := ?_, box := fun i cs hc => by simp at hc, blen := rfl, bfix := fun i hi => by simp at hi, bout := fun i cs cs' hc => by simp at hc, row := ?_, inj := fun i j hi hj => hR.inj i j (hlp i hi) (hlp j hj), br := ?_, from_ := ?_ }⟩
    · exact ⟨by simp [argSt], fun hl => hR.res.2 (argSt_lr.2 (argSt_lr.1 hl))⟩
    · intro t ρ hρ
      rcases hR.row t ρ hρ with h8 | ⟨hp', u', cap', k1, k2, k3, k4, k5, k6, k7⟩
      · exact .inl h8
      · exact .inr ⟨hp', u', cap', k1, k2, k3, k4, k5, k6, fun i x j d hx hd => ⟨(k7 i x j d hx hd).1, (k7 i x j d hx hd).2.1, (k7 i x j d hx hd).2.2.mono (fun _ _ _ => rfl) (Nat.le_refl _) (fun k hk _ => hsub k hk) (fun _ h _ => h)⟩⟩
    · intro i j hi
      have := argSt_lb.1 hi; simp at this
    · intro t ht
      obtain ⟨h8, h9⟩ := hR.from_ t (hlp t ht)
      exact ⟨h8.imp id (fun h10 => (hm _).2 ((hm1 _).1 h10)), h9⟩
end Go.PM

namespace Go.PM
variable [Tbl]
set_option linter.unusedSectionVars false
open Go.RowKit
set_option linter.unusedSimpArgs false
set_option linter.unusedVariables false
section
variable {P : Program} {A : St} {o : Oper}
theorem x_sliceV {t e : TypeId} {x : Operand} {lo hi : Option Operand} {b off len cap : Nat} {cs : List DV} {l u : Int} {n : Nat} (off' n' c' : Nat) (ho : o.op = .slice t x lo hi none) (hx : A.ev x = some (.vw b off len cap)) (hb : A.b[b]? = some (some cs)) (he : elemT P t = some e) (hn : szT P e = some n)
    (hlo : loIs A lo l) (hhi : hiIs A len hi u) (h0 : 0 ≤ l) (h1 : l ≤ u) (h2 : u ≤ cap) (e1 : (if cap = l.toNat then off else off + l.toNat * n) = off') (e2 : u.toNat - l.toNat = n') (e3 : cap - l.toNat = c') : XP P o A (.vw b off' n' c') := by
  subst e1; subst e2; subst e3
  exact .sliceV ho hx hb he hn hlo hhi h0 h1 h2
end
theorem splice_take_lo {α : Type} {l m : List α} {off k : Nat} (hk : k ≤ off) (h : off ≤ l.length) : (splice l off m).take k = l.take k := by
  unfold splice
  rw [List.append_assoc, List.take_append_of_le_length (by simp; omega), List.take_take, Nat.min_eq_left hk]
theorem splice_take_hi {α : Type} {l m : List α} {off : Nat} (h : off ≤ l.length) : (splice l off m).take (off + m.length) = l.take off ++ m := by
  unfold splice
  exact List.take_left' (by simp; omega)
theorem flat_take {sz : Nat} {X : List (List DV)} {T : List DV} {n : Nat} (h : ∀ x ∈ X, x.length = sz) (hn : n ≤ X.length) : (X.flatten ++ T).take (n * sz) = (X.take n).flatten := by
  have h2 : (X.take n).flatten.length = n * sz := by
    rw [flat_len (fun x hx => h x (List.mem_of_mem_take hx))]; simp; rw [Nat.min_eq_left hn]
  have h1 : X.flatten ++ T = (X.take n).flatten ++ ((X.drop n).flatten ++ T) := by
    rw [← List.append_assoc, ← List.flatten_append, List.take_append_drop]
  rw [h1]
  exact List.take_left' h2
def NT (l : List DV) : Prop := ∀ d ∈ l, d.tok = false
theorem NT.app {l m : List DV} (h : NT l) (k : NT m) : NT (l ++ m) := fun d hd => (List.mem_append.1 hd).elim (h d) (k d)
theorem NT.splice {l m : List DV} {off : Nat} (h : NT l) (k : NT m) : NT (splice l off m) := fun d hd => by
  unfold PM.splice at hd
  rcases List.mem_append.1 hd with hd | hd
  · rcases List.mem_append.1 hd with hd | hd
    · exact h d (List.mem_of_mem_take hd)
    · exact k d hd
  · exact h d (List.mem_of_mem_drop hd)
theorem NT.flat {n : Nat} {X : List (List DV)} (h : flatOk n X) : NT X.flatten := fun d hd => by
  obtain ⟨x, hx, hd⟩ := List.mem_flatten.1 hd
  exact ((h x hx).2 d hd).2
theorem NT.rep (n : Nat) : NT (List.replicate n DV.top) := fun d hd => by rw [List.eq_of_mem_replicate hd]; rfl
theorem flatOk_rep {n : Nat} {z : List DV} {k : Nat} (h : z.length = n) (hz : z.all (fun d => d.one && !d.tok) = true) : flatOk n (List.replicate k z) := fun x hx => by
  rw [List.eq_of_mem_replicate hx]
  refine ⟨h, fun d hd => ?_⟩
  have := List.all_eq_true.1 hz d hd
  simpa using this
theorem NT.res {l : List DV} {toks : List Nat} (h : NT l) : [l].all (fun c => c.all (resOk toks)) = true := by
  simp only [List.all_cons, List.all_nil, Bool.and_true]
  refine List.all_eq_true.2 (fun d hd => ?_)
  have := h d hd
  cases d <;> first | rfl | cases this
theorem NT.ren {l : List DV} {f : Nat → Nat} (h : NT l) : [l] = [l].map (List.map (DV.ren f)) := by
  have : l.map (DV.ren f) = l := (List.map_congr_left (fun d hd => by
    have := h d hd
    cases d <;> first | rfl | cases this)).trans (List.map_id l)
  simp [this]
theorem ASrc.all {A : St} {sz : Nat} {y : Operand} {dy : DV} {xs : List (List DV)} (hsz : 0 < sz) (hy : A.ev y = some dy) (hx : A.elems dy = some xs) (hf : flatOk sz xs) : ASrc A sz xs.length y xs.length xs.flatten := by
  have := ASrc.sl hsz hy hx hf (Nat.le_refl xs.length)
  rwa [List.take_length] at this
end Go.PM

namespace Go.PM
variable [Tbl]
set_option linter.unusedSectionVars false
open Go.RowKit
def fuel : Nat := 73786976294838206464
def bit_and (k : IntKind) (x y : Int) : Int := k.wrap (BitVec.ofInt k.bits x &&& BitVec.ofInt k.bits y).toNat
def bit_or (k : IntKind) (x y : Int) : Int := k.wrap (BitVec.ofInt k.bits x ||| BitVec.ofInt k.bits y).toNat
def bit_andNot (k : IntKind) (x y : Int) : Int := k.wrap (BitVec.ofInt k.bits x &&& ~~~ BitVec.ofInt k.bits y).toNat
def quoO (k : IntKind) (x y : Int) : Option Int := if y = 0 then none else some (k.wrap (x.tdiv y))

inductive ES where
  | int (k : IntKind) (n : Int)
  | bool (b : Bool)
  | str (l : List UInt8)
inductive EV where
  | sc (e : ES)
  | agg (l : List ES)
def ES.toV : ES → Value
  | .int k n => .int k n
  | .bool b => .bool b
  | .str l => .string (bs l)
def ES.toD : ES → DV
  | .int k n => .int k n
  | .bool b => .bool b
  | .str l => .str (bs l)
def EV.toV : EV → Value
  | .sc e => e.toV
  | .agg l => .agg (l.map ES.toV).toArray
def EV.toD : EV → DV
  | .sc e => e.toD
  | .agg l => .agg (l.map ES.toD)
theorem ES.vr (e : ES) {w : World} {N ok : Nat → Prop} : VR w N ok e.toD e.toV := by
  cases e
  · exact .int _ _
  · exact .bool _
  · exact .str _
theorem ES.ex (e : ES) {w : World} {N ok : Nat → Prop} {v : Value} (h : VR w N ok e.toD v) : v = e.toV := by
  cases e <;> cases h <;> rfl
theorem getD_map {l : List ES} {i : Nat} {e : ES} (h : l[i]? = some e) : ((l.map ES.toV).toArray).getD i undef = e.toV := getD_of_get (by simp [h])
theorem EV.vr (e : EV) {w : World} {N ok : Nat → Prop} : VR w N ok e.toD e.toV := by
  cases e with
  | sc e => exact e.vr
  | agg l =>
    refine .agg _ _ (by simp) (fun i d hd => ?_)
    rw [List.getElem?_map] at hd
    cases hq : l[i]? with
    | none => rw [hq] at hd; cases hd
    | some e =>
      rw [hq] at hd
      obtain rfl : e.toD = d := by simpa using hd
      rw [getD_map hq]; exact e.vr
theorem EV.ex (e : EV) {w : World} {N ok : Nat → Prop} {v : Value} (h : VR w N ok e.toD v) : v = e.toV := by
  cases e with
  | sc e => exact e.ex h
  | agg l =>
    have h' : VR w N ok (.agg (l.map ES.toD)) v := h
    cases h' with
    | agg _ vs hl hd =>
      have : vs = (l.map ES.toV).toArray := by
        apply Array.ext_getElem?
        intro i
        by_cases hi : i < l.length
        · have h1 := hd i (l[i].toD) (by simp [hi])
          have h2 := l[i].ex h1
          have h3 : i < vs.size := by rw [hl]; simpa using hi
          have h4 : vs.getD i undef = vs[i] := by simp [Array.getD, h3]
          rw [h4] at h2
          rw [Array.getElem?_eq_getElem h3, h2]; simp [hi]
        · rw [Array.getElem?_eq_none (by rw [hl]; simpa using hi), Array.getElem?_eq_none (by simpa using hi)]
      rw [this]; rfl
theorem encV_vr {vs : List EV} {encs : Array Value} {encD : List DV} {w : World} {N ok : Nat → Prop} {j : Nat} {d : DV} (h1 : encs = (vs.map EV.toV).toArray) (h2 : encD = vs.map EV.toD) (hd : encD[j]? = some d) : VR w N ok d (encs.getD j undef) := by
  subst h1; subst h2
  rw [List.getElem?_map] at hd
  cases hq : vs[j]? with
  | none => rw [hq] at hd; cases hd
  | some e =>
    rw [hq] at hd
    obtain rfl : e.toD = d := by simpa using hd
    rw [getD_of_get (v := e.toV) (by simp [hq])]; exact e.vr
theorem encV_ex {ys : List EV} {encs vs : Array Value} {encD : List DV} {w : World} {N ok : Nat → Prop} (h1 : encs = (ys.map EV.toV).toArray) (h2 : encD = ys.map EV.toD) (hs : vs.size = encD.length) (hd : ∀ (j : Nat) (d : DV), encD[j]? = some d → VR w N ok d (vs.getD j undef)) : vs = encs := by
  subst h1; subst h2
  apply Array.ext_getElem?
  intro i
  by_cases hi : i < ys.length
  · have h1 := hd i (ys[i].toD) (by simp [hi])
    have h2 := ys[i].ex h1
    have h3 : i < vs.size := by rw [hs]; simpa using hi
    have h4 : vs.getD i undef = vs[i] := by simp [Array.getD, h3]
    rw [h4] at h2
    rw [Array.getElem?_eq_getElem h3, h2]; simp [hi]
  · rw [Array.getElem?_eq_none (by rw [hs]; simpa using hi), Array.getElem?_eq_none (by simpa using hi)]
end Go.PM

namespace Go.PM
variable [Tbl]
set_option linter.unusedSectionVars false
open Go.RowKit
set_option linter.unusedSimpArgs false
set_option linter.unusedVariables false
variable {z : Bool} {P : Program} {A : St}

def runesP (l : List UInt8) : List (Int × Int) := runesG (bs l) (l.length + 1) 0
def foldS {α σ ρ : Type} (step : α → σ → Option (σ ⊕ ρ)) : List α → σ → Option (σ ⊕ ρ)
  | [], s => some (.inl s)
  | x :: xs, s => match step x s with
    | none => none
    | some (.inl s') => foldS step xs s'
    | some (.inr r) => some (.inr r)

section
variable {B : Base} {w0 : World} {g : Gh} {a : Act} {w : World}
theorem Rel.now (h : Rel B w0 g A a w) (hk : B.kb = 0) : Rel B w g A a w :=
  { h with out := fun i cs hi => by omega, base := Nat.le_trans h.base h.below.size, tb := ⟨h.tb.1, h.tab.1⟩, below := Bel.refl _ _, oth := KeepsOthers.refl _ }
theorem Rel.since {g' : Gh} {A' : St} {a' : Act} {w' : World} (h : Rel B w0 g A a w) (hk : B.kb = 0) (h' : Rel B w g' A' a' w') : Rel B w0 g' A' a' w' :=
  { h' with out := fun i cs hi => by omega, base := h.base, tb := h.tb, below := h.below.trans h'.below, oth := h.oth.trans h'.oth }
end

def ExJ (z : Bool) (P : Program) (J : World → Act → World → Prop) (c : Code) (A : St) (Q : Exit → St → Prop) : Prop :=
  ∀ (B : Base) (w0 : World) (g : Gh) (a : Act) (w : World), Rel B w0 g A a w → J w0 a w → ∀ (ro : Option Nat), (z = true → ro = none) → ∀ (n : Nat) (K : Exit → Act → World → Prop),
    (∀ e A2 g' a' w', Q e A2 → Rel B w0 g' A2 a' w' → KeepT z (wr c) a a' → K e a' w') → c.wpIn (Fw ro) n P K a w
theorem exj_block {J : World → Act → World → Prop} {id : Nat} {c : Code} {Q : Exit → St → Prop} (h : ExJ z P J c A (blockE id Q)) : ExJ z P J (.block id c) A Q := by
  intro B w0 g a w hr hj ro hz n K hK
  refine wpIn_block (h B w0 g a w hr hj ro hz n _ ?_)
  intro e A2 g' a' w' hq hr' hk
  cases e with
  | exit id' =>
    simp only [blockE] at hq
    simp only [Exit.inBlock]
    by_cases e : id' = id
    · rw [if_pos e] at hq ⊢; exact hK _ _ _ _ _ hq hr' hk
    · rw [if_neg e] at hq ⊢; exact hK _ _ _ _ _ hq hr' hk
  | _ => exact hK _ _ _ _ _ hq hr' hk

def ItAt (ti : Tmp) (s : ByteArray) (p : Nat) (w0 : World) (a : Act) (w : World) : Prop :=
  ∃ b, a.tmps.getD ti undef = .pointer (some ⟨b, 0, none⟩) ∧ w.heap[b]? = some (.stringIter s p) ∧ w0.heap.size ≤ b

theorem run_next_at {w : World} {b : Nat} {s : ByteArray} {p : Nat} (h : w.heap[b]? = some (.stringIter s p)) (ty : TypeId) (hp : p < s.size) :
    (Instr.next (.pointer (some ⟨b, 0, none⟩)) true ty).run P w = .ok (.tuple #[.bool true, .int .i64 p, .int .i32 (Utf8.decode s p).1]) (w.putObj b (.stringIter s (p + (Utf8.decode s p).2))) := by
  have hb : b < w.heap.size := (Array.getElem?_eq_some_iff.1 h).1
  simp only [Instr.next, getObj, setObj, Sem.run_bind, Sem.run, h, Result.andThen, hp, if_true]
  simp [goInt, World.putObj]
theorem run_next_over {w : World} {b : Nat} {s : ByteArray} {p : Nat} (h : w.heap[b]? = some (.stringIter s p)) (ty : TypeId) (hp : ¬ p < s.size) :
    (Instr.next (.pointer (some ⟨b, 0, none⟩)) true ty).run P w = .ok (.tuple #[.bool false]) w := by
  simp [Instr.next, getObj, Sem.run, h, hp]
theorem tup_sr {g : Gh} {A : St} {w : World} {N : Nat → Prop} {ds : List DV} {us : Array Value} (hl : us.size = ds.length) (h : ∀ i d, ds[i]? = some d → VR w N (fun k => ¬ bad g A k) d (us.getD i undef)) : SR g A w N (.tup ds) (.tuple us) :=
  ⟨us, rfl, hl, fun i d hi => SR1.vr (h i d hi)⟩

structure NextOk (P : Program) (ops : Array Oper) (ti tn tb : Tmp) (enc : St) (H0 : St) (H1 : Int × Int → St) : Prop where
  l2 : ∃ (o : Oper) (l : List Nat), List.range ops.size = 0 :: l ∧ ops[0]? = some o ∧ o.op = .next (.tmp ti) true ∧ o.dst = some tn ∧ wantD ops enc o = some true ∧
    DoL P ops l (enc.put (some tn) (.tup [.bool false])) H0 ∧ ∀ x : Int × Int, DoL P ops l (enc.put (some tn) (.tup [.bool true, .int .i64 x.1, .int .i32 x.2])) (H1 x)
  tb0 : H0.ev (.tmp tb) = some (.bool false)
  tb1 : ∀ x, (H1 x).ev (.tmp tb) = some (.bool true)
  nti : ti ∉ wrOps ops

theorem exj_loopS {σ ρ : Type} {idb id2 : Nat} {ops : Array Oper} {ti tn tb : Tmp} {body : Code} {Q : Exit → St → Prop} {step : Int × Int → σ → Option (σ ⊕ ρ)} (ex : ρ → Exit) (enc : σ → St) (encX : ρ → St) (H0 : σ → St) (H1 : Int × Int → σ → St) {s : ByteArray} {out : σ ⊕ ρ} {s0 : σ}
    (hkb : ∀ st, (enc st).kb = 0) (hn : ∀ st, NextOk P ops ti tn tb (enc st) (H0 st) (fun x => H1 x st)) (hti : ti ∉ wr body)
    (round : ∀ x st y, step x st = some y → Ex false P body (H1 x st) (fun e A' => ∃ A3, Gst A' A3 ∧ ((e = .normal ∧ ∃ s', y = .inl s' ∧ A3 = enc s') ∨ (∃ o, e = ex o ∧ e ≠ .normal ∧ y = .inr o ∧ A3 = encX o))))
    (h : foldS step (runesG s (s.size + 1) 0) s0 = some out) (h0 : ∀ st, out = .inl st → Q (.exit idb) (H0 st)) (h1 : ∀ r, out = .inr r → Q (ex r) (encX r)) :
    ExJ z P (ItAt ti s 0) (.loop (.seq (.region id2 ops false) (.seq (.cond (.tmp tb) .skip (.exit idb)) body))) (enc s0) Q := by
  intro B w0 g0 a0 w00 hr0 hj0 ro hz n K hK
  have hB0 : B.kb = 0 := by rw [← hr0.kb.1]; exact hkb s0
  refine wpIn_loop_rounds (s.size + 1) ?_
  let c := Code.seq (.region id2 ops false) (.seq (.cond (.tmp tb) .skip (.exit idb)) body)
  have hwl : wr (.loop c) = wrOps ops ++ (([] ++ []) ++ wr body) := rfl
  have key : ∀ (m p : Nat) (st : σ) (g : Gh) (a : Act) (w : World), s.size - p < m → foldS step (runesG s m p) st = some out → Rel B w0 g (enc st) a w → ItAt ti s p w0 a w → KeepT z (wr (.loop c)) a0 a → Code.roundsIn (Fw ro) n P c K m a w := by
    intro m
    induction m with
    | zero => intro p st g a w hm; omega
    | succ m ih =>
      intro p st g a w hm hf hr hi hk
      obtain ⟨b, hi1, hi2, hi3⟩ := hi
      obtain ⟨o, l, hl, ho, hop, hdst, hw, hd0, hd1⟩ := (hn st).l2
      rw [roundsIn_succ]
      refine wpIn_seq (wpIn_region ?_)
      rw [hl, wpOpsIn_cons]
      unfold wpOpIn
      rw [ho]
      simp only [wantD_wanted hr hw, if_true]
      refine ⟨fun f _ => Fw_fn ro f, ?_⟩
      have hnd : Oper.noDefer o = true := by unfold Oper.noDefer; rw [hop]
      have hsub : ∀ t ∈ wrOps ops, t ∈ wr (.loop c) := fun t ht => by rw [hwl]; exact List.mem_append_left _ ht
      have hsub2 : ∀ t ∈ wr body, t ∈ wr (.loop c) := fun t ht => by rw [hwl]; exact List.mem_append_right _ (List.mem_append_right _ ht)
      have hev : a.eval (.tmp ti) = .pointer (some ⟨b, 0, none⟩) := by simpa [Act.eval] using hi1
      rw [semAt_plain o _ _ hnd]
      have hsm : ∀ t, t = tn → t ∈ wrOps ops := by
        rintro t rfl
        exact List.mem_filterMap.2 ⟨o, by rw [← Array.getElem?_toList] at ho; exact List.mem_of_getElem? ho, hdst⟩
      have hput : ∀ v, Same (wrOps ops) a (a.put o.dst v) := fun v => same_put ho a v
      by_cases hp : p < s.size
      · have he : (execOp a.eval o).run P w = .ok (.value (.tuple #[.bool true, .int .i64 p, .int .i32 (Utf8.decode s p).1])) (w.putObj b (.stringIter s (p + (Utf8.decode s p).2))) := by
          unfold execOp; rw [hop]; simp only [hev]
          simp only [Sem.run_bind, run_next_at (P := P) hi2 o.type hp]; rfl
        rw [he]
        show wpOpsIn _ _ _ _ _ l (a.put o.dst _) _
        have hr1 : Rel B w0 g (enc st) a (w.putObj b (.stringIter s (p + (Utf8.decode s p).2))) := hr.others (oth_putObj hi3 hi2 rfl) rfl ⟨hr.dfr.1, fun d hd => by
          obtain ⟨D, h5, h6, h7⟩ := hr.dfr.2 d hd
          refine ⟨D, h5, h6, (World.putObj_heap_other ?_).trans h7⟩
          rintro rfl; rw [hi2] at h7; cases h7⟩
        have hr2 := hr1.put o.dst (d := .tup [.bool true, .int .i64 (p : Int), .int .i32 ((Utf8.decode s p).1 : Int)]) (v := .tuple #[.bool true, .int .i64 p, .int .i32 (Utf8.decode s p).1]) (tup_sr rfl (fun i d hd => by
          match i, hd with
          | 0, hd => simp at hd; subst hd; exact .bool _
          | 1, hd => simp at hd; subst hd; exact .int _ _
          | 2, hd => simp at hd; subst hd; exact .int _ _))
        rw [hdst] at hr2 ⊢
        refine (hd1 ((p : Int), ((Utf8.decode s p).1 : Int))).sound (hr2.now hB0) (fun g3 a3 w3 hr3n hs3 => ?_)
        have hr3 := hr2.since hB0 hr3n
        have hs3' : Same (wrOps ops) a a3 := by have := hput (.tuple #[.bool true, .int .i64 p, .int .i32 (Utf8.decode s p).1]); rw [hdst] at this; exact this.trans hs3
        have hb3 : w3.heap[b]? = some (.stringIter s (p + (Utf8.decode s p).2)) := hr3n.oth.same b _ (World.putObj_heap_same (Array.getElem?_eq_some_iff.1 hi2).1) rfl
        refine wpIn_seq (wpIn_cond (SR.inv_bool (hr3.ev ((hn st).tb1 _))) ?_)
        refine wpIn_skip ?_
        rw [runesG, if_pos hp] at hf
        simp only [foldS] at hf
        cases hy : step ((p : Int), ((Utf8.decode s p).1 : Int)) st with
        | none => rw [hy] at hf; cases hf
        | some y =>
          rw [hy] at hf
          refine round _ st y hy B w3 g3 a3 w3 (hr3.now hB0) ro (fun e => by cases e) n _ ?_
          rintro e A2 g4 a4 w4 ⟨A3, hg, hq⟩ hr4 hk4
          obtain ⟨g5, hr5⟩ := hg.rel hr4
          have hr6 : Rel B w0 g5 A3 a4 w4 := hr3.since hB0 hr5
          have hk6 : KeepT z (wr (.loop c)) a0 a4 := (hk.trans ⟨fun _ => hs3'.1, fun t ht => hs3'.2 t (fun h => ht (hsub t h))⟩).trans ⟨fun _ => hk4.1 rfl, fun t ht => hk4.2 t (fun h => ht (hsub2 t h))⟩
          rcases hq with ⟨rfl, s', rfl, rfl⟩ | ⟨r, rfl, hne, rfl, rfl⟩
          · have hwid := Go.Lib.decode_width_pos s p hp
            show Code.roundsIn (Fw ro) n P c K m a4 w4
            refine ih (p + (Utf8.decode s p).2) s' g5 a4 w4 (by omega) hf hr6 ⟨b, ?_, hr5.oth.same b _ hb3 rfl, hi3⟩ hk6
            rw [hk4.2 ti hti, hs3'.2 ti (hn st).nti]; exact hi1
          · have hf' : out = .inr r := by simpa using hf.symm
            have hfin := hK _ _ g5 a4 w4 (h1 r hf') hr6 hk6
            revert hfin hne
            generalize ex r = e
            intro hne hfin
            cases e with
            | normal => exact absurd rfl hne
            | _ => exact hfin
      · have he : (execOp a.eval o).run P w = .ok (.value (.tuple #[.bool false])) w := by
          unfold execOp; rw [hop]; simp only [hev]
          simp only [Sem.run_bind, run_next_over (P := P) hi2 o.type hp]; rfl
        rw [he]
        show wpOpsIn _ _ _ _ _ l (a.put o.dst _) _
        have hr2 := hr.put o.dst (d := .tup [.bool false]) (v := .tuple #[.bool false]) (tup_sr rfl (fun i d hd => by
          match i, hd with
          | 0, hd => simp at hd; subst hd; exact .bool _))
        rw [hdst] at hr2 ⊢
        refine hd0.sound hr2 (fun g3 a3 w3 hr3 hs3 => ?_)
        have hs3' : Same (wrOps ops) a a3 := by have := hput (.tuple #[.bool false]); rw [hdst] at this; exact this.trans hs3
        refine wpIn_seq (wpIn_cond (SR.inv_bool (hr3.ev (hn st).tb0)) ?_)
        refine wpIn_exit ?_
        rw [runesG, if_neg hp] at hf
        have hf' : out = .inl st := by simpa [foldS] using hf.symm
        exact hK _ _ g3 a3 w3 (h0 st hf') hr3 (hk.trans ⟨fun _ => hs3'.1, fun t ht => hs3'.2 t (fun h => ht (hsub t h))⟩)
  exact key (s.size + 1) 0 s0 g0 a0 w00 (by omega) h hr0 hj0 (.refl _ _)

theorem nextOk2 {o1 o2 : Oper} {ti tn tb : Tmp} {E : St} (ho1 : o1.op = .next (.tmp ti) true) (hd1 : o1.dst = some tn) (hg1 : o1.guard = none) (ho2 : o2.op = .extract (.tmp tn) 0) (hd2 : o2.dst = some tb) (hg2 : o2.guard = none)
    (hne : ti ≠ tn ∧ ti ≠ tb) (htn : tn < E.s.length) (htb : tb < E.s.length) :
    NextOk P #[o1, o2] ti tn tb E ⟨(E.s.set tn (.tup [.bool false])).set tb (.bool false), E.b, E.r, E.kb⟩ (fun x => ⟨(E.s.set tn (.tup [.bool true, .int .i64 x.1, .int .i32 x.2])).set tb (.bool true), E.b, E.r, E.kb⟩) where
  l2 := by
    refine ⟨o1, [1], rfl, rfl, ho1, hd1, ?_, ?_, fun x => ?_⟩
    · unfold wantD; rw [hg1]
    · refine .cons (.refl _) (.pure (o := o2) (d := .bool false) rfl ?_ (.extract ho2 (vs := [.bool false]) ?_ rfl rfl)) ?_
      · unfold wantD; rw [hg2]
      · simp [St.put, St.ev, htn]
      · rw [hd2]; exact .nil _
    · refine .cons (.refl _) (.pure (o := o2) (d := .bool true) rfl ?_ (.extract ho2 (vs := [.bool true, .int .i64 x.1, .int .i32 x.2]) ?_ rfl rfl)) ?_
      · unfold wantD; rw [hg2]
      · simp [St.put, St.ev, htn]
      · rw [hd2]; exact .nil _
  tb0 := by simp [St.ev, htb]
  tb1 x := by simp [St.ev, htb]
  nti := by simp [wrOps, hd1, hd2]; exact hne
theorem ex_rangeS {σ ρ : Type} {id1 id2 idb : Nat} {ops1 ops2 : Array Oper} {effs : List Nat} {o o1 o2 : Oper} {l1 : List Nat} {i1 : Nat} {t : TypeId} {x : Operand} {ti tn tb : Tmp} {body : Code} {Q : Exit → St → Prop} {step : Int × Int → σ → Option (σ ⊕ ρ)} (ex : ρ → Exit) (enc : σ → St) (encX : ρ → St) {l : List UInt8} {out : σ ⊕ ρ} {s0 : σ}
    (h : foldS step (runesP l) s0 = some out) (hkb : ∀ st, (enc st).kb = 0) (hlen : ∀ st, tn < (enc st).s.length ∧ tb < (enc st).s.length)
    (hl1 : List.range ops1.size = l1 ++ [i1]) (ho : ops1[i1]? = some o) (hop : o.op = .range t x) (hdst : o.dst = some ti) (hg : o.guard = none) (ht : P.underlying t = some .string)
    (h2 : ops2 = #[o1, o2]) (ho1 : o1.op = .next (.tmp ti) true) (hd1 : o1.dst = some tn) (hg1 : o1.guard = none) (ho2 : o2.op = .extract (.tmp tn) 0) (hd2 : o2.dst = some tb) (hg2 : o2.guard = none) (hne : ti ≠ tn ∧ ti ≠ tb) (hti : (wr body).contains ti = false)
    (hpre : WE P ops1 effs l1 A (fun A1 => A1.ev x = some (.str (bs l)) ∧ ti < A1.s.length ∧ Gst (A1.put (some ti) .top) (enc s0)))
    (h0 : ∀ st, out = .inl st → Q .normal ⟨((enc st).s.set tn (.tup [.bool false])).set tb (.bool false), (enc st).b, (enc st).r, (enc st).kb⟩) (h1 : ∀ r, out = .inr r → blockE idb Q (ex r) (encX r))
    (round : ∀ x st y, step x st = some y → Ex false P body ⟨((enc st).s.set tn (.tup [.bool true, .int .i64 x.1, .int .i32 x.2])).set tb (.bool true), (enc st).b, (enc st).r, (enc st).kb⟩ (fun e A' => ∃ A3, Gst A' A3 ∧ ((e = .normal ∧ ∃ s', y = .inl s' ∧ A3 = enc s') ∨ (∃ o, e = ex o ∧ e ≠ .normal ∧ y = .inr o ∧ A3 = encX o)))) :
    Ex z P (.seq (.region id1 ops1 false) (.block idb (.loop (.seq (.region id2 ops2 false) (.seq (.cond (.tmp tb) .skip (.exit idb)) body))))) A Q := by
  subst h2
  intro B w0 g a w hr ro hz n K hK
  obtain ⟨A1, hd, hx, hlt, hgst⟩ := hpre
  have hwr : ∀ t ∈ wrOps ops1, t ∈ wr (.seq (.region id1 ops1 false) (.block idb (.loop (.seq (.region id2 #[o1, o2] false) (.seq (.cond (.tmp tb) .skip (.exit idb)) body))))) := fun t ht => List.mem_append_left _ ht
  refine wpIn_seq (wpIn_region ?_)
  rw [hl1]
  refine hd.doL.soundK hr (fun g1 a1 w1 hr1 hs1 => ?_)
  rw [wpOpsIn_cons]
  unfold wpOpIn
  rw [ho]
  have hw : wantD ops1 A1 o = some true := by unfold wantD; rw [hg]
  simp only [wantD_wanted hr1 hw, if_true]
  refine ⟨fun f _ => Fw_fn ro f, ?_⟩
  have hnd : Oper.noDefer o = true := by unfold Oper.noDefer; rw [hop]
  rw [semAt_plain o _ _ hnd]
  have hev : a1.eval x = .string (bs l) := SR.inv_str (hr1.ev hx)
  have he : (execOp a1.eval o).run P w1 = .ok (.value (.pointer (some ⟨w1.heap.size, 0, none⟩))) (w1.alloc (.stringIter (bs l) 0)) := by
    unfold execOp; rw [hop]; simp only [hev]
    simp only [Sem.run_bind, run_range_string w1 t (bs l) ht]; rfl
  rw [he, Oper.uponIn_value]
  have hal : ∀ (k : Nat), k < w1.heap.size → (w1.alloc (.stringIter (bs l) 0)).heap[k]? = w1.heap[k]? := fun k hk => Below.heap_alloc _ _ _ hk
  have hr2 : Rel B w0 g1 A1 a1 (w1.alloc (.stringIter (bs l) 0)) := hr1.others (w' := w1.alloc (.stringIter (bs l) 0)) ⟨rfl, rfl, rfl, by simp, fun k hk => hal k (Nat.lt_of_lt_of_le hk hr1.below.size), fun k c e f hk => (hal k (Array.getElem?_eq_some_iff.1 hk).1).trans hk⟩ rfl ⟨hr1.dfr.1, fun d hd => by
    obtain ⟨D, h5, h6, h7⟩ := hr1.dfr.2 d hd
    exact ⟨D, h5, h6, (hal D (Array.getElem?_eq_some_iff.1 h7).1).trans h7⟩⟩
  have hr3 := hr2.put o.dst (d := .top) (v := .pointer (some ⟨w1.heap.size, 0, none⟩)) (SR.vr (.top _))
  rw [hdst] at hr3 ⊢
  obtain ⟨g4, hr4⟩ := hgst.rel hr3
  have hsm : ti ∈ wrOps ops1 := List.mem_filterMap.2 ⟨o, by rw [← Array.getElem?_toList] at ho; exact List.mem_of_getElem? ho, hdst⟩
  have hput := same_put ho a1 (.pointer (some ⟨w1.heap.size, 0, none⟩))
  rw [hdst] at hput
  have hrun := exj_block (z := z) (A := enc s0) (Q := Q) (exj_loopS (z := z) (P := P) (idb := idb) (id2 := id2) (ops := #[o1, o2]) (ti := ti) (tn := tn) (tb := tb) (body := body) (Q := blockE idb Q) ex enc encX
    (fun st => ⟨((enc st).s.set tn (.tup [.bool false])).set tb (.bool false), (enc st).b, (enc st).r, (enc st).kb⟩) (fun x st => ⟨((enc st).s.set tn (.tup [.bool true, .int .i64 x.1, .int .i32 x.2])).set tb (.bool true), (enc st).b, (enc st).r, (enc st).kb⟩)
    (s := bs l) hkb (fun st => nextOk2 ho1 hd1 hg1 ho2 hd2 hg2 hne (hlen st).1 (hlen st).2) (by intro hm; rw [List.contains_iff_mem.2 hm] at hti; cases hti) round h (fun st e => by show (if idb = idb then _ else _); rw [if_pos rfl]; exact h0 st e) h1)
  refine hrun B w0 g4 _ _ hr4 ⟨w1.heap.size, ?_, ?_, hr1.below.size⟩ ro hz n K ?_
  · simp only [Act.put]
    rw [Array.getD_eq_getD_getElem?, Array.getElem?_setIfInBounds, if_pos rfl, if_pos (by rw [hr1.size]; exact hlt)]; rfl
  · exact World.alloc_heap_new _ _
  · intro e A2 g' a' w' hq hr' hk
    refine hK e A2 g' a' w' hq hr' ?_
    have h8 : KeepT z (wrOps ops1) a (a1.put (some ti) (.pointer (some ⟨w1.heap.size, 0, none⟩))) := ⟨fun _ => (hs1.trans hput).1, fun t ht => (hs1.trans hput).2 t ht⟩
    exact (h8.sub hwr).trans (hk.sub (fun t ht => List.mem_append_right _ ht))
end Go.PM

namespace Go.PM
variable [Tbl]
set_option linter.unusedSectionVars false
open Go.RowKit
set_option linter.unusedSimpArgs false
set_option linter.unusedVariables false

def textOf (ns : List Int) : List UInt8 := (runesBytes ns).data.toList
def runesO (l : List UInt8) : Option (List Int) := if l.length ≤ 1073741824 then some (runesB (bs l)) else none
section
variable {P : Program} {A : St} {o : Oper}
theorem x_convRS {f : Int → List DV} (hfl : ∀ n, f n = [.int .i32 n]) {src dst e : TypeId} {x : Operand} {d : DV} {ns : List Int} (ho : o.op = .convert src dst x) (hx : A.ev x = some d) (he : A.elems d = some (ns.map f)) (hs : elemT P src = some e) (hee : P.underlying e = some (.int .i32)) (hd : P.underlying dst = some .string) : XP P o A (.str (bs (textOf ns))) :=
  XP.convRS ho hx (by rw [he]; congr 1; exact List.map_congr_left (fun n _ => hfl n)) (elemT_info hs) hee hd
theorem x_runes {f : Int → List DV} (hfl : ∀ n, f n = [.int .i32 n]) {src dst e : TypeId} {x : Operand} {s : List UInt8} {ns : List Int} (ho : o.op = .convert src dst x) (hx : A.ev x = some (.str (bs s))) (hs : P.underlying src = some .string) (hd : elemT P dst = some e) (he : P.underlying e = some (.int .i32)) (h : runesO s = some ns) :
    XE P o A (.own A.r.length) { A with r := A.r ++ [some ⟨e, 1, ns.map f⟩] } := by
  unfold runesO at h
  split at h
  · rename_i hl
    obtain rfl := Option.some.inj h
    have := XE.runes (P := P) ho hx hs (elemT_info hd) he (by show s.length ≤ _; exact hl)
    rw [List.map_congr_left (fun n _ => hfl n)]
    exact this
  · cases h
end

inductive RVs where
  | one (e : ES)
  | many (l : List ES)
def RVs.toV : RVs → Value
  | .one e => e.toV
  | .many l => .tuple (l.map ES.toV).toArray
def RVs.toD : RVs → DV
  | .one e => e.toD
  | .many l => .tup (l.map ES.toD)
theorem RVs.sr (r : RVs) {g : Gh} {A : St} {w : World} {N : Nat → Prop} : SR g A w N r.toD r.toV := by
  cases r with
  | one e => exact SR.vr e.vr
  | many l =>
    refine tup_sr (by simp) (fun i d hd => ?_)
    rw [List.getElem?_map] at hd
    cases hq : l[i]? with
    | none => rw [hq] at hd; cases hd
    | some e =>
      rw [hq] at hd
      obtain rfl : e.toD = d := by simpa using hd
      rw [getD_map hq]; exact e.vr
theorem ES.notok (e : ES) : e.toD.tok = false := by cases e <;> rfl
theorem resR_pure {g : Gh} {w w' : World} {N : Nat → Prop} {r : DV} {v : Value} (hb : Below w.heap.size w w') (hsr : ∀ g', SR g' (argSt [] []) w' N r v) : ResR g g w w' N [] [] r [] [] v where
  os := hb.os
  tape := hb.tape
  output := hb.output
  size := hb.size
  block k hk _ := hb.block k hk
  oth := ⟨hb.size, fun k o hk _ => (hb.block k (Array.getElem?_eq_some_iff.1 hk).1).trans hk⟩
  no := rfl
  res := hsr g
  box i cs h := by simp at h
  blen := rfl
  bfix i hi := by simp at hi
  bout i cs cs' h := by simp at h
  row t ρ h := by simp at h
  inj i j h := by obtain ⟨⟨cs, h⟩, _⟩ := h; simp [argSt] at h
  br i j h := by obtain ⟨cs, h⟩ := h; simp [argSt] at h
  from_ t h := by obtain ⟨⟨cs, h⟩, _⟩ := h; simp [argSt] at h
theorem okB_pure {P : Program} {f : FuncId} (es : List ES) (r : RVs) (h : ∀ w, TB w → Calls P f (es.map ES.toV).toArray w fun e w' => e = .returned r.toV ∧ Below w.heap.size w w') : OkB P f (es.map ES.toD) [] [] r.toD [] [] := by
  intro w vs g N hA
  have hvs : vs = (es.map ES.toV).toArray := by
    refine Array.ext (by rw [hA.size]; simp) (fun i h1 h2 => ?_)
    have hi : i < es.length := by simpa using h2
    have h3 := hA.arg i (es[i]).toD (by simp [hi])
    have h4 := (es[i]).ex (h3.toVr (ES.notok _))
    rw [Array.getD_eq_getD_getElem?, Array.getElem?_eq_getElem h1] at h4
    simpa using h4
  subst hvs
  refine (h w hA.tb).mono ?_
  rintro e w' ⟨rfl, hb⟩
  exact ⟨_, g, rfl, resR_pure hb (fun g' => r.sr)⟩

abbrev Z : DV := DV.top
def rpB (b : Bool) : Nat → List Bool → List Bool
  | 0, l => l
  | n + 1, l => b :: rpB b n l
def rl : List Nat → List Bool
  | [] => []
  | [n] => rpB false n []
  | n :: m :: l => rpB false n (rpB true m (rl l))
section
variable {P : Program} {ops : Array Oper} {effs : List Nat} {i : Nat} {l : List Nat} {o : Oper} {d : DV} {s s' : List DV} {b : List (Option (List DV))} {r : List (Option Row)} {kb : Nat} {K : St → Prop}
theorem pq (t : Tmp) (ho : ops[i]? = some o) (hx : XP P o ⟨s, b, r, kb⟩ d) (h : WE P ops effs l ⟨s', b, r, kb⟩ K) (ht : o.dst = some t := by rfl) (hw : wantD ops ⟨s, b, r, kb⟩ o = some true := by rfl) (hm : nl effs i = false := by rfl) (hs : s.set t d = s' := by simp only [c0, cS]; rfl) (hri : ri effs i = false := by rfl) : WE P ops effs (i :: l) ⟨s, b, r, kb⟩ K :=
  p_ t ho ht hw hm hx h hs hri
theorem pm (t : Tmp) {x : Operand} (h : WE P ops effs l ⟨s', b, r, kb⟩ K) (ho : ops[i]? = some o := by rfl) (ht : o.dst = some t := by rfl) (hw : wantD ops ⟨s, b, r, kb⟩ o = some true := by rfl) (hm : nl effs i = false := by rfl) (hx : o.op = .move x := by rfl) (hv : St.ev ⟨s, b, r, kb⟩ x = some d := by rfl) (hs : s.set t d = s' := by simp only [c0, cS]; rfl) (hri : ri effs i = false := by rfl) : WE P ops effs (i :: l) ⟨s, b, r, kb⟩ K :=
  p_ t ho ht hw hm (.move hx hv) h hs hri
theorem pa (t : Tmp) {x : Operand} (h : WE P ops effs l ⟨s', b, r, kb⟩ K) (ho : ops[i]? = some o := by rfl) (ht : o.dst = some t := by rfl) (hw : wantD ops ⟨s, b, r, kb⟩ o = some true := by rfl) (hm : nl effs i = false := by rfl) (hx : o.op = .assign x := by rfl) (hv : St.ev ⟨s, b, r, kb⟩ x = some d := by rfl) (hs : s.set t d = s' := by simp only [c0, cS]; rfl) (hri : ri effs i = false := by rfl) : WE P ops effs (i :: l) ⟨s, b, r, kb⟩ K :=
  p_ t ho ht hw hm (.assign hx hv) h hs hri
theorem kq (t : Tmp) (h : WE P ops effs l ⟨s', b, r, kb⟩ K) (ho : ops[i]? = some o := by rfl) (ht : o.dst = some t := by rfl) (hw : wantD ops ⟨s, b, r, kb⟩ o = some false := by rfl) (hs : s.set t (.tup []) = s' := by simp only [c0, cS]; rfl) : WE P ops effs (i :: l) ⟨s, b, r, kb⟩ K := k_ t ho ht hw h hs
end
end Go.PM

namespace Go.PM
open Go.RowKit Go.Proofs
set_option linter.unusedSimpArgs false
set_option linter.unusedVariables false
theorem cell_keep {G : Nat} {w w' : World} {a : Addr} {v : Value} (h : ∀ (k : Nat) (c : Array Value) (e : TypeId) (f : Nat × Nat), k < G → w.heap[k]? = some (Obj.cells c e f) → w'.heap[k]? = some (Obj.cells c e f)) (ha : a.block < G) (hc : w.cell? a = some v) : w'.cell? a = some v := by
  unfold World.cell? at hc ⊢
  split at hc
  · rename_i c e f hq
    rw [h _ _ _ _ ha hq]; exact hc
  · cases hc
theorem tbl_st {G g3 g4 g1 : Nat} (h3 : g3 < G) (h4 : g4 < G) (h1 : g1 < G) (w w' : World) (h : ∀ (k : Nat) (c : Array Value) (e : TypeId) (f : Nat × Nat), k < G → w.heap[k]? = some (Obj.cells c e f) → w'.heap[k]? = some (Obj.cells c e f))
    (hT : Lib.Utf8Tabs g3 g4 w ∧ ∃ m, w.cell? ⟨g1, 0, none⟩ = some (.int .i64 m)) : Lib.Utf8Tabs g3 g4 w' ∧ ∃ m, w'.cell? ⟨g1, 0, none⟩ = some (.int .i64 m) := by
  obtain ⟨⟨ha, hb⟩, m, hm⟩ := hT
  exact ⟨⟨fun c hc => cell_keep h h3 (ha c hc), fun i hi => ⟨cell_keep h h4 (hb i hi).1, cell_keep h h4 (hb i hi).2⟩⟩, m, cell_keep h h1 hm⟩
variable [Tbl]
set_option linter.unusedSectionVars false
theorem okB_map {P : Program} {f : FuncId} {p0 : Int → Option Int} {p1 : List UInt8} {g : FuncId} {cs : List DV} (hc : Cl P g cs) (hf : ∀ x r, p0 x = some r → OkB P g ([.int .i32 x] ++ cs) [] [] (.int .i32 r) [] [])
    (ht : ∀ x : Int, 0 ≤ x → x ≤ 1114111 → ∃ y, p0 x = some y ∧ -2147483648 ≤ y ∧ y ≤ 2147483647) (hl : p1.length < 35184372088832)
    (hm : ∀ (lb : Array Value) (w : World), (∀ args w, (callFunc g args).run P w = .ok (.enter g args) w) → (bs p1).size < 35184372088832 → MapGrows P g lb (fun x => (p0 x).getD 0) w → (∀ x : Nat, x ≤ 1114111 → -2147483648 ≤ (p0 (x : Int)).getD 0 ∧ (p0 (x : Int)).getD 0 ≤ 2147483647) → TB w →
      Calls P f #[.func (.func g) #[] lb, .string (bs p1)] w fun e w' => e = .returned (.string ⟨(Lib.mapD (fun x => (p0 x).getD 0) (bs p1).data.toList).toArray⟩) ∧ Below w.heap.size w w') :
    OkB P f [.fn g cs, .str (bs p1)] [] [] (.str (bs (Lib.mapD (fun x => (p0 x).getD 0) p1))) [] [] := by
  intro w vs g0 N hA
  have h0 : VR w N (fun k => ¬ bad g0 (argSt [] []) k) (.fn g cs) (vs.getD 0 undef) := (hA.arg 0 _ rfl).toVr rfl
  have h1 : VR w N (fun k => ¬ bad g0 (argSt [] []) k) (.str (bs p1)) (vs.getD 1 undef) := (hA.arg 1 _ rfl).toVr rfl
  have hsz := hA.size
  generalize hv0 : vs.getD 0 undef = v0 at h0
  generalize hv1 : vs.getD 1 undef = v1 at h1
  have hvs : vs = #[v0, v1] := by
    refine Array.ext hsz (fun i hi1 hi2 => ?_)
    match i, hi2 with
    | 0, _ => rw [← hv0]; simp [Array.getD, hi1]
    | 1, _ => rw [← hv1]; simp [Array.getD, hi1]
  cases h1 with
  | str =>
  cases h0 with
  | fn _ _ lb hlb hcap =>
  subst hvs
  let gh : Gh := ⟨fun _ => 0, fun _ => 0, fun _ => 0, fun _ => undef, fun _ => false, fun _ => False⟩
  have hmm : ∀ k, ¬ mutb gh (argSt [] []) k := by
    rintro k (⟨i, ⟨cs, h⟩, _⟩ | ⟨i, ⟨⟨cs, h⟩, _⟩, _⟩) <;> simp [argSt] at h
  have hbb : ∀ k, ¬ bad gh (argSt [] []) k := by
    rintro k (h | h)
    · exact h
    · exact hmm k h
  refine (hm lb w (fun args w => hc.en args w) hl ?_ ?_ hA.tb).mono ?_
  · intro W x hx hB
    obtain ⟨y, hy, _⟩ := ht (x : Int) (by omega) (by omega)
    refine (hf x y hy W (#[encR x] ++ lb) gh (fun _ => True) { size := by simp [hlb]; omega, arg := fun i d hd => ?_, box := fun i cs h => by simp at h, row := fun i cs h => by simp at h, bb := fun i j h => ?_, rr := fun i j h => ?_, br := fun i j h => ?_, mN := fun k h => absurd h (hmm k), nn := fun k h => h.elim, new := fun _ _ => trivial, tb := hA.tb.of (fun k hk => hB.block k (Nat.lt_of_lt_of_le hk hA.tb.2)) hB.size, mG := fun k h => absurd h (hmm k) }).mono fun e w' ⟨v, g', he, hR⟩ => ?_
    · refine SR.vr ?_
      match i, hd with
      | 0, hd =>
        simp at hd; subst hd
        have : (#[encR x] ++ lb).getD 0 undef = .int .i32 x := by simp [Array.getD, encR]
        rw [this]; exact .int _ _
      | i + 1, hd =>
        have hd' : cs[i]? = some d := by simpa using hd
        have : (#[encR x] ++ lb).getD (i + 1) undef = lb.getD i undef := by
          rw [Array.getD_eq_getD_getElem?, Array.getElem?_append_right (by simp), ← Array.getD_eq_getD_getElem?]; simp
        rw [this]
        exact (hcap i d hd').mono (fun k hk hlt => hB.block k hlt) hB.size (fun k _ _ => hbb k) (fun _ _ _ => trivial)
    · obtain ⟨cs, h⟩ := h; simp [argSt] at h
    · obtain ⟨⟨cs, h⟩, _⟩ := h; simp [argSt] at h
    · obtain ⟨cs, h⟩ := h; simp [argSt] at h
    · have hv : v = .int .i32 y := by
        have := hR.res.toVr rfl
        cases this; rfl
      subst hv
      have hy' : (p0 (x : Int)).getD 0 = y := by rw [hy]; rfl
      show e = _ ∧ _
      simp only [hy']
      exact ⟨he, ⟨hR.os, hR.tape, hR.output, hR.size, fun k hk => hR.block k hk (hmm k)⟩⟩
  · intro x hx
    obtain ⟨y, hy, h1, h2⟩ := ht (x : Int) (by omega) (by omega)
    have hy' : (p0 (x : Int)).getD 0 = y := by rw [hy]; rfl
    rw [hy']; exact ⟨h1, h2⟩
  · rintro e w' ⟨rfl, hb⟩
    exact ⟨_, g0, rfl, resR_pure hb (fun g' => SR.vr (.str _))⟩
end Go.PM

namespace Go.PM
variable [Tbl]
set_option linter.unusedSectionVars false
set_option linter.unusedSimpArgs false
set_option linter.unusedVariables false
theorem addN (a b : Nat) {c : Nat} (h : a + b = c) (hc : c ≤ 9223372036854775807) : xbin .add (.int .i64 a) (.int .i64 b) = some (.int .i64 (c : Int)) := by
  have : IntKind.wrap .i64 ((a : Int) + b) = (c : Int) := by rw [IntKind.wrap_i64]; omega
  show (if IntKind.i64 = IntKind.i64 then some (DV.int .i64 (IntKind.wrap .i64 ((a : Int) + b))) else none) = _
  rw [if_pos rfl, this]
theorem splice_drop_hi {α : Type} {l m : List α} {off k : Nat} (hk : off + m.length ≤ k) (h : off + m.length ≤ l.length) : (splice l off m).drop k = l.drop k := by
  apply List.ext_getElem?
  intro i
  rw [List.getElem?_drop, List.getElem?_drop, splice_get h, if_neg (by omega)]
theorem splice_nil {α : Type} {l : List α} {off : Nat} : splice l off [] = l := by
  unfold splice; simp
theorem flat_drop {sz : Nat} {X : List (List DV)} {T : List DV} {j : Nat} (h : ∀ x ∈ X, x.length = sz) (hj : j ≤ X.length) : ((X.flatten ++ T).drop (j * sz)).take ((X.length - j) * sz) = (X.drop j).flatten := by
  have h2 : (X.take j).flatten.length = j * sz := by
    rw [flat_len (fun x hx => h x (List.mem_of_mem_take hx))]; simp; rw [Nat.min_eq_left hj]
  have h3 : (X.drop j).flatten.length = (X.length - j) * sz := by
    rw [flat_len (fun x hx => h x (List.mem_of_mem_drop hx))]; simp
  have h1 : X.flatten ++ T = (X.take j).flatten ++ ((X.drop j).flatten ++ T) := by
    rw [← List.append_assoc, ← List.flatten_append, List.take_append_drop]
  rw [h1, List.drop_left' h2]
  exact List.take_left' h3
theorem repl_fit {sz : Nat} {X Y : List (List DV)} {T0 : List DV} {n j M : Nat} (hX : ∀ x ∈ X, x.length = sz) (hY : ∀ x ∈ Y, x.length = sz) (hM : Y.length = M) (hn : n + M ≤ j) (hj : j ≤ X.length) :
    ((splice (X.flatten ++ T0) (0 + n * sz) Y.flatten).drop (0 + j * sz)).take ((X.length - j) * sz) = (X.drop j).flatten ∧ (splice (X.flatten ++ T0) (0 + n * sz) Y.flatten).length = (X.flatten ++ T0).length ∧
    (splice (splice (X.flatten ++ T0) (0 + n * sz) Y.flatten) (0 + (n + M) * sz) (X.drop j).flatten).length = (X.flatten ++ T0).length ∧
    (splice (splice (X.flatten ++ T0) (0 + n * sz) Y.flatten) (0 + (n + M) * sz) (X.drop j).flatten).take ((n + M + (X.length - j)) * sz) = (X.take n ++ (Y ++ X.drop j)).flatten := by
  have hXl : X.flatten.length = X.length * sz := flat_len hX
  have hYl : Y.flatten.length = M * sz := by rw [flat_len hY, hM]
  have hDl : (X.drop j).flatten.length = (X.length - j) * sz := by
    rw [flat_len (fun x hx => hX x (List.mem_of_mem_drop hx))]; simp
  have e1 : (n + M) * sz = n * sz + M * sz := Nat.add_mul ..
  have e2 : (n + M + (X.length - j)) * sz = (n + M) * sz + (X.length - j) * sz := Nat.add_mul ..
  have b1 : (n + M) * sz ≤ j * sz := Nat.mul_le_mul_right _ hn
  have b2 : j * sz ≤ X.length * sz := Nat.mul_le_mul_right _ hj
  have b3 : (n + M + (X.length - j)) * sz ≤ X.length * sz := Nat.mul_le_mul_right _ (by omega)
  have hA : (X.flatten ++ T0).length = X.length * sz + T0.length := by simp [hXl]
  have hl1 : (splice (X.flatten ++ T0) (0 + n * sz) Y.flatten).length = (X.flatten ++ T0).length := splice_length (by rw [hYl, hA]; omega)
  refine ⟨?_, hl1, ?_, ?_⟩
  · rw [splice_drop_hi (by rw [hYl]; omega) (by rw [hYl, hA]; omega), Nat.zero_add, flat_drop hX hj]
  · rw [splice_length (by rw [hDl, hl1, hA]; omega), hl1]
  · have e3 : (n + M + (X.length - j)) * sz = 0 + (n + M) * sz + (X.drop j).flatten.length := by rw [hDl]; omega
    have e4 : 0 + (n + M) * sz = 0 + n * sz + Y.flatten.length := by rw [hYl]; omega
    rw [e3, splice_take_hi (by rw [hl1, hA]; omega), e4, splice_take_hi (by rw [hA]; omega), Nat.zero_add, flat_take hX (by omega)]
    simp only [List.flatten_append, List.append_assoc]
end Go.PM

