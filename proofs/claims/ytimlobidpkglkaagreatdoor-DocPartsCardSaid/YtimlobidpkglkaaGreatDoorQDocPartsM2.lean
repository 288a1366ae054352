/-
  An abstract semantics of the programs of the model: what a piece of Go code makes of abstract values, proved sound over any program. Part 2 of 4. No condition.
-/
import Derived.Test.YtimlobidpkglkaaGreatDoorQDocPartsM1
import Derived.Lib.AppendZeros
import Derived.Laws.IdiomStrings
import Derived.Laws.Cover4
import Derived.Lib.RuneCount
import Derived.Shelf.Abstract
import Derived.RangeFuncNested
import Derived.Laws.StructEq
import Derived.OrdersIn
import Derived.LoopNIn
import Derived.RangeFuncLeaves
import Derived.RangeFuncRecord
set_option linter.unusedVariables false
set_option linter.unusedSimpArgs false
set_option linter.unusedSectionVars false
set_option linter.unnecessarySimpa false
namespace Go.PM
variable [Tbl]
set_option linter.unusedSectionVars false
open Go.RowKit
set_option linter.unusedSimpArgs false
set_option linter.unusedVariables false
variable {P : Program} {B : Base} {w0 : World} {g : Gh} {A : St} {a : Act} {w : World}

theorem zeroCells_get {z : Array Value} {n i j : Nat} (hi : i < n) (hj : j < z.size) : (Builtin.zeroCells z n).getD (i * z.size + j) undef = z.getD j undef := by
  have h1 : i * z.size + j < n * z.size := by
    have : (i + 1) * z.size ≤ n * z.size := Nat.mul_le_mul_right _ hi
    rw [Nat.succ_mul] at this; omega
  have h2 : (i * z.size + j) % z.size = j := by rw [Nat.mul_comm, Nat.mul_add_mod, Nat.mod_eq_of_lt hj]
  simp [Builtin.zeroCells, Array.getD, h1, h2, hj]

theorem op_appZ {o : Oper} {t tn e : TypeId} {x y : Operand} {k kn : IntKind} {n m by_ : Nat} {z : List DV} (ho : o.op = .call { callee := .builtin .append, args := #[x, y], argTypes := #[t, tn] }) (h : Rel B w0 g A a w) (hx : A.ev x = some .nil ∨ a.eval x = .slice none 0 0) (hy : A.ev y = some (.int k n))
    (ht : elemT P t = some e) (htn : P.underlying tn = some (.int kn)) (hr : rowT P e = some (m, by_)) (hz : zeroT P e = some z) (hn : 0 < n) (hlim : n * (by_ + 1) ≤ 140737488355328) :
    OpTo P o B w0 g A a w (.own A.r.length) { A with r := A.r ++ [some ⟨e, m, List.replicate n z⟩] } := by
  obtain ⟨i, v, hi, hv, hm⟩ := zeroT_info hz
  obtain ⟨h1, h2⟩ := mapM_vr (w := w) (B := B) hm
  obtain ⟨i', z', hi', hz', hs, hb, hzs, hmpos⟩ := rowT_info hr
  rw [hi] at hi'; cases hi'
  rw [hv] at hz'; cases hz'
  have hb1 : n * by_ ≤ 140737488355328 := Nat.le_trans (Nat.mul_le_mul_left _ (by omega)) hlim
  have hb2 : n ≤ 140737488355328 := Nat.le_trans (Nat.le_mul_of_pos_right _ (by omega)) hlim
  have hvx : a.eval x = .slice none 0 0 := by
    rcases hx with hx | hx
    · exact SR.inv_nil (h.ev hx)
    · exact hx
  have hvy : a.eval y = .int k n := SR.inv_int (h.ev hy)
  have hrun := Lib.run_append_nil_zeros (P := P) w t tn o.type e i v k kn (elemT_info ht) htn hi hv n hn (by omega) (by omega) (by rw [hb]; omega)
  have hge := grownCap_ge w n 0 e
  have hcm : grownCap w n 0 e ≤ maxLen := grownCap_le_maxLen w n 0 e (by unfold maxLen; omega)
  have hgr : w.drew.heap = w.heap := rfl
  have hzsz : v.cells.size = m := hzs
  obtain ⟨h3, h4⟩ := h.newRow none w.heap.size (.slice (some ⟨w.heap.size, 0, none⟩) n (grownCap w n 0 e)) ⟨e, m, List.replicate n z⟩ (w.drew.alloc (.cells (Builtin.zeroCells v.cells n ++ Builtin.zeroCells v.cells (grownCap w n 0 e - n)) e)) (.inr rfl)
    (fun j hj _ => Below.heap_alloc w.drew _ j hj) (by simp) (by simp) (fun t h => by cases h) rfl rfl rfl (fun ok hok => by
      refine ⟨_, grownCap w n 0 e, World.alloc_heap_new w.drew _, by simp, by simpa using hge, hcm, ?_, fun i x hx => ?_, fun i x j d hx hd => ?_⟩
      · simp only [Array.size_append, size_zeroCells, hzsz, ← Nat.add_mul]; congr 1; omega
      · simp only [List.getElem?_replicate] at hx
        split at hx
        · obtain rfl := (by simpa using hx : z = x); rw [← h1, hzsz]
        · cases hx
      · simp only [List.getElem?_replicate] at hx
        split at hx
        · rename_i hin
          obtain rfl := (by simpa using hx : z = x)
          have hjl : j < v.cells.size := by rw [h1]; exact (List.getElem?_eq_some_iff.1 hd).1
          have h5 := h2 j d hd
          refine ⟨h5.1, h5.2.1, ?_⟩
          have h6 : i * m + j < (Builtin.zeroCells v.cells n).size := by
            rw [size_zeroCells, hzsz]
            have : (i + 1) * m ≤ n * m := Nat.mul_le_mul_right _ hin
            rw [Nat.succ_mul] at this; omega
          have h7 : (Builtin.zeroCells v.cells n ++ Builtin.zeroCells v.cells (grownCap w n 0 e - n)).getD (i * m + j) undef = v.cells.getD j undef := by
            rw [Array.getD_eq_getD_getElem?, Array.getElem?_append_left h6, ← Array.getD_eq_getD_getElem?]
            have := zeroCells_get (z := v.cells) hin hjl
            rwa [hzsz] at this
          simp only [h7]
          have h8 := h5.2.2 (ok := ok)
          have h9 : (w.drew.alloc (.cells (Builtin.zeroCells v.cells n ++ Builtin.zeroCells v.cells (grownCap w n 0 e - n)) e)) = (w.drew.alloc (.cells (Builtin.zeroCells v.cells n ++ Builtin.zeroCells v.cells (grownCap w n 0 e - n)) e)) := rfl
          obtain ⟨u, hu, hf⟩ := (mapM_get hm).2 j d hd
          have h10 : v.cells.getD j undef = u := toList_getD hu
          rw [h10]; exact ofS_vr hf
        · cases hx)
  refine ⟨.slice (some ⟨w.heap.size, 0, none⟩) n (grownCap w n 0 e), _, _, ?_, h3, ⟨by simp [kill], fun _ => by simp [Gh.row]⟩, h4⟩
  unfold execOp; rw [ho]
  simp only [resolve, invoke, builtin, Sem.run_bind, Sem.run_pure, Result.andThen_ok, List.map_toArray, List.map_cons, List.map_nil, hvx, hvy, hrun]

theorem op_cutO {o : Oper} {t e : TypeId} {x y : Operand} {k : IntKind} {tk n : Nat} {u : Int} {ρ : Row} (ho : o.op = .slice t x none (some y) none) (h : Rel B w0 g A a w) (hx : A.ev x = some (.own tk)) (hr : A.r[tk]? = some (some ρ)) (hy : A.ev y = some (.int k u)) (he : elemT P t = some e) (hn : szT P e = some n) (h0 : 0 ≤ u) (h1 : u ≤ ρ.xs.length) :
    OpTo P o B w0 g A a w (.own A.r.length) { A with r := A.r.set tk none ++ [some { ρ with xs := ρ.xs.take u.toNat }] } := by
  have hv : a.eval x = g.tv tk := (h.ev hx).2 ⟨_, hr⟩
  have hvy : a.eval y = .int k u := SR.inv_int (h.ev hy)
  have hu := elemT_info he
  have hrun : ∀ (ad : Option Addr) (len cap : Nat), a.eval x = .slice ad len cap → u.toNat ≤ cap → (execOp a.eval o).run P w = .ok (.value (.slice ad u.toNat cap)) w := by
    intro ad len cap hvs hcap
    have hle : u ≤ (cap : Int) := by omega
    unfold execOp; rw [ho]
    simp only [Instr.sliceAt, Sem.run_bind, run_underlying hu, Result.andThen_ok, Instr.slice, hvs, Option.map_none, Option.map_some, hvy, Instr.sliceBounds, Instr.sliceBound, asIntOf, Sem.run_pure, if_true, szT_run (w := w) hn]
    rw [if_pos ⟨h0, hle⟩]
    simp only [Sem.run_pure, Result.andThen_ok, Sem.run_bind, szT_run (w := w) hn]
    by_cases hc : cap = 0
    · subst hc; simp
    · rw [if_neg hc]
      cases ad <;> simp [Addr.add]
  rcases h.row tk ρ hr with ⟨_, hx0, ad, h2⟩ | ⟨hp, uu, cap, h3, h4, h5, h6, h7, h8, h9⟩
  · have hu0 : u.toNat = 0 := by rw [hx0] at h1; simp at h1; omega
    obtain ⟨h3, h4⟩ := h.nilRow (some tk) ρ.e ρ.sz ad
    have hrr := hrun ad 0 0 (hv.trans h2) (by omega)
    rw [hu0] at hrr
    have he' : ({ ρ with xs := ρ.xs.take u.toNat } : Row) = ⟨ρ.e, ρ.sz, []⟩ := by rw [hx0]; simp
    rw [he']
    exact ⟨.slice ad 0 0, w, _, hrr, h3, ⟨by simp [kill_length], fun _ => by simp [Gh.nilr]⟩, h4⟩
  · have htl : (ρ.xs.take u.toNat).length = u.toNat := by simp; omega
    obtain ⟨k1, k2⟩ := h.newRow (some tk) (g.tm tk) (.slice (some ⟨g.tm tk, 0, none⟩) u.toNat cap) { ρ with xs := ρ.xs.take u.toNat } w (.inl ⟨tk, ρ, rfl, hr, hp, rfl⟩) (fun _ _ _ => rfl) (Nat.le_refl _) (h.new _ (.inr ⟨tk, ⟨⟨ρ, hr⟩, hp⟩, rfl⟩)).2 (fun t ht => by cases ht; exact ⟨_, hr⟩) rfl rfl rfl (fun ok hok => by
      refine ⟨uu, cap, h3, by rw [htl], by rw [htl]; omega, h6, h7, fun i x hx => h8 i x (take_get hx), fun i x j d hx hd => ?_⟩
      obtain ⟨q1, q2, q3⟩ := h9 i x j d (take_get hx) hd
      exact ⟨q1, q2, q3.mono (fun _ _ _ => rfl) (Nat.le_refl _) hok (fun _ h _ => h)⟩)
    exact ⟨_, w, _, hrun _ _ cap (hv.trans h4) (by omega), k1, ⟨by simp [kill_length], fun _ => by simp [Gh.row]⟩, k2⟩
theorem op_capNil {o : Oper} {t e : TypeId} {x : Operand} (ho : o.op = .call { callee := .builtin .cap, args := #[x], argTypes := #[t] }) (h : Rel B w0 g A a w) (hx : A.ev x = some .nil) (ht : elemT P t = some e) : OpTo P o B w0 g A a w (.int .i64 0) A := by
  have hv := SR.inv_nil (h.ev hx)
  refine op_same h (v := .int .i64 0) ?_ (VR.int _ _)
  unfold execOp; rw [ho]
  simp [resolve, invoke, builtin, Builtin.cap_, hv, run_underlying (elemT_info ht), goInt]
theorem op_cutNil {o : Oper} {t e : TypeId} {x y : Operand} {k : IntKind} {n : Nat} (ho : o.op = .slice t x none (some y) none) (h : Rel B w0 g A a w) (hx : A.ev x = some .nil) (hy : A.ev y = some (.int k 0)) (he : elemT P t = some e) (hn : szT P e = some n) : OpTo P o B w0 g A a w .nil A := by
  have hv := SR.inv_nil (h.ev hx)
  have hvy : a.eval y = .int k 0 := SR.inv_int (h.ev hy)
  refine op_same h (v := .slice none 0 0) ?_ VR.nil
  unfold execOp; rw [ho]
  simp [Instr.sliceAt, run_underlying (elemT_info he), Instr.slice, hv, hvy, Instr.sliceBounds, Instr.sliceBound, asIntOf, szT_run (w := w) hn]
theorem op_slice3 {o : Oper} {t e : TypeId} {x y z : Operand} {nw : Bool} {xs : List (List DV)} {k k' : IntKind} {u : Int} {n : Nat} (ho : o.op = .slice t x none (some y) (some z)) (h : Rel B w0 g A a w) (hx : A.ev x = some (.sl nw xs)) (hy : A.ev y = some (.int k u)) (hz : A.ev z = some (.int k' u)) (he : elemT P t = some e) (hn : szT P e = some n)
    (h0 : 0 ≤ u) (h2 : u ≤ xs.length) : OpTo P o B w0 g A a w (.sl nw (xs.take u.toNat)) A := by
  have hu := elemT_info he
  have hv : VR w B.N (fun k => ¬ bad g A k) (.sl nw xs) (a.eval x) := h.ev hx
  have e1 := SR.inv_int (h.ev hy)
  have e2 := SR.inv_int (h.ev hz)
  have hb : ∀ (cap : Nat), xs.length ≤ cap → (Instr.sliceBounds true xs.length cap none (some (a.eval y)) (some (a.eval z))).run P w = .ok (0, u.toNat, u.toNat) w := by
    intro cap hcap
    simp only [Instr.sliceBounds, e1, e2, Instr.sliceBound, asIntOf, Sem.run_bind, Sem.run_pure, Result.andThen_ok]
    rw [if_pos ⟨by omega, by omega⟩]
    simp only [Sem.run_bind, Sem.run_pure, Result.andThen_ok]
    rw [if_pos ⟨by omega, by omega⟩]
    simp only [Sem.run_bind, Sem.run_pure, Result.andThen_ok]
  generalize hvx : a.eval x = vx at hv
  have hrun : ∀ (ad : Option Addr) (cap : Nat), vx = .slice ad xs.length cap → xs.length ≤ cap → (execOp a.eval o).run P w = .ok (.value (.slice (if u.toNat = 0 then ad else ad.map (·.add (0 * n))) (u.toNat - 0) (u.toNat - 0))) w := by
    intro ad cap hvs hcap
    unfold execOp; rw [ho]
    simp only [Instr.sliceAt, Sem.run_bind, run_underlying hu, Result.andThen_ok, Instr.slice, hvx, hvs, Option.map_none, Option.map_some, hb cap hcap, szT_run (w := w) hn]
    rfl
  have hlen : (xs.take u.toNat).length = u.toNat := by simp; omega
  cases hv with
  | empty _ ad cap =>
    refine op_same h (hrun ad cap rfl (by simp)) ?_
    simp only [List.length_nil] at h2
    rw [List.take_nil, show u.toNat = 0 from by omega]
    exact SR.vr (.empty _ _ _)
  | sl _ _ ad cap sz uf hle hok hlt hnw hsz' hcell hd =>
    refine op_same h (hrun (some ad) cap rfl hle) ?_
    by_cases hul : u.toNat = 0
    · rw [List.length_eq_zero_iff.1 (hlen.trans hul), hul]
      exact SR.vr (.empty _ _ _)
    · rw [if_neg hul, Nat.zero_mul, Nat.sub_zero]
      have hget : ∀ (i : Nat) (c : List DV), (xs.take u.toNat)[i]? = some c → xs[i]? = some c := fun i c hc => take_get hc
      have := VR.sl (w := w) (B := B.N) (ok := fun k => ¬ bad g A k) nw (xs.take u.toNat) (ad.add 0) u.toNat sz uf (by omega) (by rw [addr_add_block]; exact hok) (by rw [addr_add_block]; exact hlt) (by rw [addr_add_block]; exact hnw) (fun i c hc => hsz' _ c (hget i c hc)) (fun i c j d hc hj => by rw [addr_add, Nat.zero_add]; exact hcell _ c j d (hget i c hc) hj) (fun i c j d hc hj => hd _ c j d (hget i c hc) hj)
      rw [hlen] at this
      exact SR.vr this
end Go.PM

namespace Go.PM
variable [Tbl]
set_option linter.unusedSectionVars false
open Go.RowKit
set_option linter.unusedSimpArgs false
set_option linter.unusedVariables false
variable {P : Program} {B : Base} {w0 : World} {g : Gh} {A : St} {a : Act} {w : World}

theorem Rel.vwVal (h : Rel B w0 g A a w) {x : Operand} {b o n c : Nat} {cs : List DV} (hx : A.ev x = some (.vw b o n c)) (hb : A.b[b]? = some (some cs)) : a.eval x = .slice (some ⟨g.bm b, g.bo b + o, none⟩) n c := (h.ev hx).2 ⟨cs, hb⟩

theorem op_lenV {o : Oper} {t e : TypeId} {x : Operand} {b off n c : Nat} {cs : List DV} (ho : o.op = .call { callee := .builtin .len, args := #[x], argTypes := #[t] }) (h : Rel B w0 g A a w) (hx : A.ev x = some (.vw b off n c)) (hb : A.b[b]? = some (some cs)) (ht : elemT P t = some e) : OpTo P o B w0 g A a w (.int .i64 n) A := by
  refine op_same h (v := .int .i64 n) ?_ (VR.int _ _)
  unfold execOp; rw [ho]
  simp [resolve, invoke, builtin, Builtin.len_, h.vwVal hx hb, run_underlying (elemT_info ht), goInt]
theorem op_capV {o : Oper} {t e : TypeId} {x : Operand} {b off n c : Nat} {cs : List DV} (ho : o.op = .call { callee := .builtin .cap, args := #[x], argTypes := #[t] }) (h : Rel B w0 g A a w) (hx : A.ev x = some (.vw b off n c)) (hb : A.b[b]? = some (some cs)) (ht : elemT P t = some e) : OpTo P o B w0 g A a w (.int .i64 c) A := by
  refine op_same h (v := .int .i64 c) ?_ (VR.int _ _)
  unfold execOp; rw [ho]
  simp [resolve, invoke, builtin, Builtin.cap_, h.vwVal hx hb, run_underlying (elemT_info ht), goInt]

theorem op_sliceV {o : Oper} {t e : TypeId} {x : Operand} {lo hi : Option Operand} {b off len cap : Nat} {cs : List DV} {l u : Int} {n : Nat} (ho : o.op = .slice t x lo hi none) (h : Rel B w0 g A a w) (hx : A.ev x = some (.vw b off len cap)) (hb0 : A.b[b]? = some (some cs)) (he : elemT P t = some e) (hn : szT P e = some n)
    (hlo : loIs A lo l) (hhi : hiIs A len hi u) (h0 : 0 ≤ l) (h1 : l ≤ u) (h2 : u ≤ cap) : OpTo P o B w0 g A a w (.vw b (if cap = l.toNat then off else off + l.toNat * n) (u.toNat - l.toNat) (cap - l.toNat)) A := by
  have hu := elemT_info he
  have hvx := h.vwVal hx hb0
  have hb : (Instr.sliceBounds true len cap (lo.map a.eval) (hi.map a.eval) none).run P w = .ok (l.toNat, u.toNat, cap) w := by
    have hh : (match hi.map a.eval, (none : Option Value) with | some v, some _ => Instr.sliceBound v cap .slice3B | some v, none => Instr.sliceBound v cap .sliceAcap | none, none => pure len | none, some _ => stuck "Slice: max without high").run P w = .ok u.toNat w := by
      cases hi with
      | none => simp only [hiIs] at hhi; subst hhi; simp
      | some y =>
        obtain ⟨k, hk⟩ := hhi
        have := SR.inv_int (h.ev hk)
        simp only [Option.map_some, this, Instr.sliceBound, asIntOf, Sem.run_bind, Sem.run_pure, Result.andThen_ok]
        rw [if_pos ⟨by omega, by omega⟩]; rfl
    have hl : (match lo.map a.eval with | some v => Instr.sliceBound v u.toNat .sliceB | none => pure 0).run P w = .ok l.toNat w := by
      cases lo with
      | none => simp only [loIs] at hlo; subst hlo; rfl
      | some y =>
        obtain ⟨k, hk⟩ := hlo
        have := SR.inv_int (h.ev hk)
        simp only [Option.map_some, this, Instr.sliceBound, asIntOf, Sem.run_bind, Sem.run_pure, Result.andThen_ok]
        rw [if_pos ⟨by omega, by omega⟩]; rfl
    simp only [Instr.sliceBounds, Sem.run_bind, Sem.run_pure, Result.andThen_ok, if_true]
    cases hi <;> cases lo <;> simp_all
  refine op_same h (v := .slice (some ⟨g.bm b, g.bo b + (if cap = l.toNat then off else off + l.toNat * n), none⟩) (u.toNat - l.toNat) (cap - l.toNat)) ?_ ⟨(h.ev hx).1, fun _ => rfl⟩
  unfold execOp; rw [ho]
  simp only [Instr.sliceAt, Sem.run_bind, run_underlying hu, Result.andThen_ok, Instr.slice, hvx, Option.map_none, hb, szT_run (w := w) hn, Sem.run_pure]
  by_cases hc : cap = l.toNat
  · simp [hc]
  · simp [hc, addr0, Nat.add_assoc]

theorem Rel.spliceBox (h : Rel B w0 g A a w) {b : Nat} {cs : List DV} (hb : A.b[b]? = some (some cs)) {off : Nat} {ds : List DV} {vals : List Value} (hl : vals.length = ds.length) (hoff : off + ds.length ≤ cs.length)
    (hv : ∀ j d, ds[j]? = some d → d.one = true ∧ d.tok = false ∧ VR w B.N (fun k => ¬ bad g A k) d (vals.getD j undef)) :
    ∃ w', (storeCells ⟨g.bm b, g.bo b + off, none⟩ vals).run P w = .ok () w' ∧ Rel B w0 g { A with b := A.b.set b (some (splice cs off ds)) } a w' ∧ Ext g A w g { A with b := A.b.set b (some (splice cs off ds)) } w' := by
  obtain ⟨u, e, h1, h2, h3⟩ := h.box b cs hb
  have hone : ∀ v ∈ vals, v.oneCell' = true := by
    intro v hvm
    obtain ⟨j, hj⟩ := List.getElem?_of_mem hvm
    have hjl : j < ds.length := by rw [← hl]; exact (List.getElem?_eq_some_iff.1 hj).1
    obtain ⟨h4, h5, h6⟩ := hv j _ (List.getElem?_eq_getElem hjl)
    rw [List.getD_eq_getElem?_getD, hj] at h6
    exact h6.oneCell h4
  have hst := run_storeCells_at P (g.bm b) (g.bo b + off) e vals 0 u w h1 (by omega) hone
  simp only [Nat.add_zero] at hst
  have hul : g.bo b + off + vals.length ≤ u.toList.length := by simp; omega
  refine ⟨_, hst, ?_⟩
  exact h.setBox hb (cs' := splice cs off ds) (splice_length hoff) (splice u.toList (g.bo b + off) vals).toArray (hu' := fun u2 e2 hu2 => by
    rw [h1] at hu2; cases hu2
    refine ⟨by simp [splice_length hul], fun j hj => ?_⟩
    rw [splice_length hoff] at hj
    rw [List.getElem?_toArray, splice_get hul, if_neg (by omega), Array.getElem?_toList]) (fun j x hj => by
    rw [splice_get hoff] at hj
    have hg : (splice u.toList (g.bo b + off) vals).toArray.getD (g.bo b + j) undef = if off ≤ j ∧ j < off + ds.length then vals.getD (j - off) undef else u.getD (g.bo b + j) undef := by
      rw [Array.getD_eq_getD_getElem?, List.getElem?_toArray, splice_get hul]
      simp only [Array.getElem?_toList]
      by_cases hr : off ≤ j ∧ j < off + ds.length
      · rw [if_pos (by omega), if_pos hr, List.getD_eq_getElem?_getD, show g.bo b + j - (g.bo b + off) = j - off from by omega]
      · rw [if_neg (by omega), if_neg hr, Array.getD_eq_getD_getElem?]
    rw [hg]
    split at hj
    · rename_i hr
      rw [if_pos hr]
      obtain ⟨h4, h5, h6⟩ := hv _ x hj
      exact ⟨.inl h4, SR.vr h6⟩
    · rename_i hr
      rw [if_neg hr]
      exact h3 j x hj)

theorem op_eqB {o : Oper} {ne : Bool} {t t' : TypeId} {x y : Operand} {p q : Bool} (ho : o.op = .binOp (if ne then .neq else .eql) t x y t') (h : Rel B w0 g A a w) (hx : A.ev x = some (.bool p)) (hy : A.ev y = some (.bool q)) (ht : P.underlying t = some .bool) : OpTo P o B w0 g A a w (.bool ((p == q) != ne)) A := by
  have h1 := SR.inv_bool (h.ev hx)
  have h2 := SR.inv_bool (h.ev hy)
  refine op_same h (v := .bool ((p == q) != ne)) ?_ (VR.bool _)
  unfold execOp; rw [ho]
  have h3 : ∀ d, (Op.equalIn (d + 1) t (.bool p) (.bool q)).run P w = .ok (p == q) w := fun d => by simp [Op.equalIn, run_underlying ht]
  have h4 : (Op.equal t (.bool p) (.bool q)).run P w = .ok (p == q) w := h3 9999
  cases ne <;> simp [h1, h2, eqGuard, binOp, h4, bne]
end Go.PM

namespace Go.PM
variable [Tbl]
set_option linter.unusedSectionVars false
open Go.RowKit
set_option linter.unusedSimpArgs false
set_option linter.unusedVariables false
variable {P : Program} {B : Base} {w0 : World} {g : Gh} {A : St} {a : Act} {w : World}

def Src (P : Program) (B : Base) (g : Gh) (A : St) (w : World) (v : Value) (sz len m : Nat) (ds : List DV) : Prop :=
  (Builtin.lenOf v).run P w = .ok len w ∧ ∃ vals : List Value, (∃ ad n c, v = .slice ad n c ∧ (∀ j x, vals[j]? = some x → ∃ a', ad = some a' ∧ w.cell? (a'.add j) = some x) ∧ (0 < m → n = len ∧ ad.isSome = true)) ∧ (Builtin.firstCells sz m v).run P w = .ok vals.toArray w ∧ vals.length = ds.length ∧ ∀ j d, ds[j]? = some d → d.one = true ∧ d.tok = false ∧ VR w B.N (fun k => ¬ bad g A k) d (vals.getD j undef)

theorem flat_inv {sz : Nat} (hsz : 0 < sz) {xs : List (List DV)} (h : ∀ x ∈ xs, x.length = sz) {j : Nat} {d : DV} (hj : xs.flatten[j]? = some d) : ∃ x, xs[j / sz]? = some x ∧ x[j % sz]? = some d ∧ j / sz * sz + j % sz = j := by
  have e1 : j / sz * sz + j % sz = j := by rw [Nat.mul_comm]; exact Nat.div_add_mod j sz
  have h9 := flat_get (xs := xs) (j / sz) (j % sz) h (Nat.mod_lt _ hsz)
  rw [e1, hj] at h9
  cases hq : xs[j / sz]? with
  | none => rw [hq] at h9; cases h9
  | some x => rw [hq] at h9; exact ⟨x, rfl, h9.symm, e1⟩

theorem Rel.srcSl (h : Rel B w0 g A a w) {y : Operand} {dy : DV} {xs : List (List DV)} {sz m : Nat} (hsz : 0 < sz) (hy : A.ev y = some dy) (hx : A.elems dy = some xs) (hf : flatOk sz xs) (hm : m ≤ xs.length) : Src P B g A w (a.eval y) sz xs.length m (xs.take m).flatten := by
  have hxl : ∀ x ∈ xs, x.length = sz := fun x hx => (hf x hx).1
  have htl : ∀ x ∈ xs.take m, x.length = sz := fun x hx => hxl x (List.mem_of_mem_take hx)
  rcases h.src (h.ev hy) hx hf with ⟨ad, cap, hv, h0⟩ | ⟨ad, cap, news, hv, hle, hnl, hcell, hnews⟩
  · subst h0
    have hm0 : m = 0 := by simpa using hm
    subst hm0
    rw [hv]
    refine ⟨rfl, [], ⟨_, _, _, rfl, fun j x hj => by simp at hj, fun h => absurd h (Nat.lt_irrefl _)⟩, ?_, by simp, fun j d hj => by simp at hj⟩
    cases ad with
    | none => rfl
    | some ad => exact run_firstCells_some (P := P) w sz 0 ad 0 cap [] (by simp) (fun j v hj => by simp at hj)
  · rw [hv]
    refine ⟨rfl, news.take (m * sz), ⟨_, _, _, rfl, fun j x hj => ⟨_, rfl, hcell j x (take_get hj)⟩, fun _ => ⟨rfl, rfl⟩⟩, ?_, ?_, fun j d hj => ?_⟩
    · refine run_firstCells_some (P := P) w sz m ad _ cap _ ?_ (fun j v hj => hcell j v (take_get hj))
      have : m * sz ≤ news.length := by rw [hnl]; exact Nat.mul_le_mul_right _ hm
      simp; omega
    · rw [flat_len htl]
      have : m * sz ≤ news.length := by rw [hnl]; exact Nat.mul_le_mul_right _ hm
      simp; rw [Nat.min_eq_left this, Nat.min_eq_left hm]
    · obtain ⟨x, hx1, hx2, e1⟩ := flat_inv hsz htl hj
      have hx3 : xs[j / sz]? = some x := take_get hx1
      have h7 := (hf x (List.mem_of_getElem? hx3)).2 d (List.mem_of_getElem? hx2)
      obtain ⟨u, h8, h9⟩ := hnews _ x _ d hx3 hx2
      rw [e1] at h8
      have hjl : j < m * sz := by
        have := (List.getElem?_eq_some_iff.1 hj).1
        rw [flat_len htl] at this
        simp only [List.length_take] at this
        rwa [Nat.min_eq_left hm] at this
      refine ⟨h7.1, h7.2, ?_⟩
      rw [List.getD_eq_getElem?_getD, List.getElem?_take, if_pos hjl, h8]
      exact h9
theorem Rel.srcVw (h : Rel B w0 g A a w) {y : Operand} {b off n c : Nat} {cs : List DV} {sz m : Nat} (hy : A.ev y = some (.vw b off n c)) (hb : A.b[b]? = some (some cs)) (hm : off + m * sz ≤ cs.length) (hds : ((cs.drop off).take (m * sz)).all (fun d => d.one && !d.tok) = true) : Src P B g A w (a.eval y) sz n m ((cs.drop off).take (m * sz)) := by
  obtain ⟨u, e, h1, h2, h3⟩ := h.box b cs hb
  rw [h.vwVal hy hb]
  have hlen : ((u.toList.drop (g.bo b + off)).take (m * sz)).length = m * sz := by simp; omega
  have hcell : ∀ j v, ((u.toList.drop (g.bo b + off)).take (m * sz))[j]? = some v → w.cell? ((⟨g.bm b, g.bo b + off, none⟩ : Addr).add j) = some v := by
    intro j v hj
    rw [List.getElem?_take] at hj
    split at hj
    · rw [List.getElem?_drop] at hj
      rw [addr0, cell_of_row w _ _ u e (0, 0) h1, ← Array.getElem?_toList]
      exact hj
    · cases hj
  refine ⟨rfl, (u.toList.drop (g.bo b + off)).take (m * sz), ⟨_, _, _, rfl, fun j x hj => ⟨_, rfl, hcell j x hj⟩, fun _ => ⟨rfl, rfl⟩⟩, ?_, ?_, fun j d hj => ?_⟩
  · exact run_firstCells_some (P := P) w sz m _ _ c _ hlen hcell
  · rw [hlen]; simp; omega
  · have h4 := List.all_eq_true.1 hds d (List.mem_of_getElem? hj)
    simp only [Bool.and_eq_true, Bool.not_eq_true'] at h4
    rw [List.getElem?_take] at hj
    split at hj
    · rename_i hjl
      rw [List.getElem?_drop] at hj
      obtain ⟨_, h5⟩ := h3 (off + j) d hj
      refine ⟨h4.1, h4.2, ?_⟩
      have hb' : g.bo b + off + j < u.toList.length := by simp; omega
      rw [List.getD_eq_getElem?_getD, List.getElem?_take, if_pos hjl, List.getElem?_drop, List.getElem?_eq_getElem hb']
      have h6 := h5.toVr h4.2
      rw [← Nat.add_assoc, toList_getD (List.getElem?_eq_getElem hb')] at h6
      exact h6
    · cases hj

theorem op_copyV {o : Oper} {t t' e : TypeId} {x y : Operand} {b off n c sz len : Nat} {cs ds : List DV} (ho : o.op = .call { callee := .builtin .copy, args := #[x, y], argTypes := #[t, t'] }) (h : Rel B w0 g A a w) (hx : A.ev x = some (.vw b off n c)) (hb : A.b[b]? = some (some cs)) (ht : elemT P t = some e) (hn : szT P e = some sz)
    (hs : Src P B g A w (a.eval y) sz len (Nat.min len n) ds) (hoff : off + ds.length ≤ cs.length) : OpTo P o B w0 g A a w (.int .i64 (Nat.min len n : Nat)) { A with b := A.b.set b (some (splice cs off ds)) } := by
  obtain ⟨hl, vals, _, hf, hvl, hv⟩ := hs
  obtain ⟨w', h1, h2, h3⟩ := h.spliceBox (P := P) hb hvl hoff hv
  refine ⟨.int .i64 (Nat.min len n : Nat), w', g, ?_, h2, SR.vr (.int _ _), h3⟩
  unfold execOp; rw [ho]
  simp only [resolve, invoke, builtin, Sem.run_bind, Sem.run_pure, Result.andThen_ok, List.map_toArray, List.map_cons, List.map_nil, h.vwVal hx hb]
  have hrun : (Builtin.copy_ #[t, t'] o.type #[.slice (some ⟨g.bm b, g.bo b + off, none⟩) n c, a.eval y]).run P w = .ok (.int .i64 (Nat.min len n : Nat)) w' := by
    simp [Builtin.copy_, run_underlying (elemT_info ht), hl, szT_run (w := w) hn, hf, h1, goInt]
  simp [hrun]

theorem op_clearV {o : Oper} {t e : TypeId} {x : Operand} {b off n c sz : Nat} {cs z : List DV} (ho : o.op = .call { callee := .builtin .clear, args := #[x], argTypes := #[t] }) (h : Rel B w0 g A a w) (hx : A.ev x = some (.vw b off n c)) (hb : A.b[b]? = some (some cs)) (ht : elemT P t = some e) (hz : zeroT P e = some z) (hsz : 0 < z.length)
    (hoff : off + n * z.length ≤ cs.length) : OpTo P o B w0 g A a w (.tup []) { A with b := A.b.set b (some (splice cs off (List.replicate n z).flatten)) } := by
  obtain ⟨i, v, hi, hv, hm⟩ := zeroT_info hz
  obtain ⟨h1, h2⟩ := mapM_vr (w := w) (B := B) hm
  have hrl : ∀ x ∈ List.replicate n z, x.length = z.length := fun x hx => by rw [List.eq_of_mem_replicate hx]
  have hfl : (List.replicate n z).flatten.length = n * z.length := by rw [flat_len hrl, List.length_replicate]
  have hsc : (Builtin.zeroCells v.cells n).size = n * z.length := by rw [size_zeroCells, h1]
  obtain ⟨w', h3, h4, h5⟩ := h.spliceBox (P := P) hb (off := off) (ds := (List.replicate n z).flatten) (vals := (Builtin.zeroCells v.cells n).toList) (by rw [hfl]; simpa using hsc) (by omega) (fun j d hj => by
    obtain ⟨x', hx1, hx2, e1⟩ := flat_inv hsz hrl hj
    rw [List.getElem?_replicate] at hx1
    split at hx1
    · rename_i hil
      obtain rfl : z = x' := by simpa using hx1
      obtain ⟨h6, h7, h8⟩ := h2 _ d hx2
      refine ⟨h6, h7, ?_⟩
      have h9 := zeroCells_get (z := v.cells) hil (by rw [h1]; exact Nat.mod_lt j hsz)
      rw [h1, e1] at h9
      have h10 : (Builtin.zeroCells v.cells n).toList.getD j undef = v.cells.getD (j % z.length) undef := by
        rw [← h9, List.getD_eq_getElem?_getD, Array.getElem?_toList, Array.getD_eq_getD_getElem?]
      rw [h10]
      exact h8
    · cases hx1)
  have hx' := h.vwVal hx hb
  have key : ∀ w', ((n = 0 ∧ w' = w) ∨ (storeCells ⟨g.bm b, g.bo b + off, none⟩ (Builtin.zeroCells v.cells n).toList).run P w = .ok () w') → (execOp a.eval o).run P w = .ok (.value (.tuple #[])) w' := by
    intro w' hw
    unfold execOp; rw [ho]
    have hzv : (zeroValue e).run P w = .ok v w := run_zeroValue' hi hv
    simp only [resolve, invoke, builtin, Sem.run_bind, Sem.run_pure, Result.andThen_ok, List.map_toArray, List.map_cons, List.map_nil, hx']
    cases n with
    | zero =>
      have hw' : w' = w := by
        rcases hw with ⟨_, h⟩ | h
        · exact h
        · simp [Builtin.zeroCells, storeCells] at h; exact h.symm
      subst hw'
      simp [Builtin.clear_, run_underlying (elemT_info ht)]
    | succ n =>
      rcases hw with ⟨h0, _⟩ | hw
      · cases h0
      · simp [Builtin.clear_, run_underlying (elemT_info ht), hzv, hw]
  exact ⟨.tuple #[], w', g, key w' (.inr h3), h4, ⟨#[], rfl, rfl, fun i d hd => by simp at hd⟩, h5⟩

theorem flat_at' {sz : Nat} {xs : List (List DV)} (h : ∀ x ∈ xs, x.length = sz) {i j : Nat} {x : List DV} {d : DV} (hi : xs[i]? = some x) (hj : x[j]? = some d) : xs.flatten[i * sz + j]? = some d := by
  have hjl : j < sz := by rw [← h x (List.mem_of_getElem? hi)]; exact (List.getElem?_eq_some_iff.1 hj).1
  have h1 := flat_get (xs := xs) i j h hjl
  rw [hi] at h1
  exact h1.trans hj
theorem op_appV {o : Oper} {t e : TypeId} {x y : Operand} {b off n c sz len : Nat} {cs ds : List DV} (ho : o.op = .call { callee := .builtin .append, args := #[x, y], argTypes := #[t, t] }) (h : Rel B w0 g A a w) (hx : A.ev x = some (.vw b off n c)) (hb : A.b[b]? = some (some cs)) (ht : elemT P t = some e) (hn : szT P e = some sz)
    (hs : Src P B g A w (a.eval y) sz len len ds) (hfit : n + len ≤ c) (hoff : off + n * sz + ds.length ≤ cs.length) : OpTo P o B w0 g A a w (.vw b off (n + len) c) { A with b := A.b.set b (some (splice cs (off + n * sz) ds)) } := by
  obtain ⟨hl, vals, _, hf, hvl, hv⟩ := hs
  obtain ⟨w', h1, h2, h3⟩ := h.spliceBox (P := P) hb hvl hoff hv
  refine ⟨.slice (some ⟨g.bm b, g.bo b + off, none⟩) (n + len) c, w', g, ?_, h2, ⟨by simpa using (h.ev hx).1, fun _ => rfl⟩, h3⟩
  unfold execOp; rw [ho]
  simp only [resolve, invoke, builtin, Sem.run_bind, Sem.run_pure, Result.andThen_ok, List.map_toArray, List.map_cons, List.map_nil, h.vwVal hx hb]
  have hrun : (Builtin.append_ #[t, t] o.type #[.slice (some ⟨g.bm b, g.bo b + off, none⟩) n c, a.eval y]).run P w = .ok (.slice (some ⟨g.bm b, g.bo b + off, none⟩) (n + len) c) w' := by
    have h1' : (storeCells ⟨g.bm b, g.bo b + off + n * sz, none⟩ vals).run P w = .ok () w' := by rw [Nat.add_assoc]; exact h1
    simp [Builtin.append_, run_underlying (elemT_info ht), hl, szT_run (w := w) hn, hfit, hf, addr0, h1']
  simp [hrun]

theorem op_appVG {o : Oper} {t e : TypeId} {x y : Operand} {b off n c sz by_ len : Nat} {cs : List DV} {xs ys : List (List DV)} (ho : o.op = .call { callee := .builtin .append, args := #[x, y], argTypes := #[t, t] }) (h : Rel B w0 g A a w) (hx : A.ev x = some (.vw b off n c)) (hb : A.b[b]? = some (some cs)) (ht : elemT P t = some e) (hr : rowT P e = some (sz, by_))
    (hs : Src P B g A w (a.eval y) sz len len ys.flatten) (hyl : ys.length = len) (hfy : flatOk sz ys) (hxl : xs.length = n) (hfx : flatOk sz xs) (hoff : off + n * sz ≤ cs.length) (hcs : (cs.drop off).take (n * sz) = xs.flatten) (hfit : c < n + len) (hlc : n ≤ c) (hlim : (n + len) * (by_ + 1) ≤ 140737488355328) :
    OpTo P o B w0 g A a w (.own A.r.length) { A with r := A.r ++ [some ⟨e, sz, xs ++ ys⟩] } := by
  obtain ⟨i, z, hi, hz, hsi, hbi, hzs, hpos⟩ := rowT_info hr
  have hxx : ∀ x ∈ xs, x.length = sz := fun x hx => (hfx x hx).1
  have hyy : ∀ x ∈ ys, x.length = sz := fun x hx => (hfy x hx).1
  have hall : ((cs.drop off).take (n * sz)).all (fun d => d.one && !d.tok) = true := by
    rw [hcs, List.all_eq_true]
    intro d hd
    obtain ⟨l, hl, hd⟩ := List.mem_flatten.1 hd
    have := (hfx l hl).2 d hd
    simp [this.1, this.2]
  have hsx : Src P B g A w (a.eval x) sz n n ((cs.drop off).take (n * sz)) := h.srcVw hx hb hoff hall
  rw [hcs] at hsx
  obtain ⟨_, olds, ⟨ado, no, co, hvo, hco, _⟩, _, hol, hov⟩ := hsx
  obtain ⟨hly, news, ⟨ad, nn, cn, hvn, hcn, hnn⟩, _, hnl, hnv⟩ := hs
  obtain ⟨rfl, had⟩ := hnn (by omega)
  obtain ⟨a1, rfl⟩ := Option.isSome_iff_exists.1 had
  have hvx := h.vwVal hx hb
  rw [hvx] at hvo
  obtain ⟨rfl, rfl, rfl⟩ : some (⟨g.bm b, g.bo b + off, none⟩ : Addr) = ado ∧ n = no ∧ c = co := by simpa using hvo
  have hfo : olds.length = n * sz := by rw [hol, flat_len hxx, hxl]
  have hfn : news.length = nn * sz := by rw [hnl, flat_len hyy, hyl]
  have hb1 : (n + nn) * by_ ≤ 140737488355328 := Nat.le_trans (Nat.mul_le_mul_left _ (by omega)) hlim
  have hb2 : n + nn ≤ 140737488355328 := Nat.le_trans (Nat.le_mul_of_pos_right _ (by omega)) hlim
  have hrun := run_append_grow (P := P) w t o.type e i z (elemT_info ht) hi hz ⟨g.bm b, g.bo b + off, none⟩ n c olds (by rw [hsi]; exact hfo) (fun j v hj => by
    obtain ⟨a', h1, h2⟩ := hco j v hj
    cases h1; exact h2) a1 nn cn news (by rw [hsi]; exact hfn) (fun j v hj => by
    obtain ⟨a', h1, h2⟩ := hcn j v hj
    cases h1; exact h2) hfit (by omega) (growslice_fits hfit (by rw [hbi]; exact hb1))
  have hge := grownCap_ge w (n + nn) c e
  have hcm : grownCap w (n + nn) c e ≤ maxLen := grownCap_le_maxLen w (n + nn) c e (by unfold maxLen; omega)
  have hbel : ∀ ok : Nat → Prop, (∀ j, ¬ bad g A j → j < w.heap.size → ok j) → ∀ {d : DV} {u : Value} (W : World), (∀ k, k < w.heap.size → W.heap[k]? = w.heap[k]?) → w.heap.size ≤ W.heap.size → VR w B.N (fun k => ¬ bad g A k) d u → VR W B.N ok d u := fun ok hok d u W hW hS hv => hv.mono (fun j _ hlt => hW j hlt) hS hok (fun _ h _ => h)
  have hvals : ∀ (q : Nat) (d : DV), (xs ++ ys).flatten[q]? = some d → d.one = true ∧ d.tok = false ∧ VR w B.N (fun k => ¬ bad g A k) d ((olds ++ news).getD q undef) := by
    intro q d hq
    rw [List.flatten_append] at hq
    rw [List.getD_eq_getElem?_getD]
    by_cases hql : q < olds.length
    · rw [List.getElem?_append_left (by omega)] at hq
      rw [List.getElem?_append_left hql, ← List.getD_eq_getElem?_getD]
      exact hov q d hq
    · rw [List.getElem?_append_right (by omega)] at hq
      rw [List.getElem?_append_right (by omega), ← List.getD_eq_getElem?_getD, hol]
      exact hnv _ d hq
  have hsz' : ∀ l ∈ xs ++ ys, l.length = sz := fun l hl => (List.mem_append.1 hl).elim (hxx l) (hyy l)
  obtain ⟨h3, h4⟩ := h.newRow none w.heap.size (.slice (some ⟨w.heap.size, 0, none⟩) (n + nn) (grownCap w (n + nn) c e)) ⟨e, sz, xs ++ ys⟩ (w.drew.alloc (.cells (olds.toArray ++ news.toArray ++ Builtin.zeroCells z.cells (grownCap w (n + nn) c e - (n + nn))) e)) (.inr rfl)
    (fun j hj _ => Below.heap_alloc w.drew _ j hj) (by simp) (by simp) (fun t h => by cases h) rfl rfl rfl (fun ok hok => by
      refine ⟨_, grownCap w (n + nn) c e, World.alloc_heap_new w.drew _, by simp [hxl, hyl], by simpa [hxl, hyl] using hge, hcm, ?_, fun i' l hl => hsz' l (List.mem_of_getElem? hl), fun i' l j d hl hd => ?_⟩
      · simp only [Array.size_append, size_zeroCells, hzs, List.size_toArray, hfo, hfn]
        rw [← Nat.add_mul, ← Nat.add_mul]; congr 1; omega
      · have hq := flat_at' hsz' hl hd
        obtain ⟨h5, h6, h7⟩ := hvals _ d hq
        refine ⟨h5, h6, ?_⟩
        have hql : i' * sz + j < olds.length + news.length := by
          have := (List.getElem?_eq_some_iff.1 hq).1
          rw [flat_len hsz'] at this
          simp only [List.length_append, hxl, hyl] at this
          rw [hfo, hfn, ← Nat.add_mul]; exact this
        have h8 : (olds.toArray ++ news.toArray ++ Builtin.zeroCells z.cells (grownCap w (n + nn) c e - (n + nn))).getD (i' * sz + j) undef = (olds ++ news).getD (i' * sz + j) undef := by
          rw [Array.getD_eq_getD_getElem?, Array.getElem?_append_left (by simpa using hql), List.getD_eq_getElem?_getD]
          simp
        simp only [h8]
        exact hbel ok hok _ (fun k hk => Below.heap_alloc w.drew _ k hk) (by simp) h7)
  refine ⟨.slice (some ⟨w.heap.size, 0, none⟩) (n + nn) (grownCap w (n + nn) c e), _, _, ?_, h3, ⟨by simp [kill], fun _ => by simp [Gh.row]⟩, h4⟩
  unfold execOp; rw [ho]
  simp only [resolve, invoke, builtin, Sem.run_bind, Sem.run_pure, Result.andThen_ok, List.map_toArray, List.map_cons, List.map_nil, hvx, hvn, hrun]

inductive ASrc (A : St) (sz m : Nat) (y : Operand) : Nat → List DV → Prop
  | sl {dy : DV} {xs : List (List DV)} (hsz : 0 < sz) (hy : A.ev y = some dy) (hx : A.elems dy = some xs) (hf : flatOk sz xs) (hm : m ≤ xs.length) : ASrc A sz m y xs.length (xs.take m).flatten
  | vw {b off n c : Nat} {cs : List DV} (hy : A.ev y = some (.vw b off n c)) (hb : A.b[b]? = some (some cs)) (hm : off + m * sz ≤ cs.length) (hds : ((cs.drop off).take (m * sz)).all (fun d => d.one && !d.tok) = true) : ASrc A sz m y n ((cs.drop off).take (m * sz))
theorem ASrc.src {sz m len : Nat} {y : Operand} {ds : List DV} (h : ASrc A sz m y len ds) (hr : Rel B w0 g A a w) : Src P B g A w (a.eval y) sz len m ds := by
  cases h with
  | sl hsz hy hx hf hm => exact hr.srcSl hsz hy hx hf hm
  | vw hy hb hm hds => exact hr.srcVw hy hb hm hds
theorem ASrc.agree {sz m len : Nat} {y : Operand} {ds : List DV} {A' : St} (h : ASrc A sz m y len ds) (he : A'.ev y = A.ev y) (hb : A'.b = A.b) (hel : A'.elems = A.elems) : ASrc A' sz m y len ds := by
  cases h with
  | sl hsz hy hx hf hm => exact .sl hsz (he.trans hy) (by rw [hel]; exact hx) hf hm
  | vw hy hb' hm hds => exact .vw (he.trans hy) (by rw [hb]; exact hb') hm hds
end Go.PM

namespace Go.PM
variable [Tbl]
set_option linter.unusedSectionVars false
open Go.RowKit
set_option linter.unusedSimpArgs false
set_option linter.unusedVariables false
variable {P : Program} {B : Base} {w0 : World} {g : Gh} {A : St} {a : Act} {w : World}

def runesG (s : ByteArray) : Nat → Nat → List (Int × Int)
  | 0, _ => []
  | n + 1, p => if p < s.size then ((p : Int), ((Utf8.decode s p).1 : Int)) :: runesG s n (p + (Utf8.decode s p).2) else []
theorem runesG_fuel {s : ByteArray} : ∀ (n p : Nat), s.size - p ≤ n → runesG s (n + 1) p = runesG s n p
  | 0, p, h => by
    unfold runesG; rw [if_neg (by omega)]
  | n + 1, p, h => by
    rw [runesG, runesG.eq_def s (n + 1) p]
    simp only
    split
    · rename_i hp
      have := Go.Lib.decode_width_pos s p hp
      rw [runesG_fuel n _ (by omega)]
    · rfl
theorem runesFrom_eq (s : ByteArray) : ∀ (n p : Nat) (acc : Array Value), Conv.runesFrom s n p acc = acc ++ ((runesG s n p).map fun x => Value.int .i32 x.2).toArray
  | 0, p, acc => by simp [Conv.runesFrom, runesG]
  | n + 1, p, acc => by
    unfold Conv.runesFrom runesG
    split
    · show Conv.runesFrom s n (p + (Utf8.decode s p).2) (acc.push (.int .i32 (Int.ofNat (Utf8.decode s p).1))) = _
      rw [runesFrom_eq s n]
      simp
    · simp
def runesB (s : ByteArray) : List Int := (runesG s (s.size + 1) 0).map (·.2)
theorem runesV (s : ByteArray) : Conv.runesFrom s s.size 0 #[] = ((runesB s).map (Value.int .i32)).toArray := by
  rw [runesFrom_eq, runesB, runesG_fuel s.size 0 (by omega)]
  simp [Function.comp_def]
theorem runesB_len (s : ByteArray) : (runesB s).length ≤ s.size := by
  have h := size_runesFrom s s.size 0 #[]
  rw [runesV] at h
  simpa using h

theorem op_convI {o : Oper} {src dst : TypeId} {x : Operand} {k k' : IntKind} {n : Int} (ho : o.op = .convert src dst x) (h : Rel B w0 g A a w) (hx : A.ev x = some (.int k n)) (hs : (P.underlying src).isSome = true) (hd : P.underlying dst = some (.int k')) : OpTo P o B w0 g A a w (.int k' (k'.wrap n)) A := by
  have hv : a.eval x = .int k n := SR.inv_int (h.ev hx)
  have hk : P.intKind dst = k' := by unfold Program.intKind; rw [hd]
  refine op_same h (v := .int k' (k'.wrap n)) ?_ (VR.int _ _)
  unfold execOp; rw [ho]; simp only [hv, Sem.run_bind]
  rw [run_convert_int w src dst k n hs (by rw [hk]; exact hd), hk]; rfl
theorem op_convRS {o : Oper} {src dst e : TypeId} {x : Operand} {d : DV} {ns : List Int} (ho : o.op = .convert src dst x) (h : Rel B w0 g A a w) (hx : A.ev x = some d) (he : A.elems d = some (ns.map fun n => [.int .i32 n])) (hs : P.underlying src = some (.slice e)) (hee : P.underlying e = some (.int .i32)) (hd : P.underlying dst = some .string) : OpTo P o B w0 g A a w (.str (runesBytes ns)) A := by
  have hf : flatOk 1 (ns.map fun n => [DV.int .i32 n]) := by
    intro y hy
    obtain ⟨n, _, rfl⟩ := List.mem_map.1 hy
    exact ⟨rfl, fun d hd => by simp at hd; subst hd; exact ⟨rfl, rfl⟩⟩
  refine op_same h (v := .string (runesBytes ns)) ?_ (VR.str _)
  unfold execOp; rw [ho]; simp only [Sem.run_bind]
  rcases h.src (h.ev hx) he hf with ⟨ad, cap, hv, hn⟩ | ⟨ad, cap, news, hv, hl, hnl, hc, hd'⟩
  · have hn' : ns = [] := by simpa using hn
    subst hn'
    cases ad with
    | none => rw [hv, run_convert_runes_nil w src dst e _ _ hs hee hd]; rfl
    | some ad =>
      have := run_convert_runes w src dst e ad 0 cap [] (Nat.le_refl _) hs hee hd (fun j hj => by simp at hj)
      rw [hv, this]; rfl
  · have hlen : (ns.map fun n => [DV.int .i32 n]).length = ns.length := by simp
    rw [hlen] at hv
    have := run_convert_runes w src dst e ad ns.length cap ns (Nat.le_refl _) hs hee hd (fun j hj => by
      obtain ⟨u, h1, h2⟩ := hd' j [.int .i32 ns[j]] 0 (.int .i32 ns[j]) (by simp [hj]) rfl
      have h3 := hc _ u h1
      cases h2
      rw [Nat.mul_one, Nat.add_zero] at h3
      rw [h3]; simp [List.getD, hj])
    rw [hv, this, List.take_length]; rfl
theorem op_runes {o : Oper} {src dst e : TypeId} {x : Operand} {s : ByteArray} (ho : o.op = .convert src dst x) (h : Rel B w0 g A a w) (hx : A.ev x = some (.str s)) (hs : P.underlying src = some .string) (hd : P.underlying dst = some (.slice e)) (he : P.underlying e = some (.int .i32)) (hlim : s.size ≤ 1073741824) :
    OpTo P o B w0 g A a w (.own A.r.length) { A with r := A.r ++ [some ⟨e, 1, (runesB s).map fun n => [.int .i32 n]⟩] } := by
  have hvx : a.eval x = .string s := SR.inv_str (h.ev hx)
  have hsz := runesB_len s
  have hrun := run_runes_of_string (P := P) w src dst e s hs hd he (by rw [runesV]; simp; omega)
  rw [runesV] at hrun
  simp only [List.size_toArray, List.length_map] at hrun
  generalize hn : (runesB s).length = n at hrun
  have hge := grownCap_ge w n 0 e
  have hcm : grownCap w n 0 e ≤ maxLen := grownCap_le_maxLen w n 0 e (by unfold maxLen; omega)
  generalize hC : ((List.map (Value.int .i32) (runesB s)).toArray ++ Array.replicate (grownCap w n 0 e - n) (Value.int .i32 0)) = C at hrun
  have hCs : C.size = grownCap w n 0 e := by rw [← hC]; simp [hn]; omega
  obtain ⟨h3, h4⟩ := h.newRow none w.heap.size (.slice (some ⟨w.heap.size, 0, none⟩) n (grownCap w n 0 e)) ⟨e, 1, (runesB s).map fun n => [.int .i32 n]⟩ (w.drew.alloc (.cells C e)) (.inr rfl)
    (fun j hj _ => Below.heap_alloc w.drew _ j hj) (by simp) (by simp) (fun t h => by cases h) rfl rfl rfl (fun ok hok => by
      refine ⟨_, grownCap w n 0 e, World.alloc_heap_new w.drew _, by simp [hn], by simp [hn]; exact hge, hcm, by simp [hCs], fun i x hx => ?_, fun i x j d hx hd => ?_⟩
      · rw [List.getElem?_map] at hx
        cases hq : (runesB s)[i]? with
        | none => rw [hq] at hx; cases hx
        | some m => rw [hq] at hx; simp at hx; subst hx; rfl
      · rw [List.getElem?_map] at hx
        cases hq : (runesB s)[i]? with
        | none => rw [hq] at hx; cases hx
        | some m =>
          rw [hq] at hx; simp at hx; subst hx
          match j, hd with
          | 0, hd =>
            simp at hd; subst hd
            refine ⟨rfl, rfl, ?_⟩
            have hi : i < (runesB s).length := (List.getElem?_eq_some_iff.1 hq).1
            have : C.getD (i * 1 + 0) undef = .int .i32 m := by
              rw [← hC, Nat.mul_one, Nat.add_zero, Array.getD_eq_getD_getElem?, Array.getElem?_append_left (by simp; exact hi)]
              simp [hq]
            simp only [this]
            exact .int _ _)
  refine ⟨.slice (some ⟨w.heap.size, 0, none⟩) n (grownCap w n 0 e), _, _, ?_, h3, ⟨by simp [kill], fun _ => by simp [Gh.row]⟩, h4⟩
  unfold execOp; rw [ho]
  simp only [Sem.run_bind, hvx, hrun, Result.andThen_ok, Sem.run_pure]
theorem op_cutStr {o : Oper} {t : TypeId} {x : Operand} {lo hi : Option Operand} {s : ByteArray} {l u : Int} (ho : o.op = .slice t x lo hi none) (h : Rel B w0 g A a w) (hx : A.ev x = some (.str s)) (ht : P.underlying t = some .string)
    (hlo : loIs A lo l) (hhi : hiIs A s.size hi u) (h0 : 0 ≤ l) (h1 : l ≤ u) (h2 : u ≤ s.size) : OpTo P o B w0 g A a w (.str (s.extract l.toNat u.toNat)) A := by
  have hvx : a.eval x = .string s := SR.inv_str (h.ev hx)
  refine op_same h (v := .string (s.extract l.toNat u.toNat)) ?_ (VR.str _)
  unfold execOp; rw [ho]; simp only [hvx]
  have hb : (Instr.sliceBounds false s.size s.size (lo.map a.eval) (hi.map a.eval) none).run P w = .ok (l.toNat, u.toNat, s.size) w := by
    have hh : (match hi.map a.eval, (none : Option Value) with | some v, some _ => Instr.sliceBound v s.size .slice3B | some v, none => Instr.sliceBound v s.size .sliceAlen | none, none => pure s.size | none, some _ => stuck "Slice: max without high").run P w = .ok u.toNat w := by
      cases hi with
      | none => simp only [hiIs] at hhi; subst hhi; simp
      | some y =>
        obtain ⟨k, hk⟩ := hhi
        have := SR.inv_int (h.ev hk)
        simp only [Option.map_some, this, Instr.sliceBound, asIntOf, Sem.run_bind, Sem.run_pure, Result.andThen_ok]
        rw [if_pos ⟨by omega, by omega⟩]; rfl
    have hl : (match lo.map a.eval with | some v => Instr.sliceBound v u.toNat .sliceB | none => pure 0).run P w = .ok l.toNat w := by
      cases lo with
      | none => simp only [loIs] at hlo; subst hlo; rfl
      | some y =>
        obtain ⟨k, hk⟩ := hlo
        have := SR.inv_int (h.ev hk)
        simp only [Option.map_some, this, Instr.sliceBound, asIntOf, Sem.run_bind, Sem.run_pure, Result.andThen_ok]
        rw [if_pos ⟨by omega, by omega⟩]; rfl
    simp only [Instr.sliceBounds, Sem.run_bind, Sem.run_pure, Result.andThen_ok]
    cases hi <;> cases lo <;> simp_all
  simp only [Instr.sliceAt, Instr.slice, Sem.run_bind, run_underlying ht, Result.andThen_ok, Option.map_none, Option.isSome_none, Bool.false_eq_true, if_false, hb, Sem.run_pure]
end Go.PM

namespace Go.PM
variable [Tbl]
set_option linter.unusedSectionVars false
open Go.RowKit
set_option linter.unusedSimpArgs false
set_option linter.unusedVariables false
variable {P : Program} {B : Base} {w0 : World} {g : Gh} {A : St} {a : Act} {w : World}

def argSt (ba : List (List DV)) (ra : List Row) : St := ⟨[], ba.map some, ra.map some, ba.length⟩
theorem argSt_r {ba : List (List DV)} {ra : List Row} {t : Nat} {ρ : Row} : (argSt ba ra).r[t]? = some (some ρ) ↔ ra[t]? = some ρ := by simp [argSt]
theorem argSt_b {ba : List (List DV)} {ra : List Row} {t : Nat} {cs : List DV} : (argSt ba ra).b[t]? = some (some cs) ↔ ba[t]? = some cs := by simp [argSt]
theorem argSt_lr {ba : List (List DV)} {ra : List Row} {t : Nat} : (argSt ba ra).lr t ↔ t < ra.length := by
  constructor
  · rintro ⟨ρ, h⟩; exact (List.getElem?_eq_some_iff.1 (argSt_r.1 h)).1
  · intro h; exact ⟨ra[t], argSt_r.2 (List.getElem?_eq_getElem h)⟩
theorem argSt_lb {ba : List (List DV)} {ra : List Row} {t : Nat} : (argSt ba ra).lb t ↔ t < ba.length := by
  constructor
  · rintro ⟨ρ, h⟩; exact (List.getElem?_eq_some_iff.1 (argSt_b.1 h)).1
  · intro h; exact ⟨ba[t], argSt_b.2 (List.getElem?_eq_getElem h)⟩

structure ArgsR (g : Gh) (w : World) (N : Nat → Prop) (args : List DV) (ba : List (List DV)) (ra : List Row) (vs : Array Value) : Prop where
  size : vs.size = args.length
  arg : ∀ i d, args[i]? = some d → SR g (argSt ba ra) w N d (vs.getD i undef)
  box : ∀ i cs, ba[i]? = some cs → BoxAt g (argSt ba ra) w N (g.bm i) (g.bo i) cs
  row : ∀ t ρ, ra[t]? = some ρ → RowAt g (argSt ba ra) w N (g.pl t) (g.tm t) (g.tv t) ρ
  bb : ∀ i j, (argSt ba ra).lb i → (argSt ba ra).lb j → g.bm i = g.bm j → i = j
  rr : ∀ i j, lp g (argSt ba ra) i → lp g (argSt ba ra) j → g.tm i = g.tm j → i = j
  br : ∀ i j, (argSt ba ra).lb i → lp g (argSt ba ra) j → g.bm i ≠ g.tm j
  mN : ∀ k, mutb g (argSt ba ra) k → N k ∧ k < w.heap.size
  nn : ∀ k, g.no k → k < w.heap.size ∧ ¬ mutb g (argSt ba ra) k
  new : ∀ k, w.heap.size ≤ k → N k
  tb : TB w
  mG : ∀ k, mutb g (argSt ba ra) k → Tbl.G ≤ k
structure ResR (g g' : Gh) (w w' : World) (N : Nat → Prop) (ba : List (List DV)) (ra : List Row) (r : DV) (bz : List (List DV)) (rr : List Row) (v : Value) : Prop where
  os : w'.os = w.os
  tape : w'.tape = w.tape
  output : w'.output = w.output
  size : w.heap.size ≤ w'.heap.size
  block : ∀ k, k < w.heap.size → ¬ mutb g (argSt ba ra) k → w'.heap[k]? = w.heap[k]?
  oth : KeepsOthers w w'
  no : g'.no = g.no
  res : SR g' (argSt bz rr) w' N r v
  box : ∀ i cs, bz[i]? = some cs → BoxAt g' (argSt bz rr) w' N (g'.bm i) (g'.bo i) cs
  blen : bz.length = ba.length
  bfix : ∀ i, i < ba.length → g'.bm i = g.bm i ∧ g'.bo i = g.bo i
  bout : ∀ i cs cs', ba[i]? = some cs → bz[i]? = some cs' → cs'.length = cs.length ∧ OutSame (g.bm i) (g.bo i) cs.length w w'
  row : ∀ t ρ, rr[t]? = some ρ → RowAt g' (argSt bz rr) w' N (g'.pl t) (g'.tm t) (g'.tv t) ρ
  inj : ∀ i j, lp g' (argSt bz rr) i → lp g' (argSt bz rr) j → g'.tm i = g'.tm j → i = j
  br : ∀ i j, (argSt bz rr).lb i → lp g' (argSt bz rr) j → g'.bm i ≠ g'.tm j
  from_ : ∀ t, lp g' (argSt bz rr) t → (w.heap.size ≤ g'.tm t ∨ mutb g (argSt ba ra) (g'.tm t)) ∧ g'.tm t < w'.heap.size

def OkB (P : Program) (f : FuncId) (args : List DV) (ba : List (List DV)) (ra : List Row) (r : DV) (bz : List (List DV)) (rr : List Row) : Prop :=
  ∀ (w : World) (vs : Array Value) (g : Gh) (N : Nat → Prop), ArgsR g w N args ba ra vs → Calls P f vs w fun e w' => ∃ v g', e = .returned v ∧ ResR g g' w w' N ba ra r bz rr v
def Ok (P : Program) (f : FuncId) (args : List DV) (ra : List Row) (r : DV) (rr : List Row) : Prop := OkB P f args [] ra r [] rr

def DV.ren (f : Nat → Nat) : DV → DV
  | .own t => .own (f t)
  | d => d
def DV.renT (f : Nat → Nat) : DV → DV
  | .tup vs => .tup (vs.map (DV.ren f))
  | d => d.ren f
def DV.plain1 : DV → Bool
  | .bx _ _ | .ex _ _ _ | .tup _ | .vw _ _ _ _ => false
  | _ => true
def DV.plain : DV → Bool
  | .bx _ _ | .ex _ _ _ | .vw _ _ _ _ => false
  | .tup vs => vs.all DV.plain1
  | _ => true

def killAll (r : List (Option Row)) (toks : List Nat) : List (Option Row) := toks.foldl (fun r t => r.set t none) r
theorem killAll_length (r : List (Option Row)) (toks : List Nat) : (killAll r toks).length = r.length := by
  unfold killAll
  induction toks generalizing r with
  | nil => rfl
  | cons t toks ih => rw [List.foldl_cons, ih]; simp
theorem killAll_get : ∀ (toks : List Nat) (r : List (Option Row)) (i : Nat) (ρ : Row), (killAll r toks)[i]? = some (some ρ) → r[i]? = some (some ρ) ∧ i ∉ toks
  | [], r, i, ρ, h => ⟨h, by simp⟩
  | t :: toks, r, i, ρ, h => by
    have h' : (killAll (r.set t none) toks)[i]? = some (some ρ) := h
    obtain ⟨h1, h2⟩ := killAll_get toks (r.set t none) i ρ h'
    by_cases e : t = i
    · subst e; rw [List.getElem?_set] at h1; simp at h1
    · rw [List.getElem?_set, if_neg e] at h1
      exact ⟨h1, by simp [h2]; exact fun e' => e e'.symm⟩

def setAll (b : List (Option (List DV))) : List Nat → List (List DV) → List (Option (List DV))
  | i :: is, c :: cs => setAll (b.set i (some c)) is cs
  | _, _ => b
theorem setAll_length : ∀ (is : List Nat) (cs : List (List DV)) (b : List (Option (List DV))), (setAll b is cs).length = b.length
  | [], _, b => rfl
  | _ :: _, [], b => rfl
  | i :: is, c :: cs, b => by rw [setAll, setAll_length is cs]; simp
theorem setAll_get : ∀ (is : List Nat) (cs : List (List DV)) (b : List (Option (List DV))) (i : Nat) (c : List DV), is.Nodup → is.length = cs.length → (setAll b is cs)[i]? = some (some c) → (i ∉ is ∧ b[i]? = some (some c)) ∨ ∃ k : Nat, is[k]? = some i ∧ cs[k]? = some c
  | [], cs, b, i, c, _, hl, h => .inl ⟨by simp, by cases cs <;> exact h⟩
  | j :: is, [], b, i, c, _, hl, h => by simp at hl
  | j :: is, x :: cs, b, i, c, hn, hl, h => by
    obtain ⟨hn1, hn2⟩ := List.nodup_cons.1 hn
    rcases setAll_get is cs _ i c hn2 (by simpa using hl) h with ⟨h1, h2⟩ | ⟨k, h1, h2⟩
    · by_cases e : j = i
      · subst e
        rw [List.getElem?_set] at h2
        split at h2
        · split at h2
          · exact .inr ⟨0, rfl, by simpa using h2⟩
          · cases h2
        · rename_i h3; exact absurd rfl h3
      · rw [List.getElem?_set, if_neg e] at h2
        exact .inl ⟨by simp [h1]; exact fun e' => e e'.symm, h2⟩
    · exact .inr ⟨k + 1, by simpa using h1, by simpa using h2⟩

def Gh.lend (g : Gh) (A : St) (bs toks : List Nat) : Gh where
  bm i := g.bm (bs.getD i 0)
  bo i := g.bo (bs.getD i 0)
  tm i := g.tm (toks.getD i 0)
  tv i := g.tv (toks.getD i 0)
  pl i := g.pl (toks.getD i 0)
  no k := bad g A k ∧ (∀ t ∈ toks, g.pl t = true → k ≠ g.tm t) ∧ ∀ b ∈ bs, k ≠ g.bm b
def Gh.back (g : Gh) (n : Nat) (g' : Gh) : Gh where
  bm := g.bm
  bo := g.bo
  tm i := if i < n then g.tm i else g'.tm (i - n)
  tv i := if i < n then g.tv i else g'.tv (i - n)
  pl i := if i < n then g.pl i else g'.pl (i - n)
  no := g.no

theorem Rel.call (h : Rel B w0 g A a w) (bs toks : List Nat) (hbs : ∀ b ∈ bs, A.lb b) (hnb : bs.Nodup) (ht : ∀ t ∈ toks, A.lr t) {g' : Gh} {w' : World} {ba bz : List (List DV)} {ra rr : List Row} {r : DV} {v : Value} (hba : ba.length = bs.length)
    (hbl : ∀ (i b : Nat), bs[i]? = some b → ∃ c0 c, A.b[b]? = some (some c0) ∧ ba[i]? = some c ∧ c.length = c0.length) (hra : ra.length = toks.length) (hR : ResR (g.lend A bs toks) g' w w' B.N ba ra r bz rr v) (hpl : r.plain = true) (hpb : bz.all (fun c => c.all DV.plain1) = true) :
    Rel B w0 (g.back A.r.length g') { A with b := setAll A.b bs (bz.map (List.map (DV.ren (A.r.length + ·)))), r := killAll A.r toks ++ rr.map some } a w' ∧ Ext g A w (g.back A.r.length g') { A with b := setAll A.b bs (bz.map (List.map (DV.ren (A.r.length + ·)))), r := killAll A.r toks ++ rr.map some } w' ∧
      SR (g.back A.r.length g') { A with b := setAll A.b bs (bz.map (List.map (DV.ren (A.r.length + ·)))), r := killAll A.r toks ++ rr.map some } w' B.N (r.renT (A.r.length + ·)) v := by
  have hBw : B.n ≤ w.heap.size := Nat.le_trans h.base h.below.size
  have hbzl : bz.length = bs.length := hR.blen.trans hba
  generalize hA2 : ({ A with b := setAll A.b bs (bz.map (List.map (DV.ren (A.r.length + ·)))), r := killAll A.r toks ++ rr.map some } : St) = A2
  have hb2 : A2.b = setAll A.b bs (bz.map (List.map (DV.ren (A.r.length + ·)))) := by rw [← hA2]
  have hr2 : A2.r = killAll A.r toks ++ rr.map some := by rw [← hA2]
  have hs2 : A2.s = A.s := by rw [← hA2]
  have htk : ∀ t, t < toks.length → toks.getD t 0 ∈ toks := fun t hlt => by rw [List.getD_eq_getElem?_getD, List.getElem?_eq_getElem hlt]; exact List.getElem_mem hlt
  have hbk : ∀ t, t < bs.length → bs.getD t 0 ∈ bs := fun t hlt => by rw [List.getD_eq_getElem?_getD, List.getElem?_eq_getElem hlt]; exact List.getElem_mem hlt
  have hget : ∀ i ρ', A2.r[i]? = some (some ρ') → (i < A.r.length ∧ A.r[i]? = some (some ρ') ∧ i ∉ toks) ∨ (A.r.length ≤ i ∧ rr[i - A.r.length]? = some ρ') := by
    intro i ρ' hi
    rw [hr2] at hi
    by_cases hlt : i < A.r.length
    · left
      rw [List.getElem?_append_left (by rw [killAll_length]; exact hlt)] at hi
      exact ⟨hlt, killAll_get _ _ _ _ hi⟩
    · right
      rw [List.getElem?_append_right (by rw [killAll_length]; omega), killAll_length, List.getElem?_map] at hi
      refine ⟨by omega, ?_⟩
      cases hq : rr[i - A.r.length]? with
      | none => rw [hq] at hi; cases hi
      | some ρ => rw [hq] at hi; simpa using hi
  have hgetb : ∀ i c, A2.b[i]? = some (some c) → (i ∉ bs ∧ A.b[i]? = some (some c)) ∨ ∃ (k : Nat) (c' : List DV), bs[k]? = some i ∧ bz[k]? = some c' ∧ c = c'.map (DV.ren (A.r.length + ·)) := by
    intro i c hi
    rw [hb2] at hi
    rcases setAll_get _ _ _ _ _ hnb (by simp [hbzl]) hi with h1 | ⟨k, h1, h2⟩
    · exact .inl h1
    · rw [List.getElem?_map] at h2
      cases hq : bz[k]? with
      | none => rw [hq] at h2; cases h2
      | some c' => rw [hq] at h2; exact .inr ⟨k, c', h1, hq, by simpa using h2.symm⟩
  have hlb : ∀ i, A2.lb i → A.lb i := by
    rintro i ⟨c, hc⟩
    rcases hgetb i c hc with ⟨_, h2⟩ | ⟨k, c', h1, _, _⟩
    · exact ⟨c, h2⟩
    · exact hbs i (List.mem_of_getElem? h1)
  have hlr : ∀ i, A2.lr i → (i < A.r.length ∧ A.lr i ∧ i ∉ toks) ∨ (A.r.length ≤ i ∧ i - A.r.length < rr.length) := by
    rintro i ⟨ρ', hi⟩
    rcases hget i ρ' hi with ⟨h1, h2, h3⟩ | ⟨h1, h2⟩
    · exact .inl ⟨h1, ⟨ρ', h2⟩, h3⟩
    · exact .inr ⟨h1, (List.getElem?_eq_some_iff.1 h2).1⟩
  have hgt : ∀ i, i < A.r.length → (g.back A.r.length g').tm i = g.tm i := fun i hi => by simp [Gh.back, hi]
  have hgn : ∀ i, A.r.length ≤ i → (g.back A.r.length g').tm i = g'.tm (i - A.r.length) := fun i hi => by simp [Gh.back, Nat.not_lt.2 hi]
  have hgp : ∀ i, i < A.r.length → (g.back A.r.length g').pl i = g.pl i := fun i hi => by simp [Gh.back, hi]
  have hgpn : ∀ i, A.r.length ≤ i → (g.back A.r.length g').pl i = g'.pl (i - A.r.length) := fun i hi => by simp [Gh.back, Nat.not_lt.2 hi]
  have hlp : ∀ i, lp (g.back A.r.length g') A2 i → (i < A.r.length ∧ lp g A i ∧ i ∉ toks) ∨ (A.r.length ≤ i ∧ lp g' (argSt bz rr) (i - A.r.length)) := by
    rintro i ⟨h1, h2⟩
    rcases hlr i h1 with ⟨h3, h4, h5⟩ | ⟨h3, h4⟩
    · exact .inl ⟨h3, ⟨h4, by rw [← hgp i h3]; exact h2⟩, h5⟩
    · exact .inr ⟨h3, argSt_lr.2 h4, by rw [← hgpn i h3]; exact h2⟩
  -- the callee's own blocks
  have hmc : ∀ k, mutb (g.lend A bs toks) (argSt ba ra) k → (∃ b ∈ bs, k = g.bm b) ∨ ∃ t ∈ toks, lp g A t ∧ k = g.tm t := by
    rintro k (⟨i, hi, rfl⟩ | ⟨t, ⟨h1, h2⟩, rfl⟩)
    · exact .inl ⟨_, hbk i (by have := argSt_lb.1 hi; omega), rfl⟩
    · have h3 := htk t (by have := argSt_lr.1 h1; omega)
      exact .inr ⟨_, h3, ⟨ht _ h3, h2⟩, rfl⟩
  have hmm : ∀ k, mutb (g.lend A bs toks) (argSt ba ra) k → mutb g A k := fun k hk => by
    rcases hmc k hk with ⟨b, h1, rfl⟩ | ⟨t, h1, h2, rfl⟩
    · exact .inl ⟨b, hbs b h1, rfl⟩
    · exact .inr ⟨t, h2, rfl⟩
  have hm : ∀ j, mutb (g.back A.r.length g') A2 j → mutb g A j ∨ w.heap.size ≤ j := by
    rintro j (⟨i, hi, rfl⟩ | ⟨t, htl, rfl⟩)
    · left; left; exact ⟨i, hlb i hi, rfl⟩
    · rcases hlp t htl with ⟨h1, h2, _⟩ | ⟨h1, h2⟩
      · left; right; exact ⟨t, h2, (hgt t h1).symm⟩
      · rw [hgn t h1]
        rcases (hR.from_ _ h2).1 with h3 | h3
        · exact .inr h3
        · left; exact hmm _ h3
  have hwm : ∀ j, ¬ mutb g A j → j < w.heap.size → w'.heap[j]? = w.heap[j]? := fun j hj hlt => hR.block j hlt (fun h1 => hj (hmm j h1))
  have he : Ext g A w (g.back A.r.length g') A2 w' := by
    refine { lenb := by rw [hb2, setAll_length]; exact Nat.le_refl _, lenr := by rw [hr2]; simp [killAll_length], keepb := fun b _ hl => ⟨hlb b hl, rfl, rfl⟩, keepr := ?_, heap := hwm, size := hR.size, mt := fun k hk hlt h1 => (hm k h1).elim hk (fun h2 => by omega), no := rfl, kb := by rw [← hA2] }
    intro t htl ρ' hx
    rcases hget t ρ' hx with ⟨h1, h2, _⟩ | ⟨h1, _⟩
    · exact ⟨ρ', h2, rfl, rfl, hgt t h1, by simp [Gh.back, h1], hgp t h1⟩
    · omega
  -- what the callee tells is told by the caller
  have hbad : ∀ k, k < w'.heap.size → ¬ bad g' (argSt bz rr) k → ¬ bad (g.back A.r.length g') A2 k := by
    intro k hk hn hbd
    have hno : ∀ k, bad g A k ∧ (∀ t ∈ toks, g.pl t = true → k ≠ g.tm t) ∧ (∀ b ∈ bs, k ≠ g.bm b) → g'.no k := fun k hk => by rw [hR.no]; exact hk
    rcases hbd with h1 | ⟨i, hi, rfl⟩ | ⟨t, htl, rfl⟩
    · exact hn (.inl (hno k ⟨.inl h1, fun t h2 hp e => (h.nn k h1).2 (.inr ⟨t, ⟨ht t h2, hp⟩, e.symm⟩), fun b h2 e => (h.nn k h1).2 (.inl ⟨b, hbs b h2, e.symm⟩)⟩))
    · by_cases hib : i ∈ bs
      · obtain ⟨k, hk'⟩ := List.getElem?_of_mem hib
        have hkl : k < ba.length := by have := (List.getElem?_eq_some_iff.1 hk').1; omega
        have : g'.bm k = g.bm i := by rw [(hR.bfix k hkl).1]; simp [Gh.lend, hk']
        exact hn (.inr (.inl ⟨k, argSt_lb.2 (by omega), this⟩))
      · exact hn (.inl (hno _ ⟨.inr (.inl ⟨i, hlb i hi, rfl⟩), fun t h2 hp e => h.br i t (hlb i hi) ⟨ht t h2, hp⟩ e, fun b h2 e => hib (by rw [h.bb i b (hlb i hi) (hbs b h2) e]; exact h2)⟩))
    · rcases hlp t htl with ⟨h1, h2, h3⟩ | ⟨h1, h2⟩
      · rw [hgt t h1] at hn
        exact hn (.inl (hno _ ⟨.inr (.inr ⟨t, h2, rfl⟩), fun s h4 hp e => h3 (by rw [h.rr t s h2 ⟨ht s h4, hp⟩ e]; exact h4), fun b h4 e => h.br b t (hbs b h4) h2 e.symm⟩))
      · rw [hgn t h1] at hn
        exact hn (.inr (.inr ⟨_, h2, rfl⟩))
  have hvr : ∀ {d : DV} {v : Value}, VR w' B.N (fun k => ¬ bad g' (argSt bz rr) k) d v → VR w' B.N (fun k => ¬ bad (g.back A.r.length g') A2 k) d v := fun hv => hv.mono (fun _ _ _ => rfl) (Nat.le_refl _) (fun k hk hlt => hbad k hlt hk) (fun _ h _ => h)
  have one : ∀ {d : DV} {v : Value}, d.plain1 = true → SR1 g' (argSt bz rr) w' B.N d v → SR1 (g.back A.r.length g') A2 w' B.N (d.ren (A.r.length + ·)) v := by
    intro d v hd hs
    cases d with
    | own t =>
      obtain ⟨h1, h2⟩ := hs
      have h1' : t < rr.length := by simpa [argSt] using h1
      refine ⟨by rw [hr2]; simp [killAll_length]; exact h1', fun _ => ?_⟩
      rw [h2 (argSt_lr.2 h1')]
      simp [Gh.back]
      intro h6; omega
    | bx b o => cases hd
    | ex t i j => cases hd
    | vw b o n c => cases hd
    | tup vs => cases hd
    | _ => exact hvr hs
  have one' : ∀ {d : DV} {v : Value}, d.plain1 = true → SR g' (argSt bz rr) w' B.N d v → SR (g.back A.r.length g') A2 w' B.N (d.ren (A.r.length + ·)) v := by
    intro d v hd hs
    have h5 := one hd (hs.one' (by cases d <;> first | rfl | cases hd))
    cases d <;> first | exact h5 | cases hd
  have hblk : ∀ j, j < w.heap.size → (∀ t ∈ toks, g.pl t = true → j ≠ g.tm t) → (∀ b ∈ bs, j ≠ g.bm b) → w'.heap[j]? = w.heap[j]? := fun j hj hne hne' => hR.block j hj (fun h1 => by
    rcases hmc j h1 with ⟨b, h2, h3⟩ | ⟨t, h2, h3, h4⟩
    · exact hne' b h2 h3
    · exact hne t h2 h3.2 h4)
  refine ⟨h.step he hs2 ?_ ?_ ?_ ?_ ?_ ?_ ?_ hR.oth, he, ?_⟩
  · intro i c hc
    rcases hgetb i c hc with ⟨h1, h2⟩ | ⟨k, c', h1, h2, rfl⟩
    · left
      exact ⟨h2, hblk _ (h.new _ (.inl ⟨i, ⟨c, h2⟩, rfl⟩)).2 (fun t h3 hp e => h.br i t ⟨c, h2⟩ ⟨ht t h3, hp⟩ e) (fun b h3 e => h1 (by rw [h.bb i b ⟨c, h2⟩ (hbs b h3) e]; exact h3))⟩
    · right
      have hkl : k < ba.length := by have := (List.getElem?_eq_some_iff.1 h1).1; omega
      obtain ⟨c0, c1, h3, h4, h5⟩ := hbl k i h1
      obtain ⟨h6, h7⟩ := hR.bout k c1 c' h4 h2
      obtain ⟨u, e, h8, h9, h10⟩ := hR.box k c' h2
      obtain ⟨h11, h12⟩ := hR.bfix k hkl
      have e1 : (g.lend A bs toks).bm k = g.bm i := by simp [Gh.lend, h1]
      have e2 : (g.lend A bs toks).bo k = g.bo i := by simp [Gh.lend, h1]
      rw [h11, e1] at h8
      rw [h12, e2] at h9 h10
      rw [e1, e2] at h7
      refine ⟨⟨u, e, h8, by simpa [Gh.back] using h9, fun j d hj => ?_⟩, fun _ => ⟨c0, h3, by simp; omega, by simp; rw [h6]; exact h7⟩⟩
      rw [List.getElem?_map] at hj
      cases hq : c'[j]? with
      | none => rw [hq] at hj; cases hj
      | some d0 =>
        rw [hq] at hj
        obtain rfl : d0.ren (A.r.length + ·) = d := by simpa using hj
        obtain ⟨h13, h14⟩ := h10 j d0 hq
        have h15 : d0.plain1 = true := List.all_eq_true.1 (List.all_eq_true.1 hpb c' (List.mem_of_getElem? h2)) d0 (List.mem_of_getElem? hq)
        exact ⟨h13.imp (fun h => by cases d0 <;> exact h) (fun e => by rw [e]; rfl), one' h15 h14⟩
  · intro t ρ' hx
    rcases hget t ρ' hx with ⟨h1, h2, h3⟩ | ⟨h1, h2⟩
    · left
      refine ⟨h2, fun hp => ?_⟩
      rw [hgt t h1]
      exact hblk _ (h.new _ (.inr ⟨t, ⟨⟨ρ', h2⟩, hp⟩, rfl⟩)).2 (fun s h4 hp' e => h3 (by rw [h.rr t s ⟨⟨ρ', h2⟩, hp⟩ ⟨ht s h4, hp'⟩ e]; exact h4)) (fun b h4 e => h.br b t (hbs b h4) ⟨⟨ρ', h2⟩, hp⟩ e.symm)
    · right
      rw [hgn t h1, hgpn t h1, show (g.back A.r.length g').tv t = g'.tv (t - A.r.length) from by simp [Gh.back, Nat.not_lt.2 h1]]
      rcases hR.row _ ρ' h2 with h3 | ⟨hp, u, cap, h3, h4, h5, h6, h7, h8, h9⟩
      · exact .inl h3
      · exact .inr ⟨hp, u, cap, h3, h4, h5, h6, h7, h8, fun i x j d hx hd => ⟨(h9 i x j d hx hd).1, (h9 i x j d hx hd).2.1, hvr (h9 i x j d hx hd).2.2⟩⟩
  · exact fun i j hi hj => h.bb i j (hlb i hi) (hlb j hj)
  · have mix : ∀ i j, i < A.r.length → lp g A i → i ∉ toks → A.r.length ≤ j → lp g' (argSt bz rr) (j - A.r.length) → g.tm i ≠ g'.tm (j - A.r.length) := by
      intro i j h1 h2 h3 h4 h5 e
      rcases (hR.from_ _ h5).1 with h6 | h6
      · have := (h.new _ (.inr ⟨i, h2, rfl⟩)).2; omega
      · rcases hmc _ h6 with ⟨b, h7, h8⟩ | ⟨s, h7, h8, h9⟩
        · exact h.br b i (hbs b h7) h2 (by rw [← h8, e])
        · exact h3 (by rw [h.rr i s h2 h8 (e.trans h9)]; exact h7)
    intro i j hi hj hij
    rcases hlp i hi with ⟨h1, h2, h3⟩ | ⟨h1, h2⟩ <;> rcases hlp j hj with ⟨h4, h5, h6⟩ | ⟨h4, h5⟩
    · rw [hgt i h1, hgt j h4] at hij; exact h.rr i j h2 h5 hij
    · rw [hgt i h1, hgn j h4] at hij; exact absurd hij (mix i j h1 h2 h3 h4 h5)
    · rw [hgt j h4, hgn i h1] at hij; exact absurd hij.symm (mix j i h4 h5 h6 h1 h2)
    · rw [hgn i h1, hgn j h4] at hij
      have := hR.inj _ _ h2 h5 hij; omega
  · intro i j hi hj hij
    rcases hlp j hj with ⟨h4, h5, h6⟩ | ⟨h4, h5⟩
    · rw [hgt j h4] at hij; exact h.br i j (hlb i hi) h5 hij
    · rw [hgn j h4] at hij
      have hij : g.bm i = g'.tm (j - A.r.length) := hij
      rcases (hR.from_ _ h5).1 with h6 | h6
      · have := (h.new _ (.inl ⟨i, hlb i hi, rfl⟩)).2; omega
      · rcases hmc _ h6 with ⟨b, h7, h8⟩ | ⟨s, h7, h8, h9⟩
        · have hib : i = b := h.bb i b (hlb i hi) (hbs b h7) (by rw [hij, h8])
          subst hib
          obtain ⟨k, hk'⟩ := List.getElem?_of_mem h7
          have hkl : k < ba.length := by have := (List.getElem?_eq_some_iff.1 hk').1; omega
          exact hR.br k _ (argSt_lb.2 (by omega)) h5 (by rw [(hR.bfix k hkl).1, ← hij]; simp [Gh.lend, hk'])
        · exact h.br i s (hlb i hi) h8 (by rw [hij, h9])
  · intro j hj
    rcases hj with ⟨i, hi, rfl⟩ | ⟨t, htl, rfl⟩
    · have h1 := h.new _ (.inl ⟨i, hlb i hi, rfl⟩)
      exact ⟨h1.1, Nat.lt_of_lt_of_le h1.2 hR.size⟩
    · rcases hlp t htl with ⟨h1, h2, _⟩ | ⟨h1, h2⟩
      · rw [hgt t h1]
        have h3 := h.new _ (.inr ⟨t, h2, rfl⟩)
        exact ⟨h3.1, Nat.lt_of_lt_of_le h3.2 hR.size⟩
      · rw [hgn t h1]
        refine ⟨?_, (hR.from_ _ h2).2⟩
        rcases (hR.from_ _ h2).1 with h6 | h6
        · exact .inl (by omega)
        · exact (h.new _ (hmm _ h6)).1
  · refine ⟨hR.os, hR.tape, hR.output, hR.size, fun j hj => ?_⟩
    have hjl : ¬ B.n ≤ j := fun h1 => hj (.inl h1)
    exact hR.block j (by omega) (fun h1 => hj (h.new _ (hmm j h1)).1)
  · -- the value
    by_cases htp : ∃ vs, r = .tup vs
    · obtain ⟨vs, rfl⟩ := htp
      obtain ⟨us, h1, h2, h3⟩ := hR.res
      refine ⟨us, h1, by simpa using h2, fun i d hd => ?_⟩
      rw [List.getElem?_map] at hd
      cases hq : vs[i]? with
      | none => rw [hq] at hd; cases hd
      | some d0 =>
        rw [hq] at hd
        obtain rfl : d0.ren (A.r.length + ·) = d := by simpa using hd
        exact one (List.all_eq_true.1 hpl d0 (List.mem_of_getElem? hq)) (h3 i d0 hq)
    · have hpl' : r.plain1 = true := by cases r <;> first | rfl | exact hpl | exact absurd ⟨_, rfl⟩ htp
      have h5 := one' hpl' hR.res
      cases r <;> first | exact h5 | exact absurd ⟨_, rfl⟩ htp
end Go.PM

namespace Go.PM
variable [Tbl]
set_option linter.unusedSectionVars false
open Go.RowKit Go.Shelf
set_option linter.unusedSimpArgs false
set_option linter.unusedVariables false
variable {P : Program} {B : Base} {w0 : World} {g : Gh} {A : St} {a : Act} {w : World}

def Fw : Option Nat → Fence
  | none => Fence.wide
  | some l => Fence.wide.inRound l
theorem Fw_fn (ro : Option Nat) (f : FuncId) : (Fw ro).fn f := by cases ro <;> trivial
theorem Fw_depth (ro : Option Nat) : (Fw ro).depth = none := by cases ro <;> rfl
theorem Fw_calls {ro : Option Nat} {n : Nat} {f : FuncId} {args : Array Value} {R : Ending → World → Prop} (h : Calls P f args w R) : CallsIn (Fw ro) n P f args w R := by
  cases ro with
  | none => exact callsIn_wide.2 h
  | some l => exact CallsIn.inRound l (callsIn_wide.2 h)

def Oper.noDefer (o : Oper) : Bool := match o.op with | .defer _ => false | _ => true
theorem semAt_plain (o : Oper) (ro : Option Nat) (ρ : Operand → Value) (h : Oper.noDefer o = true) : o.semAt ro ρ = execOp ρ o :=
  Oper.semAt_eq ro ρ o (fun c hc => by unfold Oper.noDefer at h; rw [hc] at h; cases h)

def StepTo (P : Program) (o : Oper) (B : Base) (w0 : World) (g : Gh) (A : St) (a : Act) (w : World) (d : DV) (A2 : St) : Prop :=
  ∀ (ro : Option Nat) (n : Nat) (next : Act → World → Prop) (Q : Exit → Act → World → Prop), (∀ v w' g', Rel B w0 g' (A2.put o.dst d) (a.put o.dst v) w' → next (a.put o.dst v) w') → o.wpIn (Fw ro) n P a w next Q

theorem OpTo.step {o : Oper} {d : DV} {A2 : St} (h : OpTo P o B w0 g A a w d A2) (hnd : Oper.noDefer o = true) : StepTo P o B w0 g A a w d A2 := by
  intro ro n next Q hn
  obtain ⟨v, w', g', h1, h2, h3, _⟩ := h
  refine ⟨fun f _ => Fw_fn ro f, ?_⟩
  rw [semAt_plain o _ _ hnd, h1]
  exact hn v w' g' (h2.put o.dst h3)
theorem OpDoes.step {o : Oper} {A2 : St} (h : OpDoes P o B w0 g A a w A2) (hnd : Oper.noDefer o = true) : StepTo P o B w0 g A a w .top A2 := by
  intro ro n next Q hn
  obtain ⟨w', g', h1, h2, _⟩ := h
  refine ⟨fun f _ => Fw_fn ro f, ?_⟩
  rw [semAt_plain o _ _ hnd, h1]
  exact hn undef w' g' (h2.put o.dst (SR.vr (.top _)))

def EntersF (P : Program) (f : FuncId) : Prop := ∀ args w, (callFunc f args).run P w = .ok (.enter f args) w
def St.evN (A : St) : Operand → Option DV
  | .const (.slice none 0 0) => some .nil
  | x => A.ev x
theorem Rel.evN (h : Rel B w0 g A a w) {x : Operand} {d : DV} (hx : A.evN x = some d) : SR g A w B.N d (a.eval x) := by
  unfold St.evN at hx
  split at hx
  · cases hx; exact VR.nil
  · exact h.ev hx
def St.evL (A : St) : List Operand → Option (List DV)
  | [] => some []
  | x :: r => match A.evN x, A.evL r with | some d, some ds => some (d :: ds) | _, _ => none
theorem evL_get : ∀ {l : List Operand} {r : List DV}, A.evL l = some r → r.length = l.length ∧ ∀ (i : Nat) (d : DV), r[i]? = some d → ∃ x, l[i]? = some x ∧ A.evN x = some d
  | [], r, h => by
    obtain rfl : [] = r := by simpa [St.evL] using h
    exact ⟨rfl, fun i p hp => by simp at hp⟩
  | x :: l, r, h => by
    simp only [St.evL] at h
    cases hx : A.evN x with
    | none => rw [hx] at h; cases h
    | some d =>
      cases hl : A.evL l with
      | none => rw [hx, hl] at h; cases h
      | some ds =>
        rw [hx, hl] at h
        obtain rfl : d :: ds = r := by simpa using h
        obtain ⟨h1, h2⟩ := evL_get hl
        refine ⟨by simp [h1], fun i p hp => ?_⟩
        cases i with
        | zero =>
          obtain rfl : d = p := by simpa using hp
          exact ⟨x, rfl, hx⟩
        | succ i => exact h2 i p (by simpa using hp)

def St.rowsOf (A : St) : List Nat → Option (List Row)
  | [] => some []
  | t :: r => match A.r[t]?, A.rowsOf r with | some (some ρ), some ρs => some (ρ :: ρs) | _, _ => none
theorem rowsOf_get : ∀ {l : List Nat} {r : List Row}, A.rowsOf l = some r → r.length = l.length ∧ ∀ (i : Nat) (ρ : Row), r[i]? = some ρ → A.r[l.getD i 0]? = some (some ρ)
  | [], r, h => by
    obtain rfl : [] = r := by simpa [St.rowsOf] using h
    exact ⟨rfl, fun i p hp => by simp at hp⟩
  | t :: l, r, h => by
    simp only [St.rowsOf] at h
    split at h
    · rename_i ρ ρs h1 h2
      obtain rfl : ρ :: ρs = r := by simpa using h
      obtain ⟨h3, h4⟩ := rowsOf_get h2
      refine ⟨by simp [h3], fun i p hp => ?_⟩
      cases i with
      | zero =>
        obtain rfl : ρ = p := by simpa using hp
        simpa using h1
      | succ i => simpa using h4 i p (by simpa using hp)
    · cases h

def St.boxesOf (A : St) : List Nat → Option (List (List DV))
  | [] => some []
  | b :: r => match A.b[b]?, A.boxesOf r with | some (some c), some cs => some (c :: cs) | _, _ => none
theorem boxesOf_get : ∀ {l : List Nat} {r : List (List DV)}, A.boxesOf l = some r → r.length = l.length ∧ ∀ (i : Nat) (c : List DV), r[i]? = some c → ∃ b : Nat, l[i]? = some b ∧ A.b[b]? = some (some c)
  | [], r, h => by
    obtain rfl : [] = r := by simpa [St.boxesOf] using h
    exact ⟨rfl, fun i p hp => by simp at hp⟩
  | t :: l, r, h => by
    simp only [St.boxesOf] at h
    split at h
    · rename_i ρ ρs h1 h2
      obtain rfl : ρ :: ρs = r := by simpa using h
      obtain ⟨h3, h4⟩ := boxesOf_get h2
      refine ⟨by simp [h3], fun i p hp => ?_⟩
      cases i with
      | zero =>
        obtain rfl : ρ = p := by simpa using hp
        exact ⟨t, rfl, h1⟩
      | succ i => simpa using h4 i p (by simpa using hp)
    · cases h

def argOk (bs toks : List Nat) : DV → Bool
  | .own t => toks.contains t
  | .bx b _ => bs.contains b
  | .ex _ _ _ | .tup _ | .vw _ _ _ _ => false
  | _ => true
def renA (bs toks : List Nat) : DV → DV
  | .own t => .own (toks.idxOf t)
  | .bx b o => .bx (bs.idxOf b) o
  | d => d
theorem renA_one {bs toks : List Nat} {d : DV} (h : d.one = true) : (renA bs toks d).one = true := by cases d <;> first | exact h | rfl

theorem idx_getD {l : List Nat} {t : Nat} (h : t ∈ l) : l.getD (l.idxOf t) 0 = t := by
  have h4 : l.idxOf t < l.length := List.idxOf_lt_length_iff.2 h
  rw [List.getD_eq_getElem?_getD, List.getElem?_eq_getElem h4]; simp

theorem Rel.argsR (h : Rel B w0 g A a w) {ds : List DV} {bs toks : List Nat} {cb : List (List DV)} {ra : List Row} {vs : Array Value} (hsz : vs.size = ds.length) (hvs : ∀ (i : Nat) (d : DV), ds[i]? = some d → SR g A w B.N d (vs.getD i undef)) (hok : ds.all (argOk bs toks) = true)
    (hnb : bs.Nodup) (hcb : A.boxesOf bs = some cb) (hokb : cb.all (fun c => c.all (argOk bs toks)) = true) (hnd : toks.Nodup) (hra : A.rowsOf toks = some ra) : ArgsR (g.lend A bs toks) w B.N (ds.map (renA bs toks)) (cb.map (List.map (renA bs toks))) ra vs := by
  obtain ⟨hl, hrow⟩ := rowsOf_get hra
  obtain ⟨hbl, hbox⟩ := boxesOf_get hcb
  have hBw : B.n ≤ w.heap.size := Nat.le_trans h.base h.below.size
  have hlive : ∀ i, i < ra.length → A.lr (toks.getD i 0) := fun i hi => ⟨ra[i], hrow i _ (List.getElem?_eq_getElem hi)⟩
  have hlivb : ∀ i, i < cb.length → A.lb (bs.getD i 0) := fun i hi => by
    obtain ⟨b, h1, h2⟩ := hbox i _ (List.getElem?_eq_getElem hi)
    exact ⟨_, by simpa [h1] using h2⟩
  have hmem : ∀ i, i < ra.length → toks.getD i 0 ∈ toks := fun i hi => by rw [List.getD_eq_getElem?_getD, List.getElem?_eq_getElem (by omega)]; exact List.getElem_mem (by omega)
  have hmemb : ∀ i, i < cb.length → bs.getD i 0 ∈ bs := fun i hi => by rw [List.getD_eq_getElem?_getD, List.getElem?_eq_getElem (by omega)]; exact List.getElem_mem (by omega)
  generalize hba : cb.map (List.map (renA bs toks)) = ba
  have hbal : ba.length = cb.length := by rw [← hba]; simp
  have hmb : ∀ k, mutb (g.lend A bs toks) (argSt ba ra) k → mutb g A k := by
    rintro k (⟨i, hi, rfl⟩ | ⟨i, ⟨h1, h2⟩, rfl⟩)
    · exact .inl ⟨_, hlivb i (by have := argSt_lb.1 hi; omega), rfl⟩
    · exact .inr ⟨_, ⟨hlive i (argSt_lr.1 h1), h2⟩, rfl⟩
  have hbad : ∀ k, ¬ bad g A k → ¬ bad (g.lend A bs toks) (argSt ba ra) k := by
    rintro k hk (h1 | h1)
    · exact hk h1.1
    · exact hk (.inr (hmb k h1))
  have hvr : ∀ {d : DV} {v : Value}, VR w B.N (fun k => ¬ bad g A k) d v → VR w B.N (fun k => ¬ bad (g.lend A bs toks) (argSt ba ra) k) d v := fun hv => hv.mono (fun _ _ _ => rfl) (Nat.le_refl _) (fun k hk _ => hbad k hk) (fun _ h _ => h)
  have one : ∀ {d : DV} {v : Value}, argOk bs toks d = true → SR g A w B.N d v → SR (g.lend A bs toks) (argSt ba ra) w B.N (renA bs toks d) v := by
    intro d0 v h2 h1
    cases d0 with
    | own t =>
      have h3 : t ∈ toks := by simpa [argOk] using h2
      have h4 : toks.idxOf t < toks.length := List.idxOf_lt_length_iff.2 h3
      have h5 := idx_getD h3
      refine ⟨by simp [argSt]; omega, fun _ => ?_⟩
      have h6 := hlive (toks.idxOf t) (by omega)
      rw [h5] at h6
      rw [h1.2 h6]
      show g.tv t = g.tv (toks.getD (toks.idxOf t) 0)
      rw [h5]
    | bx b o =>
      have h3 : b ∈ bs := by simpa [argOk] using h2
      have h4 : bs.idxOf b < bs.length := List.idxOf_lt_length_iff.2 h3
      have h5 := idx_getD h3
      refine ⟨by simp [argSt]; omega, fun _ => ?_⟩
      have h6 := hlivb (bs.idxOf b) (by omega)
      rw [h5] at h6
      rw [h1.2 h6]
      show _ = Value.pointer (some ⟨g.bm (bs.getD (bs.idxOf b) 0), g.bo (bs.getD (bs.idxOf b) 0) + o, none⟩)
      rw [h5]
    | ex t i j => cases h2
    | vw b o n c => cases h2
    | tup vs => cases h2
    | _ => exact hvr h1
  refine { size := by simpa using hsz, arg := ?_, box := ?_, row := ?_, bb := ?_, rr := ?_, br := ?_, mN := ?_, nn := ?_, new := fun k hk => B.hN k (.inl (by omega)), tb := h.tab, mG := fun k hk => h.tb.1 _ (h.new _ (hmb k hk)).1 }
  · intro i d hd
    rw [List.getElem?_map] at hd
    cases hq : ds[i]? with
    | none => rw [hq] at hd; cases hd
    | some d0 =>
      rw [hq] at hd
      obtain rfl : renA bs toks d0 = d := by simpa using hd
      exact one (List.all_eq_true.1 hok d0 (List.mem_of_getElem? hq)) (hvs i d0 hq)
  · intro i c hc
    rw [← hba, List.getElem?_map] at hc
    cases hq : cb[i]? with
    | none => rw [hq] at hc; cases hc
    | some c0 =>
      rw [hq] at hc
      obtain rfl : c0.map (renA bs toks) = c := by simpa using hc
      obtain ⟨b, h1, h2⟩ := hbox i c0 hq
      obtain ⟨u, e, h3, h4, h5⟩ := h.box b c0 h2
      have e1 : (g.lend A bs toks).bm i = g.bm b := by simp [Gh.lend, h1]
      have e2 : (g.lend A bs toks).bo i = g.bo b := by simp [Gh.lend, h1]
      rw [e1, e2]
      refine ⟨u, e, h3, by simpa using h4, fun j d hj => ?_⟩
      rw [List.getElem?_map] at hj
      cases hq' : c0[j]? with
      | none => rw [hq'] at hj; cases hj
      | some d0 =>
        rw [hq'] at hj
        obtain rfl : renA bs toks d0 = d := by simpa using hj
        obtain ⟨h6, h7⟩ := h5 j d0 hq'
        exact ⟨h6.imp renA_one (fun e => by rw [e]; rfl), one (List.all_eq_true.1 (List.all_eq_true.1 hokb c0 (List.mem_of_getElem? hq)) d0 (List.mem_of_getElem? hq')) h7⟩
  · intro t ρ hx
    rcases h.row _ ρ (hrow t ρ hx) with h1 | ⟨hp, u, cap, h3, h4, h5, h6, h7, h8, h9⟩
    · exact .inl h1
    · exact .inr ⟨hp, u, cap, h3, h4, h5, h6, h7, h8, fun i x j d hx hd => ⟨(h9 i x j d hx hd).1, (h9 i x j d hx hd).2.1, hvr (h9 i x j d hx hd).2.2⟩⟩
  · intro i j hi hj e
    have hi := argSt_lb.1 hi
    have hj := argSt_lb.1 hj
    have h1 := h.bb _ _ (hlivb i (by omega)) (hlivb j (by omega)) e
    rw [List.getD_eq_getElem?_getD, List.getD_eq_getElem?_getD, List.getElem?_eq_getElem (by omega), List.getElem?_eq_getElem (by omega)] at h1
    exact (List.getElem_inj hnb).1 (by simpa using h1)
  · intro i j hi hj e
    have hi1 := argSt_lr.1 hi.1
    have hj1 := argSt_lr.1 hj.1
    have h1 := h.rr _ _ ⟨hlive i hi1, hi.2⟩ ⟨hlive j hj1, hj.2⟩ e
    rw [List.getD_eq_getElem?_getD, List.getD_eq_getElem?_getD, List.getElem?_eq_getElem (by omega), List.getElem?_eq_getElem (by omega)] at h1
    exact (List.getElem_inj hnd).1 (by simpa using h1)
  · intro i j hi hj e
    have hi := argSt_lb.1 hi
    exact h.br _ _ (hlivb i (by omega)) ⟨hlive j (argSt_lr.1 hj.1), hj.2⟩ e
  · intro k hk
    have h1 := h.new _ (hmb k hk)
    exact ⟨B.hN _ h1.1, h1.2⟩
  · rintro k ⟨h1, h2, h3⟩
    refine ⟨?_, ?_⟩
    · rcases h1 with h1 | h1
      · exact (h.nn k h1).1
      · exact (h.new k h1).2
    · rintro (⟨i, hi, e⟩ | ⟨i, ⟨hi, hp⟩, e⟩)
      · exact h3 _ (hmemb i (by have := argSt_lb.1 hi; omega)) e.symm
      · exact h2 _ (hmem i (argSt_lr.1 hi)) hp e.symm

def St.called (A : St) (bs toks : List Nat) (bz : List (List DV)) (rr : List Row) : St := { A with b := setAll A.b bs (bz.map (List.map (DV.ren (A.r.length + ·)))), r := killAll A.r toks ++ rr.map some }

theorem call_step {o : Oper} {f : Operand} {args : Array Operand} {ats : Array TypeId} {fid : FuncId} {caps ds : List DV} {bs toks : List Nat} {cb bz : List (List DV)} {ra rr : List Row} {r : DV} (ho : o.op = .call { callee := .value f, args := args, argTypes := ats }) (h : Rel B w0 g A a w)
    (hf : A.ev f = some (.fn fid caps)) (hen : EntersF P fid) (hds : A.evL args.toList = some ds) (hok : (ds ++ caps).all (argOk bs toks) = true) (hnb : bs.Nodup) (hcb : A.boxesOf bs = some cb) (hokb : cb.all (fun c => c.all (argOk bs toks)) = true) (hnd : toks.Nodup) (hra : A.rowsOf toks = some ra) (hpl : r.plain = true)
    (hpb : bz.all (fun c => c.all DV.plain1) = true) (hcap : caps.all (fun d => !d.tok) = true) (hOk : OkB P fid ((ds ++ caps).map (renA bs toks)) (cb.map (List.map (renA bs toks))) ra r bz rr) : StepTo P o B w0 g A a w (r.renT (A.r.length + ·)) (A.called bs toks bz rr) := by
  intro ro n next Q hn
  have hfv : VR w B.N (fun k => ¬ bad g A k) (.fn fid caps) (a.eval f) := h.ev hf
  generalize hvf : a.eval f = vf at hfv
  cases hfv with
  | fn _ _ cvs hcl hcd =>
    obtain ⟨h1, h2⟩ := evL_get hds
    have h1 : ds.length = args.size := by rw [h1]; simp
    have hA := h.argsR (vs := args.map a.eval ++ cvs) (ds := ds ++ caps) (by simp [h1, hcl]) (fun i d hd => by
      by_cases hi : i < ds.length
      · rw [List.getElem?_append_left hi] at hd
        obtain ⟨x, h3, h4⟩ := h2 i d hd
        have h5 : (args.map a.eval ++ cvs).getD i undef = a.eval x := by
          rw [Array.getElem?_toList] at h3
          apply getD_of_get
          rw [Array.getElem?_append_left (by simp; omega), Array.getElem?_map, h3]; rfl
        rw [h5]; exact h.evN h4
      · rw [List.getElem?_append_right (by omega)] at hd
        have h5 : (args.map a.eval ++ cvs).getD i undef = cvs.getD (i - ds.length) undef := by
          rw [Array.getD_eq_getD_getElem?, Array.getD_eq_getD_getElem?, Array.getElem?_append_right (by simp; omega)]
          simp [h1]
        rw [h5]
        exact SR.vr (hcd _ d hd)) hok hnb hcb hokb hnd hra
    refine ⟨fun f _ => Fw_fn ro f, ?_⟩
    have hnd' : Oper.noDefer o = true := by unfold Oper.noDefer; rw [ho]
    rw [semAt_plain o _ _ hnd']
    have hrun : (execOp a.eval o).run P w = .ok (.enter fid (args.map a.eval ++ cvs)) w := by
      unfold execOp; rw [ho]
      simp only [resolve, hvf, Deferred.ofValue, Sem.run_bind, Sem.run_pure, Result.andThen_ok, invoke]
      rw [hen]
      simp
    rw [hrun]
    refine ⟨fun h' => (by rw [Fw_depth] at h'; cases h'), Fw_calls ((hOk w _ _ _ hA).mono ?_)⟩
    rintro e w' ⟨v, g', rfl, hR⟩
    have hlive : ∀ t ∈ toks, A.lr t := by
      intro t ht
      obtain ⟨h6, h7⟩ := rowsOf_get hra
      have h4 : toks.idxOf t < toks.length := List.idxOf_lt_length_iff.2 ht
      have h8 := h7 (toks.idxOf t) _ (List.getElem?_eq_getElem (by omega))
      rw [idx_getD ht] at h8
      exact ⟨_, h8⟩
    obtain ⟨hc1, hc2⟩ := boxesOf_get hcb
    have hliveb : ∀ b ∈ bs, A.lb b := by
      intro b hb
      obtain ⟨i, hi⟩ := List.getElem?_of_mem hb
      have hil := (List.getElem?_eq_some_iff.1 hi).1
      obtain ⟨b', h6, h7⟩ := hc2 i _ (List.getElem?_eq_getElem (by omega))
      rw [hi] at h6; cases h6
      exact ⟨_, h7⟩
    obtain ⟨h3, h4, h5⟩ := h.call bs toks hliveb hnb hlive (by simp [hc1]) (fun i b hi => by
      have hil := (List.getElem?_eq_some_iff.1 hi).1
      have hcl' : i < cb.length := by omega
      obtain ⟨b', h6, h7⟩ := hc2 i _ (List.getElem?_eq_getElem hcl')
      rw [hi] at h6; cases h6
      exact ⟨_, _, h7, by rw [List.getElem?_map, List.getElem?_eq_getElem hcl']; rfl, by simp⟩) (rowsOf_get hra).1 hR hpl hpb
    exact hn v w' _ (h3.put o.dst h5)
end Go.PM

namespace Go.PM
variable [Tbl]
set_option linter.unusedSectionVars false
open Go.RowKit
set_option linter.unusedSimpArgs false
set_option linter.unusedVariables false
variable {P : Program} {w : World}

inductive Pl (P : Program) (t : TypeId) : Value → Value → Bool → Prop
  | int {k k' : IntKind} {x y : Int} (h : P.underlying t = some (.int k')) : Pl P t (.int k x) (.int k y) (x == y)
  | bool {x y : Bool} (h : P.underlying t = some .bool) : Pl P t (.bool x) (.bool y) (x == y)
  | str {x y : ByteArray} (h : P.underlying t = some .string) : Pl P t (.string x) (.string y) (x == y)
theorem Pl.run {t : TypeId} {x y : Value} {b : Bool} (h : Pl P t x y b) (d : Nat) : (Op.equalIn (d + 1) t x y).run P w = .ok b w := by
  cases h with
  | int h => simp [Op.equalIn, run_underlying h]
  | bool h => simp [Op.equalIn, run_underlying h]
  | str h => simp [Op.equalIn, run_underlying h]
theorem Pl.key {t : TypeId} {x y : Value} {b : Bool} (h : Pl P t x y b) : P.plainKey t = true := by
  cases h <;> simp [Program.plainKey, *]
theorem run_eqFields (xs ys : Array Value) (d : Nat) : ∀ (fs : List Field) (bs : List Bool), fs.length = bs.length → (∀ (i : Nat) (f : Field) (b : Bool), fs[i]? = some f → bs[i]? = some b → f.name ≠ "_" ∧ ∃ vx vy, xs[f.offset]? = some vx ∧ ys[f.offset]? = some vy ∧ Pl P f.type vx vy b) →
    ∃ s, (forIn fs ((none, ()) : Option Bool × Unit) fun f __s =>
          if f.name ≠ "_" then do
            let __do_lift ← part f.type xs f.offset
            let __do_lift_1 ← part f.type ys f.offset
            let __do_lift ← Op.equalIn (d + 1) f.type __do_lift __do_lift_1
            if (!__do_lift) = true then pure (ForInStep.done (some false, ())) else pure (ForInStep.yield (none, ()))
          else (pure (ForInStep.yield (none, ())) : Sem (ForInStep (Option Bool × Unit)))).run P w = .ok s w ∧ s.1 = if bs.all id then none else some false
  | [], [], _, _ => ⟨(none, ()), rfl, rfl⟩
  | [], b :: bs, h, _ => by simp at h
  | f :: fs, [], h, _ => by simp at h
  | f :: fs, b :: bs, h, hf => by
    obtain ⟨h1, vx, vy, h2, h3, h4⟩ := hf 0 f b rfl rfl
    have hp := h4.key
    rw [List.forIn_cons]
    simp only [h1, ne_eq, not_false_eq_true, if_true, Sem.run_bind, run_part_plain w hp h2, run_part_plain w hp h3, Result.andThen, h4.run]
    cases b with
    | false => exact ⟨(some false, ()), rfl, rfl⟩
    | true =>
      obtain ⟨s, h5, h6⟩ := run_eqFields xs ys d fs bs (by simpa using h) (fun i f b hi hb => hf (i + 1) f b (by simpa using hi) (by simpa using hb))
      exact ⟨s, h5, by simpa using h6⟩
theorem run_eqStruct (w : World) (d t : Nat) (fs : Array Field) (hu : P.underlying t = some (.struct fs)) (hst : P.stoodInHeld t = false) (xs ys : Array Value) (bs : List Bool) (hl : fs.toList.length = bs.length)
  (h : ∀ (i : Nat) (f : Field) (b : Bool), fs.toList[i]? = some f → bs[i]? = some b → f.name ≠ "_" ∧ ∃ vx vy, xs[f.offset]? = some vx ∧ ys[f.offset]? = some vy ∧ Pl P f.type vx vy b) :
  (Op.equalIn (d + 1 + 1) t (.agg xs) (.agg ys)).run P w = .ok (bs.all id) w := by
  rw [Op.equalIn]
  have hp : Sem.run P program w = .ok P w := rfl
  simp only [Sem.run_bind, run_underlying hu, Result.andThen, hp, hst, Bool.false_eq_true, if_false, ← Array.forIn_toList]
  obtain ⟨s, h1, h2⟩ := run_eqFields (P := P) (w := w) xs ys d fs.toList bs hl h
  rw [h1]
  simp only [h2]
  split <;> simp_all

variable {B : Base} {w0 : World} {g : Gh} {A : St} {a : Act}
def eqT (P : Program) (t : TypeId) : Option (List (Nat × Nat)) := match P.underlying t with
  | some (.struct fs) => if !P.stoodInHeld t && !P.eqGuardType P.depth t && fs.toList.all (fun f => decide (f.name ≠ "_")) then fs.toList.mapM (fun f => match P.underlying f.type with | some (.int _) => some (f.offset, 0) | some .bool => some (f.offset, 1) | some .string => some (f.offset, 2) | _ => none) else none
  | _ => none
def eqSc : Nat → DV → DV → Option Bool
  | 0, .int k x, .int k' y => if k = k' then some (x == y) else none
  | 1, .bool x, .bool y => some (x == y)
  | 2, .str s, .str t => some (s == t)
  | _, _, _ => none
def eqLs (cs ds : List DV) : List (Nat × Nat) → Option (List Bool)
  | [] => some []
  | o :: os => match cs[o.1]?, ds[o.1]? with
    | some c, some d => match eqSc o.2 c d, eqLs cs ds os with | some x, some y => some (x :: y) | _, _ => none
    | _, _ => none
theorem eqLs_get {cs ds : List DV} : ∀ {os : List (Nat × Nat)} {bs : List Bool}, eqLs cs ds os = some bs → os.length = bs.length ∧ ∀ (i : Nat) (o : Nat × Nat) (b : Bool), os[i]? = some o → bs[i]? = some b → ∃ c d, cs[o.1]? = some c ∧ ds[o.1]? = some d ∧ eqSc o.2 c d = some b
  | [], bs, h => by
    obtain rfl : [] = bs := by simpa [eqLs] using h
    exact ⟨rfl, fun i o b hi => by simp at hi⟩
  | o :: os, bs, h => by
    simp only [eqLs] at h
    split at h
    · rename_i c d hc hd
      split at h
      · rename_i x y hx hy
        obtain rfl : x :: y = bs := by simpa using h
        obtain ⟨h1, h2⟩ := eqLs_get hy
        refine ⟨by simp [h1], fun i o' b hi hb => ?_⟩
        cases i with
        | zero =>
          obtain rfl : o = o' := by simpa using hi
          obtain rfl : x = b := by simpa using hb
          exact ⟨c, d, hc, hd, hx⟩
        | succ i => exact h2 i o' b (by simpa using hi) (by simpa using hb)
      · cases h
    · cases h
theorem op_eqG {o : Oper} {ne : Bool} {t t' : TypeId} {x y : Operand} {cs ds : List DV} {os : List (Nat × Nat)} {bs : List Bool} (ho : o.op = .binOp (if ne then .neq else .eql) t x y t') (h : Rel B w0 g A a w) (hx : A.ev x = some (.agg cs)) (hy : A.ev y = some (.agg ds)) (ht : eqT P t = some os) (hb : eqLs cs ds os = some bs) :
    OpTo P o B w0 g A a w (.bool (bs.all id != ne)) A := by
  have hvx : VR w B.N (fun k => ¬ bad g A k) (.agg cs) (a.eval x) := h.ev hx
  have hvy : VR w B.N (fun k => ¬ bad g A k) (.agg ds) (a.eval y) := h.ev hy
  generalize hex : a.eval x = vx at hvx
  generalize hey : a.eval y = vy at hvy
  unfold eqT at ht
  split at ht
  · rename_i fs hu
    split at ht
    · rename_i hc
      simp only [Bool.and_eq_true, Bool.not_eq_true', List.all_eq_true, decide_eq_true_eq] at hc
      obtain ⟨⟨hst, hgt⟩, hnm⟩ := hc
      obtain ⟨hl1, hg1⟩ := mapM_get ht
      obtain ⟨hl2, hg2⟩ := eqLs_get hb
      cases hvx with
      | agg _ xs hxl hxd =>
      cases hvy with
      | agg _ ys hyl hyd =>
      have hrun : ∀ d, (Op.equalIn (d + 1 + 1) t (.agg xs) (.agg ys)).run P w = .ok (bs.all id) w := fun d => by
        refine run_eqStruct w d t fs hu hst xs ys bs (by omega) (fun i f b hi hbi => ?_)
        have hil : i < os.length := by rw [hl1]; exact (List.getElem?_eq_some_iff.1 hi).1
        obtain ⟨f', h1, h2⟩ := hg1 i os[i] (List.getElem?_eq_getElem hil)
        rw [hi] at h1; cases h1
        obtain ⟨c, d', h3, h4, h5⟩ := hg2 i os[i] b (List.getElem?_eq_getElem hil) hbi
        refine ⟨hnm f (List.mem_of_getElem? hi), ?_⟩
        generalize os[i] = oi at *
        have hoff : oi.1 = f.offset := by split at h2 <;> first | (cases h2; rfl) | cases h2
        rw [hoff] at h3 h4
        have hxi : f.offset < xs.size := by rw [hxl]; exact (List.getElem?_eq_some_iff.1 h3).1
        have hyi : f.offset < ys.size := by rw [hyl]; exact (List.getElem?_eq_some_iff.1 h4).1
        have h6 := hxd _ _ h3
        have h7 := hyd _ _ h4
        have e6 : xs.getD f.offset undef = xs[f.offset] := by simp [Array.getD, hxi]
        have e7 : ys.getD f.offset undef = ys[f.offset] := by simp [Array.getD, hyi]
        rw [e6] at h6; rw [e7] at h7
        refine ⟨_, _, Array.getElem?_eq_getElem hxi, Array.getElem?_eq_getElem hyi, ?_⟩
        generalize xs[f.offset] = ux at h6
        generalize ys[f.offset] = uy at h7
        unfold eqSc at h5
        split at h5 <;> first | cases h5 | skip
        · split at h5 <;> first | cases h5 | skip
          rename_i hk; subst hk
          cases h6; cases h7
          split at h2 <;> first | (cases h2; done) | skip
          all_goals first
            | (rename_i hu' ; exact .int hu')
            | (exfalso; have h9 := congrArg Prod.snd (Option.some.inj h2); simp only at h9; omega)
        · cases h6; cases h7
          split at h2 <;> first | (cases h2; done) | skip
          all_goals first
            | (rename_i hu' ; exact .bool hu')
            | (exfalso; have h9 := congrArg Prod.snd (Option.some.inj h2); simp only at h9; omega)
        · cases h6; cases h7
          split at h2 <;> first | (cases h2; done) | skip
          all_goals first
            | (rename_i hu' ; exact .str hu')
            | (exfalso; have h9 := congrArg Prod.snd (Option.some.inj h2); simp only at h9; omega)
      refine op_same h (v := .bool (bs.all id != ne)) ?_ (VR.bool _)
      unfold execOp; rw [ho]
      simp only [hex, hey]
      have hgd : (eqGuard (if ne then .neq else .eql) t x y (.agg xs) (.agg ys)).run P w = .ok () w := run_eqGuard_agg w _ t x y xs ys hgt
      simp only [Sem.run_bind, hgd, Result.andThen_ok]
      have he : (Op.equal t (.agg xs) (.agg ys)).run P w = .ok (bs.all id) w := hrun 9998
      cases ne with
      | false => simp only [binOp, Bool.false_eq_true, if_false, Sem.run_bind, he, Result.andThen_ok]; simp [he]
      | true => simp only [binOp, if_true, Sem.run_bind, he, Result.andThen_ok]; simp [he]
    · cases ht
  · cases ht
end Go.PM

namespace Go.PM
variable [Tbl]
set_option linter.unusedSectionVars false
open Go.RowKit
set_option linter.unusedSimpArgs false
set_option linter.unusedVariables false
variable {P : Program} {B : Base} {w0 : World} {g : Gh} {A : St} {a : Act} {w : World}

def DV.free1 : DV → Bool
  | .own _ | .bx _ _ | .ex _ _ _ | .tup _ | .vw _ _ _ _ => false
  | _ => true
def DV.free : DV → Bool
  | .own _ | .bx _ _ | .ex _ _ _ | .vw _ _ _ _ => false
  | .tup vs => vs.all DV.free1
  | _ => true

inductive XP (P : Program) (o : Oper) (A : St) : DV → Prop
  | move {x : Operand} {d : DV} (ho : o.op = .move x) (hx : A.ev x = some d) : XP P o A d
  | assign {x : Operand} {d : DV} (ho : o.op = .assign x) (hx : A.ev x = some d) : XP P o A d
  | pick {c x y : Operand} {t : Bool} {dx dy : DV} (ho : o.op = .pick c x y) (hc : A.ev c = some (.bool t)) (hx : A.ev x = some dx) (hy : A.ev y = some dy) : XP P o A (if t then dx else dy)
  | load {t : TypeId} {x : Operand} {p d : DV} {l : List DV} {n : Nat} (ho : o.op = .load t x) (hx : A.ev x = some p) (hl : A.at p = some l) (hn : szT P t = some n) (hu : (P.underlying t).isSome = true) (hd : ldVal (isAggT P t) n l = some d) : XP P o A d
  | fieldAddr {t : TypeId} {x : Operand} {f off n : Nat} {ag : Bool} {p q : DV} (ho : o.op = .fieldAddr t x f) (hx : A.ev x = some p) (hl : A.live p = true) (hf : fieldT P t f = some (off, n, ag)) (hq : DV.plus A off p = some q) : XP P o A q
  | index {t e : TypeId} {x y : Operand} {nw : Bool} {xs : List (List DV)} {k : IntKind} {i : Int} {n : Nat} {c : List DV} (ho : o.op = .indexAddr t x y) (hx : A.ev x = some (.sl nw xs)) (hy : A.ev y = some (.int k i)) (he : elemT P t = some e) (hn : szT P e = some n) (h0 : 0 ≤ i) (hc : xs[i.toNat]? = some c) (hcl : c.length = n) : XP P o A (.cp c)
  | indexOwn {t e : TypeId} {x y : Operand} {tk : Nat} {ρ : Row} {k : IntKind} {i : Int} {n : Nat} (ho : o.op = .indexAddr t x y) (hx : A.ev x = some (.own tk)) (hr : A.r[tk]? = some (some ρ)) (hy : A.ev y = some (.int k i)) (he : elemT P t = some e) (hn : szT P e = some n) (h0 : 0 ≤ i) (hlt : i.toNat < ρ.xs.length) (hcl : ρ.sz = n) : XP P o A (.ex tk i.toNat 0)
  | extract {x : Operand} {i : Nat} {vs : List DV} {d : DV} (ho : o.op = .extract x i) (hx : A.ev x = some (.tup vs)) (hd : vs[i]? = some d) (ht : d.isTup = false) : XP P o A d
  | nilCheck {x : Operand} {d : DV} (ho : o.op = .nilCheck x) (hx : A.ev x = some d) (hl : A.live d = true) : XP P o A d
  | bin {op : BinOp} {t t' : TypeId} {x y : Operand} {dx dy d : DV} (ho : o.op = .binOp op t x y t') (hx : A.ev x = some dx) (hy : A.ev y = some dy) (hd : xbin op dx dy = some d) : XP P o A d
  | eqNil {ne : Bool} {t t' e : TypeId} {x y : Operand} {d : DV} {b : Bool} (ho : o.op = .binOp (if ne then .neq else .eql) t x y t') (hx : A.ev x = some d) (hb : nilOf d = some b) (hy : y = .const (.slice none 0 0)) (ht : elemT P t = some e) : XP P o A (.bool (b != ne))
  | eqG {ne : Bool} {t t' : TypeId} {x y : Operand} {cs ds : List DV} {os : List (Nat × Nat)} {bs : List Bool} (ho : o.op = .binOp (if ne then .neq else .eql) t x y t') (hx : A.ev x = some (.agg cs)) (hy : A.ev y = some (.agg ds)) (ht : eqT P t = some os) (hb : eqLs cs ds os = some bs) : XP P o A (.bool (bs.all id != ne))
  | un {op : UnOp} {t : TypeId} {x : Operand} {dx d : DV} (ho : o.op = .unOp op t x) (hx : A.ev x = some dx) (hd : xun op dx = some d) : XP P o A d
  | lenSl {t e : TypeId} {x : Operand} {d : DV} {xs : List (List DV)} (ho : o.op = .call { callee := .builtin .len, args := #[x], argTypes := #[t] }) (hx : A.ev x = some d) (he : A.elems d = some xs) (ht : elemT P t = some e) : XP P o A (.int .i64 xs.length)
  | capNil {t e : TypeId} {x : Operand} (ho : o.op = .call { callee := .builtin .cap, args := #[x], argTypes := #[t] }) (hx : A.ev x = some .nil) (ht : elemT P t = some e) : XP P o A (.int .i64 0)
  | cutNil {t e : TypeId} {x y : Operand} {k : IntKind} {n : Nat} (ho : o.op = .slice t x none (some y) none) (hx : A.ev x = some .nil) (hy : A.ev y = some (.int k 0)) (he : elemT P t = some e) (hn : szT P e = some n) : XP P o A .nil
  | lenStr {t : TypeId} {x : Operand} {s : ByteArray} (ho : o.op = .call { callee := .builtin .len, args := #[x], argTypes := #[t] }) (hx : A.ev x = some (.str s)) (ht : P.underlying t = some .string) : XP P o A (.int .i64 s.size)
  | minmax {t t' : TypeId} {x y : Operand} {k : IntKind} {m n : Int} {mx : Bool} (ho : o.op = .call { callee := .builtin (if mx then .max else .min), args := #[x, y], argTypes := #[t, t'] }) (hx : A.ev x = some (.int k m)) (hy : A.ev y = some (.int k n)) : XP P o A (.int k (if mx then (if n > m then n else m) else (if n < m then n else m)))
  | func {f : FuncId} {cap : Array Operand} {ds : List DV} (ho : o.op = .makeFunc (.func f) #[] cap) (hds : A.evL cap.toList = some ds) (ht : ds.all (fun d => !d.tok) = true) : XP P o A (.fn f ds)
  | indexStr {t : TypeId} {x y : Operand} {s : ByteArray} {k : IntKind} {i : Int} {b : UInt8} (ho : o.op = .index t x y) (hx : A.ev x = some (.str s)) (hy : A.ev y = some (.int k i)) (ht : P.underlying t = some .string) (h0 : 0 ≤ i) (hb : s[i.toNat]? = some b) : XP P o A (.int .u8 b.toNat)
  | build {t : TypeId} {parts : Array (Nat × Operand)} {pl : List (Nat × Nat)} {z cs : List DV} {ps : List (Nat × DV)} (ho : o.op = .build t parts) (hpl : placesT P t = some pl) (hz : zeroT P t = some z) (hp : A.evs parts.toList = some ps) (hk : ∀ p ∈ ps, p.2.cells.all A.okCell = true) (hf : fillD (pl[·]?) z ps = some cs) (ht : ∀ d ∈ cs, d.tok = false) : XP P o A (.agg cs)
  | idxA {t e : TypeId} {m n : Nat} {x y : Operand} {k : IntKind} {i : Int} {p q : DV} (ho : o.op = .indexAddr t x y) (hx : A.ev x = some p) (hl : A.live p = true) (hy : A.ev y = some (.int k i)) (ht : arrT P t = some (m, e)) (hn : szT P e = some n) (h0 : 0 ≤ i) (hlt : i.toNat < m) (hq : DV.plus A (i.toNat * n) p = some q) : XP P o A q
  | buildA {t e : TypeId} {m n : Nat} {parts : Array (Nat × Operand)} {z cs : List DV} {ps : List (Nat × DV)} (ho : o.op = .build t parts) (ht : arrT P t = some (m, e)) (hn : szT P e = some n) (hz : zeroT P t = some z) (hp : A.evs parts.toList = some ps) (hk : ∀ p ∈ ps, p.2.cells.all A.okCell = true) (hf : fillD (fun i => some (i * n, n)) z ps = some cs) (hc : ∀ d ∈ cs, d.tok = false) : XP P o A (.agg cs)
  | slice {t e : TypeId} {x : Operand} {lo hi : Option Operand} {nw : Bool} {xs : List (List DV)} {l u : Int} {n : Nat} (ho : o.op = .slice t x lo hi none) (hx : A.ev x = some (.sl nw xs)) (he : elemT P t = some e) (hn : szT P e = some n)
      (hlo : loIs A lo l) (hhi : hiIs A xs.length hi u) (h0 : 0 ≤ l) (h1 : l ≤ u) (h2 : u ≤ xs.length) (hsz : ∀ c ∈ xs, c.length = n) : XP P o A (.sl nw ((xs.take u.toNat).drop l.toNat))
  | slice3 {t e : TypeId} {x y z : Operand} {nw : Bool} {xs : List (List DV)} {k k' : IntKind} {u : Int} {n : Nat} (ho : o.op = .slice t x none (some y) (some z)) (hx : A.ev x = some (.sl nw xs)) (hy : A.ev y = some (.int k u)) (hz : A.ev z = some (.int k' u)) (he : elemT P t = some e) (hn : szT P e = some n) (h0 : 0 ≤ u) (h2 : u ≤ xs.length) : XP P o A (.sl nw (xs.take u.toNat))
  | eqB {ne : Bool} {t t' : TypeId} {x y : Operand} {p q : Bool} (ho : o.op = .binOp (if ne then .neq else .eql) t x y t') (hx : A.ev x = some (.bool p)) (hy : A.ev y = some (.bool q)) (ht : P.underlying t = some .bool) : XP P o A (.bool ((p == q) != ne))
  | convI {src dst : TypeId} {x : Operand} {k k' : IntKind} {n : Int} (ho : o.op = .convert src dst x) (hx : A.ev x = some (.int k n)) (hs : (P.underlying src).isSome = true) (hd : P.underlying dst = some (.int k')) : XP P o A (.int k' (k'.wrap n))
  | convRS {src dst e : TypeId} {x : Operand} {d : DV} {ns : List Int} (ho : o.op = .convert src dst x) (hx : A.ev x = some d) (he : A.elems d = some (ns.map fun n => [.int .i32 n])) (hs : P.underlying src = some (.slice e)) (hee : P.underlying e = some (.int .i32)) (hd : P.underlying dst = some .string) : XP P o A (.str (runesBytes ns))
  | cutStr {t : TypeId} {x : Operand} {lo hi : Option Operand} {s : ByteArray} {l u : Int} (ho : o.op = .slice t x lo hi none) (hx : A.ev x = some (.str s)) (ht : P.underlying t = some .string) (hlo : loIs A lo l) (hhi : hiIs A s.size hi u) (h0 : 0 ≤ l) (h1 : l ≤ u) (h2 : u ≤ s.size) : XP P o A (.str (s.extract l.toNat u.toNat))
  | lenV {t e : TypeId} {x : Operand} {b off n c : Nat} {cs : List DV} (ho : o.op = .call { callee := .builtin .len, args := #[x], argTypes := #[t] }) (hx : A.ev x = some (.vw b off n c)) (hb : A.b[b]? = some (some cs)) (ht : elemT P t = some e) : XP P o A (.int .i64 n)
  | capV {t e : TypeId} {x : Operand} {b off n c : Nat} {cs : List DV} (ho : o.op = .call { callee := .builtin .cap, args := #[x], argTypes := #[t] }) (hx : A.ev x = some (.vw b off n c)) (hb : A.b[b]? = some (some cs)) (ht : elemT P t = some e) : XP P o A (.int .i64 c)
  | sliceV {t e : TypeId} {x : Operand} {lo hi : Option Operand} {b off len cap : Nat} {cs : List DV} {l u : Int} {n : Nat} (ho : o.op = .slice t x lo hi none) (hx : A.ev x = some (.vw b off len cap)) (hb : A.b[b]? = some (some cs)) (he : elemT P t = some e) (hn : szT P e = some n)
      (hlo : loIs A lo l) (hhi : hiIs A len hi u) (h0 : 0 ≤ l) (h1 : l ≤ u) (h2 : u ≤ cap) : XP P o A (.vw b (if cap = l.toNat then off else off + l.toNat * n) (u.toNat - l.toNat) (cap - l.toNat))
  | call {f : Operand} {args : Array Operand} {ats : Array TypeId} {fid : FuncId} {caps ds : List DV} {r : DV} (ho : o.op = .call { callee := .value f, args := args, argTypes := ats }) (hf : A.ev f = some (.fn fid caps)) (hen : EntersF P fid) (hds : A.evL args.toList = some ds) (hok : (ds ++ caps).all (argOk [] []) = true) (hcap : caps.all (fun d => !d.tok) = true) (hpl : r.free = true)
      (hOk : Ok P fid (ds ++ caps) [] r []) : XP P o A r

theorem op_makeFunc {o : Oper} {f : FuncId} {cap : Array Operand} {ds : List DV} (ho : o.op = .makeFunc (.func f) #[] cap) (h : Rel B w0 g A a w) (hds : A.evL cap.toList = some ds) (ht : ds.all (fun d => !d.tok) = true) : OpTo P o B w0 g A a w (.fn f ds) A := by
  obtain ⟨h1, h2⟩ := evL_get hds
  refine op_same h (v := .func (.func f) #[] (cap.map a.eval)) ?_ (VR.fn f ds (cap.map a.eval) (by simpa using h1.symm) (fun i d hd => ?_))
  · unfold execOp; rw [ho]; simp [Instr.makeFunc]
  · obtain ⟨x, h3, h4⟩ := h2 i d hd
    rw [Array.getElem?_toList] at h3
    rw [getD_of_get (v := a.eval x) (by rw [Array.getElem?_map, h3]; rfl)]
    exact (h.evN h4).toVr (by simpa using List.all_eq_true.1 ht d (List.mem_of_getElem? hd))
theorem ren_none {l : List DV} (h : l.all (argOk [] []) = true) : l.map (renA [] []) = l := by
  refine (List.map_congr_left (fun d hd => ?_)).trans (List.map_id l)
  have h1 := List.all_eq_true.1 h d hd
  cases d <;> first | rfl | (simp [argOk] at h1)
theorem renT_free {r : DV} (f : Nat → Nat) (h : r.free = true) : r.renT f = r := by
  cases r with
  | tup vs =>
    simp only [DV.renT]
    congr 1
    refine (List.map_congr_left (fun d hd => ?_)).trans (List.map_id vs)
    have h1 := List.all_eq_true.1 h d hd
    cases d <;> first | rfl | cases h1
  | own t => cases h
  | _ => rfl
theorem free_plain {r : DV} (h : r.free = true) : r.plain = true := by
  cases r with
  | tup vs =>
    refine List.all_eq_true.2 (fun d hd => ?_)
    have h1 := List.all_eq_true.1 h d hd
    cases d <;> first | rfl | cases h1
  | bx b o => cases h
  | vw b o n c => cases h
  | ex t i j => cases h
  | _ => rfl

theorem XP.sound {o : Oper} {d : DV} (hx : XP P o A d) (h : Rel B w0 g A a w) : StepTo P o B w0 g A a w d A := by
  have nd : ∀ {op : Op}, o.op = op → (match op with | .defer _ => false | _ => true) = true → Oper.noDefer o = true := fun ho h => by unfold Oper.noDefer; rw [ho]; exact h
  cases hx with
  | move ho hx => exact (op_move (.inl ho) h hx).step (nd ho rfl)
  | assign ho hx => exact (op_move (.inr ho) h hx).step (nd ho rfl)
  | pick ho hc hx hy => exact (op_pick ho h hc hx hy).step (nd ho rfl)
  | load ho hx hl hn hu hd => exact (op_load ho h hx hl hn hu hd).step (nd ho rfl)
  | fieldAddr ho hx hl hf hq => exact (op_fieldAddr ho h hx hl hf hq).step (nd ho rfl)
  | index ho hx hy he hn h0 hc hcl => exact (op_indexAddr_sl ho h hx hy he hn h0 hc hcl).step (nd ho rfl)
  | indexOwn ho hx hr hy he hn h0 hlt hcl => exact (op_indexAddr_own ho h hx hr hy he hn h0 hlt hcl).step (nd ho rfl)
  | extract ho hx hd ht => exact (op_extract ho h hx hd ht).step (nd ho rfl)
  | nilCheck ho hx hl => exact (op_nilCheck ho h hx hl).step (nd ho rfl)
  | bin ho hx hy hd => exact (op_bin ho h hx hy hd).step (nd ho rfl)
  | eqNil ho hx hb hy ht => exact (op_eqNil ho h hx hb hy ht).step (nd ho rfl)
  | eqG ho hx hy ht hb => exact (op_eqG ho h hx hy ht hb).step (nd ho rfl)
  | un ho hx hd => exact (op_un ho h hx hd).step (nd ho rfl)
  | lenSl ho hx he ht => exact (op_len_sl ho h hx he ht).step (nd ho rfl)
  | capNil ho hx ht => exact (op_capNil ho h hx ht).step (nd ho rfl)
  | cutNil ho hx hy he hn => exact (op_cutNil ho h hx hy he hn).step (nd ho rfl)
  | lenStr ho hx ht => exact (op_len_str ho h hx ht).step (nd ho rfl)
  | convI ho hx hs hd => exact (op_convI ho h hx hs hd).step (nd ho rfl)
  | convRS ho hx he hs hee hd => exact (op_convRS ho h hx he hs hee hd).step (nd ho rfl)
  | cutStr ho hx ht hlo hhi h0 h1 h2 => exact (op_cutStr ho h hx ht hlo hhi h0 h1 h2).step (nd ho rfl)
  | minmax ho hx hy => exact (op_minmax ho h hx hy).step (nd ho rfl)
  | func ho hds ht => exact (op_makeFunc ho h hds ht).step (nd ho rfl)
  | indexStr ho hx hy ht h0 hb => exact (op_index_str ho h hx hy ht h0 hb).step (nd ho rfl)
  | build ho hpl hz hp hk hf ht => exact (op_build ho h hpl hz hp hk hf ht).step (nd ho rfl)
  | idxA ho hx hl hy ht hn h0 hlt hq => exact (op_idxA ho h hx hl hy ht hn h0 hlt hq).step (nd ho rfl)
  | buildA ho ht hn hz hp hk hf hc => exact (op_buildA ho h ht hn hz hp hk hf hc).step (nd ho rfl)
  | slice ho hx he hn hlo hhi h0 h1 h2 hsz => exact (op_slice_sl ho h hx he hn hlo hhi h0 h1 h2 hsz).step (nd ho rfl)
  | eqB ho hx hy ht => exact (op_eqB ho h hx hy ht).step (nd ho rfl)
  | lenV ho hx hb ht => exact (op_lenV ho h hx hb ht).step (nd ho rfl)
  | capV ho hx hb ht => exact (op_capV ho h hx hb ht).step (nd ho rfl)
  | sliceV ho hx hb he hn hlo hhi h0 h1 h2 => exact (op_sliceV ho h hx hb he hn hlo hhi h0 h1 h2).step (nd ho rfl)
  | slice3 ho hx hy hz he hn h0 h2 => exact (op_slice3 ho h hx hy hz he hn h0 h2).step (nd ho rfl)
  | call ho hf hen hds hok hcap hpl hOk =>
    have hs := call_step (P := P) ho h hf hen hds hok List.nodup_nil (bs := []) (cb := []) rfl rfl List.nodup_nil (toks := []) (ra := []) rfl (bz := []) (rr := []) (free_plain hpl) rfl hcap (by rw [ren_none hok]; exact hOk)
    rw [renT_free _ hpl] at hs
    simpa [killAll, St.called, setAll] using hs
end Go.PM

namespace Go.PM
variable [Tbl]
set_option linter.unusedSectionVars false
open Go.RowKit Go.Shelf
set_option linter.unusedSimpArgs false
set_option linter.unusedVariables false
variable {P : Program} {B : Base} {w0 : World} {g : Gh} {A : St} {a : Act} {w : World}

def Gh.lendEx (g : Gh) (A : St) (t o : Nat) : Gh where
  bm _ := g.tm t
  bo _ := o
  tm := g.tm
  tv := g.tv
  pl _ := false
  no k := bad g A k ∧ k ≠ g.tm t
def argOkE (t i : Nat) : DV → Bool
  | .own _ | .bx _ _ | .tup _ | .vw _ _ _ _ => false
  | .ex t' i' _ => t' == t && i' == i
  | _ => true
def renE : DV → DV
  | .ex _ _ j => .bx 0 j
  | d => d

theorem mutb_lendEx {t o : Nat} {x : List DV} {k : Nat} : mutb (g.lendEx A t o) (argSt [x] []) k ↔ k = g.tm t := by
  constructor
  · rintro (⟨i, _, rfl⟩ | ⟨i, ⟨_, h⟩, _⟩)
    · rfl
    · cases h
  · rintro rfl; exact .inl ⟨0, argSt_lb.2 (by simp), rfl⟩

theorem Rel.argsEx (h : Rel B w0 g A a w) {t i : Nat} {ρ : Row} {x : List DV} (hr : A.r[t]? = some (some ρ)) (hx : ρ.xs[i]? = some x) {ds : List DV} {vs : Array Value} (hsz : vs.size = ds.length) (hvs : ∀ (i : Nat) (d : DV), ds[i]? = some d → SR g A w B.N d (vs.getD i undef)) (hok : ds.all (argOkE t i) = true) :
    ArgsR (g.lendEx A t (i * ρ.sz)) w B.N (ds.map renE) [x] [] vs := by
  obtain ⟨hpl, u, cap, h1, h2, h3, h4, h5, h6, h7⟩ := (h.row t ρ hr).some hx
  have hBw : B.n ≤ w.heap.size := Nat.le_trans h.base h.below.size
  have hmt : mutb g A (g.tm t) := .inr ⟨t, ⟨⟨ρ, hr⟩, hpl⟩, rfl⟩
  have hbad : ∀ k, ¬ bad g A k → ¬ bad (g.lendEx A t (i * ρ.sz)) (argSt [x] []) k := by
    rintro k hk (h1 | h1)
    · exact hk h1.1
    · rw [mutb_lendEx] at h1; subst h1; exact hk (.inr hmt)
  have hvr : ∀ {d : DV} {v : Value}, VR w B.N (fun k => ¬ bad g A k) d v → VR w B.N (fun k => ¬ bad (g.lendEx A t (i * ρ.sz)) (argSt [x] []) k) d v := fun hv => hv.mono (fun _ _ _ => rfl) (Nat.le_refl _) (fun k hk _ => hbad k hk) (fun _ h _ => h)
  have hilt : i < ρ.xs.length := (List.getElem?_eq_some_iff.1 hx).1
  have hin : i * ρ.sz + ρ.sz ≤ u.size := by rw [h5, ← Nat.succ_mul]; exact Nat.mul_le_mul_right _ (by omega)
  refine { size := by simpa using hsz, arg := ?_, box := ?_, row := fun t ρ hx => by simp at hx, bb := ?_, rr := ?_, br := ?_, mN := ?_, nn := ?_, new := fun k hk => B.hN k (.inl (by omega)), tb := h.tab, mG := fun k hk => by rw [mutb_lendEx] at hk; subst hk; exact h.tb.1 _ (h.new _ hmt).1 }
  · intro j d hd
    rw [List.getElem?_map] at hd
    cases hq : ds[j]? with
    | none => rw [hq] at hd; cases hd
    | some d0 =>
      rw [hq] at hd
      obtain rfl : renE d0 = d := by simpa using hd
      have h8 := List.all_eq_true.1 hok d0 (List.mem_of_getElem? hq)
      have h9 := hvs j d0 hq
      cases d0 with
      | own t => cases h8
      | bx b o => cases h8
      | vw b o n c => cases h8
      | tup vs => cases h8
      | ex t' i' j' =>
        obtain ⟨rfl, rfl⟩ : t' = t ∧ i' = i := by simpa [argOkE] using h8
        exact ⟨by simp [argSt], fun _ => h9.2 ρ hr⟩
      | _ => exact hvr h9
  · intro j c hc
    cases j with
    | succ j => simp at hc
    | zero =>
      obtain rfl : x = c := by simpa using hc
      refine ⟨u, ρ.e, h1, by show i * ρ.sz + x.length ≤ _; rw [h6 i x hx]; exact hin, fun j d hd => ?_⟩
      obtain ⟨h8, h9, h10⟩ := h7 i x j d hx hd
      exact ⟨.inl h8, SR.vr (hvr h10)⟩
  · intro i j hi hj _
    have hi := argSt_lb.1 hi
    have hj := argSt_lb.1 hj
    simp at hi hj; omega
  · rintro i j ⟨_, hi⟩; cases hi
  · rintro i j _ ⟨_, hi⟩; cases hi
  · intro k hk
    rw [mutb_lendEx] at hk; subst hk
    have h8 := h.new _ hmt
    exact ⟨B.hN _ h8.1, h8.2⟩
  · rintro k ⟨h8, h9⟩
    refine ⟨?_, fun h10 => h9 (mutb_lendEx.1 h10)⟩
    rcases h8 with h8 | h8
    · exact (h.nn k h8).1
    · exact (h.new k h8).2

theorem Rel.callEx (h : Rel B w0 g A a w) {t i : Nat} {ρ : Row} {x y : List DV} (hr : A.r[t]? = some (some ρ)) (hx : ρ.xs[i]? = some x) {g' : Gh} {w' : World} {r : DV} {v : Value} (hR : ResR (g.lendEx A t (i * ρ.sz)) g' w w' B.N [x] [] r [y] [] v) (hyt : y.all (fun d => d.one && !d.tok) = true) (hpl : r.free = true) :
    Rel B w0 g { A with r := A.r.set t (some { ρ with xs := ρ.xs.set i y }) } a w' ∧ SR g { A with r := A.r.set t (some { ρ with xs := ρ.xs.set i y }) } w' B.N r v := by
  obtain ⟨hp, u, cap, h1, h2, h3, h4, h5, h6, h7⟩ := (h.row t ρ hr).some hx
  have hBw : B.n ≤ w.heap.size := Nat.le_trans h.base h.below.size
  have hlp : lp g A t := ⟨⟨ρ, hr⟩, hp⟩
  have hilt : i < ρ.xs.length := (List.getElem?_eq_some_iff.1 hx).1
  have htl : t < A.r.length := (List.getElem?_eq_some_iff.1 hr).1
  have hin : i * ρ.sz + ρ.sz ≤ u.size := by rw [h5, ← Nat.succ_mul]; exact Nat.mul_le_mul_right _ (by omega)
  generalize hA2 : ({ A with r := A.r.set t (some { ρ with xs := ρ.xs.set i y }) } : St) = A2
  have hr2 : A2.r = A.r.set t (some { ρ with xs := ρ.xs.set i y }) := by rw [← hA2]
  have hb2 : A2.b = A.b := by rw [← hA2]
  have hs2 : A2.s = A.s := by rw [← hA2]
  have hget : ∀ j ρ', A2.r[j]? = some (some ρ') → (j ≠ t ∧ A.r[j]? = some (some ρ')) ∨ (j = t ∧ ρ' = { ρ with xs := ρ.xs.set i y }) := by
    intro j ρ' hj
    rw [hr2, List.getElem?_set] at hj
    by_cases e : t = j
    · subst e; rw [if_pos rfl, if_pos htl] at hj; exact .inr ⟨rfl, by simpa using hj.symm⟩
    · rw [if_neg e] at hj; exact .inl ⟨fun e' => e e'.symm, hj⟩
  have hlr : ∀ j, A2.lr j → A.lr j := by
    rintro j ⟨ρ', hj⟩
    rcases hget j ρ' hj with ⟨_, h8⟩ | ⟨rfl, _⟩
    · exact ⟨_, h8⟩
    · exact ⟨_, hr⟩
  have hlb : ∀ j, A2.lb j → A.lb j := by rintro j ⟨c, hc⟩; exact ⟨c, by rw [← hb2]; exact hc⟩
  have hmm : ∀ k, mutb g A2 k → mutb g A k := by
    rintro k (⟨j, hj, rfl⟩ | ⟨j, ⟨hj, hj'⟩, rfl⟩)
    · exact .inl ⟨j, hlb j hj, rfl⟩
    · exact .inr ⟨j, ⟨hlr j hj, hj'⟩, rfl⟩
  have hwm : ∀ k, k ≠ g.tm t → k < w.heap.size → w'.heap[k]? = w.heap[k]? := fun k hk hlt => hR.block k hlt (fun h8 => hk (mutb_lendEx.1 h8))
  have he : Ext g A w g A2 w' := by
    refine { lenb := by rw [hb2]; exact Nat.le_refl _, lenr := by rw [hr2]; simp, keepb := fun b _ hl => ⟨hlb b hl, rfl, rfl⟩, keepr := ?_, heap := fun k hk hlt => hwm k (fun e => hk (.inr ⟨t, hlp, e.symm⟩)) hlt, size := hR.size, mt := fun k hk _ h8 => hk (hmm k h8), no := rfl, kb := by rw [← hA2] }
    intro j hj ρ' hρ
    rcases hget j ρ' hρ with ⟨_, h8⟩ | ⟨rfl, rfl⟩
    · exact ⟨ρ', h8, rfl, rfl, rfl, rfl, rfl⟩
    · exact ⟨ρ, hr, rfl, rfl, rfl, rfl, rfl⟩
  have hbad : ∀ k, ¬ bad g' (argSt [y] []) k → ¬ bad g A2 k := by
    intro k hn hbd
    have h8 : bad g A k := hbd.elim .inl (fun h9 => .inr (hmm k h9))
    by_cases e : k = g.tm t
    · refine hn (.inr (.inl ⟨0, argSt_lb.2 (by simp), ?_⟩))
      rw [(hR.bfix 0 (by simp)).1, e]; rfl
    · exact hn (.inl (by rw [hR.no]; exact ⟨h8, e⟩))
  have hvr : ∀ {d : DV} {v : Value}, VR w' B.N (fun k => ¬ bad g' (argSt [y] []) k) d v → VR w' B.N (fun k => ¬ bad g A2 k) d v := fun hv => hv.mono (fun _ _ _ => rfl) (Nat.le_refl _) (fun k hk hlt => hbad k hk) (fun _ h _ => h)
  obtain ⟨hyl, u0, u', e', k1, k2, k3, k4, k5⟩ := hR.bout 0 x y rfl rfl
  have k1 : w.heap[g.tm t]? = some (.cells u0 e' (0, 0)) := k1
  rw [h1] at k1; cases k1
  have hxl := h6 i x hx
  obtain ⟨ub, eb, b1, b2, b3⟩ := hR.box 0 y rfl
  obtain ⟨f1, f2⟩ := hR.bfix 0 (by simp)
  have f1 : g'.bm 0 = g.tm t := f1
  have f2 : g'.bo 0 = i * ρ.sz := f2
  rw [f1] at b1; rw [f2] at b2 b3
  have k2 : w'.heap[g.tm t]? = some (.cells u' ρ.e (0, 0)) := k2
  rw [k2] at b1; cases b1
  refine ⟨h.step he hs2 ?_ ?_ (fun i j hi hj => h.bb i j (hlb i hi) (hlb j hj)) (fun i j hi hj => h.rr i j ⟨hlr i hi.1, hi.2⟩ ⟨hlr j hj.1, hj.2⟩) (fun i j hi hj => h.br i j (hlb i hi) ⟨hlr j hj.1, hj.2⟩) ?_ ?_ hR.oth, ?_⟩
  · intro j c hc
    rw [hb2] at hc
    exact .inl ⟨hc, hwm _ (fun e => h.br j t ⟨c, hc⟩ hlp e) (h.new _ (.inl ⟨j, ⟨c, hc⟩, rfl⟩)).2⟩
  · intro j ρ' hρ
    rcases hget j ρ' hρ with ⟨hne, h8⟩ | ⟨rfl, rfl⟩
    · exact .inl ⟨h8, fun hpj => hwm _ (fun e => hne (h.rr j t ⟨⟨ρ', h8⟩, hpj⟩ hlp e)) (h.new _ (.inr ⟨j, ⟨⟨ρ', h8⟩, hpj⟩, rfl⟩)).2⟩
    · right
      refine .inr ⟨hp, u', cap, k2, by simpa using h2, by simpa using h3, h4, by show u'.size = cap * ρ.sz; omega, fun m z hz => ?_, fun m z q d hz hd => ?_⟩
      · rw [List.getElem?_set] at hz
        by_cases hm : i = m
        · subst hm
          rw [if_pos rfl, if_pos hilt] at hz
          obtain rfl : y = z := by simpa using hz
          show y.length = ρ.sz; omega
        · rw [if_neg hm] at hz; exact h6 m z hz
      · rw [List.getElem?_set] at hz
        by_cases hm : i = m
        · subst hm
          rw [if_pos rfl, if_pos hilt] at hz
          obtain rfl : y = z := by simpa using hz
          obtain ⟨h8, h9⟩ := b3 q d hd
          have h10' := List.all_eq_true.1 hyt d (List.mem_of_getElem? hd)
          simp only [Bool.and_eq_true, Bool.not_eq_true'] at h10'
          have h10 := h10'.2
          exact ⟨h10'.1, h10, hvr (h9.toVr h10)⟩
        · rw [if_neg hm] at hz
          have hql : q < ρ.sz := by rw [← h6 m z hz]; exact (List.getElem?_eq_some_iff.1 hd).1
          obtain ⟨h8, h9, h10⟩ := h7 m z q d hz hd
          refine ⟨h8, h9, ?_⟩
          have hk := k5 (m * ρ.sz + q) (by
            show m * ρ.sz + q < i * ρ.sz ∨ i * ρ.sz + x.length ≤ m * ρ.sz + q
            rcases Nat.lt_or_gt_of_ne hm with h14 | h14
            · have : (i + 1) * ρ.sz ≤ m * ρ.sz := Nat.mul_le_mul_right _ h14
              rw [Nat.succ_mul] at this; right; omega
            · have : (m + 1) * ρ.sz ≤ i * ρ.sz := Nat.mul_le_mul_right _ h14
              rw [Nat.succ_mul] at this; left; omega)
          show VR w' B.N _ d (u'.getD (m * ρ.sz + q) undef)
          rw [Array.getD_eq_getD_getElem?, hk, ← Array.getD_eq_getD_getElem?]
          exact VR.ext he h10
  · intro k hk
    have h8 := h.new k (hmm k hk)
    exact ⟨h8.1, Nat.lt_of_lt_of_le h8.2 hR.size⟩
  · refine ⟨hR.os, hR.tape, hR.output, hR.size, fun k hk => ?_⟩
    by_cases hlt : k < w.heap.size
    · exact hwm k (fun e => hk (by rw [e]; exact (h.new _ (.inr ⟨t, hlp, rfl⟩)).1)) hlt
    · exact absurd (.inl (by omega)) hk
  · by_cases htp : ∃ vs, r = .tup vs
    · obtain ⟨vs, rfl⟩ := htp
      obtain ⟨us, h8, h9, h10⟩ := hR.res
      refine ⟨us, h8, h9, fun j d hd => ?_⟩
      have h11 := h10 j d hd
      have h12 : d.free1 = true := List.all_eq_true.1 (show vs.all DV.free1 = true from hpl) d (List.mem_of_getElem? hd)
      exact SR1.vr (hvr (by cases d <;> first | exact h11 | cases h12))
    · have h12 : r.tok = false := by cases r <;> first | rfl | cases hpl | exact absurd ⟨_, rfl⟩ htp
      exact SR.vr (hvr (hR.res.toVr h12))

theorem call_stepEx {o : Oper} {f : Operand} {args : Array Operand} {ats : Array TypeId} {fid : FuncId} {caps ds : List DV} {t i : Nat} {ρ : Row} {x y : List DV} {r : DV} (ho : o.op = .call { callee := .value f, args := args, argTypes := ats }) (h : Rel B w0 g A a w)
    (hf : A.ev f = some (.fn fid caps)) (hen : EntersF P fid) (hds : A.evL args.toList = some ds) (hr : A.r[t]? = some (some ρ)) (hx : ρ.xs[i]? = some x) (hok : (ds ++ caps).all (argOkE t i) = true) (hpl : r.free = true)
    (hyt : y.all (fun d => d.one && !d.tok) = true) (hOk : OkB P fid ((ds ++ caps).map renE) [x] [] r [y] []) : StepTo P o B w0 g A a w r { A with r := A.r.set t (some { ρ with xs := ρ.xs.set i y }) } := by
  intro ro n next Q hn
  have hfv : VR w B.N (fun k => ¬ bad g A k) (.fn fid caps) (a.eval f) := h.ev hf
  generalize hvf : a.eval f = vf at hfv
  cases hfv with
  | fn _ _ cvs hcl hcd =>
    obtain ⟨h1, h2⟩ := evL_get hds
    have h1 : ds.length = args.size := by rw [h1]; simp
    have hA := h.argsEx hr hx (vs := args.map a.eval ++ cvs) (ds := ds ++ caps) (by simp [h1, hcl]) (fun i d hd => by
      by_cases hi : i < ds.length
      · rw [List.getElem?_append_left hi] at hd
        obtain ⟨x, h3, h4⟩ := h2 i d hd
        have h5 : (args.map a.eval ++ cvs).getD i undef = a.eval x := by
          rw [Array.getElem?_toList] at h3
          apply getD_of_get
          rw [Array.getElem?_append_left (by simp; omega), Array.getElem?_map, h3]; rfl
        rw [h5]; exact h.evN h4
      · rw [List.getElem?_append_right (by omega)] at hd
        have h5 : (args.map a.eval ++ cvs).getD i undef = cvs.getD (i - ds.length) undef := by
          rw [Array.getD_eq_getD_getElem?, Array.getD_eq_getD_getElem?, Array.getElem?_append_right (by simp; omega)]
          simp [h1]
        rw [h5]
        exact SR.vr (hcd _ d hd)) hok
    refine ⟨fun f _ => Fw_fn ro f, ?_⟩
    have hnd' : Oper.noDefer o = true := by unfold Oper.noDefer; rw [ho]
    rw [semAt_plain o _ _ hnd']
    have hrun : (execOp a.eval o).run P w = .ok (.enter fid (args.map a.eval ++ cvs)) w := by
      unfold execOp; rw [ho]
      simp only [resolve, hvf, Deferred.ofValue, Sem.run_bind, Sem.run_pure, Result.andThen_ok, invoke]
      rw [hen]
      simp
    rw [hrun]
    refine ⟨fun h' => (by rw [Fw_depth] at h'; cases h'), Fw_calls ((hOk w _ _ _ hA).mono ?_)⟩
    rintro e w' ⟨v, g', rfl, hR⟩
    obtain ⟨h3, h4⟩ := h.callEx hr hx hR hyt hpl
    exact hn v w' _ (h3.put o.dst h4)
end Go.PM

namespace Go.PM
variable [Tbl]
set_option linter.unusedSectionVars false
open Go.RowKit
set_option linter.unusedSimpArgs false
set_option linter.unusedVariables false
variable {P : Program} {B : Base} {w0 : World} {g : Gh} {A : St} {a : Act} {w : World}

inductive XE (P : Program) (o : Oper) (A : St) : DV → St → Prop
  | box {t : TypeId} {x : Operand} {d : DV} (ho : o.op = .box t x) (hx : A.ev x = some d) (hk : d.cells.all A.okCell = true) : XE P o A (.bx A.b.length 0) { A with b := A.b ++ [some d.cells] }
  | nilRow {x : Operand} (ho : o.op = .move x ∨ o.op = .assign x) (hx : x = .const (.slice none 0 0)) (e : TypeId) (n : Nat) : XE P o A (.own A.r.length) { A with r := A.r ++ [some ⟨e, n, []⟩] }
  | allocN {t e : TypeId} {n : Nat} (ho : o.op = .alloc t) (hz : ((P.info? t).bind (·.zero)) = some (.slice none 0 0)) : XE P o A (.bx A.b.length 0) { A with b := A.b ++ [some [.own A.r.length]], r := A.r ++ [some ⟨e, n, []⟩] }
  | alloc {t : TypeId} {z : List DV} (ho : o.op = .alloc t) (hz : zeroT P t = some z) : XE P o A (.bx A.b.length 0) { A with b := A.b ++ [some z] }
  | store {t : TypeId} {x y : Operand} {p d : DV} {A2 : St} {n : Nat} (ho : o.op = .store t x y) (hx : A.ev x = some p) (hy : A.ev y = some d) (hn : szT P t = some n) (hl : d.cells.length = n) (hk : d.cells.all A.okCell = true) (hA : A.store p d.cells = some A2) : XE P o A .top A2
  | lit {t e : TypeId} {len : Nat} {parts : Array (Nat × Operand)} {n by_ : Nat} {ps : List (Nat × DV)} (ho : o.op = .buildSlice t len parts) (ht : elemT P t = some e) (hr : rowT P e = some (n, by_)) (hz0 : (zeroT P e).isSome = true)
      (hp : A.evs parts.toList = some ps) (hk : ∀ p ∈ ps, p.2.cells.all A.okCell = true) (hseq : ps.map (·.1) = List.range len) (hlen : len ≤ 1000) (hn : n ≤ 1000) (hf : flatOk n (ps.map (·.2.cells))) : XE P o A (.own A.r.length) { A with r := A.r ++ [some ⟨e, n, ps.map (·.2.cells)⟩] }
  | append {t e : TypeId} {x y : Operand} {dx dy : DV} {xs ys : List (List DV)} {n by_ : Nat} (ho : o.op = .call { callee := .builtin .append, args := #[x, y], argTypes := #[t, t] }) (hx : A.ev x = some dx) (hy : A.ev y = some dy)
      (ht : elemT P t = some e) (hr : rowT P e = some (n, by_)) (t0 : Option Nat) (hdx : (dx = .nil ∧ xs = [] ∧ t0 = none) ∨ (∃ tk, dx = .own tk ∧ t0 = some tk ∧ A.r[tk]? = some (some ⟨e, n, xs⟩)))
      (hey : A.elems dy = some ys) (hf : flatOk n ys) (hlim : (xs.length + ys.length) * (by_ + 1) ≤ 140737488355328) : XE P o A (.own A.r.length) { A with r := kill A.r t0 ++ [some ⟨e, n, xs ++ ys⟩] }
  | appZ {t tn e : TypeId} {x y : Operand} {k kn : IntKind} {n m by_ : Nat} {z : List DV} (ho : o.op = .call { callee := .builtin .append, args := #[x, y], argTypes := #[t, tn] }) (hx : A.ev x = some .nil) (hy : A.ev y = some (.int k n)) (ht : elemT P t = some e) (htn : P.underlying tn = some (.int kn)) (hr : rowT P e = some (m, by_)) (hz : zeroT P e = some z) (hn : 0 < n) (hlim : n * (by_ + 1) ≤ 140737488355328) : XE P o A (.own A.r.length) { A with r := A.r ++ [some ⟨e, m, List.replicate n z⟩] }
  | runes {src dst e : TypeId} {x : Operand} {s : ByteArray} (ho : o.op = .convert src dst x) (hx : A.ev x = some (.str s)) (hs : P.underlying src = some .string) (hd : P.underlying dst = some (.slice e)) (he : P.underlying e = some (.int .i32)) (hlim : s.size ≤ 1073741824) :
      XE P o A (.own A.r.length) { A with r := A.r ++ [some ⟨e, 1, (runesB s).map fun n => [.int .i32 n]⟩] }
  | cutO {t e : TypeId} {x y : Operand} {k : IntKind} {tk n : Nat} {u : Int} {ρ : Row} (ho : o.op = .slice t x none (some y) none) (hx : A.ev x = some (.own tk)) (hr : A.r[tk]? = some (some ρ)) (hy : A.ev y = some (.int k u)) (he : elemT P t = some e) (hn : szT P e = some n) (h0 : 0 ≤ u) (h1 : u ≤ ρ.xs.length) : XE P o A (.own A.r.length) { A with r := A.r.set tk none ++ [some { ρ with xs := ρ.xs.take u.toNat }] }
  | litF {t e : TypeId} {len : Nat} {parts : Array (Nat × Operand)} {n by_ : Nat} {ps : List (Nat × DV)} (ho : o.op = .buildSlice t len parts) (ht : elemT P t = some e) (hr : rowT P e = some (n, by_)) (hz0 : (zeroT P e).isSome = true)
      (hp : A.evs parts.toList = some ps) (hk : ∀ p ∈ ps, p.2.cells.all A.okCell = true) (hseq : ps.map (·.1) = List.range len) (hlen : len ≤ 1000) (hn : n ≤ 1000) (hf : flatOk n (ps.map (·.2.cells))) : XE P o A (.sl false (ps.map (·.2.cells))) { A with r := A.r ++ [none] }
  | appF {t e : TypeId} {x y : Operand} {dx dy : DV} {xs ys : List (List DV)} {n by_ : Nat} (ho : o.op = .call { callee := .builtin .append, args := #[x, y], argTypes := #[t, t] }) (hx : A.ev x = some dx) (hy : A.ev y = some dy)
      (ht : elemT P t = some e) (hr : rowT P e = some (n, by_)) (t0 : Option Nat) (hdx : (dx = .nil ∧ xs = [] ∧ t0 = none) ∨ (∃ tk, dx = .own tk ∧ t0 = some tk ∧ A.r[tk]? = some (some ⟨e, n, xs⟩)))
      (hey : A.elems dy = some ys) (hf : flatOk n ys) (hlim : (xs.length + ys.length) * (by_ + 1) ≤ 140737488355328) : XE P o A (.sl false (xs ++ ys)) { A with r := kill A.r t0 ++ [none] }
  | call {f : Operand} {args : Array Operand} {ats : Array TypeId} {fid : FuncId} {caps ds : List DV} {bs toks : List Nat} {cb bz : List (List DV)} {ra rr : List Row} {r : DV} (ho : o.op = .call { callee := .value f, args := args, argTypes := ats }) (hf : A.ev f = some (.fn fid caps)) (hen : EntersF P fid) (hds : A.evL args.toList = some ds) (hok : (ds ++ caps).all (argOk bs toks) = true)
      (hnb : bs.Nodup) (hcb : A.boxesOf bs = some cb) (hokb : cb.all (fun c => c.all (argOk bs toks)) = true) (hnd : toks.Nodup) (hra : A.rowsOf toks = some ra) (hpl : r.plain = true) (hpb : bz.all (fun c => c.all DV.plain1) = true) (hcap : caps.all (fun d => !d.tok) = true) (hOk : OkB P fid ((ds ++ caps).map (renA bs toks)) (cb.map (List.map (renA bs toks))) ra r bz rr) :
      XE P o A (r.renT (A.r.length + ·)) (A.called bs toks bz rr)
  | copyV {t t' e : TypeId} {x y : Operand} {b off n c sz len : Nat} {cs ds : List DV} (ho : o.op = .call { callee := .builtin .copy, args := #[x, y], argTypes := #[t, t'] }) (hx : A.ev x = some (.vw b off n c)) (hb : A.b[b]? = some (some cs)) (ht : elemT P t = some e) (hn : szT P e = some sz)
      (hs : ASrc A sz (Nat.min len n) y len ds) (hoff : off + ds.length ≤ cs.length) : XE P o A (.int .i64 (Nat.min len n : Nat)) { A with b := A.b.set b (some (splice cs off ds)) }
  | clearV {t e : TypeId} {x : Operand} {b off n c : Nat} {cs z : List DV} (ho : o.op = .call { callee := .builtin .clear, args := #[x], argTypes := #[t] }) (hx : A.ev x = some (.vw b off n c)) (hb : A.b[b]? = some (some cs)) (ht : elemT P t = some e) (hz : zeroT P e = some z) (hsz : 0 < z.length)
      (hoff : off + n * z.length ≤ cs.length) : XE P o A (.tup []) { A with b := A.b.set b (some (splice cs off (List.replicate n z).flatten)) }
  | appV {t e : TypeId} {x y : Operand} {b off n c sz len : Nat} {cs ds : List DV} (ho : o.op = .call { callee := .builtin .append, args := #[x, y], argTypes := #[t, t] }) (hx : A.ev x = some (.vw b off n c)) (hb : A.b[b]? = some (some cs)) (ht : elemT P t = some e) (hn : szT P e = some sz)
      (hs : ASrc A sz len y len ds) (hfit : n + len ≤ c) (hoff : off + n * sz + ds.length ≤ cs.length) : XE P o A (.vw b off (n + len) c) { A with b := A.b.set b (some (splice cs (off + n * sz) ds)) }
  | appVG {t e : TypeId} {x y : Operand} {b off n c sz by_ len : Nat} {cs : List DV} {xs ys : List (List DV)} (ho : o.op = .call { callee := .builtin .append, args := #[x, y], argTypes := #[t, t] }) (hx : A.ev x = some (.vw b off n c)) (hb : A.b[b]? = some (some cs)) (ht : elemT P t = some e) (hr : rowT P e = some (sz, by_))
      (hs : ASrc A sz len y len ys.flatten) (hyl : ys.length = len) (hfy : flatOk sz ys) (hxl : xs.length = n) (hfx : flatOk sz xs) (hoff : off + n * sz ≤ cs.length) (hcs : (cs.drop off).take (n * sz) = xs.flatten) (hfit : c < n + len) (hlc : n ≤ c) (hlim : (n + len) * (by_ + 1) ≤ 140737488355328) : XE P o A (.own A.r.length) { A with r := A.r ++ [some ⟨e, sz, xs ++ ys⟩] }
  | callEx {f : Operand} {args : Array Operand} {ats : Array TypeId} {fid : FuncId} {caps ds : List DV} {t i : Nat} {ρ : Row} {x y : List DV} {r : DV} (ho : o.op = .call { callee := .value f, args := args, argTypes := ats }) (hf : A.ev f = some (.fn fid caps)) (hen : EntersF P fid) (hds : A.evL args.toList = some ds)
      (hr : A.r[t]? = some (some ρ)) (hx : ρ.xs[i]? = some x) (hok : (ds ++ caps).all (argOkE t i) = true) (hpl : r.free = true) (hyt : y.all (fun d => d.one && !d.tok) = true) (hOk : OkB P fid ((ds ++ caps).map renE) [x] [] r [y] []) : XE P o A r { A with r := A.r.set t (some { ρ with xs := ρ.xs.set i y }) }

theorem XE.sound {o : Oper} {d : DV} {A2 : St} (hx : XE P o A d A2) (h : Rel B w0 g A a w) : StepTo P o B w0 g A a w d A2 := by
  have nd : ∀ {op : Op}, o.op = op → (match op with | .defer _ => false | _ => true) = true → Oper.noDefer o = true := fun ho h => by unfold Oper.noDefer; rw [ho]; exact h
  cases hx with
  | box ho hx hk => exact (op_box ho h hx hk).step (nd ho rfl)
  | nilRow ho hx e n => exact (op_nilRow ho hx h e n).step (by rcases ho with ho | ho <;> exact nd ho rfl)
  | allocN ho hz => exact (op_allocN ho h hz).step (nd ho rfl)
  | alloc ho hz => exact (op_alloc ho h hz).step (nd ho rfl)
  | store ho hx hy hn hl hk hA => exact (op_store ho h hx hy hn hl hk hA).step (nd ho rfl)
  | lit ho ht hr hz0 hp hk hseq hlen hn hf => exact (op_buildSlice ho h ht hr hz0 hp hk hseq hlen hn hf).step (nd ho rfl)
  | append ho hx hy ht hr t0 hdx hey hf hlim => exact (op_append ho h hx hy ht hr t0 hdx hey hf hlim).step (nd ho rfl)
  | runes ho hx hs hd he hlim => exact (op_runes ho h hx hs hd he hlim).step (nd ho rfl)
  | appZ ho hx hy ht htn hr hz hn hlim => exact (op_appZ ho h (.inl hx) hy ht htn hr hz hn hlim).step (nd ho rfl)
  | cutO ho hx hr hy he hn h0 h1 => exact (op_cutO ho h hx hr hy he hn h0 h1).step (nd ho rfl)
  | litF ho ht hr hz0 hp hk hseq hlen hn hf => exact ((op_buildSlice ho h ht hr hz0 hp hk hseq hlen hn hf).shut h false).step (nd ho rfl)
  | appF ho hx hy ht hr t0 hdx hey hf hlim =>
    have h1 := op_append ho h hx hy ht hr t0 hdx hey hf hlim
    rw [← kill_length A.r t0] at h1
    exact (h1.shut h false).step (nd ho rfl)
  | call ho hf hen hds hok hnb hcb hokb hnd hra hpl hpb hcap hOk => exact call_step ho h hf hen hds hok hnb hcb hokb hnd hra hpl hpb hcap hOk
  | copyV ho hx hb ht hn hs hoff => exact (op_copyV ho h hx hb ht hn (hs.src h) hoff).step (nd ho rfl)
  | clearV ho hx hb ht hz hsz hoff => exact (op_clearV (sz := 0) ho h hx hb ht hz hsz hoff).step (nd ho rfl)
  | appV ho hx hb ht hn hs hfit hoff => exact (op_appV ho h hx hb ht hn (hs.src h) hfit hoff).step (nd ho rfl)
  | appVG ho hx hb ht hr hs hyl hfy hxl hfx hoff hcs hfit hlc hlim => exact (op_appVG ho h hx hb ht hr (hs.src h) hyl hfy hxl hfx hoff hcs hfit hlc hlim).step (nd ho rfl)
  | callEx ho hf hen hds hr hx hok hpl hyt hOk => exact call_stepEx ho h hf hen hds hr hx hok hpl hyt hOk

inductive Gst : St → St → Prop
  | refl (A : St) : Gst A A
  | shutR {A A2 : St} (nw : Bool) {t : Nat} {ρ : Row} (hx : A.r[t]? = some (some ρ)) (h : Gst (A.shutR nw t ρ) A2) : Gst A A2
  | shutB {A A2 : St} {b : Nat} {cs : List DV} (hx : A.b[b]? = some (some cs)) (ht : ∀ d ∈ cs, d.tok = false) (h : Gst (A.shutB b cs) A2) : Gst A A2
  | nilOwn {A A2 : St} {i : Nat} (e : TypeId) (n : Nat) (hx : A.s[i]? = some .nil) (h : Gst { A with s := A.s.set i (.own A.r.length), r := A.r ++ [some ⟨e, n, []⟩] } A2) : Gst A A2
  | forget {A A2 : St} (k : List Bool) (n m : Nat) (hf : (A.forget k n m).fitsAll n m = true) (h : Gst (A.forget k n m) A2) : Gst A A2
  | re {A A2 : St} (k : List Bool) (pb pr : List Nat) (hf : A.reOk pb pr = true) (h : Gst (A.re k pb pr) A2) : Gst A A2
  | weak {A A2 : St} {i : Nat} {d d' : DV} (hx : A.s[i]? = some d) (hl : DV.le d d') (h : Gst { A with s := A.s.set i d' } A2) : Gst A A2
theorem Gst.rel {A2 : St} (hg : Gst A A2) : ∀ {g : Gh}, Rel B w0 g A a w → ∃ g', Rel B w0 g' A2 a w := by
  induction hg with
  | refl => exact fun h => ⟨_, h⟩
  | shutR nw hx _ ih => exact fun h => ih (h.shutR nw hx).1
  | shutB hx ht _ ih => exact fun h => ih (h.shutB hx ht).1
  | nilOwn e n hx _ ih => exact fun h => ih (h.nilOwn hx e n)
  | forget k n m hf _ ih => exact fun h => ih (h.forget k n m hf)
  | re k pb pr hf _ ih => exact fun h => ih (h.re k pb pr hf)
  | weak hx hl _ ih => exact fun h => ih (h.weak hx hl)

theorem Gst.trans {A1 A2 : St} (h : Gst A A1) (k : Gst A1 A2) : Gst A A2 := by
  induction h with
  | refl => exact k
  | shutR nw hx _ ih => exact .shutR nw hx (ih k)
  | shutB hx ht _ ih => exact .shutB hx ht (ih k)
  | nilOwn e n hx _ ih => exact .nilOwn e n hx (ih k)
  | forget k' n m hf _ ih => exact .forget k' n m hf (ih k)
  | re k' pb pr hf _ ih => exact .re k' pb pr hf (ih k)
  | weak hx hl _ ih => exact .weak hx hl (ih k)

def wantD (ops : Array Oper) (A : St) (o : Oper) : Option Bool := match o.guard with
  | none => some true
  | some (j, want) => match ((ops[j]?).bind (·.dst)).bind (A.s[·]?) with
    | some (.bool b) => some (b == want)
    | some (.tup []) => some false
    | _ => none
theorem wantD_wanted {ops : Array Oper} {o : Oper} {b : Bool} (h : Rel B w0 g A a w) (hw : wantD ops A o = some b) : Region.wanted o (yielded ops a.tmps) = b := by
  unfold wantD at hw
  unfold Region.wanted
  split at hw
  · rename_i hg; rw [hg]; simpa using hw
  · rename_i j want hg
    rw [hg]
    simp only
    split at hw
    · rename_i c hc
      unfold yielded
      cases hd : (ops[j]?).bind (·.dst) with
      | none => rw [hd] at hc; cases hc
      | some d =>
        rw [hd] at hc
        simp only [Option.bind_some] at hc ⊢
        have hv := SR.inv_bool (h.slot d _ hc)
        have hdl : d < a.tmps.size := by rw [h.size]; exact (List.getElem?_eq_some_iff.1 hc).1
        rw [Array.getElem?_eq_getElem hdl]
        have : a.tmps[d] = .bool c := by simpa [Array.getD, hdl] using hv
        rw [this]
        simp only [Option.some.injEq] at hw
        rw [← hw]
        cases c <;> cases want <;> rfl
    · rename_i hc
      obtain rfl : false = b := by simpa using hw
      unfold yielded
      cases hd : (ops[j]?).bind (·.dst) with
      | none => rw [hd] at hc; cases hc
      | some d =>
        rw [hd] at hc
        simp only [Option.bind_some] at hc ⊢
        obtain ⟨us, h1, h2, _⟩ := h.slot d _ hc
        have hdl : d < a.tmps.size := by rw [h.size]; exact (List.getElem?_eq_some_iff.1 hc).1
        rw [Array.getElem?_eq_getElem hdl]
        have : a.tmps[d] = .tuple us := by simpa [Array.getD, hdl] using h1
        rw [this]
        rfl
    · cases hw

inductive Do1 (P : Program) (ops : Array Oper) (i : Nat) (A : St) : St → Prop
  | pure {o : Oper} {d : DV} (ho : ops[i]? = some o) (hw : wantD ops A o = some true) (hx : XP P o A d) : Do1 P ops i A (A.put o.dst d)
  | skip {o : Oper} (ho : ops[i]? = some o) (hw : wantD ops A o = some false) : Do1 P ops i A (A.put o.dst (.tup []))
  | eff {o : Oper} {d : DV} {A2 : St} (ho : ops[i]? = some o) (hw : wantD ops A o = some true) (hx : XE P o A d A2) : Do1 P ops i A (A2.put o.dst d)

def Same (l : List Tmp) (a a' : Act) : Prop := a'.defers = a.defers ∧ ∀ t, t ∉ l → a'.tmps.getD t undef = a.tmps.getD t undef
theorem Same.refl (l : List Tmp) (a : Act) : Same l a a := ⟨rfl, fun _ _ => rfl⟩
theorem Same.trans {l : List Tmp} {a b c : Act} (h : Same l a b) (k : Same l b c) : Same l a c := ⟨k.1.trans h.1, fun t ht => (k.2 t ht).trans (h.2 t ht)⟩
theorem Same.sub {l l' : List Tmp} {a b : Act} (h : Same l a b) (hs : ∀ t ∈ l, t ∈ l') : Same l' a b := ⟨h.1, fun t ht => h.2 t (fun h1 => ht (hs t h1))⟩
def wrOps (ops : Array Oper) : List Tmp := ops.toList.filterMap (·.dst)
theorem same_put {ops : Array Oper} {i : Nat} {o : Oper} (ho : ops[i]? = some o) (a : Act) (v : Value) : Same (wrOps ops) a (a.put o.dst v) := by
  have hm : o ∈ ops.toList := by rw [← Array.getElem?_toList] at ho; exact List.mem_of_getElem? ho
  cases hd : o.dst with
  | none => exact .refl _ _
  | some t =>
    refine ⟨rfl, fun u hu => ?_⟩
    have : t ≠ u := by rintro rfl; exact hu (List.mem_filterMap.2 ⟨o, hm, hd⟩)
    simp only [Act.put]
    rw [Array.getD_eq_getD_getElem?, Array.getElem?_setIfInBounds, if_neg this, ← Array.getD_eq_getD_getElem?]

theorem sr_undef {N : Nat → Prop} : SR g A w N (.tup []) undef := ⟨#[], rfl, rfl, fun i d h => by simp at h⟩
theorem Do1.sound {ops : Array Oper} {i : Nat} {A2 : St} (hd : Do1 P ops i A A2) (h : Rel B w0 g A a w) {ro : Option Nat} {n : Nat} {Q : Exit → Act → World → Prop} {K : Act → World → Prop}
    (hK : ∀ g' a' w', Rel B w0 g' A2 a' w' → Same (wrOps ops) a a' → K a' w') : wpOpIn (Fw ro) n P ops Q i K a w := by
  unfold wpOpIn
  cases hd with
  | pure ho hw hx =>
    have hp := same_put ho a
    rw [ho]; simp only [wantD_wanted h hw, if_true]
    exact hx.sound h ro n K Q (fun v w' g' hr => hK g' _ w' hr (hp _))
  | skip ho hw =>
    have hp := same_put ho a
    rw [ho]; simp only [wantD_wanted h hw, Bool.false_eq_true, if_false]
    exact ⟨fun f _ => Fw_fn ro f, hK g _ w (h.put _ sr_undef) (hp _)⟩
  | eff ho hw hx =>
    have hp := same_put ho a
    rw [ho]; simp only [wantD_wanted h hw, if_true]
    exact hx.sound h ro n K Q (fun v w' g' hr => hK g' _ w' hr (hp _))

inductive DoL (P : Program) (ops : Array Oper) : List Nat → St → St → Prop
  | nil (A : St) : DoL P ops [] A A
  | cons {i : Nat} {l : List Nat} {A A1 A2 A3 : St} (hg : Gst A A1) (h1 : Do1 P ops i A1 A2) (h : DoL P ops l A2 A3) : DoL P ops (i :: l) A A3
theorem DoL.sound {ops : Array Oper} {l : List Nat} {A A2 : St} (hd : DoL P ops l A A2) : ∀ {g : Gh} {a : Act} {w : World}, Rel B w0 g A a w → ∀ {ro : Option Nat} {n : Nat} {Q : Exit → Act → World → Prop},
    (∀ g' a' w', Rel B w0 g' A2 a' w' → Same (wrOps ops) a a' → Q .normal a' w') → wpOpsIn (Fw ro) n P ops Q l a w := by
  induction hd with
  | nil => intro g a w h ro n Q hK; exact hK g a w h (.refl _ _)
  | cons hg h1 _ ih =>
    intro g a w h ro n Q hK
    rw [wpOpsIn_cons]
    obtain ⟨g0, h⟩ := hg.rel h
    exact h1.sound h (fun g' a' w' hr hdf => ih hr (fun g'' a'' w'' hr' hdf' => hK g'' a'' w'' hr' (hdf.trans hdf')))
end Go.PM

namespace Go.PM
variable [Tbl]
set_option linter.unusedSectionVars false
open Go.RowKit
set_option linter.unusedSimpArgs false
set_option linter.unusedVariables false
variable {P : Program} {B : Base} {w0 : World} {g : Gh} {A : St} {a : Act} {w : World}

def rdOp (op : Op) : List Tmp := op.operands.toList.filterMap fun | .tmp t => some t | _ => none
def rdG (ops : Array Oper) (o : Oper) : List Tmp := match o.guard with | some (j, _) => ((ops[j]?).bind (·.dst)).toList | none => []
def nilC : Operand → Bool
  | .const (.slice none 0 0) => true
  | _ => false
def isN (o : Oper) : Bool := match o.op with
  | .move x | .assign x => !nilC x
  | .pick .. | .extract .. | .binOp .. | .unOp .. => true
  | _ => false

def Agree (l : List Tmp) (A A' : St) : Prop := ∀ t ∈ l, A'.s[t]? = A.s[t]?
theorem ev_agree {l : List Tmp} {A A' : St} (h : Agree l A A') {x : Operand} (hx : ∀ t, x = .tmp t → t ∈ l) : A'.ev x = A.ev x := by
  cases x with
  | tmp t => exact h t (hx t rfl)
  | _ => rfl
theorem evN_agree {l : List Tmp} {A A' : St} (h : Agree l A A') {x : Operand} (hx : ∀ t, x = .tmp t → t ∈ l) : A'.evN x = A.evN x := by
  unfold St.evN; split
  · rfl
  · exact ev_agree h hx
theorem evL_agree {l : List Tmp} {A A' : St} (h : Agree l A A') : ∀ {xs : List Operand}, (∀ x ∈ xs, ∀ t, x = .tmp t → t ∈ l) → A'.evL xs = A.evL xs
  | [], _ => rfl
  | x :: xs, hx => by simp only [St.evL]; rw [evN_agree h (hx x (by simp)), evL_agree h (fun y hy => hx y (by simp [hy]))]
theorem evs_agree {l : List Tmp} {A A' : St} (h : Agree l A A') : ∀ {xs : List (Nat × Operand)}, (∀ x ∈ xs, ∀ t, x.2 = .tmp t → t ∈ l) → A'.evs xs = A.evs xs
  | [], _ => rfl
  | (k, x) :: xs, hx => by simp only [St.evs]; rw [ev_agree h (hx (k, x) (by simp)), evs_agree h (fun y hy => hx y (by simp [hy]))]
theorem rdOp_mem {op : Op} {x : Operand} (hx : x ∈ op.operands.toList) : ∀ t, x = .tmp t → t ∈ rdOp op := by
  rintro t rfl
  exact List.mem_filterMap.2 ⟨_, hx, rfl⟩

theorem XP.agree {o : Oper} {A A' : St} {d : DV} (hx : XP P o A d) (hs : Agree (rdOp o.op) A A') (hbr : isN o = true ∨ (A'.b = A.b ∧ A'.r = A.r)) : XP P o A' d := by
  have ev : ∀ {x : Operand}, x ∈ o.op.operands.toList → A'.ev x = A.ev x := fun hx => ev_agree hs (rdOp_mem hx)
  have evL : ∀ {xs : List Operand}, (∀ x ∈ xs, x ∈ o.op.operands.toList) → A'.evL xs = A.evL xs := fun hx => evL_agree hs (fun x h => rdOp_mem (hx x h))
  have nN : ∀ {op : Op}, o.op = op → (match op with | .move x | .assign x => !nilC x | .pick .. | .extract .. | .binOp .. | .unOp .. => true | _ => false) = false → A'.b = A.b ∧ A'.r = A.r := by
    intro op ho hn
    rcases hbr with h | h
    · unfold isN at h; rw [ho] at h; rw [hn] at h; cases h
    · exact h
  cases hx with
  | move ho hx => exact .move ho (by rw [ev (by rw [ho]; simp [Op.operands])]; exact hx)
  | assign ho hx => exact .assign ho (by rw [ev (by rw [ho]; simp [Op.operands])]; exact hx)
  | pick ho hc hx hy => exact .pick ho (by rw [ev (by rw [ho]; simp [Op.operands])]; exact hc) (by rw [ev (by rw [ho]; simp [Op.operands])]; exact hx) (by rw [ev (by rw [ho]; simp [Op.operands])]; exact hy)
  | load ho hx hl hn hu hd =>
    obtain ⟨h1, h2⟩ := nN ho rfl
    exact .load ho (by rw [ev (by rw [ho]; simp [Op.operands])]; exact hx) (by unfold St.at at *; rw [h1, h2]; exact hl) hn hu hd
  | fieldAddr ho hx hl hf hq =>
    obtain ⟨h1, h2⟩ := nN ho rfl
    exact .fieldAddr ho (by rw [ev (by rw [ho]; simp [Op.operands])]; exact hx) (by unfold St.live at *; rw [h1, h2]; exact hl) hf (by unfold DV.plus at *; rw [h2]; exact hq)
  | index ho hx hy he hn h0 hc hcl => exact .index ho (by rw [ev (by rw [ho]; simp [Op.operands])]; exact hx) (by rw [ev (by rw [ho]; simp [Op.operands])]; exact hy) he hn h0 hc hcl
  | indexOwn ho hx hr hy he hn h0 hlt hcl =>
    obtain ⟨h1, h2⟩ := nN ho rfl
    exact .indexOwn ho (by rw [ev (by rw [ho]; simp [Op.operands])]; exact hx) (by rw [h2]; exact hr) (by rw [ev (by rw [ho]; simp [Op.operands])]; exact hy) he hn h0 hlt hcl
  | extract ho hx hd ht => exact .extract ho (by rw [ev (by rw [ho]; simp [Op.operands])]; exact hx) hd ht
  | nilCheck ho hx hl =>
    obtain ⟨h1, h2⟩ := nN ho rfl
    exact .nilCheck ho (by rw [ev (by rw [ho]; simp [Op.operands])]; exact hx) (by unfold St.live at *; rw [h1, h2]; exact hl)
  | bin ho hx hy hd => exact .bin ho (by rw [ev (by rw [ho]; simp [Op.operands])]; exact hx) (by rw [ev (by rw [ho]; simp [Op.operands])]; exact hy) hd
  | eqNil ho hx hb hy ht => exact .eqNil ho (by rw [ev (by rw [ho]; simp [Op.operands])]; exact hx) hb hy ht
  | eqG ho hx hy ht hb => exact .eqG ho (by rw [ev (by rw [ho]; simp [Op.operands])]; exact hx) (by rw [ev (by rw [ho]; simp [Op.operands])]; exact hy) ht hb
  | un ho hx hd => exact .un ho (by rw [ev (by rw [ho]; simp [Op.operands])]; exact hx) hd
  | lenSl ho hx he ht =>
    obtain ⟨h1, h2⟩ := nN ho rfl
    exact .lenSl ho (by rw [ev (by rw [ho]; simp [Op.operands, Call.operands])]; exact hx) (by unfold St.elems at *; rw [h2]; exact he) ht
  | capNil ho hx ht => exact .capNil ho (by rw [ev (by rw [ho]; simp [Op.operands, Call.operands])]; exact hx) ht
  | cutNil ho hx hy he hn => exact .cutNil ho (by rw [ev (by rw [ho]; simp [Op.operands])]; exact hx) (by rw [ev (by rw [ho]; simp [Op.operands])]; exact hy) he hn
  | convI ho hx hs hd => exact .convI ho (by rw [ev (by rw [ho]; simp [Op.operands])]; exact hx) hs hd
  | convRS ho hx he hs hee hd =>
    obtain ⟨h1, h2⟩ := nN ho rfl
    exact .convRS ho (by rw [ev (by rw [ho]; simp [Op.operands])]; exact hx) (by unfold St.elems at *; rw [h2]; exact he) hs hee hd
  | cutStr ho hx ht hlo hhi h0 h1 h2 =>
    refine .cutStr ho (by rw [ev (by rw [ho]; simp [Op.operands])]; exact hx) ht ?_ ?_ h0 h1 h2
    · rename_i lo _ _ _ _
      cases lo with
      | none => exact hlo
      | some y => obtain ⟨k, hk⟩ := hlo; exact ⟨k, by rw [ev (by rw [ho]; simp [Op.operands])]; exact hk⟩
    · rename_i hi _ _ _
      cases hi with
      | none => exact hhi
      | some y => obtain ⟨k, hk⟩ := hhi; exact ⟨k, by rw [ev (by rw [ho]; simp [Op.operands])]; exact hk⟩
  | lenStr ho hx ht => exact .lenStr ho (by rw [ev (by rw [ho]; simp [Op.operands, Call.operands])]; exact hx) ht
  | minmax ho hx hy => exact .minmax ho (by rw [ev (by rw [ho]; simp [Op.operands, Call.operands])]; exact hx) (by rw [ev (by rw [ho]; simp [Op.operands, Call.operands])]; exact hy)
  | func ho hds ht => exact .func ho (by rw [evL (by rw [ho]; simp [Op.operands])]; exact hds) ht
  | indexStr ho hx hy ht h0 hb => exact .indexStr ho (by rw [ev (by rw [ho]; simp [Op.operands])]; exact hx) (by rw [ev (by rw [ho]; simp [Op.operands])]; exact hy) ht h0 hb
  | build ho hpl hz hp hk hf ht =>
    obtain ⟨h1, h2⟩ := nN ho rfl
    refine .build ho hpl hz (by rw [evs_agree hs (fun x hx => rdOp_mem (by rw [ho]; simp only [Op.operands]; exact List.mem_map.2 ⟨x, hx, rfl⟩))]; exact hp) ?_ hf ht
    have : A'.okCell = A.okCell := by funext d; unfold St.okCell; rw [h1, h2]
    rw [this]; exact hk
  | idxA ho hx hl hy ht hn h0 hlt hq =>
    obtain ⟨h1, h2⟩ := nN ho rfl
    exact .idxA ho (by rw [ev (by rw [ho]; simp [Op.operands])]; exact hx) (by unfold St.live at *; rw [h1, h2]; exact hl) (by rw [ev (by rw [ho]; simp [Op.operands])]; exact hy) ht hn h0 hlt (by unfold DV.plus at *; rw [h2]; exact hq)
  | buildA ho ht hn hz hp hk hf hc =>
    obtain ⟨h1, h2⟩ := nN ho rfl
    refine .buildA ho ht hn hz (by rw [evs_agree hs (fun x hx => rdOp_mem (by rw [ho]; simp only [Op.operands]; exact List.mem_map.2 ⟨x, hx, rfl⟩))]; exact hp) ?_ hf hc
    have : A'.okCell = A.okCell := by funext d; unfold St.okCell; rw [h1, h2]
    rw [this]; exact hk
  | slice ho hx he hn hlo hhi h0 h1 h2 hsz =>
    refine .slice ho (by rw [ev (by rw [ho]; simp [Op.operands])]; exact hx) he hn ?_ ?_ h0 h1 h2 hsz
    · rename_i t e x lo hi nw xs l u n
      cases lo with
      | none => exact hlo
      | some y => obtain ⟨k, hk⟩ := hlo; exact ⟨k, by rw [ev (by rw [ho]; simp [Op.operands])]; exact hk⟩
    · rename_i t e x lo hi nw xs l u n
      cases hi with
      | none => exact hhi
      | some y => obtain ⟨k, hk⟩ := hhi; exact ⟨k, by rw [ev (by rw [ho]; simp [Op.operands])]; exact hk⟩
  | eqB ho hx hy ht => exact .eqB ho (by rw [ev (by rw [ho]; simp [Op.operands])]; exact hx) (by rw [ev (by rw [ho]; simp [Op.operands])]; exact hy) ht
  | lenV ho hx hb ht =>
    obtain ⟨h1, h2⟩ := nN ho rfl
    exact .lenV ho (by rw [ev (by rw [ho]; simp [Op.operands, Call.operands])]; exact hx) (by rw [h1]; exact hb) ht
  | capV ho hx hb ht =>
    obtain ⟨h1, h2⟩ := nN ho rfl
    exact .capV ho (by rw [ev (by rw [ho]; simp [Op.operands, Call.operands])]; exact hx) (by rw [h1]; exact hb) ht
  | sliceV ho hx hb he hn hlo hhi h0 h1 h2 =>
    obtain ⟨h3, h4⟩ := nN ho rfl
    refine .sliceV ho (by rw [ev (by rw [ho]; simp [Op.operands])]; exact hx) (by rw [h3]; exact hb) he hn ?_ ?_ h0 h1 h2
    · rename_i t e x lo hi b off len cap cs l u n
      cases lo with
      | none => exact hlo
      | some y => obtain ⟨k, hk⟩ := hlo; exact ⟨k, by rw [ev (by rw [ho]; simp [Op.operands])]; exact hk⟩
    · rename_i t e x lo hi b off len cap cs l u n
      cases hi with
      | none => exact hhi
      | some y => obtain ⟨k, hk⟩ := hhi; exact ⟨k, by rw [ev (by rw [ho]; simp [Op.operands])]; exact hk⟩
  | slice3 ho hx hy hz he hn h0 h2 => exact .slice3 ho (by rw [ev (by rw [ho]; simp [Op.operands])]; exact hx) (by rw [ev (by rw [ho]; simp [Op.operands])]; exact hy) (by rw [ev (by rw [ho]; simp [Op.operands])]; exact hz) he hn h0 h2
  | call ho hf hen hds hok hcap hpl hOk => exact .call ho (by rw [ev (by rw [ho]; simp [Op.operands, Call.operands])]; exact hf) hen (by rw [evL (by rw [ho]; intro x hx; simp [Op.operands, Call.operands]; exact .inr (by simpa using hx))]; exact hds) hok hcap hpl hOk

theorem XE.notN {o : Oper} {A A2 : St} {d : DV} (hx : XE P o A d A2) : isN o = false := by
  cases hx with
  | nilRow ho hx => subst hx; rcases ho with ho | ho <;> (unfold isN; rw [ho]; rfl)
  | _ => unfold isN; simp [*]
theorem XE.slots {o : Oper} {A A2 : St} {d : DV} (hx : XE P o A d A2) : A2.s = A.s := by
  cases hx with
  | store ho hx hy hn hl hk hA =>
    unfold St.store at hA
    split at hA
    · split at hA
      · split at hA
        · simp at hA; rw [← hA]
        · cases hA
      · cases hA
    · split at hA
      · split at hA
        · split at hA
          · simp at hA; rw [← hA]
          · cases hA
        · cases hA
      · cases hA
    · cases hA
  | _ => rfl
theorem store_slots {A A2 : St} (s : List DV) {p : DV} {l : List DV} (h : A.store p l = some A2) : St.store { A with s := s } p l = some { A2 with s := s } := by
  unfold St.store at *
  split at h
  · simp only at *
    split at h
    · rename_i cs hb
      split at h
      · rename_i hc; simp at h; simp [hc, ← h]
      · cases h
    · cases h
  · simp only at *
    split at h
    · rename_i ρ hb
      split at h
      · rename_i x hx
        split at h
        · rename_i hc; rw [if_pos hc]; simp at h; simp [← h]
        · cases h
      · cases h
    · cases h
  · cases h
theorem XE.agree {o : Oper} {A A2 : St} {d : DV} (hx : XE P o A d A2) (s : List DV) (hs : Agree (rdOp o.op) A { A with s := s }) : XE P o { A with s := s } d { A2 with s := s } := by
  have ev : ∀ {x : Operand}, x ∈ o.op.operands.toList → St.ev { A with s := s } x = A.ev x := fun hx => ev_agree hs (rdOp_mem hx)
  have evL : ∀ {xs : List Operand}, (∀ x ∈ xs, x ∈ o.op.operands.toList) → St.evL { A with s := s } xs = A.evL xs := fun hx => evL_agree hs (fun x h => rdOp_mem (hx x h))
  have hok : St.okCell { A with s := s } = A.okCell := by funext d; unfold St.okCell; rfl
  have hel : St.elems { A with s := s } = A.elems := by funext d; unfold St.elems; rfl
  cases hx with
  | box ho hx hk => exact .box ho (by rw [ev (by rw [ho]; simp [Op.operands])]; exact hx) (by rw [hok]; exact hk)
  | nilRow ho hx e n => exact .nilRow ho hx e n
  | allocN ho hz => exact .allocN ho hz
  | alloc ho hz => exact .alloc ho hz
  | store ho hx hy hn hl hk hA => exact .store ho (by rw [ev (by rw [ho]; simp [Op.operands])]; exact hx) (by rw [ev (by rw [ho]; simp [Op.operands])]; exact hy) hn hl (by rw [hok]; exact hk) (store_slots s hA)
  | lit ho ht hr hz0 hp hk hseq hlen hn hf => exact .lit ho ht hr hz0 (by rw [evs_agree hs (fun x hx => rdOp_mem (by rw [ho]; simp only [Op.operands]; exact List.mem_map.2 ⟨x, hx, rfl⟩))]; exact hp) (by rw [hok]; exact hk) hseq hlen hn hf
  | append ho hx hy ht hr t0 hdx hey hf hlim => exact .append ho (by rw [ev (by rw [ho]; simp [Op.operands, Call.operands])]; exact hx) (by rw [ev (by rw [ho]; simp [Op.operands, Call.operands])]; exact hy) ht hr t0 hdx (by rw [hel]; exact hey) hf hlim
  | runes ho hx hs hd he hlim => exact .runes ho (by rw [ev (by rw [ho]; simp [Op.operands])]; exact hx) hs hd he hlim
  | appZ ho hx hy ht htn hr hz hn hlim => exact .appZ ho (by rw [ev (by rw [ho]; simp [Op.operands, Call.operands])]; exact hx) (by rw [ev (by rw [ho]; simp [Op.operands, Call.operands])]; exact hy) ht htn hr hz hn hlim
  | cutO ho hx hr hy he hn h0 h1 => exact .cutO ho (by rw [ev (by rw [ho]; simp [Op.operands])]; exact hx) hr (by rw [ev (by rw [ho]; simp [Op.operands])]; exact hy) he hn h0 h1
  | litF ho ht hr hz0 hp hk hseq hlen hn hf => exact .litF ho ht hr hz0 (by rw [evs_agree hs (fun x hx => rdOp_mem (by rw [ho]; simp only [Op.operands]; exact List.mem_map.2 ⟨x, hx, rfl⟩))]; exact hp) (by rw [hok]; exact hk) hseq hlen hn hf
  | appF ho hx hy ht hr t0 hdx hey hf hlim => exact .appF ho (by rw [ev (by rw [ho]; simp [Op.operands, Call.operands])]; exact hx) (by rw [ev (by rw [ho]; simp [Op.operands, Call.operands])]; exact hy) ht hr t0 hdx (by rw [hel]; exact hey) hf hlim
  | copyV ho hx hb ht hn hs hoff => exact .copyV ho (by rw [ev (by rw [ho]; simp [Op.operands, Call.operands])]; exact hx) hb ht hn (hs.agree (ev (by rw [ho]; simp [Op.operands, Call.operands])) rfl hel) hoff
  | clearV ho hx hb ht hz hsz hoff => exact .clearV ho (by rw [ev (by rw [ho]; simp [Op.operands, Call.operands])]; exact hx) hb ht hz hsz hoff
  | appV ho hx hb ht hn hs hfit hoff => exact .appV ho (by rw [ev (by rw [ho]; simp [Op.operands, Call.operands])]; exact hx) hb ht hn (hs.agree (ev (by rw [ho]; simp [Op.operands, Call.operands])) rfl hel) hfit hoff
  | appVG ho hx hb ht hr hs hyl hfy hxl hfx hoff hcs hfit hlc hlim => exact .appVG ho (by rw [ev (by rw [ho]; simp [Op.operands, Call.operands])]; exact hx) hb ht hr (hs.agree (ev (by rw [ho]; simp [Op.operands, Call.operands])) rfl hel) hyl hfy hxl hfx hoff hcs hfit hlc hlim
  | callEx ho hf hen hds hr hx hok' hpl hyt hOk => exact .callEx ho (by rw [ev (by rw [ho]; simp [Op.operands, Call.operands])]; exact hf) hen (by rw [evL (by rw [ho]; intro x hx; simp [Op.operands, Call.operands]; exact .inr (by simpa using hx))]; exact hds) hr hx hok' hpl hyt hOk
  | call ho hf hen hds hok' hnb hcb hokb hnd hra hpl hpb hcap hOk =>
    have hro : ∀ l, St.rowsOf { A with s := s } l = A.rowsOf l := by intro l; induction l with | nil => rfl | cons t l ih => simp only [St.rowsOf, ih]
    have hbo : ∀ l, St.boxesOf { A with s := s } l = A.boxesOf l := by intro l; induction l with | nil => rfl | cons t l ih => simp only [St.boxesOf, ih]
    exact .call ho (by rw [ev (by rw [ho]; simp [Op.operands, Call.operands])]; exact hf) hen (by rw [evL (by rw [ho]; intro x hx; simp [Op.operands, Call.operands]; exact .inr (by simpa using hx))]; exact hds) hok' hnb (by rw [hbo]; exact hcb) hokb hnd (by rw [hro]; exact hra) hpl hpb hcap hOk

def nl (effs : List Nat) (i : Nat) : Bool := effs.contains (1000 + i)
def ri (effs : List Nat) (i : Nat) : Bool := effs.contains (2000 + i)
def ro (effs : List Nat) (i : Nat) : Bool := effs.contains (3000 + i)
def bxOf (effs : List Nat) (i : Nat) : Nat := match effs.find? (fun e => e / 100000 == i + 1) with | some e => e % 100000 | none => 99999
inductive DoE (P : Program) (ops : Array Oper) (effs : List Nat) (i : Nat) (A : St) : St → Prop
  | pure {o : Oper} {d : DV} (ho : ops[i]? = some o) (hw : wantD ops A o = some true) (hx : XP P o A d) (hn : nl effs i = true → ∀ b r, XP P o ⟨A.s, b, r, A.kb⟩ d) (hr : ri effs i = true → ∀ b r, b[bxOf effs i]? = A.b[bxOf effs i]? → XP P o ⟨A.s, b, r, A.kb⟩ d) : DoE P ops effs i A (A.put o.dst d)
  | skip {o : Oper} (ho : ops[i]? = some o) (hw : wantD ops A o = some false) : DoE P ops effs i A (A.put o.dst (.tup []))
  | eff {o : Oper} {d : DV} {A2 : St} (he : effs.contains i = true) (hm : nl effs i = false) (hm2 : ri effs i = false) (hb : ro effs i = true → ∀ m, m ≠ bxOf effs i → A2.b[m]? = A.b[m]?) (ho : ops[i]? = some o) (hw : wantD ops A o = some true) (hx : XE P o A d A2) : DoE P ops effs i A (A2.put o.dst d)
theorem DoE.do1 {ops : Array Oper} {effs : List Nat} {i : Nat} {A A2 : St} (h : DoE P ops effs i A A2) : Do1 P ops i A A2 := by
  cases h with
  | pure ho hw hx => exact .pure ho hw hx
  | skip ho hw => exact .skip ho hw
  | eff _ _ _ _ ho hw hx => exact .eff ho hw hx

def apart (ops : Array Oper) (effs : List Nat) (i j : Nat) : Bool := match ops[i]?, ops[j]? with
  | some x, some y => (x.dst.all fun d => !(rdOp y.op).contains d && !(rdG ops y).contains d && y.dst != some d) && (y.dst.all fun d => !(rdOp x.op).contains d && !(rdG ops x).contains d) && (!effs.contains i || ((isN y || nl effs j) || (ro effs i && ri effs j && bxOf effs i != bxOf effs j))) && (!effs.contains j || ((isN x || nl effs i) || (ro effs j && ri effs i && bxOf effs i != bxOf effs j)))
  | _, _ => false

theorem wantD_agree {ops : Array Oper} {A A' : St} {o : Oper} (h : Agree (rdG ops o) A A') : wantD ops A' o = wantD ops A o := by
  unfold wantD
  cases hg : o.guard with
  | none => rfl
  | some p =>
    obtain ⟨j, want⟩ := p
    simp only
    have : ((ops[j]?).bind (·.dst)).bind (A'.s[·]?) = ((ops[j]?).bind (·.dst)).bind (A.s[·]?) := by
      cases hd : (ops[j]?).bind (·.dst) with
      | none => rfl
      | some d =>
        simp only [Option.bind_some]
        exact h d (by unfold rdG; rw [hg]; simp [hd])
    rw [this]

theorem put_agree {A : St} {l : List Tmp} {dst : Option Tmp} {d : DV} (h : ∀ t, dst = some t → t ∉ l) : Agree l A (A.put dst d) := by
  intro t ht
  cases dst with
  | none => rfl
  | some t' =>
    simp only [St.put]
    rw [List.getElem?_set_ne (fun e => h t' rfl (by rw [e]; exact ht))]
theorem put_comm {A : St} {x y : Option Tmp} {d e : DV} (h : ∀ t, x = some t → y ≠ some t) : (A.put x d).put y e = (A.put y e).put x d := by
  cases x with
  | none => rfl
  | some t =>
    cases y with
    | none => rfl
    | some t' =>
      simp only [St.put]
      rw [List.set_comm]
      exact fun e => h t rfl (by rw [e])

inductive DoS (P : Program) (ops : Array Oper) (m m2 : Bool) (k : Nat) (o : Oper) (A : St) : DV → Prop
  | pure {d : DV} (hw : wantD ops A o = some true) (hx : XP P o A d) (hn : m = true → ∀ b r, XP P o ⟨A.s, b, r, A.kb⟩ d) (hr : m2 = true → ∀ b r, b[k]? = A.b[k]? → XP P o ⟨A.s, b, r, A.kb⟩ d) : DoS P ops m m2 k o A d
  | skip (hw : wantD ops A o = some false) : DoS P ops m m2 k o A (.tup [])
theorem DoS.agree {ops : Array Oper} {m m2 : Bool} {k : Nat} {o : Oper} {A A' : St} {d : DV} (h : DoS P ops m m2 k o A d) (h1 : Agree (rdOp o.op) A A') (h2 : Agree (rdG ops o) A A') (hbr : (isN o = true ∨ m = true) ∨ (m2 = true ∧ A'.b[k]? = A.b[k]?) ∨ (A'.b = A.b ∧ A'.r = A.r)) (hk : m2 = true → (m = true ∨ isN o = true) ∨ A'.b[k]? = A.b[k]?) : DoS P ops m m2 k o A' d := by
  cases h with
  | pure hw hx hn hr =>
    have hn' : m = true → ∀ b r, XP P o ⟨A'.s, b, r, A'.kb⟩ d := fun hm b r => (hn hm b r).agree (A' := ⟨A'.s, b, r, A'.kb⟩) h1 (.inr ⟨rfl, rfl⟩)
    have hr' : m2 = true → ∀ b r, b[k]? = A'.b[k]? → XP P o ⟨A'.s, b, r, A'.kb⟩ d := fun hm b r hb => by
      rcases hk hm with (h3 | h3) | h3
      · exact hn' h3 _ _
      · exact (hr hm A.b r rfl).agree (A' := ⟨A'.s, b, r, A'.kb⟩) h1 (.inl h3)
      · exact (hr hm b r (hb.trans h3)).agree (A' := ⟨A'.s, b, r, A'.kb⟩) h1 (.inr ⟨rfl, rfl⟩)
    refine .pure ((wantD_agree h2).trans hw) ?_ hn' hr'
    rcases hbr with (h3 | h3) | ⟨h3, h4⟩ | h3
    · exact hx.agree h1 (.inl h3)
    · exact hn' h3 A'.b A'.r
    · exact hr' h3 A'.b A'.r rfl
    · exact hx.agree h1 (.inr h3)
  | skip hw => exact .skip ((wantD_agree h2).trans hw)
theorem DoS.doE {ops : Array Oper} {effs : List Nat} {i : Nat} {o : Oper} {d : DV} (ho : ops[i]? = some o) (h : DoS P ops (nl effs i) (ri effs i) (bxOf effs i) o A d) : DoE P ops effs i A (A.put o.dst d) := by
  cases h with
  | pure hw hx hn hr => exact .pure ho hw hx hn hr
  | skip hw => exact .skip ho hw
theorem Agree.symm {l : List Tmp} {A A' : St} (h : Agree l A A') : Agree l A' A := fun t ht => (h t ht).symm

theorem DoE.swap {ops : Array Oper} {effs : List Nat} {i j : Nat} {A A1 A2 : St} (h1 : DoE P ops effs i A A1) (h2 : DoE P ops effs j A1 A2) (ha : apart ops effs i j = true) : ∃ A1', DoE P ops effs j A A1' ∧ DoE P ops effs i A1' A2 := by
  have hx : ∃ x, ops[i]? = some x := by cases h1 <;> exact ⟨_, ‹_›⟩
  have hy : ∃ y, ops[j]? = some y := by cases h2 <;> exact ⟨_, ‹_›⟩
  obtain ⟨x, hx⟩ := hx
  obtain ⟨y, hy⟩ := hy
  unfold apart at ha
  rw [hx, hy] at ha
  simp only [Bool.and_eq_true, Bool.or_eq_true, Bool.not_eq_true'] at ha
  obtain ⟨⟨⟨hxy, hyx⟩, hei⟩, hej⟩ := ha
  have xd : ∀ t, x.dst = some t → t ∉ rdOp y.op ∧ t ∉ rdG ops y ∧ y.dst ≠ some t := by
    intro t ht
    rw [ht] at hxy
    simp at hxy
    exact ⟨hxy.1.1, hxy.1.2, hxy.2⟩
  have yd : ∀ t, y.dst = some t → t ∉ rdOp x.op ∧ t ∉ rdG ops x := by
    intro t ht
    rw [ht] at hyx
    simpa using hyx
  have hc : ∀ t, x.dst = some t → y.dst ≠ some t := fun t ht => (xd t ht).2.2
  -- the one, and the other
  have s1 : (∃ d, DoS P ops (nl effs i) (ri effs i) (bxOf effs i) x A d ∧ A1 = A.put x.dst d) ∨ ∃ d A', (effs.contains i = true ∧ nl effs i = false ∧ ri effs i = false ∧ (ro effs i = true → ∀ m, m ≠ bxOf effs i → A'.b[m]? = A.b[m]?)) ∧ wantD ops A x = some true ∧ XE P x A d A' ∧ A1 = A'.put x.dst d := by
    cases h1 with
    | pure ho hw hx' hn hr => rw [hx] at ho; cases ho; exact .inl ⟨_, .pure hw hx' hn hr, rfl⟩
    | skip ho hw => rw [hx] at ho; cases ho; exact .inl ⟨_, .skip hw, rfl⟩
    | eff he hm hm2 hb ho hw hx' => rw [hx] at ho; cases ho; exact .inr ⟨_, _, ⟨he, hm, hm2, hb⟩, hw, hx', rfl⟩
  have s2 : (∃ d, DoS P ops (nl effs j) (ri effs j) (bxOf effs j) y A1 d ∧ A2 = A1.put y.dst d) ∨ ∃ d A', (effs.contains j = true ∧ nl effs j = false ∧ ri effs j = false ∧ (ro effs j = true → ∀ m, m ≠ bxOf effs j → A'.b[m]? = A1.b[m]?)) ∧ wantD ops A1 y = some true ∧ XE P y A1 d A' ∧ A2 = A'.put y.dst d := by
    cases h2 with
    | pure ho hw hx' hn hr => rw [hy] at ho; cases ho; exact .inl ⟨_, .pure hw hx' hn hr, rfl⟩
    | skip ho hw => rw [hy] at ho; cases ho; exact .inl ⟨_, .skip hw, rfl⟩
    | eff he hm hm2 hb ho hw hx' => rw [hy] at ho; cases ho; exact .inr ⟨_, _, ⟨he, hm, hm2, hb⟩, hw, hx', rfl⟩
  rcases s1 with ⟨d1, q1, rfl⟩ | ⟨d1, A', he1, hw1, q1, rfl⟩
  · rcases s2 with ⟨d2, q2, rfl⟩ | ⟨d2, A'', he2, hw2, q2, rfl⟩
    · refine ⟨A.put y.dst d2, (q2.agree (put_agree (fun t ht => (xd t ht).1)).symm (put_agree (fun t ht => (xd t ht).2.1)).symm (.inr (.inr ⟨by simp, by simp⟩)) (fun _ => .inr (by simp))).doE hy, ?_⟩
      rw [put_comm hc]
      exact (q1.agree (put_agree (fun t ht => (yd t ht).1)) (put_agree (fun t ht => (yd t ht).2)) (.inr (.inr ⟨by simp, by simp⟩)) (fun _ => .inr (by simp))).doE hx
    · have hN : (isN x = true ∨ nl effs i = true) ∨ ((ro effs j = true ∧ ri effs i = true) ∧ bxOf effs i ≠ bxOf effs j) := (hej.resolve_left (by rw [he2.1]; simp)).imp id (fun h => ⟨h.1, by simpa using h.2⟩)
      have hA1 : ({ (A.put x.dst d1) with s := A.s } : St) = A := by cases hq : x.dst <;> rfl
      have q3 := q2.agree A.s (by rw [hA1]; exact (put_agree (fun t ht => (xd t ht).1)).symm)
      rw [hA1] at q3
      have hsl : A''.s = (A.put x.dst d1).s := q2.slots
      refine ⟨({ A'' with s := A.s } : St).put y.dst d2, .eff he2.1 he2.2.1 he2.2.2.1 (fun h m hm => (he2.2.2.2 h m hm).trans (by simp)) hy ((wantD_agree (put_agree (fun t ht => (xd t ht).2.1)).symm).trans hw2) q3, ?_⟩
      have hfin : A''.put y.dst d2 = (({ A'' with s := A.s } : St).put y.dst d2).put x.dst d1 := by
        rw [← put_comm hc]
        congr 1
        cases hq : x.dst with
        | none => simp only [hq, St.put] at hsl ⊢; rw [← hsl]
        | some t => simp only [hq, St.put] at hsl ⊢; rw [← hsl]
      rw [hfin]
      have ag : ∀ l : List Tmp, (∀ t, y.dst = some t → t ∉ l) → Agree l A (({ A'' with s := A.s } : St).put y.dst d2) := by
        intro l hl t ht
        exact put_agree (A := { A'' with s := A.s }) hl t ht
      have hbA : ro effs j = true → bxOf effs i ≠ bxOf effs j → (({ A'' with s := A.s } : St).put y.dst d2).b[bxOf effs i]? = A.b[bxOf effs i]? := fun h h' => by simp [he2.2.2.2 h _ h']
      refine (q1.agree (ag _ (fun t ht => (yd t ht).1)) (ag _ (fun t ht => (yd t ht).2)) ?_ ?_).doE hx
      · rcases hN with h | ⟨⟨h, h'⟩, h''⟩
        · exact .inl h
        · exact .inr (.inl ⟨h', hbA h h''⟩)
      · intro _
        rcases hN with h | ⟨⟨h, h'⟩, h''⟩
        · exact .inl h.symm
        · exact .inr (hbA h h'')
  · rcases s2 with ⟨d2, q2, rfl⟩ | ⟨d2, A'', he2, hw2, q2, rfl⟩
    · have hN : (isN y = true ∨ nl effs j = true) ∨ ((ro effs i = true ∧ ri effs j = true) ∧ bxOf effs i ≠ bxOf effs j) := (hei.resolve_left (by rw [he1.1]; simp)).imp id (fun h => ⟨h.1, by simpa using h.2⟩)
      have hsl : A'.s = A.s := q1.slots
      have ag : ∀ l : List Tmp, (∀ t, x.dst = some t → t ∉ l) → Agree l A (A'.put x.dst d1) := by
        intro l hl t ht
        rw [put_agree (A := A') hl t ht, hsl]
      have hbA : ro effs i = true → bxOf effs i ≠ bxOf effs j → A.b[bxOf effs j]? = (A'.put x.dst d1).b[bxOf effs j]? := fun h h' => by simp [he1.2.2.2 h _ (Ne.symm h')]
      have q3 := q2.agree (ag _ (fun t ht => (xd t ht).1)).symm (ag _ (fun t ht => (xd t ht).2.1)).symm (hN.elim .inl (fun h => .inr (.inl ⟨h.1.2, hbA h.1.1 h.2⟩))) (fun _ => hN.elim (fun h => .inl h.symm) (fun h => .inr (hbA h.1.1 h.2)))
      refine ⟨A.put y.dst d2, q3.doE hy, ?_⟩
      have q4 := q1.agree (A.put y.dst d2).s (by
        have : ({ A with s := (A.put y.dst d2).s } : St) = A.put y.dst d2 := by cases hq : y.dst <;> rfl
        rw [this]; exact put_agree (fun t ht => (yd t ht).1))
      have hA : ({ A with s := (A.put y.dst d2).s } : St) = A.put y.dst d2 := by cases hq : y.dst <;> rfl
      rw [hA] at q4
      have hfin : (A'.put x.dst d1).put y.dst d2 = ({ A' with s := (A.put y.dst d2).s } : St).put x.dst d1 := by
        rw [put_comm hc]
        congr 1
        cases hq : y.dst with
        | none => simp only [St.put]; rw [← hsl]
        | some t => simp only [St.put]; rw [← hsl]
      rw [hfin]
      exact .eff he1.1 he1.2.1 he1.2.2.1 (fun h m hm => (he1.2.2.2 h m hm).trans (by simp)) hx ((wantD_agree (put_agree (fun t ht => (yd t ht).2))).trans hw1) q4
    · have hN : (isN y = true ∨ nl effs j = true) ∨ ((ro effs i = true ∧ ri effs j = true) ∧ bxOf effs i ≠ bxOf effs j) := (hei.resolve_left (by rw [he1.1]; simp)).imp id (fun h => ⟨h.1, by simpa using h.2⟩)
      rcases hN with (hN | hN) | hN
      · rw [q2.notN] at hN; cases hN
      · rw [he2.2.1] at hN; cases hN
      · rw [he2.2.2.1] at hN; cases hN.1.2
end Go.PM

namespace Go.PM
variable [Tbl]
set_option linter.unusedSectionVars false
open Go.RowKit
set_option linter.unusedSimpArgs false
set_option linter.unusedVariables false
variable {P : Program} {B : Base} {w0 : World} {g : Gh} {A : St} {a : Act} {w : World}

inductive DoEL (P : Program) (ops : Array Oper) (effs : List Nat) : List Nat → St → St → Prop
  | nil (A : St) : DoEL P ops effs [] A A
  | cons {i : Nat} {l : List Nat} {A A2 A3 : St} (h1 : DoE P ops effs i A A2) (h : DoEL P ops effs l A2 A3) : DoEL P ops effs (i :: l) A A3

theorem DoEL.move {ops : Array Oper} {effs : List Nat} {i : Nat} {post : List Nat} : ∀ {pre : List Nat} {A A2 : St}, DoEL P ops effs (pre ++ i :: post) A A2 → (∀ j ∈ pre, apart ops effs j i = true) → ∃ A1, DoE P ops effs i A A1 ∧ DoEL P ops effs (pre ++ post) A1 A2
  | [], A, A2, h, _ => by
    cases h with
    | cons h1 h => exact ⟨_, h1, h⟩
  | j :: pre, A, A2, h, ha => by
    cases h with
    | cons h1 h =>
      obtain ⟨A1', h2, h3⟩ := DoEL.move h (fun k hk => ha k (by simp [hk]))
      obtain ⟨B1, h4, h5⟩ := h1.swap h2 (ha j (by simp))
      exact ⟨B1, h4, .cons h5 h3⟩

def preds (o : Oper) : List Nat := (o.after.toList.filter (Region.binds .any ·)).map (·.on)
def drawOk (ops : Array Oper) (effs : List Nat) (T : List (List Nat)) : Bool :=
  decide (T.length = ops.size) &&
  (List.range ops.size).all fun i => match ops[i]?, T[i]? with
    | some o, some ts => (preds o).all (fun e => decide (e < i)) && ts.all (fun j => (preds o).any fun e => e == j || (match T[e]? with | some us => us.contains j | none => false)) &&
        (List.range i).all (fun j => ts.contains j || apart ops effs j i)
    | _, _ => false

def predsT (ops : Array Oper) : List (List Nat) :=
  ops.toList.foldl (fun T o => T ++ [((preds o) ++ ((preds o).flatMap fun e => T.getD e [])).eraseDups]) []

section
variable {ops : Array Oper} {effs : List Nat} {T : List (List Nat)}
theorem drawOk_at (h : drawOk ops effs T = true) {i : Nat} (hi : i < ops.size) : ∃ o ts, ops[i]? = some o ∧ T[i]? = some ts ∧ (∀ e ∈ preds o, e < i) ∧ (∀ j ∈ ts, ∃ e ∈ preds o, e = j ∨ ∃ us, T[e]? = some us ∧ j ∈ us) ∧ ∀ j, j < i → j ∈ ts ∨ apart ops effs j i = true := by
  unfold drawOk at h
  simp only [Bool.and_eq_true, decide_eq_true_eq, List.all_eq_true, List.mem_range] at h
  have h1 := h.2 i hi
  split at h1
  · rename_i o ts ho hts
    simp only [Bool.and_eq_true, List.all_eq_true, List.any_eq_true, decide_eq_true_eq, Bool.or_eq_true, List.mem_range, beq_iff_eq, List.contains_iff_mem] at h1
    refine ⟨o, ts, ho, hts, h1.1.1, fun j hj => ?_, fun j hj => h1.2 j hj⟩
    obtain ⟨e, he, h2⟩ := h1.1.2 j hj
    refine ⟨e, he, h2.imp id (fun h3 => ?_)⟩
    split at h3
    · rename_i us hus; exact ⟨us, hus, by simpa using h3⟩
    · cases h3
  · cases h1

def rem (n : Nat) (listed : Array Bool) : List Nat := (List.range n).filter fun i => !listed.getD i true
def Closed (ops : Array Oper) (listed : Array Bool) : Prop := ∀ k o, ops[k]? = some o → listed.getD k true = true → ∀ e ∈ preds o, listed.getD e false = true

theorem preds_ready {o : Oper} {listed : Array Bool} (h : ∀ e ∈ o.after, Region.binds .any e = true → listed.getD e.on false = true) : ∀ e ∈ preds o, listed.getD e false = true := by
  intro e he
  obtain ⟨e', h1, rfl⟩ := List.mem_map.1 he
  obtain ⟨h2, h3⟩ := List.mem_filter.1 h1
  exact h e' (by simpa using h2) h3
theorem getD_lt {listed : Array Bool} {i : Nat} (hi : i < listed.size) (b c : Bool) : listed.getD i b = listed.getD i c := by simp [Array.getD, hi]

theorem closed_T (h : drawOk ops effs T = true) {listed : Array Bool} (hs : listed.size = ops.size) (hc : Closed ops listed) : ∀ k, k < ops.size → ∀ o, ops[k]? = some o → (∀ e ∈ preds o, listed.getD e false = true) → ∀ ts, T[k]? = some ts → ∀ j ∈ ts, listed.getD j false = true := by
  intro k
  induction k using Nat.strongRecOn with
  | _ k ih =>
    intro hk o ho hp ts hts j hj
    obtain ⟨o', ts', h1, h2, h3, h4, _⟩ := drawOk_at h hk
    rw [ho] at h1; cases h1
    rw [hts] at h2; cases h2
    obtain ⟨e, he, h5⟩ := h4 j hj
    rcases h5 with rfl | ⟨us, hus, hju⟩
    · exact hp e he
    · have hek := h3 e he
      have hes : e < ops.size := by omega
      exact ih e hek hes _ (Array.getElem?_eq_getElem hes) (hc e _ (Array.getElem?_eq_getElem hes) (by rw [getD_lt (by omega) true false]; exact hp e he)) us hus j hju

theorem filter_split {n i : Nat} {q : Nat → Bool} (hi : i < n) (hq : q i = true) : ∃ pre post, (List.range n).filter q = pre ++ i :: post ∧ (∀ j ∈ pre, j < i ∧ q j = true) ∧ (List.range n).filter (fun j => q j && j != i) = pre ++ post := by
  refine ⟨(List.range i).filter q, (List.range' (i + 1) (n - i - 1)).filter q, ?_, fun j hj => ?_, ?_⟩
  · have h1 : List.range n = List.range i ++ (i :: List.range' (i + 1) (n - i - 1)) := by
      rw [List.range_eq_range', List.range_eq_range', ← List.range'_succ]
      have := @List.range'_append_1 0 i (n - i - 1 + 1)
      rw [Nat.zero_add] at this
      rw [this]; congr 1; omega
    rw [h1, List.filter_append, List.filter_cons, hq]; rfl
  · obtain ⟨h1, h2⟩ := List.mem_filter.1 hj
    exact ⟨by simpa using h1, h2⟩
  · have h1 : List.range n = List.range i ++ (i :: List.range' (i + 1) (n - i - 1)) := by
      rw [List.range_eq_range', List.range_eq_range', ← List.range'_succ]
      have := @List.range'_append_1 0 i (n - i - 1 + 1)
      rw [Nat.zero_add] at this
      rw [this]; congr 1; omega
    rw [h1, List.filter_append, List.filter_cons]
    simp only [bne_self_eq_false, Bool.and_false, Bool.false_eq_true, if_false]
    congr 1
    · apply List.filter_congr
      intro j hj
      have : j ≠ i := by have := List.mem_range.1 hj; omega
      simp [this]
    · apply List.filter_congr
      intro j hj
      have : j ≠ i := by have := (List.mem_range'_1.1 hj).1; omega
      simp [this]

theorem DoEL.any (h : drawOk ops effs T = true) {ro : Option Nat} {n : Nat} {Q : Exit → Act → World → Prop} {A2 : St} {a0 : Act} (hK : ∀ g' a' w', Rel B w0 g' A2 a' w' → Same (wrOps ops) a0 a' → Q .normal a' w') :
    ∀ (fuel : Nat) (listed : Array Bool) (A : St) (g : Gh) (a : Act) (w : World), listed.size = ops.size → Closed ops listed → (rem ops.size listed).length = fuel → DoEL P ops effs (rem ops.size listed) A A2 → Rel B w0 g A a w → Same (wrOps ops) a0 a → wpAnyIn (Fw ro) n P .any ops Q fuel listed a w := by
  have hnil : ∀ (listed : Array Bool), listed.size = ops.size → Closed ops listed → Region.ready .any ops listed = [] → rem ops.size listed = [] := by
    intro listed hs hc hr
    cases hrem : rem ops.size listed with
    | nil => rfl
    | cons i l =>
      exfalso
      have hi : i ∈ rem ops.size listed := by rw [hrem]; simp
      obtain ⟨h1, h2⟩ := List.mem_filter.1 hi
      have hin : i < ops.size := List.mem_range.1 h1
      obtain ⟨o, ts, ho, hts, h3, _, _⟩ := drawOk_at h hin
      -- the first that isn't listed is ready
      have key : ∀ k, k < ops.size → listed.getD k true = false → ∃ m, m ∈ Region.ready .any ops listed := by
        intro k
        induction k using Nat.strongRecOn with
        | _ k ih =>
          intro hk hl
          obtain ⟨o, ts, ho, hts, h3, _, _⟩ := drawOk_at h hk
          by_cases hall : ∀ e ∈ preds o, listed.getD e true = true
          · refine ⟨k, mem_ready.2 ⟨hl, o, ho, fun e he hb => ?_⟩⟩
            have hep : e.on ∈ preds o := List.mem_map.2 ⟨e, List.mem_filter.2 ⟨by simpa using he, hb⟩, rfl⟩
            have := h3 _ hep
            rw [getD_lt (by omega) false true]
            exact hall _ hep
          · simp only [Classical.not_forall] at hall
            obtain ⟨e, he, hn⟩ := hall
            have := h3 e he
            exact ih e this (by omega) (by simpa using hn)
      obtain ⟨m, hm⟩ := key i hin (by simpa using h2)
      rw [hr] at hm; cases hm
  intro fuel
  induction fuel with
  | zero =>
    intro listed A g a w hs hc hl hd hr hdf
    have h0 : rem ops.size listed = [] := List.length_eq_zero_iff.1 hl
    rw [h0] at hd
    cases hd
    refine ⟨?_, hK g a w hr hdf⟩
    cases hq : Region.ready .any ops listed with
    | nil => rfl
    | cons i l =>
      exfalso
      have hi : i ∈ Region.ready .any ops listed := by rw [hq]; simp
      obtain ⟨h1, o, h2, _⟩ := mem_ready.1 hi
      have : i ∈ rem ops.size listed := List.mem_filter.2 ⟨List.mem_range.2 (Array.getElem?_eq_some_iff.1 h2).1, by simp [h1]⟩
      rw [h0] at this; cases this
  | succ fuel ih =>
    intro listed A g a w hs hc hl hd hr hdf
    refine ⟨fun hq => ?_, fun i hi => ?_⟩
    · rw [hnil listed hs hc hq] at hl; cases hl
    · obtain ⟨h1, o, h2, h3⟩ := mem_ready.1 hi
      have hin : i < ops.size := (Array.getElem?_eq_some_iff.1 h2).1
      have hp := preds_ready h3
      obtain ⟨pre, post, h4, h5, h6⟩ := filter_split (q := fun i => !listed.getD i true) hin (by simp [h1])
      obtain ⟨o', ts, ho, hts, h7, h8, h9⟩ := drawOk_at h hin
      rw [h2] at ho; cases ho
      have hd' : DoEL P ops effs (pre ++ i :: post) A A2 := by rw [← h4]; exact hd
      obtain ⟨A1, h10, h11⟩ := hd'.move (fun j hj => by
        obtain ⟨h12, h13⟩ := h5 j hj
        rcases h9 j h12 with h14 | h14
        · have := closed_T h hs hc i hin o h2 hp ts hts j h14
          rw [getD_lt (by omega) false true] at this
          rw [this] at h13; cases h13
        · exact h14)
      have hrem : rem ops.size (listed.setIfInBounds i true) = pre ++ post := by
        rw [← h6]
        unfold rem
        apply List.filter_congr
        intro j hj
        have hjl := List.mem_range.1 hj
        by_cases e : j = i
        · subst e
          simp [Array.getD, hs, hin]
        · have e' : ¬ i = j := fun h => e h.symm
          have : (listed.setIfInBounds i true).getD j true = listed.getD j true := by
            rw [Array.getD_eq_getD_getElem?, Array.getElem?_setIfInBounds, if_neg e', ← Array.getD_eq_getD_getElem?]
          rw [this]; simp [e]
      refine h10.do1.sound hr (fun g' a' w' hr' hdf' => ih (listed.setIfInBounds i true) A1 g' a' w' (by simp [hs]) ?_ ?_ (by rw [hrem]; exact h11) hr' (hdf.trans hdf'))
      · intro k ok hok hk e he
        have hput : ∀ m, listed.getD m false = true → (listed.setIfInBounds i true).getD m false = true := fun m hm => getD_set_true hm
        by_cases hki : k = i
        · subst hki
          rw [h2] at hok; cases hok
          exact hput e (hp e he)
        · have e' : ¬ i = k := fun h => hki h.symm
          have : (listed.setIfInBounds i true).getD k true = listed.getD k true := by
            rw [Array.getD_eq_getD_getElem?, Array.getElem?_setIfInBounds, if_neg e', ← Array.getD_eq_getD_getElem?]
          rw [this] at hk
          exact hput e (hc k ok hok hk e he)
      · rw [hrem]
        have := hl
        unfold rem at this
        rw [h4] at this
        simp at this ⊢
        omega

theorem region_draw (hm : P.follows .mixedOrders = true) (h : drawOk ops effs T = true) {id : Nat} {A2 : St} (hd : DoEL P ops effs (List.range ops.size) A A2) (hr : Rel B w0 g A a w) {ro : Option Nat} {n : Nat} {Q : Exit → Act → World → Prop}
    (hK : ∀ g' a' w', Rel B w0 g' A2 a' w' → Same (wrOps ops) a a' → Q .normal a' w') : (Code.region id ops true).wpIn (Fw ro) n P Q a w := by
  refine wpIn_region_any hm ?_
  have hall : rem ops.size (Array.replicate ops.size false) = List.range ops.size := by
    unfold rem
    rw [List.filter_eq_self]
    intro j hj
    have := List.mem_range.1 hj
    simp [Array.getD, this]
  refine DoEL.any h hK ops.size (Array.replicate ops.size false) A g a _ (by simp) ?_ (by rw [hall]; simp) (by rw [hall]; exact hd) ?_ (.refl _ _)
  · intro k o hk hl
    have hkl := (Array.getElem?_eq_some_iff.1 hk).1
    simp [Array.getD, hkl] at hl
  · have hb : Below w.heap.size w ({ w with drawn := w.drawn + 1 } : World) := ⟨rfl, rfl, rfl, Nat.le_refl _, fun _ _ => rfl⟩
    exact hr.grow hb
end
end Go.PM

namespace Go.PM
variable [Tbl]
set_option linter.unusedSectionVars false
open Go.RowKit
set_option linter.unusedSimpArgs false
set_option linter.unusedVariables false
variable {P : Program} {z : Bool}

def KeepT (z : Bool) (l : List Tmp) (a a' : Act) : Prop := (z = false → a'.defers = a.defers) ∧ ∀ t, t ∉ l → a'.tmps.getD t undef = a.tmps.getD t undef
theorem KeepT.refl (l : List Tmp) (a : Act) : KeepT z l a a := ⟨fun _ => rfl, fun _ _ => rfl⟩
theorem KeepT.trans {l : List Tmp} {a b c : Act} (h : KeepT z l a b) (k : KeepT z l b c) : KeepT z l a c := ⟨fun e => (k.1 e).trans (h.1 e), fun t ht => (k.2 t ht).trans (h.2 t ht)⟩
theorem KeepT.sub {l l' : List Tmp} {a b : Act} (h : KeepT z l a b) (hs : ∀ t ∈ l, t ∈ l') : KeepT z l' a b := ⟨h.1, fun t ht => h.2 t (fun h1 => ht (hs t h1))⟩
def wr : Code → List Tmp
  | .region _ ops _ => wrOps ops
  | .seq x y => wr x ++ wr y
  | .cond _ x y => wr x ++ wr y
  | .block _ c => wr c
  | .loop c => wr c
  | _ => []

def Ex (z : Bool) (P : Program) (c : Code) (A : St) (Q : Exit → St → Prop) : Prop :=
  ∀ (B : Base) (w0 : World) (g : Gh) (a : Act) (w : World), Rel B w0 g A a w → ∀ (ro : Option Nat), (z = true → ro = none) → ∀ (n : Nat) (K : Exit → Act → World → Prop),
    (∀ e A2 g' a' w', Q e A2 → Rel B w0 g' A2 a' w' → KeepT z (wr c) a a' → K e a' w') → c.wpIn (Fw ro) n P K a w

theorem Ex.mono {c : Code} {A : St} {Q Q' : Exit → St → Prop} (h : Ex z P c A Q) (hq : ∀ e A2, Q e A2 → Q' e A2) : Ex z P c A Q' :=
  fun B w0 g a w hr ro hz n K hK => h B w0 g a w hr ro hz n K (fun e A2 g' a' w' q => hK e A2 g' a' w' (hq e A2 q))
theorem Ex.gst {c : Code} {A A1 : St} {Q : Exit → St → Prop} (hg : Gst A A1) (h : Ex z P c A1 Q) : Ex z P c A Q :=
  fun B w0 g a w hr => let ⟨g', hr'⟩ := hg.rel hr; h B w0 g' a w hr'

def thenE (next : St → Prop) (Q : Exit → St → Prop) : Exit → St → Prop
  | .normal, A => next A
  | e, A => Q e A
def blockE (id : Nat) (Q : Exit → St → Prop) : Exit → St → Prop
  | .exit id', A => if id' = id then Q .normal A else Q (.exit id') A
  | e, A => Q e A

theorem ex_skip {A : St} {Q : Exit → St → Prop} (h : Q .normal A) : Ex z P .skip A Q :=
  fun B w0 g a w hr ro hz n K hK => wpIn_skip (hK _ _ _ _ _ h hr (.refl _ _))
theorem ex_exit {id : Nat} {A : St} {Q : Exit → St → Prop} (h : Q (.exit id) A) : Ex z P (.exit id) A Q :=
  fun B w0 g a w hr ro hz n K hK => wpIn_exit (hK _ _ _ _ _ h hr (.refl _ _))
theorem ex_ret {A : St} {Q : Exit → St → Prop} (h : Q .ret A) : Ex z P .ret A Q :=
  fun B w0 g a w hr ro hz n K hK => wpIn_ret (hK _ _ _ _ _ h hr (.refl _ _))
theorem ex_seq {x y : Code} {A : St} {Q : Exit → St → Prop} (h : Ex z P x A (thenE (fun A1 => Ex z P y A1 Q) Q)) : Ex z P (.seq x y) A Q := by
  intro B w0 g a w hr ro hz n K hK
  have hx : ∀ t ∈ wr x, t ∈ wr (.seq x y) := fun t ht => List.mem_append_left _ ht
  have hy : ∀ t ∈ wr y, t ∈ wr (.seq x y) := fun t ht => List.mem_append_right _ ht
  refine wpIn_seq (h B w0 g a w hr ro hz n _ ?_)
  intro e A2 g' a' w' hq hr' hk
  cases e with
  | normal => exact hq B w0 g' a' w' hr' ro hz n K (fun e A3 g'' a'' w'' q r k => hK e A3 g'' a'' w'' q r ((hk.sub hx).trans (k.sub hy)))
  | _ => exact hK _ _ _ _ _ hq hr' (hk.sub hx)
theorem ex_cond {c : Operand} {x y : Code} {t : Bool} {A : St} {Q : Exit → St → Prop} (hc : A.ev c = some (.bool t)) (h : Ex z P (if t then x else y) A Q) : Ex z P (.cond c x y) A Q := by
  intro B w0 g a w hr ro hz n K hK
  refine wpIn_cond (SR.inv_bool (hr.ev hc)) (h B w0 g a w hr ro hz n K (fun e A3 g'' a'' w'' q r k => hK e A3 g'' a'' w'' q r (k.sub ?_)))
  intro u hu
  cases t with
  | true => exact List.mem_append_left _ hu
  | false => exact List.mem_append_right _ hu
theorem ex_block {id : Nat} {c : Code} {A : St} {Q : Exit → St → Prop} (h : Ex z P c A (blockE id Q)) : Ex z P (.block id c) A Q := by
  intro B w0 g a w hr ro hz n K hK
  refine wpIn_block (h B w0 g a w hr ro hz n _ ?_)
  intro e A2 g' a' w' hq hr' hk
  cases e with
  | exit id' =>
    simp only [blockE] at hq
    simp only [Exit.inBlock]
    by_cases e : id' = id
    · rw [if_pos e] at hq ⊢; exact hK _ _ _ _ _ hq hr' hk
    · rw [if_neg e] at hq ⊢; exact hK _ _ _ _ _ hq hr' hk
  | _ => exact hK _ _ _ _ _ hq hr' hk

theorem roundsIn_up {F : Fence} {n : Nat} {c : Code} {Q : Exit → Act → World → Prop} : ∀ {m : Nat} {a : Act} {w : World} (k : Nat), m ≤ k → Code.roundsIn F n P c Q m a w → Code.roundsIn F n P c Q k a w
  | 0, _, _, _, _, h => h.elim
  | m + 1, a, w, 0, hk, h => by omega
  | m + 1, a, w, k + 1, hk, h => by
    rw [roundsIn_succ] at h ⊢
    refine wpIn_mono h ?_
    intro e a' w' hq
    cases e with
    | normal => exact roundsIn_up k (by omega) hq
    | _ => exact hq
theorem ex_loop {c : Code} {Q : Exit → St → Prop} (I : Nat → St → Prop) (round : ∀ m A, I m A → Ex z P c A (thenE (fun A' => ∃ m', m' < m ∧ I m' A') Q)) {A : St} (m : Nat) (h0 : I m A) : Ex z P (.loop c) A Q := by
  intro B w0 g a0 w hr ro hz n K hK
  refine wpIn_loop_rounds (m + 1) ?_
  have key : ∀ (m : Nat) (A : St) (g : Gh) (a : Act) (w : World), I m A → Rel B w0 g A a w → KeepT z (wr c) a0 a → Code.roundsIn (Fw ro) n P c K (m + 1) a w := by
    intro m
    induction m using Nat.strongRecOn with
    | _ m ih =>
      intro A g a w h0 hr hk
      rw [roundsIn_succ]
      refine round m A h0 B w0 g a w hr ro hz n _ ?_
      intro e A2 g' a' w' hq hr' hk'
      cases e with
      | normal =>
        obtain ⟨m', hm, hi⟩ := hq
        exact roundsIn_up m (by omega) (ih m' hm A2 g' a' w' hi hr' (hk.trans hk'))
      | _ => exact hK _ _ _ _ _ hq hr' (hk.trans hk')
  exact key m A g a0 w h0 hr (.refl _ _)

theorem ex_region {id : Nat} {ops : Array Oper} {A : St} {Q : Exit → St → Prop} {A2 : St} (hd : DoL P ops (List.range ops.size) A A2) (h : Q .normal A2) : Ex z P (.region id ops false) A Q :=
  fun B w0 g a w hr ro hz n K hK => wpIn_region (hd.sound hr (fun g' a' w' hr' hs => hK _ _ _ _ _ h hr' ⟨fun _ => hs.1, hs.2⟩))
theorem ex_draw (hm : P.follows .mixedOrders = true) {id : Nat} {ops : Array Oper} {effs : List Nat} {T : List (List Nat)} (hT : drawOk ops effs T = true) {A : St} {Q : Exit → St → Prop} {A2 : St} (hd : DoEL P ops effs (List.range ops.size) A A2) (h : Q .normal A2) : Ex z P (.region id ops true) A Q :=
  fun B w0 g a w hr ro hz n K hK => region_draw hm hT hd hr (fun g' a' w' hr' hs => hK _ _ _ _ _ h hr' ⟨fun _ => hs.1, hs.2⟩)
end Go.PM

namespace Go.PM
variable [Tbl]
set_option linter.unusedSectionVars false
open Go.RowKit
set_option linter.unusedSimpArgs false
set_option linter.unusedVariables false
variable {P : Program} {B : Base} {w0 : World} {g : Gh} {A : St} {a : Act} {w : World}

structure Oth (m : Nat) (w w' : World) : Prop where
  os : w'.os = w.os
  tape : w'.tape = w.tape
  output : w'.output = w.output
  size : w.heap.size ≤ w'.heap.size
  low : ∀ k, k < m → w'.heap[k]? = w.heap[k]?
  cells : ∀ (k : Nat) (c : Array Value) (e : TypeId) (f : Nat × Nat), w.heap[k]? = some (Obj.cells c e f) → w'.heap[k]? = some (Obj.cells c e f)

theorem SR1.monoC {w' : World} {N : Nat → Prop} {d : DV} {v : Value} (h : SR1 g A w N d v) (hw : ∀ (k : Nat) (c : Array Value) (e : TypeId) (f : Nat × Nat), w.heap[k]? = some (Obj.cells c e f) → w'.heap[k]? = some (Obj.cells c e f)) (hs : w.heap.size ≤ w'.heap.size) : SR1 g A w' N d v := by
  cases d with
  | own t => exact h
  | bx b off => exact h
  | vw b o n c => exact h
  | ex t i j => exact h
  | _ => exact VR.monoC h hw hs
theorem SR.monoC {w' : World} {N : Nat → Prop} {d : DV} {v : Value} (h : SR g A w N d v) (hw : ∀ (k : Nat) (c : Array Value) (e : TypeId) (f : Nat × Nat), w.heap[k]? = some (Obj.cells c e f) → w'.heap[k]? = some (Obj.cells c e f)) (hs : w.heap.size ≤ w'.heap.size) : SR g A w' N d v := by
  by_cases ht : ∃ vs, d = .tup vs
  · obtain ⟨vs, rfl⟩ := ht
    obtain ⟨us, h1, h2, h3⟩ := h
    exact ⟨us, h1, h2, fun i d hi => (h3 i d hi).monoC hw hs⟩
  · have hd : d.isTup = false := by cases d <;> first | rfl | exact absurd ⟨_, rfl⟩ ht
    exact ((h.one' hd).monoC hw hs).up hd

theorem Rel.others (h : Rel B w0 g A a w) {w' : World} {a' : Act} (o : Oth w0.heap.size w w') (ht : a'.tmps = a.tmps) (hd : a'.defers.Nodup ∧ ∀ d ∈ a'.defers, ∃ D, d = ⟨.collected D, #[]⟩ ∧ B.d0 ≤ D ∧ w'.heap[D]? = some (.deferred (some []))) : Rel B w0 g A a' w' where
  size := by rw [ht]; exact h.size
  slot i d hi := by rw [ht]; exact (h.slot i d hi).monoC o.cells o.size
  box i cs hc := by
    obtain ⟨u, e, h1, h2, h3⟩ := h.box i cs hc
    exact ⟨u, e, o.cells _ _ _ _ h1, h2, fun j d hj => ⟨(h3 j d hj).1, (h3 j d hj).2.monoC o.cells o.size⟩⟩
  row t ρ hx := by
    rcases h.row t ρ hx with h1 | ⟨hp, u, cap, h1, h2, h3, h4, h5, h6, h7⟩
    · exact .inl h1
    exact .inr ⟨hp, u, cap, o.cells _ _ _ _ h1, h2, h3, h4, h5, h6, fun i x j d hi hj => ⟨(h7 i x j d hi hj).1, (h7 i x j d hi hj).2.1, (h7 i x j d hi hj).2.2.monoC o.cells o.size⟩⟩
  bb := h.bb
  rr := h.rr
  br := h.br
  kb := h.kb
  fix := h.fix
  out i cs hi hc := by
    obtain ⟨h1, u, u', e, h2, h3, h4⟩ := h.out i cs hi hc
    exact ⟨h1, u, u', e, h2, o.cells _ _ _ _ h3, h4⟩
  new k hk := ⟨(h.new k hk).1, Nat.lt_of_lt_of_le (h.new k hk).2 o.size⟩
  nn k hk := ⟨Nat.lt_of_lt_of_le (h.nn k hk).1 o.size, (h.nn k hk).2⟩
  base := h.base
  tb := h.tb
  below := h.below.trans ⟨o.os, o.tape, o.output, o.size, fun k hk => o.low k (Nat.lt_of_lt_of_le (Nat.lt_of_not_le fun h1 => hk (.inl h1)) h.base)⟩
  oth := ⟨Nat.le_trans h.oth.size o.size, fun k x hk hx => (o.low k (Array.getElem?_eq_some_iff.1 hk).1).trans (h.oth.same k x hk hx)⟩
  gno := h.gno
  dfr := hd

theorem oth_putObj {m D : Nat} {o o' : Obj} (hm : m ≤ D) (h : w.heap[D]? = some o) (hc : o.isCells = false) : Oth m w (w.putObj D o') where
  os := rfl
  tape := rfl
  output := rfl
  size := by simp [World.putObj]
  low k hk := World.putObj_heap_other (by omega)
  cells k c e f hk := by
    refine (World.putObj_heap_other ?_).trans hk
    rintro rfl
    rw [h] at hk; cases hk; cases hc

def St.res (P : Program) (A : St) : ResultVar → Option DV
  | .tmp t => A.s[t]?
  | .cell a t => match A.s[a]? with
    | some p => match A.at p, szT P t with
      | some l, some n => if (P.underlying t).isSome then ldVal (isAggT P t) n l else none
      | _, _ => none
    | none => none
def St.resL (P : Program) (A : St) : List ResultVar → Option (List DV)
  | [] => some []
  | x :: r => match A.res P x, A.resL P r with | some d, some ds => some (d :: ds) | _, _ => none

def resSem (tmps : Array Value) : ResultVar → Sem Value
  | .tmp t => pure (tmps.getD t undef)
  | .cell a t => do loadVar t (← asAddr (tmps.getD a undef))

theorem ldVal_run {t : TypeId} {n : Nat} {l : List DV} {d : DV} {ad : Addr} {us : List Value} (hlen : us.length = l.length) (hc : ∀ j u, us[j]? = some u → w.cell? (ad.add j) = some u) (hs : ∀ (j : Nat) (d : DV) (u : Value), l[j]? = some d → us[j]? = some u → SR g A w B.N d u)
    (hn : szT P t = some n) (hu : (P.underlying t).isSome = true) (hd : ldVal (isAggT P t) n l = some d) : ∃ v, (loadVar t ad).run P w = .ok v w ∧ SR g A w B.N d v := by
  unfold ldVal at hd
  split at hd
  · rename_i hle
    have hrun := run_loadVar' (P := P) (w := w) (t := t) hn hu ad (us.take n) (by simp; omega)
      (fun hf => by rw [hf] at hd; exact (ite_some hd).1)
      (fun j u hj => hc j u (take_get hj))
    refine ⟨_, hrun, ?_⟩
    cases hag : isAggT P t with
    | true =>
      rw [hag] at hd
      simp only [if_true] at hd ⊢
      split at hd
      · rename_i htok
        obtain rfl : DV.agg (l.take n) = d := by simpa using hd
        refine SR.agg (by simp; omega) (fun j d u hj hu => ?_) (fun d hd => by simpa using List.all_eq_true.1 htok d hd)
        rw [List.getElem?_take] at hj hu
        split at hj
        · rename_i hjn
          rw [if_pos hjn] at hu
          exact hs j d u hj hu
        · cases hj
      · cases hd
    | false =>
      rw [hag] at hd
      simp only [Bool.false_eq_true, if_false] at hd ⊢
      split at hd
      · rename_i hn1
        subst hn1
        have hlt : 0 < us.length := by omega
        have h0 : us[0]? = some us[0] := List.getElem?_eq_getElem hlt
        have := hs 0 d us[0] hd h0
        have h5 : (us.take 1).getD 0 undef = us[0] := by
          rw [List.getD_eq_getElem?_getD, List.getElem?_take, if_pos (by omega), h0]; rfl
        rw [h5]; exact this
      · cases hd
  · cases hd

theorem Rel.res (h : Rel B w0 g A a w) {x : ResultVar} {d : DV} (hx : A.res P x = some d) : ∃ v, (resSem a.tmps x).run P w = .ok v w ∧ SR g A w B.N d v := by
  cases x with
  | tmp t =>
    exact ⟨_, rfl, h.slot t d hx⟩
  | cell at_ t =>
    simp only [St.res] at hx
    split at hx
    · rename_i p hp
      split at hx
      · rename_i l n hl hn
        split at hx
        · rename_i hu
          obtain ⟨ad, us, hv, hlen, hc, hs⟩ := h.sees (h.slot _ p hp) hl
          obtain ⟨v, h1, h2⟩ := ldVal_run hlen hc hs hn hu hx
          refine ⟨v, ?_, h2⟩
          simp only [resSem, hv, asAddr, Sem.run_bind, Sem.run_pure, Result.andThen, h1]
        · cases hx
      · cases hx
    · cases hx

theorem Rel.resL (h : Rel B w0 g A a w) : ∀ {l : List ResultVar} {ds : List DV}, A.resL P l = some ds → ∃ vs, (l.mapM (resSem a.tmps)).run P w = .ok vs w ∧ vs.length = ds.length ∧ ∀ (i : Nat) (d : DV), ds[i]? = some d → SR g A w B.N d (vs.getD i undef)
  | [], ds, hl => by
    obtain rfl : [] = ds := by simpa [St.resL] using hl
    exact ⟨[], rfl, rfl, fun i d hd => by simp at hd⟩
  | x :: l, ds, hl => by
    simp only [St.resL] at hl
    split at hl
    · rename_i d ds' h1 h2
      obtain rfl : d :: ds' = ds := by simpa using hl
      obtain ⟨v, h3, h4⟩ := h.res h1
      obtain ⟨vs, h5, h6, h7⟩ := h.resL h2
      refine ⟨v :: vs, ?_, by simp [h6], fun i d hd => ?_⟩
      · simp only [List.mapM_cons, Sem.run_bind, h3, Result.andThen, h5, Sem.run_pure]
      · cases i with
        | zero => obtain rfl := (by simpa using hd : _ = d); exact h4
        | succ i => exact h7 i d (by simpa using hd)
    · cases hl

theorem results_eq (fn : Func) (tmps : Array Value) : (results fn tmps).run P w = (fn.results.mapM (resSem tmps) >>= fun vs => pure (if h : vs.size = 1 then vs[0] else .tuple vs)).run P w := by
  unfold results resSem
  congr 2

def tupOr : List DV → DV
  | [d] => d
  | ds => .tup ds

theorem Rel.results (h : Rel B w0 g A a w) {fn : Func} {ds : List DV} (hl : A.resL P fn.results.toList = some ds) : ∃ vs : Array Value, (results fn a.tmps).run P w = .ok (if h : vs.size = 1 then vs[0] else .tuple vs) w ∧ vs.size = ds.length ∧ ∀ (i : Nat) (d : DV), ds[i]? = some d → SR g A w B.N d (vs.getD i undef) := by
  obtain ⟨vs, h1, h2, h3⟩ := h.resL hl
  refine ⟨vs.toArray, ?_, by simpa using h2, fun i d hd => by have := h3 i d hd; simpa [Array.getD_eq_getD_getElem?, List.getD_eq_getElem?_getD] using this⟩
  rw [results_eq, Array.mapM_eq_mapM_toList]
  simp only [Sem.run_bind, map_eq_pure_bind, bind_assoc, h1, Result.andThen, Sem.run_pure, pure_bind]
end Go.PM

