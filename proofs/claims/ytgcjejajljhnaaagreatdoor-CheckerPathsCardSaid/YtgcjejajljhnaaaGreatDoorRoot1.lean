/- Own text, part Root 1: walks of the package acl and of its reference, and the plain laws that they lean on; no statement of the seat is here. -/
import Derived.WalkKit
import Derived.Laws.AppendOwn
import Derived.Laws.CopyRow
import Derived.Laws.Rows
import Derived.Orders
import Derived.Deep.Draws
import Derived.StillTail
import Derived.Maps.AppendAt
import Derived.Lib.AppendZeros
import Derived.Lib.Hide
import Derived.Deep.AppendSrc
import Derived.Test.YtgcjejajljhnaaaGreatDoorProg
import Derived.WalkSpells
import Derived.WalkLawsBesides
import Derived.Deep.QuietTactic
import Derived.Deep.CutRange
import Derived.BigQuiet
import Derived.Laws.StructEq
import Derived.Laws.IdiomStrings
import Derived.Laws.IdiomCopy
set_option linter.all false
namespace Go.Hp
open Go.RowKit
inductive Res where
  | box (b : Nat) (t : TypeId) (cs : List Value)
  | row (e : TypeId) (size : Nat) (v : Value) (n : Nat) (xs : List Value)
  | obj (b : Nat) (o : Obj)
  | room (n : Nat)
def Res.blk : Res → Option Nat
  | .box b _ _ => some b
  | .row _ _ v _ _ => v.ownBlock
  | .obj b _ => some b
  | .room _ => none
def Res.holds (B : Nat) (w : World) : Res → Prop
  | .box b t cs => B ≤ b ∧ w.heap[b]? = some (.cells cs.toArray t (0, 0))
  | .row e size v n xs => w.ownsRow B e size v n xs
  | .obj b o => B ≤ b ∧ w.heap[b]? = some o
  | .room n => n ≤ w.heap.size
def Res.ne (r s : Res) : Prop := ∀ k, r.blk = some k → s.blk ≠ some k
theorem Res.ne_symm {r s : Res} (h : r.ne s) : s.ne r := fun k hs hr => h k hr hs
theorem Res.holds_lt {B : Nat} {w : World} {r : Res} (h : r.holds B w) {k : Nat} (hk : r.blk = some k) : B ≤ k ∧ k < w.heap.size := by
  cases r with
  | box b t cs =>
    cases hk
    exact ⟨h.1, (Array.getElem?_eq_some_iff.1 h.2).1⟩
  | row e size v n xs => exact World.ownsRow.lt h k hk
  | obj b o =>
    cases hk
    exact ⟨h.1, (Array.getElem?_eq_some_iff.1 h.2).1⟩
  | room n => cases hk
theorem Res.holds_keep {B : Nat} {w w' : World} {r : Res} (h : r.holds B w) (hs : w.heap.size ≤ w'.heap.size) (hk : ∀ k, r.blk = some k → w'.heap[k]? = w.heap[k]?) : r.holds B w' := by
  cases r with
  | box b t cs => exact ⟨h.1, (hk b rfl).trans h.2⟩
  | row e size v n xs =>
    refine ⟨h.1, ?_⟩
    rcases h.2 with hn | ⟨g, cap, cur, rfl, hb, hg, rest⟩
    · exact .inl hn
    · exact .inr ⟨g, cap, cur, rfl, hb, (hk g rfl).trans hg, rest⟩
  | obj b o => exact ⟨h.1, (hk b rfl).trans h.2⟩
  | room n => exact Nat.le_trans h hs
structure St (w0 w : World) (rs : List Res) : Prop where
  below : Below w0.heap.size w0 w
  holds : ∀ r ∈ rs, r.holds w0.heap.size w
  apart : rs.Pairwise Res.ne
section
variable {w0 w w' : World} {rs : List Res} {r r' : Res}
theorem St.start (w : World) : St w w [] := ⟨Below.refl _ _, fun _ h => (by cases h), .nil⟩
theorem St.size (h : St w0 w rs) : w0.heap.size ≤ w.heap.size := h.below.size
theorem St.step (h : St w0 w rs) (hb : Below w0.heap.size w w') (hk : ∀ r ∈ rs, ∀ k, r.blk = some k → w'.heap[k]? = w.heap[k]?) : St w0 w' rs :=
  ⟨h.below.trans hb, fun r hr => Res.holds_keep (h.holds r hr) hb.size (hk r hr), h.apart⟩
theorem St.call (h : St w0 w rs) (hb : Below w.heap.size w w') : St w0 w' rs :=
  h.step (hb.mono h.size) fun r hr k hk => hb.block k (Res.holds_lt (h.holds r hr) hk).2
theorem St.drew (h : St w0 w rs) : St w0 w.drew rs := h.call ((Below.refl _ _).drew)
theorem St.drewN (h : St w0 w rs) (n : Nat) : St w0 (w.drewN n) rs := h.call ⟨rfl, rfl, rfl, Nat.le_refl _, fun _ _ => rfl⟩
theorem St.cons (h : St w0 w rs) (hr : r.holds w0.heap.size w) (hn : ∀ s ∈ rs, r.ne s) : St w0 w (r :: rs) :=
  ⟨h.below, fun s hs => by
    rcases List.mem_cons.1 hs with rfl | hs
    · exact hr
    · exact h.holds s hs, List.pairwise_cons.2 ⟨hn, h.apart⟩⟩
theorem St.tail (h : St w0 w (r :: rs)) : St w0 w rs := ⟨h.below, fun s hs => h.holds s (List.mem_cons_of_mem _ hs), (List.pairwise_cons.1 h.apart).2⟩
theorem St.drop (h : St w0 w rs) (n : Nat) : St w0 w (rs.drop n) := ⟨h.below, fun s hs => h.holds s (List.mem_of_mem_drop hs), h.apart.drop⟩
theorem St.sub {rs' : List Res} (h : St w0 w rs) (hs : rs'.Sublist rs) : St w0 w rs' := ⟨h.below, fun s hm => h.holds s (hs.subset hm), h.apart.sublist hs⟩
theorem St.swap {r s : Res} (h : St w0 w (r :: s :: rs)) : St w0 w (s :: r :: rs) := by
  have h1 := List.pairwise_cons.1 h.apart
  have h2 := List.pairwise_cons.1 h1.2
  refine ⟨h.below, fun x hx => h.holds x ?_, List.pairwise_cons.2 ⟨fun x hx => ?_, List.pairwise_cons.2 ⟨fun x hx => h1.1 x (List.mem_cons_of_mem _ hx), h2.2⟩⟩⟩
  · simp only [List.mem_cons] at hx ⊢
    rcases hx with hx | hx | hx
    · exact .inr (.inl hx)
    · exact .inl hx
    · exact .inr (.inr hx)
  · rcases List.mem_cons.1 hx with rfl | hx
    · exact Res.ne_symm (h1.1 s (List.mem_cons_self ..))
    · exact h2.1 x hx
theorem St.fresh (h : St w0 w rs) (hb : Below w.heap.size w w') (hr : r.holds w.heap.size w') : St w0 w' (r :: rs) := by
  have h' := h.call hb
  refine h'.cons ?_ (fun s hs k hk hk' => ?_)
  · cases r with
    | box b t cs => exact ⟨Nat.le_trans h.size hr.1, hr.2⟩
    | row e size v n xs =>
      refine ⟨hr.1, ?_⟩
      rcases hr.2 with hn | ⟨g, cap, cur, rfl, hb, rest⟩
      · exact .inl hn
      · exact .inr ⟨g, cap, cur, rfl, Nat.le_trans h.size hb, rest⟩
    | obj b o => exact ⟨Nat.le_trans h.size hr.1, hr.2⟩
    | room n => exact hr
  · have h1 := (Res.holds_lt hr hk).1
    have h2 := (Res.holds_lt (h.holds s hs) hk').2
    omega
theorem St.alloc (h : St w0 w rs) (cs : List Value) (t : TypeId) : St w0 (w.alloc (.cells cs.toArray t)) (.box w.heap.size t cs :: rs) :=
  h.fresh ((Below.refl _ _).alloc (Nat.le_refl _) _) ⟨Nat.le_refl _, heap_alloc_new w _⟩
theorem pairwise_set {i : Nat} (h : rs.Pairwise Res.ne) (hi : rs[i]? = some r) (hne : ∀ s, r.ne s → s ∈ rs → r'.ne s) : (rs.set i r').Pairwise Res.ne := by
  induction rs generalizing i with
  | nil => simp at hi
  | cons x rs ih =>
    obtain ⟨h1, h2⟩ := List.pairwise_cons.1 h
    rcases i with _ | i
    · simp only [List.getElem?_cons_zero, Option.some.injEq] at hi
      subst hi
      exact List.pairwise_cons.2 ⟨fun s hs => hne s (h1 s hs) (List.mem_cons_of_mem _ hs), h2⟩
    · simp only [List.getElem?_cons_succ] at hi
      refine List.pairwise_cons.2 ⟨fun s hs => ?_, ih h2 hi fun s hs hm => hne s hs (List.mem_cons_of_mem _ hm)⟩
      rcases List.mem_or_eq_of_mem_set hs with hs | rfl
      · exact h1 s hs
      · exact Res.ne_symm (hne x (Res.ne_symm (h1 r (List.mem_of_getElem? hi))) (List.mem_cons_self ..))
theorem St.upd {i : Nat} (h : St w0 w rs) (hi : rs[i]? = some r) (hg : w.grownBy w' r.blk) (hr : r'.holds w0.heap.size w') (hb : ∀ k, r'.blk = some k → r.blk = some k ∨ w.heap.size ≤ k) : St w0 w' (rs.set i r') := by
  have hm : r ∈ rs := List.mem_of_getElem? hi
  have hbel : Below w0.heap.size w w' := (Below.refl _ _).grown hg h.size (fun k hk => (Res.holds_lt (h.holds r hm) hk).1)
  refine ⟨h.below.trans hbel, fun s hs => ?_, pairwise_set h.apart hi fun s hne hs k hk hk' => ?_⟩
  · obtain ⟨j, hj, hjs⟩ := List.mem_iff_getElem.1 hs
    rw [List.getElem_set] at hjs
    split at hjs
    · subst hjs; exact hr
    · rename_i hij
      have hlt : j < rs.length := by simpa using hj
      have hsm : s ∈ rs := by rw [← hjs]; exact List.getElem_mem _
      refine Res.holds_keep (h.holds s hsm) hg.size fun k hk => hg.block k (Res.holds_lt (h.holds s hsm) hk).2 fun e => ?_
      have hil : i < rs.length := (List.getElem?_eq_some_iff.1 hi).1
      have hri : rs[i] = r := (List.getElem?_eq_some_iff.1 hi).2
      have hp := List.pairwise_iff_getElem.1 h.apart
      rcases Nat.lt_or_gt_of_ne hij with hlt' | hlt'
      · have := hp i j hil hlt hlt'
        rw [hri, hjs] at this
        exact this k e.symm hk
      · have := hp j i hlt hil hlt'
        rw [hri, hjs] at this
        exact this k hk e.symm
  · rcases hb k hk with h1 | h1
    · exact hne k h1 hk'
    · have := (Res.holds_lt (h.holds s hs) hk').2
      omega
theorem St.get {i : Nat} (h : St w0 w rs) (hi : rs[i]? = some r) : r.holds w0.heap.size w := h.holds r (List.mem_of_getElem? hi)
theorem St.blk {i b : Nat} {t : TypeId} {cs : List Value} (h : St w0 w rs) (hi : rs[i]? = some (.box b t cs)) : w.heap[b]? = some (.cells cs.toArray t (0, 0)) := (h.get hi).2
theorem St.cell {i b : Nat} {t : TypeId} {cs : List Value} (h : St w0 w rs) (hi : rs[i]? = some (.box b t cs)) (o : Nat) : w.cell? ⟨b, o, none⟩ = cs[o]? := by
  rw [cell_of_row w b o _ t (0, 0) (h.blk hi)]
  simp
theorem St.old (h : St w0 w rs) {b o : Nat} (hb : b < w0.heap.size) : w.cell? ⟨b, o, none⟩ = w0.cell? ⟨b, o, none⟩ := h.below.cell (p := ⟨b, o, none⟩) hb
theorem grownBy_setRow (w : World) (g : Nat) (cs : Array Value) : w.grownBy (w.setRow g cs) (some g) :=
  ⟨rfl, rfl, rfl, by simp, fun k _ hne => setRow_other w g k cs (fun e => hne (by rw [e]))⟩
end
class OneT (P : Program) (t : TypeId) : Prop where
  agg : ∀ w, (isAgg t).run P w = .ok false w
  size : ∀ w, (sizeOf t).run P w = .ok 1 w
class AggT (P : Program) (t : TypeId) (n : outParam Nat) : Prop where
  agg : ∀ w, (isAgg t).run P w = .ok true w
  size : ∀ w, (sizeOf t).run P w = .ok n w
class ZeroT (P : Program) (t : TypeId) (z : outParam Value) : Prop where
  zero : ∀ w, (zeroValue t).run P w = .ok z w
section
variable {P : Program} {ops : Array Oper} {rest : List Oper} {o : Oper} {a : Act} {w0 w : World} {rs : List Res} {Q : Exit → Act → World → Prop} {K : Act → World → Prop}
@[irreducible] def OW (P : Program) (o : Oper) (a : Act) (w : World) (K : Act → World → Prop) (Q : Exit → Act → World → Prop) : Prop := o.wp P a w K Q
theorem OW.mk (h : o.wp P a w K Q) : OW P o a w K Q := by unfold OW; exact h
theorem OW.out (h : OW P o a w K Q) : o.wp P a w K Q := by unfold OW at h; exact h
theorem wpList_of_wp (hw : Region.wanted o (yielded ops a.tmps) = true) (h : ∀ K : Act → World → Prop, (∀ a w, wpList P ops Q rest a w → K a w) → OW P o a w K Q) : wpList P ops Q (o :: rest) a w :=
  wpList_step fun K hK => by rw [if_pos hw]; exact (h K hK).out
theorem wp_value {v : Value} {w' : World} (hr : (execOp a.eval o).run P w = .ok (.value v) w') (h : K (a.put o.dst v) w') : o.wp P a w K Q := by
  unfold Oper.wp; rw [hr]; exact h
theorem wp_skip_ {w' : World} (hr : (execOp a.eval o).run P w = .ok .skip w') (h : K (a.put o.dst undef) w') : o.wp P a w K Q := by
  unfold Oper.wp; rw [hr]; exact h
theorem add_lit (b o j : Nat) : (⟨b, o, none⟩ : Addr).add j = ⟨b, o + j, none⟩ := by
  unfold Addr.add; split <;> simp_all
theorem run_load1 {t : TypeId} [hT : OneT P t] {b o : Nat} {v : Value} (hc : w.cell? ⟨b, o, none⟩ = some v) : (Instr.loadAt t (.pointer (some ⟨b, o, none⟩))).run P w = .ok v w := by
  simp [Instr.loadAt, Instr.sureAddr, loadVar, hT.agg, load, Sem.run, hc]
theorem run_loadN {t n : Nat} [hT : AggT P t n] {b o : Nat} {vs : List Value} (hn : vs.length = n) (hc : ∀ j v, vs[j]? = some v → w.cell? ⟨b, o + j, none⟩ = some v) : (Instr.loadAt t (.pointer (some ⟨b, o, none⟩))).run P w = .ok (.agg vs.toArray) w := by
  have hl : (loadCells ⟨b, o, none⟩ vs.length).run P w = .ok vs.toArray w :=
    run_loadCells_list (P := P) w ⟨b, o, none⟩ vs (fun j v hv => by rw [add_lit]; exact hc j v hv)
  rw [hn] at hl
  simp [Instr.loadAt, Instr.sureAddr, loadVar, hT.agg, hT.size, hl]
theorem run_storeAt {t : TypeId} {n b o : Nat} {bt : TypeId} {cs : List Value} {v : Value} {vs : List Value} (hs : ∀ w, (sizeOf t).run P w = .ok n w) (hv : v.cells.toList = vs) (hn : vs.length = n) (h1 : ∀ u ∈ vs, u.oneCell' = true)
    (hb : w.heap[b]? = some (.cells cs.toArray bt (0, 0))) (ho : o + n ≤ cs.length) :
    (Instr.storeAt t (.pointer (some ⟨b, o, none⟩)) v).run P w = .ok () (w.setRow b (cs.take o ++ vs ++ cs.drop (o + n)).toArray) := by
  have hst := run_storeCells_at P b o bt vs 0 cs.toArray w hb (by simp; omega) h1
  have hsz : v.cells.size = n := by rw [← hn, ← hv]; simp
  simp only [Nat.add_zero, List.toList_toArray, hn] at hst
  simp [Instr.storeAt, Instr.sureAddr, storeVar, hs, hsz, hv, hst]
theorem St.store {i b o n : Nat} {bt : TypeId} {cs vs : List Value} (st : St w0 w rs) (hi : rs[i]? = some (.box b bt cs)) : St w0 (w.setRow b (cs.take o ++ vs ++ cs.drop (o + n)).toArray) (rs.set i (.box b bt (cs.take o ++ vs ++ cs.drop (o + n)))) :=
  st.upd hi (grownBy_setRow w b _) ⟨(st.get hi).1, setRow_heap w b _ _ bt _ (st.blk hi)⟩ (fun k hk => .inl hk)
theorem wp_box {t : TypeId} {x : Operand} {v : Value} {cs : List Value} (st : St w0 w rs) (ho : o.op = .box t x) (hx : a.eval x = v) (hv : v.cells.toList = cs)
    (h : ∀ b w', St w0 w' (.box b t cs :: rs) → K (a.put o.dst (.pointer (some ⟨b, 0, none⟩))) w') : o.wp P a w K Q := by
  subst hv
  refine wp_value (v := .pointer (some ⟨w.heap.size, 0, none⟩)) (w' := w.alloc (.cells v.cells.toList.toArray t)) ?_ (h _ _ (st.alloc _ t))
  simp only [execOp, ho, hx, Instr.box, newVar, newRow]
  simp
theorem wp_alloc {t : TypeId} {z : Value} {cs : List Value} (st : St w0 w rs) (ho : o.op = .alloc t) (hT : ZeroT P t z) (hv : z.cells.toList = cs)
    (h : ∀ b w', St w0 w' (.box b t cs :: rs) → K (a.put o.dst (.pointer (some ⟨b, 0, none⟩))) w') : o.wp P a w K Q := by
  subst hv
  refine wp_value (v := .pointer (some ⟨w.heap.size, 0, none⟩)) (w' := w.alloc (.cells z.cells.toList.toArray t)) ?_ (h _ _ (st.alloc _ t))
  simp [execOp, ho, Instr.alloc, hT.zero, newVar, newRow, go_sem]
theorem wp_load1 {t : TypeId} {x : Operand} {i b p : Nat} {bt : TypeId} {cs : List Value} {v : Value} (st : St w0 w rs) (ho : o.op = .load t x) (hT : OneT P t) (hx : a.eval x = .pointer (some ⟨b, p, none⟩)) (hi : rs[i]? = some (.box b bt cs)) (hv : cs[p]? = some v)
    (h : K (a.put o.dst v) w) : o.wp P a w K Q := by
  refine wp_value ?_ h
  simp [execOp, ho, hx, run_load1 (P := P) (t := t) (hT := hT) ((st.cell hi p).trans hv)]
theorem wp_loadN {t n : Nat} {x : Operand} {i b p : Nat} {bt : TypeId} {cs vs : List Value} (st : St w0 w rs) (ho : o.op = .load t x) (hT : AggT P t n) (hx : a.eval x = .pointer (some ⟨b, p, none⟩)) (hi : rs[i]? = some (.box b bt cs)) (hv : (cs.drop p).take n = vs) (hn : vs.length = n)
    (h : K (a.put o.dst (.agg vs.toArray)) w) : o.wp P a w K Q := by
  refine wp_value ?_ h
  have := run_loadN (P := P) (t := t) (hT := hT) (w := w) (b := b) (o := p) hn (fun j v hj => by
    rw [st.cell hi]
    rw [← hv, List.getElem?_take] at hj
    split at hj
    · rwa [List.getElem?_drop] at hj
    · cases hj)
  simp [execOp, ho, hx, this]
theorem wp_old1 {t : TypeId} {x : Operand} {b p : Nat} {v : Value} (st : St w0 w rs) (ho : o.op = .load t x) (hT : OneT P t) (hx : a.eval x = .pointer (some ⟨b, p, none⟩)) (hb : b < w0.heap.size) (hv : w0.cell? ⟨b, p, none⟩ = some v)
    (h : K (a.put o.dst v) w) : o.wp P a w K Q := by
  refine wp_value ?_ h
  simp [execOp, ho, hx, run_load1 (P := P) (t := t) (hT := hT) ((st.old hb).trans hv)]
theorem wp_old4 {t : TypeId} {x : Operand} {b p : Nat} {v0 v1 v2 v3 : Value} (st : St w0 w rs) (ho : o.op = .load t x) (hT : AggT P t 4) (hx : a.eval x = .pointer (some ⟨b, p, none⟩)) (hb : b < w0.heap.size)
    (h0 : w0.cell? ⟨b, p, none⟩ = some v0) (h1 : w0.cell? ⟨b, p + 1, none⟩ = some v1) (h2 : w0.cell? ⟨b, p + 2, none⟩ = some v2) (h3 : w0.cell? ⟨b, p + 3, none⟩ = some v3)
    (h : K (a.put o.dst (.agg #[v0, v1, v2, v3])) w) : o.wp P a w K Q := by
  refine wp_value ?_ h
  have := run_loadN (P := P) (t := t) (hT := hT) (w := w) (b := b) (o := p) (vs := [v0, v1, v2, v3]) rfl (fun j v hj => by
    rw [st.old hb]
    match j, hj with
    | 0, hj => exact h0.trans hj
    | 1, hj => exact h1.trans hj
    | 2, hj => exact h2.trans hj
    | 3, hj => exact h3.trans hj)
  simp [execOp, ho, hx, this]
theorem wp_store1 {t : TypeId} {x y : Operand} {i b p : Nat} {bt : TypeId} {cs : List Value} {v : Value} (st : St w0 w rs) (ho : o.op = .store t x y) (hT : OneT P t) (hx : a.eval x = .pointer (some ⟨b, p, none⟩)) (hi : rs[i]? = some (.box b bt cs)) (hy : a.eval y = v) (hv : v.cells.toList = [v]) (h1 : v.oneCell' = true) (hp : p + 1 ≤ cs.length)
    (h : ∀ w', St w0 w' (rs.set i (.box b bt (cs.take p ++ [v] ++ cs.drop (p + 1)))) → K (a.put o.dst undef) w') : o.wp P a w K Q := by
  refine wp_skip_ ?_ (h _ (st.store (o := p) (n := 1) (vs := [v]) hi))
  have := run_storeAt (P := P) (t := t) (o := p) hT.size hv rfl (by simpa using h1) (st.blk hi) hp
  simp [execOp, ho, hx, hy, this]
theorem wp_storeN {t n : Nat} {x y : Operand} {i b p : Nat} {bt : TypeId} {cs vs : List Value} (st : St w0 w rs) (ho : o.op = .store t x y) (hT : AggT P t n) (hx : a.eval x = .pointer (some ⟨b, p, none⟩)) (hi : rs[i]? = some (.box b bt cs)) (hy : a.eval y = .agg vs.toArray) (hn : vs.length = n) (h1 : vs.all (·.oneCell') = true) (hp : p + n ≤ cs.length)
    (h : ∀ w', St w0 w' (rs.set i (.box b bt (cs.take p ++ vs ++ cs.drop (p + n)))) → K (a.put o.dst undef) w') : o.wp P a w K Q := by
  refine wp_skip_ ?_ (h _ (st.store (o := p) (n := n) (vs := vs) hi))
  have := run_storeAt (P := P) (t := t) (o := p) (v := .agg vs.toArray) (vs := vs) hT.size (by simp [Value.cells]) hn (fun u hu => List.all_eq_true.1 h1 u hu) (st.blk hi) hp
  simp [execOp, ho, hx, hy, this]
theorem wp_new {f : Nat → Value} {t : TypeId} {cs : List Value} (st : St w0 w rs) (hr : (execOp a.eval o).run P w = .ok (.value (f w.heap.size)) (w.alloc (.cells cs.toArray t)))
    (h : ∀ b w', St w0 w' (.box b t cs :: rs) → K (a.put o.dst (f b)) w') : o.wp P a w K Q := wp_value hr (h _ _ (st.alloc _ t))
theorem ow_box {t : TypeId} {x : Operand} {v : Value} {cs : List Value} (st : St w0 w rs) (ho : o.op = .box t x) (hx : a.eval x = v) (hv : v.cells.toList = cs)
    (h : ∀ b w', St w0 w' (.box b t cs :: rs) → K (a.put o.dst (.pointer (some ⟨b, 0, none⟩))) w') : OW P o a w K Q := OW.mk (wp_box st ho hx hv h)
theorem ow_alloc {t : TypeId} {z : Value} {cs : List Value} (st : St w0 w rs) (ho : o.op = .alloc t) (hT : ZeroT P t z) (hv : z.cells.toList = cs)
    (h : ∀ b w', St w0 w' (.box b t cs :: rs) → K (a.put o.dst (.pointer (some ⟨b, 0, none⟩))) w') : OW P o a w K Q := OW.mk (wp_alloc st ho hT hv h)
theorem ow_load1 {t : TypeId} {x : Operand} {i b p : Nat} {bt : TypeId} {cs : List Value} {v : Value} (st : St w0 w rs) (ho : o.op = .load t x) (hT : OneT P t) (hx : a.eval x = .pointer (some ⟨b, p, none⟩)) (hi : rs[i]? = some (.box b bt cs)) (hv : cs[p]? = some v)
    (h : K (a.put o.dst v) w) : OW P o a w K Q := OW.mk (wp_load1 st ho hT hx hi hv h)
theorem ow_loadN {t n : Nat} {x : Operand} {i b p : Nat} {bt : TypeId} {cs vs : List Value} (st : St w0 w rs) (ho : o.op = .load t x) (hT : AggT P t n) (hx : a.eval x = .pointer (some ⟨b, p, none⟩)) (hi : rs[i]? = some (.box b bt cs)) (hv : (cs.drop p).take n = vs) (hn : vs.length = n)
    (h : K (a.put o.dst (.agg vs.toArray)) w) : OW P o a w K Q := OW.mk (wp_loadN st ho hT hx hi hv hn h)
theorem ow_old1 {t : TypeId} {x : Operand} {b p : Nat} {v : Value} (st : St w0 w rs) (ho : o.op = .load t x) (hT : OneT P t) (hx : a.eval x = .pointer (some ⟨b, p, none⟩)) (hb : b < w0.heap.size) (hv : w0.cell? ⟨b, p, none⟩ = some v)
    (h : K (a.put o.dst v) w) : OW P o a w K Q := OW.mk (wp_old1 st ho hT hx hb hv h)
theorem ow_old4 {t : TypeId} {x : Operand} {b p : Nat} {v0 v1 v2 v3 : Value} (st : St w0 w rs) (ho : o.op = .load t x) (hT : AggT P t 4) (hx : a.eval x = .pointer (some ⟨b, p, none⟩)) (hb : b < w0.heap.size)
    (h0 : w0.cell? ⟨b, p, none⟩ = some v0) (h1 : w0.cell? ⟨b, p + 1, none⟩ = some v1) (h2 : w0.cell? ⟨b, p + 2, none⟩ = some v2) (h3 : w0.cell? ⟨b, p + 3, none⟩ = some v3)
    (h : K (a.put o.dst (.agg #[v0, v1, v2, v3])) w) : OW P o a w K Q := OW.mk (wp_old4 st ho hT hx hb h0 h1 h2 h3 h)
@[irreducible] def WL (P : Program) (ops : Array Oper) (Q : Exit → Act → World → Prop) (l : List Oper) (a : Act) (w : World) : Prop := wpList P ops Q l a w
theorem WL.out {l : List Oper} (h : WL P ops Q l a w) : wpList P ops Q l a w := by unfold WL at h; exact h
theorem WL.mk {l : List Oper} (h : wpList P ops Q l a w) : WL P ops Q l a w := by unfold WL; exact h
theorem WL.nil (h : Q .normal a w) : WL P ops Q [] a w := .mk h
theorem WL.op (hw : Region.wanted o (yielded ops a.tmps) = true) (h : ∀ K : Act → World → Prop, (∀ a w, WL P ops Q rest a w → K a w) → OW P o a w K Q) : WL P ops Q (o :: rest) a w :=
  .mk (wpList_of_wp hw fun K hK => h K fun a w h' => hK a w h'.out)
theorem WL.skip {a' : Act} (hw : Region.wanted o (yielded ops a.tmps) = false) (ha : a.put o.dst undef = a') (h : WL P ops Q rest a' w) : WL P ops Q (o :: rest) a w :=
  .mk (wpList_step fun K hK => by rw [hw]; simp only [Bool.false_eq_true, if_false]; rw [ha]; exact hK _ _ h.out)
theorem WL.next {a' : Act} (hK : ∀ a w, WL P ops Q rest a w → K a w) (ha : a = a') (h : WL P ops Q rest a' w) : K a w := ha ▸ hK _ _ (ha ▸ h)
theorem ow_run {v : Value} {r : Result Next} (hr : (execOp a.eval o).run P w = r) (hv : r = .ok (.value v) w) (h : K (a.put o.dst v) w) : OW P o a w K Q := OW.mk (wp_value (hr.trans hv) h)
theorem ow_move {x : Operand} {v : Value} (ho : o.op = .move x) (hx : a.eval x = v) (h : K (a.put o.dst v) w) : OW P o a w K Q := OW.mk (wp_value (v := v) (w' := w) (by simp only [execOp, ho, hx]; rfl) h)
theorem ow_assign {x : Operand} {v : Value} (ho : o.op = .assign x) (hx : a.eval x = v) (h : K (a.put o.dst v) w) : OW P o a w K Q := OW.mk (wp_value (v := v) (w' := w) (by simp only [execOp, ho, hx]; rfl) h)
theorem ow_call {f : FuncId} {args : Array Value} {r : Result Next} (hr : (execOp a.eval o).run P w = r) (hv : r = .ok (.enter f args) w) (h : Calls P f args w fun e w' => ∃ v, e = .returned v ∧ K (a.put o.dst v) w') : OW P o a w K Q := by
  refine OW.mk ?_
  unfold Oper.wp
  rw [hr, hv]
  refine Calls.mono h ?_
  rintro e w' ⟨v, rfl, hk⟩
  exact hk
@[irreducible] def UP (P : Program) (o : Oper) (a : Act) (K : Act → World → Prop) (Q : Exit → Act → World → Prop) (r : Result Next) : Prop := o.upon P a K Q r
theorem ow_eval {r : Result Next} (hr : (execOp a.eval o).run P w = r) (h : UP P o a K Q r) : OW P o a w K Q := by
  refine OW.mk ?_
  unfold Oper.wp
  rw [hr]
  unfold UP at h
  exact h
theorem up_value {v : Value} (h : K (a.put o.dst v) w) : UP P o a K Q (.ok (.value v) w) := by unfold UP; exact h
theorem up_skip (h : K (a.put o.dst undef) w) : UP P o a K Q (.ok .skip w) := by unfold UP; exact h
theorem up_enter {f : FuncId} {args : Array Value} (h : Calls P f args w fun e w' => ∃ v, e = .returned v ∧ K (a.put o.dst v) w') : UP P o a K Q (.ok (.enter f args) w) := by
  unfold UP
  refine Calls.mono h ?_
  rintro e w' ⟨v, rfl, hk⟩
  exact hk
theorem wp_region_WL {id : Nat} {l : List Oper} (h : WL P l.toArray Q l a w) : (Code.region id l.toArray false).wp P Q a w := wp_region_lit h.out
end
end Go.Hp
namespace Go.Hp
open Go.RowKit
def fillA : List Oper → List Value → Act → Act
  | o :: l, x :: xs, a => fillA l xs (a.put o.dst x)
  | _, _, a => a
def distinctB : List Oper → Bool
  | [] => true
  | o :: l => l.all (fun o' => o.dst.isNone || o.dst != o'.dst) && distinctB l
theorem put_put (a : Act) (d : Option Tmp) (x v : Value) : (a.put d x).put d v = a.put d v := by
  cases d with
  | none => rfl
  | some d => simp [Act.put]
theorem put_self (a : Act) (d : Option Tmp) : a.put d (match d with | some d => a.tmps.getD d undef | none => undef) = a := by
  cases d with
  | none => rfl
  | some d =>
    cases a with
    | mk tmps defers =>
      simp only [Act.put]
      congr 1
      apply Array.ext_getElem?
      intro i
      rw [Array.getElem?_setIfInBounds]
      split
      · rename_i h
        subst h
        split
        · rename_i h; simp [h]
        · rename_i h; simp [Array.getElem?_eq_none (Nat.le_of_not_lt h)]
      · rfl
theorem fillA_self : ∀ (l : List Oper) (a : Act), fillA l (l.map fun o => match o.dst with | some d => a.tmps.getD d undef | none => undef) a = a
  | [], a => rfl
  | o :: l, a => by
    simp only [List.map_cons, fillA]
    rw [put_self a o.dst]
    exact fillA_self l a
theorem fillA_comm : ∀ (l : List Oper) (xs : List Value) (a : Act) (d : Option Tmp) (v : Value), (∀ o ∈ l, d = none ∨ d ≠ o.dst) → (fillA l xs a).put d v = fillA l xs (a.put d v)
  | [], xs, a, d, v, _ => by cases xs <;> rfl
  | o :: l, [], a, d, v, _ => rfl
  | o :: l, x :: xs, a, d, v, h => by
    simp only [fillA]
    rw [fillA_comm l xs _ d v (fun o' ho => h o' (List.mem_cons_of_mem _ ho))]
    rcases h o (List.mem_cons_self ..) with rfl | hne
    · rfl
    · rw [Act.put_comm a x v (fun e he hd => hne (by rw [hd, he]))]
theorem fillA_put : ∀ (l : List Oper) (xs : List Value) (a : Act) (i : Nat) (o : Oper) (v : Value), distinctB l = true → l[i]? = some o → xs.length = l.length → (fillA l xs a).put o.dst v = fillA l (xs.set i v) a
  | [], _, _, _, _, _, _, h, _ => by simp at h
  | o0 :: l, [], _, _, _, _, _, _, h => by simp at h
  | o0 :: l, x :: xs, a, 0, o, v, hd, hi, _ => by
    simp only [List.getElem?_cons_zero, Option.some.injEq] at hi
    subst hi
    simp only [distinctB, Bool.and_eq_true, List.all_eq_true] at hd
    simp only [fillA, List.set_cons_zero]
    rw [fillA_comm l xs _ _ v (fun o' ho => ?_), put_put]
    have := hd.1 o' ho
    simp only [Bool.or_eq_true, Option.isNone_iff_eq_none, bne_iff_ne] at this
    exact this
  | o0 :: l, x :: xs, a, i + 1, o, v, hd, hi, hl => by
    simp only [distinctB, Bool.and_eq_true] at hd
    simp only [fillA, List.set_cons_succ]
    exact fillA_put l xs _ i o v hd.2 (by simpa using hi) (by simpa using hl)
abbrev Phi := Nat → Nat → Value → World → Prop
def isV (x : Value) : Phi := fun _ _ v _ => v = x
def Phi.stable (φ : Phi) : Prop := ∀ lo hi v w1 w2, Below w1.heap.size w1 w2 → hi ≤ w1.heap.size → φ lo hi v w1 → φ lo hi v w2
theorem isV_stable (x : Value) : (isV x).stable := fun _ _ _ _ _ _ _ h => h
def Yphi (P : Program) (ops : Array Oper) (o : Oper) (a : Act) (w : World) (φ : Phi) : Prop :=
  (Region.wanted o (yielded ops a.tmps) = true ∧ o.wp P a w (fun a' w' => ∃ v, a' = a.put o.dst v ∧ Below w.heap.size w w' ∧ φ w.heap.size w'.heap.size v w') (fun _ _ _ => False)) ∨
  (Region.wanted o (yielded ops a.tmps) = false ∧ φ w.heap.size w.heap.size undef w)
def backB (ops : Array Oper) (n : Nat) : Bool := (List.range n).all fun i => match ops[i]? with | some o => o.after.all fun e => !Region.binds .any e || decide (e.on < i) | none => false
def headListed (n m : Nat) : Array Bool := ((List.range m).map fun k => decide (k < n)).toArray
def phiB (l : List Oper) (n : Nat) : Bool :=
  distinctB (l.take n) && decide (n ≤ l.length) && backB l.toArray n && (decide (n = l.length) || (Region.sinkB .any l.toArray n && Region.chainB .any l.toArray n)) && Region.seqB .any l.toArray (l.length - n) n (headListed n l.length)
theorem wp_strong {P : Program} {o : Oper} {a : Act} {w : World} {K K' : Act → World → Prop} {Q : Exit → Act → World → Prop} (h : ∀ a w, K a w → K' a w) (hh : o.wp P a w K (fun _ _ _ => False)) : o.wp P a w K' Q := by
  unfold Oper.wp at *
  generalize (execOp a.eval o).run P w = r at *
  cases r with
  | ok x w' =>
    cases x <;> simp only [Oper.upon] at hh ⊢ <;> first | exact h _ _ hh | exact hh.elim | skip
    case enter f args =>
      refine Calls.mono hh ?_
      intro e w'' he
      cases e with
      | returned v => exact h _ _ he
      | panicked c => exact he.elim
      | outgrown => obtain ⟨_, _, he⟩ := he; exact he.elim
    case row r args => exact hh.mono fun v w'' hv => h _ _ hv
  | halt x w' =>
    cases x <;> simp only [Oper.upon] at hh ⊢
section
variable {P : Program} {Q : Exit → Act → World → Prop} {a : Act} {w : World} {l : List Oper} {n : Nat} {Φ : List Phi}
structure PhiInv (l : List Oper) (n : Nat) (Φ : List Phi) (a : Act) (w : World) (listed : Array Bool) (a' : Act) (w1 : World) : Prop where
  inv : HeadInv .any l.toArray n listed
  below : Below w.heap.size w w1
  ex : ∃ (xs : List Value) (lo hi : Nat → Nat), xs.length = n ∧ a' = fillA (l.take n) xs a ∧
    (∀ k φ, Φ[k]? = some φ → listed.getD k false = true → w.heap.size ≤ lo k ∧ hi k ≤ w1.heap.size ∧ φ (lo k) (hi k) (xs.getD k undef) w1) ∧
    (∀ j k, j ≠ k → listed.getD j false = true → listed.getD k false = true → hi j ≤ lo k ∨ hi k ≤ lo j)
theorem getD_false_true {listed : Array Bool} {k : Nat} (h : listed.getD k true = false) : listed.getD k false = false := getD_both h
theorem wpAny_phi (hB : phiB l n = true) (hΦ : Φ.length = n) (stable : ∀ φ ∈ Φ, φ.stable)
    (step : ∀ i o φ, i < n → l[i]? = some o → Φ[i]? = some φ → ∀ xs : List Value, xs.length = n → ∀ w1, Below w.heap.size w w1 →
      (∀ k φk, k < n → Region.waitsFor .any l.toArray i k = true → Φ[k]? = some φk → ∃ lo hi, w.heap.size ≤ lo ∧ hi ≤ w1.heap.size ∧ φk lo hi (xs.getD k undef) w1) → Yphi P l.toArray o (fillA (l.take n) xs a) w1 φ)
    (fin : ∀ (xs : List Value) (lo hi : Nat → Nat) w1, xs.length = n → Below w.heap.size w w1 → (∀ k φ, Φ[k]? = some φ → w.heap.size ≤ lo k ∧ hi k ≤ w1.heap.size ∧ φ (lo k) (hi k) (xs.getD k undef) w1) →
      (∀ j k, j < n → k < n → j ≠ k → hi j ≤ lo k ∨ hi k ≤ lo j) → wpList P l.toArray Q (l.drop n) (fillA (l.take n) xs a) w1) :
    ∀ (f : Nat) (listed : Array Bool) (a' : Act) (w1 : World), PhiInv l n Φ a w listed a' w1 → ((List.range n).filter fun k => !listed.getD k false).length = f → wpAny P .any l.toArray Q (f + (l.length - n)) listed a' w1 := by
  simp only [phiB, Bool.and_eq_true, decide_eq_true_eq, Bool.or_eq_true] at hB
  obtain ⟨⟨⟨⟨hdist, hn⟩, hback⟩, htail⟩, hseq⟩ := hB
  have htl : (l.take n).length = n := by simp; omega
  intro f
  induction f with
  | zero =>
    intro listed a' w1 hI hf
    have hall : ∀ k, k < n → listed.getD k false = true := by
      intro k hk
      cases hl : listed.getD k false with
      | true => rfl
      | false =>
        have : k ∈ (List.range n).filter fun k => !listed.getD k false := List.mem_filter.2 ⟨List.mem_range.2 hk, by simp [hl]⟩
        rw [List.length_eq_zero_iff.1 hf] at this
        cases this
    have hls : listed = headListed n l.length := by
      have hsz := hI.inv.size
      simp only [List.size_toArray] at hsz
      apply Array.ext
      · simp [headListed, hsz]
      · intro k h1 h2
        have hk : k < l.length := by omega
        simp only [headListed, List.getElem_toArray, List.getElem_map, List.getElem_range]
        by_cases hkn : k < n
        · have := hall k hkn
          simp [h1] at this
          simp [this, hkn]
        · have := hI.inv.tail k (by omega) (by simpa using hk)
          simp [h1] at this
          simp [this, hkn]
    obtain ⟨xs, lo, hi, hlen, rfl, h1, h2⟩ := hI.ex
    have := fin xs lo hi w1 hlen hI.below (fun k φ hk => h1 k φ hk (hall k (by rw [← hΦ]; exact (List.getElem?_eq_some_iff.1 hk).1))) (fun j k hj hk hne => h2 j k hne (hall j hj) (hall k hk))
    rw [Nat.zero_add, hls]
    have hdl : (l.drop n).length = l.length - n := by simp
    rw [← hdl]
    exact wpAny_of_seq (l.drop n) n _ _ _ (fun j => by simp [List.getElem?_drop]) (by rw [hdl]; exact hseq) this
  | succ f ih =>
    intro listed a' w1 hI hf
    have hex : ∃ k, k < n ∧ listed.getD k false = false := by
      cases hfl : (List.range n).filter fun k => !listed.getD k false with
      | nil => rw [hfl] at hf; simp at hf
      | cons k r =>
        have hm : k ∈ (List.range n).filter fun k => !listed.getD k false := by rw [hfl]; exact List.mem_cons_self ..
        obtain ⟨hk1, hk2⟩ := List.mem_filter.1 hm
        exact ⟨k, List.mem_range.1 hk1, by simpa using hk2⟩
    have hsz : listed.size = l.length := by have := hI.inv.size; simpa using this
    have hready : Region.ready .any l.toArray listed ≠ [] := by
      obtain ⟨k, hk⟩ := hex
      induction k using Nat.strongRecOn with
      | _ k ihk =>
        obtain ⟨hkn, hkl⟩ := hk
        by_cases hsm : ∃ j, j < k ∧ listed.getD j false = false
        · obtain ⟨j, hj, hjl⟩ := hsm
          exact ihk j hj ⟨by omega, hjl⟩
        · intro h0
          have hmem : k ∈ Region.ready .any l.toArray listed := by
            have hklt : k < l.length := by omega
            refine mem_ready.2 ⟨getD_in (by omega) hkl, l[k], by simp [hklt], fun e he hb => ?_⟩
            have := List.all_eq_true.1 hback k (List.mem_range.2 hkn)
            simp only [List.getElem?_toArray, List.getElem?_eq_getElem hklt] at this
            have := Array.all_eq_true_iff_forall_mem.1 this e he
            simp only [hb, Bool.not_true, Bool.false_or, decide_eq_true_eq] at this
            cases hle : listed.getD e.on false with
            | true => rfl
            | false => exact absurd ⟨e.on, this, hle⟩ hsm
          rw [h0] at hmem
          cases hmem
    rw [show f + 1 + (l.length - n) = (f + (l.length - n)) + 1 by omega]
    refine ⟨fun h0 => absurd h0 hready, fun i hi => ?_⟩
    have hin : i < n := by
      rcases Nat.lt_or_ge i n with h | h
      · exact h
      · exfalso
        rcases htail with ht | ht
        · obtain ⟨_, o, ho, _⟩ := mem_ready.1 hi
          have := (Array.getElem?_eq_some_iff.1 ho).1
          simp at this
          omega
        · obtain ⟨k, hkn, hkl⟩ := hex
          obtain ⟨_, o, ho, _⟩ := mem_ready.1 hi
          have := (Array.getElem?_eq_some_iff.1 ho).1
          simp at this
          exact tail_waits ht.1 ht.2 (by simp; omega) hI.inv _ k rfl hkn (getD_in (by omega) hkl) i h hi
    obtain ⟨hun, o, ho, hdeps⟩ := mem_ready.1 hi
    have ho' : l[i]? = some o := by simpa using ho
    obtain ⟨xs, lo, hi', hlen, rfl, h1, h2⟩ := hI.ex
    have hφ : ∃ φ, Φ[i]? = some φ := ⟨Φ[i]'(by omega), List.getElem?_eq_getElem (by omega)⟩
    obtain ⟨φ, hφ⟩ := hφ
    have hy := step i o φ hin ho' hφ xs hlen w1 hI.below (fun k φk hk hwt hφk => by
      obtain ⟨o2, ho2, e, he, hb, hon⟩ := Region.waitsFor_spec hwt
      have : o2 = o := Option.some.inj (ho2.symm.trans ho)
      subst this
      have hlk := hdeps e he hb
      rw [hon] at hlk
      obtain ⟨a1, a2, a3⟩ := h1 k φk hφk hlk
      exact ⟨lo k, hi' k, a1, a2, a3⟩)
    have hnext : ∀ v w2, Below w1.heap.size w1 w2 → φ w1.heap.size w2.heap.size v w2 → PhiInv l n Φ a w (listed.setIfInBounds i true) ((fillA (l.take n) xs a).put o.dst v) w2 := by
      intro v w2 hb hv
      have hb0 := hI.below.size
      refine ⟨hI.inv.set hi hin, hI.below.trans (hb.mono hb0), xs.set i v, fun k => if k = i then w1.heap.size else lo k, fun k => if k = i then w2.heap.size else hi' k, by simpa using hlen, ?_, ?_, ?_⟩
      · exact fillA_put (l.take n) xs a i o v hdist (by rw [List.getElem?_take, if_pos hin]; exact ho') (by rw [hlen, htl])
      · intro k φk hk hlk
        by_cases hki : k = i
        · subst hki
          have : φk = φ := Option.some.inj (hk.symm.trans hφ)
          subst this
          simp only [if_true]
          refine ⟨hb0, Nat.le_refl _, ?_⟩
          have : (xs.set k v).getD k undef = v := by simp [List.getD, hlen, hin]
          rw [this]; exact hv
        · rw [getD_set_ne false (Ne.symm hki)] at hlk
          obtain ⟨b1, b2, b3⟩ := h1 k φk hk hlk
          simp only [hki, if_false]
          refine ⟨b1, Nat.le_trans b2 hb.size, ?_⟩
          have : (xs.set i v).getD k undef = xs.getD k undef := by simp [List.getD, List.getElem?_set_ne (Ne.symm hki)]
          rw [this]
          exact stable φk (List.mem_of_getElem? hk) _ _ _ _ _ hb b2 b3
      · intro j k hjk hj hk
        have hle : ∀ m, m ≠ i → (listed.setIfInBounds i true).getD m false = true → hi' m ≤ w1.heap.size := fun m hm hml => by
          rw [getD_set_ne false (Ne.symm hm)] at hml
          rcases Nat.lt_or_ge m n with hmn | hmn
          · exact (h1 m (Φ[m]'(by omega)) (List.getElem?_eq_getElem (by omega)) hml).2.1
          · rcases Nat.lt_or_ge m l.length with hm2 | hm2
            · have := hI.inv.tail m hmn (by simpa using hm2)
              rw [getD_both this] at hml; cases hml
            · simp [Array.getElem?_eq_none (show listed.size ≤ m by omega)] at hml
        by_cases hji : j = i
        · subst hji
          simp only [if_true, if_neg (Ne.symm hjk)]
          exact .inr (hle k (Ne.symm hjk) hk)
        · by_cases hki : k = i
          · subst hki
            simp only [if_true, if_neg hji]
            exact .inl (hle j hji hj)
          · simp only [if_neg hji, if_neg hki]
            rw [getD_set_ne false (Ne.symm hji)] at hj
            rw [getD_set_ne false (Ne.symm hki)] at hk
            exact h2 j k hjk hj hk
    have hcount : ((List.range n).filter fun k => !(listed.setIfInBounds i true).getD k false).length = f := by
      have hlt : i < listed.size := by omega
      have e1 : ((List.range n).filter fun k => !listed.getD k false) = (List.range n).filter (fun k => decide (k = i) || !(listed.setIfInBounds i true).getD k false) := by
        apply List.filter_congr
        intro k _
        by_cases hki : k = i
        · subst hki; simp [getD_both hun]
        · rw [getD_set_ne false (Ne.symm hki)]; simp [hki]
      rw [e1] at hf
      have hnd : (List.range n).Nodup := List.nodup_range
      have e2 : ∀ (m : List Nat), m.Nodup → i ∈ m → (m.filter (fun k => decide (k = i) || !(listed.setIfInBounds i true).getD k false)).length = (m.filter fun k => !(listed.setIfInBounds i true).getD k false).length + 1 := by
        intro m
        induction m with
        | nil => intro _ h; cases h
        | cons x m ihm =>
          intro hnd hm
          obtain ⟨hx, hnd⟩ := List.nodup_cons.1 hnd
          by_cases hxi : x = i
          · subst hxi
            have : (m.filter (fun k => decide (k = x) || !(listed.setIfInBounds x true).getD k false)) = m.filter fun k => !(listed.setIfInBounds x true).getD k false := by
              apply List.filter_congr
              intro k hk
              have : k ≠ x := fun h => hx (h ▸ hk)
              simp [this]
            rw [List.filter_cons, List.filter_cons, this]
            have h3 : (listed.setIfInBounds x true).getD x false = true := by simp [hlt]
            simp [h3]
          · have hm' : i ∈ m := by
              rcases List.mem_cons.1 hm with h | h
              · exact absurd h.symm hxi
              · exact h
            have := ihm hnd hm'
            rw [List.filter_cons, List.filter_cons]
            simp only [hxi, decide_false, Bool.false_or]
            split
            · simp only [List.length_cons]; omega
            · exact this
      have := e2 _ hnd (List.mem_range.2 hin)
      omega
    unfold wpOp
    simp only [ho]
    rcases hy with ⟨hw, hy⟩ | ⟨hw, hy⟩
    · rw [if_pos hw]
      refine .inl (wp_strong (fun a2 w2 ⟨v, e, hb, hv⟩ => ?_) hy)
      subst e
      exact ih _ _ _ (hnext v w2 hb hv) hcount
    · rw [hw]
      simp only [Bool.false_eq_true, if_false]
      exact ih _ _ _ (hnext undef w1 (Below.refl _ _) hy) hcount
end
end Go.Hp
namespace Go.Hp
open Go.RowKit
inductive PhiK where
  | val (x : Value)
  | fact (φ : Phi)
def PhiK.phi : PhiK → Phi
  | .val x => isV x
  | .fact φ => φ
def allV : Nat → (List Value → Prop) → Prop
  | 0, F => F []
  | n + 1, F => ∀ x, allV n fun xs => F (x :: xs)
theorem allV_spec : ∀ (n : Nat) (F : List Value → Prop), allV n F → ∀ xs : List Value, xs.length = n → F xs
  | 0, F, h, xs, hl => by rw [List.length_eq_zero_iff.1 hl]; exact h
  | n + 1, F, h, x :: xs, hl => allV_spec n _ (h x) xs (by simpa using hl)
def depF (Φ : List PhiK) (B : Nat) (xs : List Value) (w1 : World) (G : Prop) : List Edge → Prop
  | [] => G
  | e :: es =>
    match Region.binds .any e, Φ[e.on]? with
    | true, some (.val x) => xs.getD e.on undef = x → depF Φ B xs w1 G es
    | true, some (.fact φ) => ∀ lo hi, B ≤ lo → hi ≤ w1.heap.size → φ lo hi (xs.getD e.on undef) w1 → depF Φ B xs w1 G es
    | _, _ => depF Φ B xs w1 G es
theorem depF_spec {Φ : List PhiK} {B : Nat} {xs : List Value} {w1 : World} {G : Prop} : ∀ (es : List Edge), depF Φ B xs w1 G es →
    (∀ e ∈ es, Region.binds .any e = true → ∀ k, Φ[e.on]? = some k → ∃ lo hi, B ≤ lo ∧ hi ≤ w1.heap.size ∧ k.phi lo hi (xs.getD e.on undef) w1) → G
  | [], h, _ => h
  | e :: es, h, hd => by
    have ht := fun h' => depF_spec (Φ := Φ) (B := B) (xs := xs) (w1 := w1) (G := G) es h' (fun e' he' => hd e' (List.mem_cons_of_mem _ he'))
    unfold depF at h
    split at h
    · rename_i x hb hk
      obtain ⟨_, _, _, _, h3⟩ := hd e (List.mem_cons_self ..) hb _ hk
      exact ht (h h3)
    · rename_i φ hb hk
      obtain ⟨lo, hi, h1, h2, h3⟩ := hd e (List.mem_cons_self ..) hb _ hk
      exact ht (h lo hi h1 h2 h3)
    · exact ht h
section
variable {P : Program} {Q : Exit → Act → World → Prop} {a : Act} {w : World} {l : List Oper} {n : Nat}
def stepOb (P : Program) (l : List Oper) (n : Nat) (a : Act) (w : World) (i : Nat) (Φ : List PhiK) (k : PhiK) : Prop :=
  match l[i]? with
  | some o => allV n fun xs => ∀ w1, Below w.heap.size w w1 → depF Φ w.heap.size xs w1 (Yphi P l.toArray o (fillA (l.take n) xs a) w1 k.phi) o.after.toList
  | none => False
def allPhi (B : Nat) (lo hi : Nat → Nat) (w1 : World) : Nat → List PhiK → List Value → Prop → Prop
  | k, .val x :: Φ, y :: ys, G => y = x → allPhi B lo hi w1 (k + 1) Φ ys G
  | k, .fact φ :: Φ, y :: ys, G => B ≤ lo k → hi k ≤ w1.heap.size → φ (lo k) (hi k) y w1 → allPhi B lo hi w1 (k + 1) Φ ys G
  | _, _, _, G => G
theorem allPhi_spec {B : Nat} {lo hi : Nat → Nat} {w1 : World} {G : Prop} : ∀ (Φ : List PhiK) (k : Nat) (ys : List Value), allPhi B lo hi w1 k Φ ys G → ys.length = Φ.length →
    (∀ j x, Φ[j]? = some x → B ≤ lo (k + j) ∧ hi (k + j) ≤ w1.heap.size ∧ x.phi (lo (k + j)) (hi (k + j)) (ys.getD j undef) w1) → G
  | [], k, ys, h, _, _ => by unfold allPhi at h; exact h
  | x :: Φ, k, [], _, hl, _ => by simp at hl
  | .val x :: Φ, k, y :: ys, h, hl, hd => by
    unfold allPhi at h
    have h0 := (hd 0 _ rfl).2.2
    exact allPhi_spec Φ (k + 1) ys (h h0) (by simpa using hl) (fun j x hj => by have := hd (j + 1) x (by simpa using hj); rw [show k + 1 + j = k + (j + 1) by omega]; simpa using this)
  | .fact φ :: Φ, k, y :: ys, h, hl, hd => by
    unfold allPhi at h
    obtain ⟨h1, h2, h3⟩ := hd 0 _ rfl
    exact allPhi_spec Φ (k + 1) ys (h h1 h2 h3) (by simpa using hl) (fun j x hj => by have := hd (j + 1) x (by simpa using hj); rw [show k + 1 + j = k + (j + 1) by omega]; simpa using this)
def PhiK.stable (k : PhiK) : Prop := k.phi.stable
def finOb (P : Program) (l : List Oper) (n : Nat) (a : Act) (w : World) (Q : Exit → Act → World → Prop) (Φ : List PhiK) : Prop :=
  allV n fun xs => ∀ (lo hi : Nat → Nat) (w1 : World), Below w.heap.size w w1 → (∀ j k, j < n → k < n → j ≠ k → hi j ≤ lo k ∨ hi k ≤ lo j) → allPhi w.heap.size lo hi w1 0 Φ xs (wpList P l.toArray Q (l.drop n) (fillA (l.take n) xs a) w1)
def Plan (P : Program) (l : List Oper) (n : Nat) (a : Act) (w : World) (Q : Exit → Act → World → Prop) : Nat → List PhiK → Prop
  | 0, Φ => finOb P l n a w Q Φ
  | r + 1, Φ => ∃ k : PhiK, k.stable ∧ stepOb P l n a w Φ.length Φ k ∧ Plan P l n a w Q r (Φ ++ [k])
theorem Plan.val {r : Nat} {Φ : List PhiK} {x : Value} (h : stepOb P l n a w Φ.length Φ (.val x)) (h' : Plan P l n a w Q r (Φ ++ [.val x])) : Plan P l n a w Q (r + 1) Φ := ⟨.val x, isV_stable x, h, h'⟩
theorem Plan.fact {r : Nat} {Φ : List PhiK} (φ : Phi) (hs : φ.stable) (h : stepOb P l n a w Φ.length Φ (.fact φ)) (h' : Plan P l n a w Q r (Φ ++ [.fact φ])) : Plan P l n a w Q (r + 1) Φ := ⟨.fact φ, hs, h, h'⟩
theorem Plan.val' {r : Nat} {Φ Φ' : List PhiK} {x : Value} (h : stepOb P l n a w Φ.length Φ (.val x)) (hΦ : Φ ++ [.val x] = Φ') (h' : Plan P l n a w Q r Φ') : Plan P l n a w Q (r + 1) Φ := Plan.val h (hΦ ▸ h')
theorem Plan.fact' {r : Nat} {Φ Φ' : List PhiK} (φ : Phi) (hs : φ.stable) (h : stepOb P l n a w Φ.length Φ (.fact φ)) (hΦ : Φ ++ [.fact φ] = Φ') (h' : Plan P l n a w Q r Φ') : Plan P l n a w Q (r + 1) Φ := Plan.fact φ hs h (hΦ ▸ h')
theorem Plan.all : ∀ (r : Nat) (Φ : List PhiK), Plan P l n a w Q r Φ → (∀ k ∈ Φ, k.stable) → (∀ i k, Φ[i]? = some k → stepOb P l n a w i (Φ.take i) k) →
    ∃ Ψ : List PhiK, Ψ.length = Φ.length + r ∧ (∀ k ∈ Ψ, k.stable) ∧ (∀ i k, Ψ[i]? = some k → stepOb P l n a w i (Ψ.take i) k) ∧ finOb P l n a w Q Ψ
  | 0, Φ, h, h1, h2 => ⟨Φ, rfl, h1, h2, h⟩
  | r + 1, Φ, ⟨k, hk, hs, h⟩, h1, h2 => by
    obtain ⟨Ψ, a1, a2, a3, a4⟩ := Plan.all r (Φ ++ [k]) h (fun x hx => by
      rcases List.mem_append.1 hx with hx | hx
      · exact h1 x hx
      · rw [List.mem_singleton.1 hx]; exact hk) (fun i x hx => by
      rcases Nat.lt_or_ge i Φ.length with hi | hi
      · rw [List.getElem?_append_left hi] at hx
        rw [List.take_append_of_le_length (by omega)]
        exact h2 i x hx
      · rw [List.getElem?_append_right hi] at hx
        have hi0 : i - Φ.length = 0 := by
          rcases Nat.eq_zero_or_pos (i - Φ.length) with h0 | h0
          · exact h0
          · rw [List.getElem?_eq_none (by simp; omega)] at hx; cases hx
        rw [hi0] at hx
        simp only [List.getElem?_cons_zero, Option.some.injEq] at hx
        have : i = Φ.length := by omega
        subst this
        rw [List.take_append_of_le_length (Nat.le_refl _), List.take_length, ← hx]
        exact hs)
    exact ⟨Ψ, by rw [a1]; simp; omega, a2, a3, a4⟩
theorem wp_region_plan {id : Nat} (n : Nat) (hm : P.follows .mixedOrders = true) (hB : phiB l n = true) (h : Plan P l n a w.drew Q n []) : (Code.region id l.toArray true).wp P Q a w := by
  obtain ⟨Ψ, hlen, hst, hstep, hfin⟩ := Plan.all n [] h (fun _ h => by cases h) (fun i k hk => by simp at hk)
  simp only [List.length_nil, Nat.zero_add] at hlen
  have hB' := hB
  simp only [phiB, Bool.and_eq_true, decide_eq_true_eq, Bool.or_eq_true] at hB'
  obtain ⟨⟨⟨⟨_, hn⟩, hback⟩, _⟩, _⟩ := hB'
  refine wp_region_any hm ?_
  have hΦ : (Ψ.map PhiK.phi).length = n := by simpa using hlen
  have hget : ∀ k φ, (Ψ.map PhiK.phi)[k]? = some φ → ∃ x : PhiK, Ψ[k]? = some x ∧ x.phi = φ := fun k φ hk => by
    rw [List.getElem?_map] at hk
    obtain ⟨x, hx, he⟩ := Option.map_eq_some_iff.1 hk
    exact ⟨x, hx, he⟩
  have main := wpAny_phi (P := P) (Q := Q) (a := a) (w := w.drew) (l := l) (n := n) (Φ := Ψ.map PhiK.phi) hB hΦ
    (fun φ hφ => by
      obtain ⟨k, hk, rfl⟩ := List.mem_map.1 hφ
      exact hst k hk)
    (fun i o φ hi ho hφ xs hxs w1 hb hd => by
      obtain ⟨x, hx, rfl⟩ := hget i φ hφ
      have hs := hstep i x hx
      unfold stepOb at hs
      rw [ho] at hs
      refine depF_spec _ (allV_spec n _ hs xs hxs w1 hb) fun e he hbind k hk => ?_
      have hon : e.on < i := by
        have := List.all_eq_true.1 hback i (List.mem_range.2 hi)
        simp only [List.getElem?_toArray, ho] at this
        have := Array.all_eq_true_iff_forall_mem.1 this e (by simpa using he)
        simpa [hbind] using this
      rw [List.getElem?_take, if_pos hon] at hk
      refine hd e.on k.phi (by omega) ?_ (by rw [List.getElem?_map, hk]; rfl)
      unfold Region.waitsFor
      simp only [List.getElem?_toArray, ho]
      exact Array.any_eq_true'.2 ⟨e, by simpa using he, by simp [hbind]⟩)
    (fun xs lo hi w1 hxs hb hall hd => by
      refine allPhi_spec Ψ 0 xs (allV_spec n _ hfin xs hxs lo hi w1 hb hd) (by rw [hxs, hlen]) fun j x hj => ?_
      rw [Nat.zero_add]
      exact hall j x.phi (by rw [List.getElem?_map, hj]; rfl))
    n (Array.replicate l.length false) a w.drew
    ⟨⟨by simp, fun j oj _ hl => (by rw [getD_replicate_false] at hl; cases hl), fun t _ ht => getD_in (by simpa using ht) (getD_replicate_false _ _)⟩, Below.refl _ _,
      ⟨(l.take n).map (fun o => match o.dst with | some d => a.tmps.getD d undef | none => undef), fun _ => 0, fun _ => 0, by simp; omega, (fillA_self _ a).symm, fun k φ _ hl => (by rw [getD_replicate_false] at hl; cases hl), fun j k _ hj _ => (by rw [getD_replicate_false] at hj; cases hj)⟩⟩
    (by
      have : ((List.range n).filter fun k => !(Array.replicate l.length false).getD k false) = List.range n := List.filter_eq_self.2 (fun k _ => by rw [getD_replicate_false]; rfl)
      rw [this]; simp)
  have hsz : l.toArray.size = n + (l.length - n) := by simp; omega
  rw [hsz, show n + (l.length - n) = l.length by omega]
  rw [show n + (l.length - n) = l.length by omega] at main
  exact main
end
end Go.Hp
namespace Go.Hp
open Go.RowKit
section
variable {P : Program} {ops : Array Oper} {rest : List Oper} {o : Oper} {a : Act} {w0 w : World} {rs : List Res} {Q : Exit → Act → World → Prop}
theorem L_next {a' : Act} (ha : a = a') (h : wpList P ops Q rest a' w) : wpList P ops Q rest a w := ha ▸ h
theorem get0 {r : Res} {rs : List Res} : (r :: rs)[0]? = some r := rfl
theorem get1 {r r0 : Res} {rs : List Res} : (r0 :: r :: rs)[1]? = some r := rfl
theorem get2 {r r0 r1 : Res} {rs : List Res} : (r0 :: r1 :: r :: rs)[2]? = some r := rfl
theorem get3 {r r0 r1 r2 : Res} {rs : List Res} : (r0 :: r1 :: r2 :: r :: rs)[3]? = some r := rfl
theorem get4 {r r0 r1 r2 r3 : Res} {rs : List Res} : (r0 :: r1 :: r2 :: r3 :: r :: rs)[4]? = some r := rfl
theorem get5 {r r0 r1 r2 r3 r4 : Res} {rs : List Res} : (r0 :: r1 :: r2 :: r3 :: r4 :: r :: rs)[5]? = some r := rfl
theorem get6 {r r0 r1 r2 r3 r4 r5 : Res} {rs : List Res} : (r0 :: r1 :: r2 :: r3 :: r4 :: r5 :: r :: rs)[6]? = some r := rfl
theorem get7 {r r0 r1 r2 r3 r4 r5 r6 : Res} {rs : List Res} : (r0 :: r1 :: r2 :: r3 :: r4 :: r5 :: r6 :: r :: rs)[7]? = some r := rfl
theorem K_next {K : Act → World → Prop} {a' : Act} (hK : ∀ a w, wpList P ops Q rest a w → K a w) (ha : a = a') (h : wpList P ops Q rest a' w) : K a w := ha ▸ hK _ _ (ha ▸ h)
theorem L_skip {a' : Act} (hw : Region.wanted o (yielded ops a.tmps) = false) (ha : a.put o.dst undef = a') (h : wpList P ops Q rest a' w) : wpList P ops Q (o :: rest) a w :=
  wpList_step fun K hK => by rw [hw]; simp only [Bool.false_eq_true, if_false]; rw [ha]; exact hK _ _ h
theorem wp_newSlice {t : TypeId} {m : Nat} {cs : List Value} {T : TypeId} {ps : Array (Nat × Operand)} {r : Result Next} {K : Act → World → Prop} (st : St w0 w rs) (ho : o.op = .buildSlice T m ps) (hr : (execOp a.eval o).run P w = r) (hv : r = .ok (.value (.slice (some ⟨w.heap.size, 0, none⟩) m m)) (w.alloc (.cells cs.toArray t)))
    (h : ∀ b w', St w0 w' (.box b t cs :: rs) → K (a.put o.dst (.slice (some ⟨b, 0, none⟩) m m)) w') : o.wp P a w K Q :=
  wp_new (f := fun b => .slice (some ⟨b, 0, none⟩) m m) st (hr.trans hv) fun b w' s => h b w' s
theorem wp_store1' {t : TypeId} {x y : Operand} {i b p : Nat} {bt : TypeId} {cs : List Value} {v : Value} {rs' : List Res} {K : Act → World → Prop} (st : St w0 w rs) (ho : o.op = .store t x y) (hT : OneT P t) (hx : a.eval x = .pointer (some ⟨b, p, none⟩)) (hi : rs[i]? = some (.box b bt cs)) (hy : a.eval y = v) (hv : v.cells.toList = [v]) (h1 : v.oneCell' = true) (hp : p + 1 ≤ cs.length)
    (hrs : rs.set i (.box b bt (cs.take p ++ [v] ++ cs.drop (p + 1))) = rs') (h : ∀ w', St w0 w' rs' → K (a.put o.dst undef) w') : o.wp P a w K Q :=
  wp_store1 st ho hT hx hi hy hv h1 hp fun w' s => h w' (hrs ▸ s)
theorem wp_storeN' {t n : Nat} {x y : Operand} {i b p : Nat} {bt : TypeId} {cs vs : List Value} {rs' : List Res} {K : Act → World → Prop} (st : St w0 w rs) (ho : o.op = .store t x y) (hT : AggT P t n) (hx : a.eval x = .pointer (some ⟨b, p, none⟩)) (hi : rs[i]? = some (.box b bt cs)) (hy : a.eval y = .agg vs.toArray) (hn : vs.length = n) (h1 : vs.all (·.oneCell') = true) (hp : p + n ≤ cs.length)
    (hrs : rs.set i (.box b bt (cs.take p ++ vs ++ cs.drop (p + n))) = rs') (h : ∀ w', St w0 w' rs' → K (a.put o.dst undef) w') : o.wp P a w K Q :=
  wp_storeN st ho hT hx hi hy hn h1 hp fun w' s => h w' (hrs ▸ s)
theorem ow_newSlice {t : TypeId} {m : Nat} {cs : List Value} {T : TypeId} {ps : Array (Nat × Operand)} {r : Result Next} {K : Act → World → Prop} (st : St w0 w rs) (ho : o.op = .buildSlice T m ps) (hr : (execOp a.eval o).run P w = r) (hv : r = .ok (.value (.slice (some ⟨w.heap.size, 0, none⟩) m m)) (w.alloc (.cells cs.toArray t)))
    (h : ∀ b w', St w0 w' (.box b t cs :: rs) → K (a.put o.dst (.slice (some ⟨b, 0, none⟩) m m)) w') : OW P o a w K Q := OW.mk (wp_newSlice st ho hr hv h)
theorem ow_store1' {t : TypeId} {x y : Operand} {i b p : Nat} {bt : TypeId} {cs : List Value} {v : Value} {rs' : List Res} {K : Act → World → Prop} (st : St w0 w rs) (ho : o.op = .store t x y) (hT : OneT P t) (hx : a.eval x = .pointer (some ⟨b, p, none⟩)) (hi : rs[i]? = some (.box b bt cs)) (hy : a.eval y = v) (hv : v.cells.toList = [v]) (h1 : v.oneCell' = true) (hp : p + 1 ≤ cs.length)
    (hrs : rs.set i (.box b bt (cs.take p ++ [v] ++ cs.drop (p + 1))) = rs') (h : ∀ w', St w0 w' rs' → K (a.put o.dst undef) w') : OW P o a w K Q := OW.mk (wp_store1' st ho hT hx hi hy hv h1 hp hrs h)
theorem ow_storeN' {t n : Nat} {x y : Operand} {i b p : Nat} {bt : TypeId} {cs vs : List Value} {rs' : List Res} {K : Act → World → Prop} (st : St w0 w rs) (ho : o.op = .store t x y) (hT : AggT P t n) (hx : a.eval x = .pointer (some ⟨b, p, none⟩)) (hi : rs[i]? = some (.box b bt cs)) (hy : a.eval y = .agg vs.toArray) (hn : vs.length = n) (h1 : vs.all (·.oneCell') = true) (hp : p + n ≤ cs.length)
    (hrs : rs.set i (.box b bt (cs.take p ++ vs ++ cs.drop (p + n))) = rs') (h : ∀ w', St w0 w' rs' → K (a.put o.dst undef) w') : OW P o a w K Q := OW.mk (wp_storeN' st ho hT hx hi hy hn h1 hp hrs h)
theorem Yphi.run {v : Value} {r : Result Next} (hw : Region.wanted o (yielded ops a.tmps) = true) (hr : (execOp a.eval o).run P w = r) (hv : r = .ok (.value v) w) : Yphi P ops o a w (isV v) :=
  .inl ⟨hw, wp_value (hr.trans hv) ⟨v, rfl, Below.refl _ _, rfl⟩⟩
theorem Yphi.skip (hw : Region.wanted o (yielded ops a.tmps) = false) : Yphi P ops o a w (isV undef) := .inr ⟨hw, rfl⟩
theorem Yphi.load1 {t : TypeId} {x : Operand} {i b p : Nat} {bt : TypeId} {cs : List Value} {v : Value} (st : St w0 w rs) (ho : o.op = .load t x) (hT : OneT P t) (hw : Region.wanted o (yielded ops a.tmps) = true) (hx : a.eval x = .pointer (some ⟨b, p, none⟩)) (hi : rs[i]? = some (.box b bt cs)) (hv : cs[p]? = some v) : Yphi P ops o a w (isV v) :=
  .inl ⟨hw, wp_load1 st ho hT hx hi hv ⟨v, rfl, Below.refl _ _, rfl⟩⟩
theorem Yphi.loadN {t n : Nat} {x : Operand} {i b p : Nat} {bt : TypeId} {cs vs : List Value} (st : St w0 w rs) (ho : o.op = .load t x) (hT : AggT P t n) (hw : Region.wanted o (yielded ops a.tmps) = true) (hx : a.eval x = .pointer (some ⟨b, p, none⟩)) (hi : rs[i]? = some (.box b bt cs)) (hv : (cs.drop p).take n = vs) (hn : vs.length = n) : Yphi P ops o a w (isV (.agg vs.toArray)) :=
  .inl ⟨hw, wp_loadN st ho hT hx hi hv hn ⟨_, rfl, Below.refl _ _, rfl⟩⟩
theorem Yphi.old1 {t : TypeId} {x : Operand} {b p : Nat} {v : Value} (st : St w0 w rs) (ho : o.op = .load t x) (hT : OneT P t) (hw : Region.wanted o (yielded ops a.tmps) = true) (hx : a.eval x = .pointer (some ⟨b, p, none⟩)) (hb : b < w0.heap.size) (hv : w0.cell? ⟨b, p, none⟩ = some v) : Yphi P ops o a w (isV v) :=
  .inl ⟨hw, wp_old1 st ho hT hx hb hv ⟨v, rfl, Below.refl _ _, rfl⟩⟩
theorem Yphi.old4 {t : TypeId} {x : Operand} {b p : Nat} {v0 v1 v2 v3 : Value} (st : St w0 w rs) (ho : o.op = .load t x) (hT : AggT P t 4) (hw : Region.wanted o (yielded ops a.tmps) = true) (hx : a.eval x = .pointer (some ⟨b, p, none⟩)) (hb : b < w0.heap.size)
    (h0 : w0.cell? ⟨b, p, none⟩ = some v0) (h1 : w0.cell? ⟨b, p + 1, none⟩ = some v1) (h2 : w0.cell? ⟨b, p + 2, none⟩ = some v2) (h3 : w0.cell? ⟨b, p + 3, none⟩ = some v3) : Yphi P ops o a w (isV (.agg #[v0, v1, v2, v3])) :=
  .inl ⟨hw, wp_old4 st ho hT hx hb h0 h1 h2 h3 ⟨_, rfl, Below.refl _ _, rfl⟩⟩
theorem Yphi.call {f : FuncId} {args : Array Value} {φ : Phi} {r : Result Next} (hw : Region.wanted o (yielded ops a.tmps) = true) (hr : (execOp a.eval o).run P w = r) (hv : r = .ok (.enter f args) w)
    (hc : Calls P f args w fun e w' => ∃ v, e = .returned v ∧ Below w.heap.size w w' ∧ φ w.heap.size w'.heap.size v w') : Yphi P ops o a w φ := by
  refine .inl ⟨hw, ?_⟩
  unfold Oper.wp
  rw [hr, hv]
  refine Calls.mono hc ?_
  rintro e w' ⟨v, rfl, hb, hφ⟩
  exact ⟨v, rfl, hb, hφ⟩
def freshRow (e : TypeId) (size : Nat) (xs : List Value) : Phi := fun lo hi v w => ∃ A n c, v = .slice A n c ∧ w.ownsRow lo e size v n xs ∧ ∀ k, v.ownBlock = some k → k < hi
theorem freshRow_stable (e : TypeId) (size : Nat) (xs : List Value) : (freshRow e size xs).stable := by
  rintro lo hi v w1 w2 hb hh ⟨A, n, c, rfl, ho, hk⟩
  exact ⟨A, n, c, rfl, Res.holds_keep (r := .row e size (.slice A n c) n xs) ho hb.size (fun k h => hb.block k (by have := hk k h; omega)), hk⟩
theorem freshRow_mk {e : TypeId} {size n : Nat} {xs : List Value} {A : Option Addr} {c : Nat} {w' : World} (ho : w'.ownsRow w.heap.size e size (.slice A n c) n xs) : freshRow e size xs w.heap.size w'.heap.size (.slice A n c) w' :=
  ⟨A, n, c, rfl, ho, fun k hk => (World.ownsRow.lt ho k hk).2⟩
theorem rows_one {e1 s1 lo1 n1 : Nat} {v1 : Value} {xs1 : List Value} {w' : World} (st : St w0 w rs) (hb : Below w.heap.size w w') (h1 : w'.ownsRow lo1 e1 s1 v1 n1 xs1) (hl1 : w.heap.size ≤ lo1) :
    St w0 w' (.row e1 s1 v1 n1 xs1 :: rs) :=
  (st.call hb).cons ((fun h : Res.holds lo1 w' (.row e1 s1 v1 n1 xs1) => by
      refine ⟨h.1, ?_⟩
      rcases h.2 with hn | ⟨g, cap, cur, hv, hg, rest⟩
      · exact .inl hn
      · exact .inr ⟨g, cap, cur, hv, by have := st.size; omega, rest⟩) h1)
    (fun s hs k hk hk' => by
      have a1 := (World.ownsRow.lt h1 k hk).1
      have a2 := (Res.holds_lt (st.holds s hs) hk').2
      omega)
theorem rows_two {e1 e2 s1 s2 lo1 hi1 lo2 hi2 n1 n2 : Nat} {v1 v2 : Value} {xs1 xs2 : List Value} {w' : World} (st : St w0 w rs) (hb : Below w.heap.size w w') (h1 : w'.ownsRow lo1 e1 s1 v1 n1 xs1) (hk1 : ∀ k, v1.ownBlock = some k → k < hi1) (hl1 : w.heap.size ≤ lo1)
    (h2 : w'.ownsRow lo2 e2 s2 v2 n2 xs2) (hk2 : ∀ k, v2.ownBlock = some k → k < hi2) (hl2 : w.heap.size ≤ lo2) (hd : hi1 ≤ lo2 ∨ hi2 ≤ lo1) : St w0 w' (.row e1 s1 v1 n1 xs1 :: .row e2 s2 v2 n2 xs2 :: rs) := by
  have st2 := rows_one st hb h2 hl2
  have st1 := rows_one st hb h1 hl1
  refine st2.cons (st1.holds _ (List.mem_cons_self ..)) (fun s hs k hk hk' => ?_)
  have a1 := World.ownsRow.lt h1 k hk
  have b1 := hk1 k hk
  rcases List.mem_cons.1 hs with rfl | hs
  · have a2 := World.ownsRow.lt h2 k hk'
    have b2 := hk2 k hk'
    omega
  · have a2 := (Res.holds_lt (st.holds s hs) hk').2
    omega
theorem run_loadVar_box {T n b : Nat} {bt : TypeId} {cs : List Value} (i : Nat) (st : St w0 w rs) (hi : rs[i]? = some (.box b bt cs)) (hT : AggT P T n) (hn : cs.length = n) : (loadVar T ⟨b, 0, none⟩).run P w = .ok (.agg cs.toArray) w := by
  have := run_loadN (P := P) (t := T) (hT := hT) (w := w) (b := b) (o := 0) hn (fun j v hj => by rw [Nat.zero_add, st.cell hi]; exact hj)
  simpa [Instr.loadAt, Instr.sureAddr] using this
theorem bodyPost_cell {fn : Func} {R : Ending → World → Prop} {t : Tmp} {T n b : Nat} {bt : TypeId} {cs : List Value} (i : Nat) (st : St w0 w rs) (hres : fn.results = #[.cell t T]) (hT : AggT P T n) (hd : a.defers = []) (hi : rs[i]? = some (.box b bt cs)) (hn : cs.length = n)
    (ht : a.tmps.getD t undef = .pointer (some ⟨b, 0, none⟩)) (hR : R (.returned (.agg cs.toArray)) w) : bodyPost P fn R .ret a w :=
  bodyPost_ret (v := .agg cs.toArray) (by
    have h := run_loadVar_box i st hi hT hn
    have ht' : a.tmps[t]?.getD undef = .pointer (some ⟨b, 0, none⟩) := by simpa using ht
    simp only [results, hres]
    simp [ht', asAddr, h]) hd hR
theorem bodyPost_cell_tmp {fn : Func} {R : Ending → World → Prop} {t u : Tmp} {T n b : Nat} {bt : TypeId} {cs : List Value} {v : Value} (i : Nat) (st : St w0 w rs) (hres : fn.results = #[.cell t T, .tmp u]) (hT : AggT P T n) (hd : a.defers = []) (hi : rs[i]? = some (.box b bt cs)) (hn : cs.length = n)
    (ht : a.tmps.getD t undef = .pointer (some ⟨b, 0, none⟩)) (hu : a.tmps.getD u undef = v) (hR : R (.returned (.tuple #[.agg cs.toArray, v])) w) : bodyPost P fn R .ret a w :=
  bodyPost_ret (v := .tuple #[.agg cs.toArray, v]) (by
    have h := run_loadVar_box i st hi hT hn
    have ht' : a.tmps[t]?.getD undef = .pointer (some ⟨b, 0, none⟩) := by simpa using ht
    have hu' : a.tmps[u]?.getD undef = v := by simpa using hu
    simp only [results, hres]
    simp [ht', hu', asAddr, h]) hd hR
end
end Go.Hp
namespace Go.Hp
open Go.RowKit
section
variable {P : Program} {ops : Array Oper} {Q : Exit → Act → World → Prop} {a : Act} {w : World} {i j fuel : Nat} {listed : Array Bool} {K : Act → World → Prop}
@[irreducible] def WA (P : Program) (ops : Array Oper) (Q : Exit → Act → World → Prop) (fuel : Nat) (listed : Array Bool) (a : Act) (w : World) : Prop := wpAny P .any ops Q fuel listed a w
@[irreducible] def WO (P : Program) (ops : Array Oper) (Q : Exit → Act → World → Prop) (i fuel : Nat) (listed : Array Bool) (a : Act) (w : World) : Prop := wpOp P ops Q i (wpAny P .any ops Q fuel listed) a w
theorem WA.one (hr : Region.ready .any ops listed = [i]) (h : WO P ops Q i fuel (listed.setIfInBounds i true) a w) : WA P ops Q (fuel + 1) listed a w := by
  unfold WA; unfold WO at h
  exact wpAny_all hr (by simp) (by simpa using h)
theorem WA.two (hr : Region.ready .any ops listed = [i, j]) (h : WO P ops Q i fuel (listed.setIfInBounds i true) a w) (h' : WO P ops Q j fuel (listed.setIfInBounds j true) a w) : WA P ops Q (fuel + 1) listed a w := by
  unfold WA; unfold WO at h h'
  exact wpAny_all hr (by simp) (by simpa using ⟨h, h'⟩)
theorem WA.done (hr : Region.ready .any ops listed = []) (h : Q .normal a w) : WA P ops Q fuel listed a w := by unfold WA; exact wpAny_done hr h fuel
theorem nth0 {α : Type} {x : α} {l : List α} : (x :: l)[0]? = some x := rfl
theorem nth1 {α : Type} {x y : α} {l : List α} : (y :: x :: l)[1]? = some x := rfl
theorem nth2 {α : Type} {x y y1 : α} {l : List α} : (y :: y1 :: x :: l)[2]? = some x := rfl
theorem nth3 {α : Type} {x y y1 y2 : α} {l : List α} : (y :: y1 :: y2 :: x :: l)[3]? = some x := rfl
theorem nth4 {α : Type} {x y y1 y2 y3 : α} {l : List α} : (y :: y1 :: y2 :: y3 :: x :: l)[4]? = some x := rfl
theorem nth5 {α : Type} {x y y1 y2 y3 y4 : α} {l : List α} : (y :: y1 :: y2 :: y3 :: y4 :: x :: l)[5]? = some x := rfl
theorem WO.at {o : Oper} {l : List Oper} (ho : l[i]? = some o) (hw : Region.wanted o (yielded l.toArray a.tmps) = true) (h : ∀ K : Act → World → Prop, (∀ a w, WA P l.toArray Q fuel listed a w → K a w) → OW P o a w K Q) : WO P l.toArray Q i fuel listed a w := by
  unfold WO wpOp
  rw [List.getElem?_toArray, ho]
  simp only [hw, if_true]
  exact .inl (h _ fun a w h => by unfold WA at h; exact h).out
theorem WO.op {o : Oper} (ho : ops[i]? = some o) (hw : Region.wanted o (yielded ops a.tmps) = true) (h : ∀ K : Act → World → Prop, (∀ a w, WA P ops Q fuel listed a w → K a w) → OW P o a w K Q) : WO P ops Q i fuel listed a w := by
  unfold WO wpOp
  rw [ho]
  simp only [hw, if_true]
  exact .inl (h _ fun a w h => by unfold WA at h; exact h).out
theorem WA.next {a' : Act} (hK : ∀ a w, WA P ops Q fuel listed a w → K a w) (ha : a = a') (h : WA P ops Q fuel listed a' w) : K a w := ha ▸ hK _ _ (ha ▸ h)
theorem wp_region_wa {id : Nat} {R : Act → World → Prop} (n : Nat) (hn : ops.size = n) (hm : P.follows .mixedOrders = true) (h : WA P ops (fun x a w => x = .normal ∧ R a w) n (Array.replicate n false) a w.drew) (h' : ∀ a w, R a w → Q .normal a w) : (Code.region id ops true).wp P Q a w := by
  subst hn
  unfold WA at h
  exact wp_mono (wp_region_any hm h) fun e a w ⟨he, hr⟩ => he ▸ h' a w hr
theorem wp_region_st {id : Nat} {A : Act} {w0 : World} {rs : List Res} (n : Nat) (hn : ops.size = n) (hm : P.follows .mixedOrders = true) (h : WA P ops (fun x a w => x = .normal ∧ a = A ∧ St w0 w rs) n (Array.replicate n false) a w.drew) (h' : ∀ w, St w0 w rs → Q .normal A w) : (Code.region id ops true).wp P Q a w :=
  wp_region_wa (R := fun a w => a = A ∧ St w0 w rs) n hn hm h fun _ w ⟨ha, hs⟩ => ha ▸ h' w hs
end
end Go.Hp
namespace Go.Hp
open Go.RowKit
section
variable {P : Program} {Q : Exit → Act → World → Prop} {a : Act} {w wA wB : World} {l : List Oper} {n s : Nat} {X : List Value}
def YX (P : Program) (ops : Array Oper) (o : Oper) (a : Act) (w : World) (x : Value) : Prop :=
  (Region.wanted o (yielded ops a.tmps) = true ∧ o.wp P a w (fun a' w' => a' = a.put o.dst x ∧ w' = w) (fun _ _ _ => False)) ∨ (Region.wanted o (yielded ops a.tmps) = false ∧ x = undef)
def YS (P : Program) (ops : Array Oper) (o : Oper) (a : Act) (w w' : World) : Prop :=
  Region.wanted o (yielded ops a.tmps) = true ∧ o.wp P a w (fun a' w1 => a' = a.put o.dst undef ∧ w1 = w') (fun _ _ _ => False)
structure LateInv (l : List Oper) (n s : Nat) (X : List Value) (a : Act) (wA wB : World) (listed : Array Bool) (a' : Act) (w1 : World) : Prop where
  inv : HeadInv .any l.toArray n listed
  ex : ∃ xs : List Value, xs.length = n ∧ a' = fillA (l.take n) xs a ∧ ∀ k, k < n → listed.getD k false = true → xs.getD k undef = X.getD k undef
  world : w1 = if listed.getD s false then wB else wA
theorem list_eq_of_getD {xs ys : List Value} (h : xs.length = ys.length) (h2 : ∀ k, k < xs.length → xs.getD k undef = ys.getD k undef) : xs = ys := by
  apply List.ext_getElem h
  intro k h1 h3
  have := h2 k h1
  simpa [List.getD, h1, h3] using this
theorem wpAny_late (hB : phiB l n = true) (hX : X.length = n) (hs : s < n) (hXs : X.getD s undef = undef)
    (step : ∀ i o, i < n → i ≠ s → l[i]? = some o → ∀ xs : List Value, xs.length = n → (∀ k, k < n → Region.waitsFor .any l.toArray i k = true → xs.getD k undef = X.getD k undef) →
      YX P l.toArray o (fillA (l.take n) xs a) wA (X.getD i undef) ∧ (Region.waitsFor .any l.toArray s i = false → YX P l.toArray o (fillA (l.take n) xs a) wB (X.getD i undef)))
    (store : ∀ o, l[s]? = some o → ∀ xs : List Value, xs.length = n → (∀ k, k < n → Region.waitsFor .any l.toArray s k = true → xs.getD k undef = X.getD k undef) → YS P l.toArray o (fillA (l.take n) xs a) wA wB)
    (fin : wpList P l.toArray Q (l.drop n) (fillA (l.take n) X a) wB) :
    ∀ (f : Nat) (listed : Array Bool) (a' : Act) (w1 : World), LateInv l n s X a wA wB listed a' w1 → ((List.range n).filter fun k => !listed.getD k false).length = f → wpAny P .any l.toArray Q (f + (l.length - n)) listed a' w1 := by
  simp only [phiB, Bool.and_eq_true, decide_eq_true_eq, Bool.or_eq_true] at hB
  obtain ⟨⟨⟨⟨hdist, hn⟩, hback⟩, htail⟩, hseq⟩ := hB
  have htl : (l.take n).length = n := by simp; omega
  intro f
  induction f with
  | zero =>
    intro listed a' w1 hI hf
    have hall : ∀ k, k < n → listed.getD k false = true := by
      intro k hk
      cases hl : listed.getD k false with
      | true => rfl
      | false =>
        have : k ∈ (List.range n).filter fun k => !listed.getD k false := List.mem_filter.2 ⟨List.mem_range.2 hk, by simp [hl]⟩
        rw [List.length_eq_zero_iff.1 hf] at this
        cases this
    have hls : listed = headListed n l.length := by
      have hsz := hI.inv.size
      simp only [List.size_toArray] at hsz
      apply Array.ext
      · simp [headListed, hsz]
      · intro k h1 h2
        have hk : k < l.length := by omega
        simp only [headListed, List.getElem_toArray, List.getElem_map, List.getElem_range]
        by_cases hkn : k < n
        · have := hall k hkn
          simp [h1] at this
          simp [this, hkn]
        · have := hI.inv.tail k (by omega) (by simpa using hk)
          simp [h1] at this
          simp [this, hkn]
    obtain ⟨xs, hlen, rfl, h1⟩ := hI.ex
    have hw := hI.world
    rw [hall s hs, if_pos rfl] at hw
    subst hw
    obtain rfl : xs = X := list_eq_of_getD (by rw [hlen, hX]) (fun k hk => h1 k (by omega) (hall k (by omega)))
    rw [Nat.zero_add, hls]
    have hdl : (l.drop n).length = l.length - n := by simp
    rw [← hdl]
    exact wpAny_of_seq (l.drop n) n _ _ _ (fun j => by simp [List.getElem?_drop]) (by rw [hdl]; exact hseq) fin
  | succ f ih =>
    intro listed a' w1 hI hf
    have hex : ∃ k, k < n ∧ listed.getD k false = false := by
      cases hfl : (List.range n).filter fun k => !listed.getD k false with
      | nil => rw [hfl] at hf; simp at hf
      | cons k r =>
        have hm : k ∈ (List.range n).filter fun k => !listed.getD k false := by rw [hfl]; exact List.mem_cons_self ..
        obtain ⟨hk1, hk2⟩ := List.mem_filter.1 hm
        exact ⟨k, List.mem_range.1 hk1, by simpa using hk2⟩
    have hsz : listed.size = l.length := by have := hI.inv.size; simpa using this
    have hready : Region.ready .any l.toArray listed ≠ [] := by
      obtain ⟨k, hk⟩ := hex
      induction k using Nat.strongRecOn with
      | _ k ihk =>
        obtain ⟨hkn, hkl⟩ := hk
        by_cases hsm : ∃ j, j < k ∧ listed.getD j false = false
        · obtain ⟨j, hj, hjl⟩ := hsm
          exact ihk j hj ⟨by omega, hjl⟩
        · intro h0
          have hmem : k ∈ Region.ready .any l.toArray listed := by
            have hklt : k < l.length := by omega
            refine mem_ready.2 ⟨getD_in (by omega) hkl, l[k], by simp [hklt], fun e he hb => ?_⟩
            have := List.all_eq_true.1 hback k (List.mem_range.2 hkn)
            simp only [List.getElem?_toArray, List.getElem?_eq_getElem hklt] at this
            have := Array.all_eq_true_iff_forall_mem.1 this e he
            simp only [hb, Bool.not_true, Bool.false_or, decide_eq_true_eq] at this
            cases hle : listed.getD e.on false with
            | true => rfl
            | false => exact absurd ⟨e.on, this, hle⟩ hsm
          rw [h0] at hmem
          cases hmem
    rw [show f + 1 + (l.length - n) = (f + (l.length - n)) + 1 by omega]
    refine ⟨fun h0 => absurd h0 hready, fun i hi => ?_⟩
    have hin : i < n := by
      rcases Nat.lt_or_ge i n with h | h
      · exact h
      · exfalso
        rcases htail with ht | ht
        · obtain ⟨_, o, ho, _⟩ := mem_ready.1 hi
          have := (Array.getElem?_eq_some_iff.1 ho).1
          simp at this
          omega
        · obtain ⟨k, hkn, hkl⟩ := hex
          obtain ⟨_, o, ho, _⟩ := mem_ready.1 hi
          have := (Array.getElem?_eq_some_iff.1 ho).1
          simp at this
          exact tail_waits ht.1 ht.2 (by simp; omega) hI.inv _ k rfl hkn (getD_in (by omega) hkl) i h hi
    obtain ⟨hun, o, ho, hdeps⟩ := mem_ready.1 hi
    have ho' : l[i]? = some o := by simpa using ho
    obtain ⟨xs, hlen, rfl, h1⟩ := hI.ex
    have hdep : ∀ k, k < n → Region.waitsFor .any l.toArray i k = true → xs.getD k undef = X.getD k undef := fun k hk hwt => by
      obtain ⟨o2, ho2, e, he, hb, hon⟩ := Region.waitsFor_spec hwt
      have : o2 = o := Option.some.inj (ho2.symm.trans ho)
      subst this
      have hlk := hdeps e he hb
      rw [hon] at hlk
      exact h1 k hk hlk
    have hnext : ∀ v w2, v = X.getD i undef → w2 = (if (listed.setIfInBounds i true).getD s false then wB else wA) → LateInv l n s X a wA wB (listed.setIfInBounds i true) ((fillA (l.take n) xs a).put o.dst v) w2 := by
      intro v w2 hv hw2
      refine ⟨hI.inv.set hi hin, ⟨xs.set i v, by simpa using hlen, ?_, ?_⟩, hw2⟩
      · exact fillA_put (l.take n) xs a i o v hdist (by rw [List.getElem?_take, if_pos hin]; exact ho') (by rw [hlen, htl])
      · intro k hk hlk
        by_cases hki : k = i
        · subst hki
          have : (xs.set k v).getD k undef = v := by simp [List.getD, hlen, hin]
          rw [this]; exact hv
        · rw [getD_set_ne false (Ne.symm hki)] at hlk
          have : (xs.set i v).getD k undef = xs.getD k undef := by simp [List.getD, List.getElem?_set_ne (Ne.symm hki)]
          rw [this]
          exact h1 k hk hlk
    have hcount : ((List.range n).filter fun k => !(listed.setIfInBounds i true).getD k false).length = f := by
      have hlt : i < listed.size := by omega
      have e1 : ((List.range n).filter fun k => !listed.getD k false) = (List.range n).filter (fun k => decide (k = i) || !(listed.setIfInBounds i true).getD k false) := by
        apply List.filter_congr
        intro k _
        by_cases hki : k = i
        · subst hki; simp [getD_both hun]
        · rw [getD_set_ne false (Ne.symm hki)]; simp [hki]
      rw [e1] at hf
      have hnd : (List.range n).Nodup := List.nodup_range
      have e2 : ∀ (m : List Nat), m.Nodup → i ∈ m → (m.filter (fun k => decide (k = i) || !(listed.setIfInBounds i true).getD k false)).length = (m.filter fun k => !(listed.setIfInBounds i true).getD k false).length + 1 := by
        intro m
        induction m with
        | nil => intro _ h; cases h
        | cons x m ihm =>
          intro hnd hm
          obtain ⟨hx, hnd⟩ := List.nodup_cons.1 hnd
          by_cases hxi : x = i
          · subst hxi
            have : (m.filter (fun k => decide (k = x) || !(listed.setIfInBounds x true).getD k false)) = m.filter fun k => !(listed.setIfInBounds x true).getD k false := by
              apply List.filter_congr
              intro k hk
              have : k ≠ x := fun h => hx (h ▸ hk)
              simp [this]
            rw [List.filter_cons, List.filter_cons, this]
            have h3 : (listed.setIfInBounds x true).getD x false = true := by simp [hlt]
            simp [h3]
          · have hm' : i ∈ m := by
              rcases List.mem_cons.1 hm with h | h
              · exact absurd h.symm hxi
              · exact h
            have := ihm hnd hm'
            rw [List.filter_cons, List.filter_cons]
            simp only [hxi, decide_false, Bool.false_or]
            split
            · simp only [List.length_cons]; omega
            · exact this
      have := e2 _ hnd (List.mem_range.2 hin)
      omega
    have hw1 := hI.world
    unfold wpOp
    simp only [ho]
    by_cases his : i = s
    · subst his
      obtain ⟨hw, hy⟩ := store o ho' xs hlen hdep
      rw [getD_both hun] at hw1
      simp only [Bool.false_eq_true, if_false] at hw1
      subst hw1
      rw [if_pos hw]
      refine .inl (wp_strong (fun a2 w2 ⟨e1, e2⟩ => ?_) hy)
      subst e1; subst e2
      exact ih _ _ _ (hnext undef _ hXs.symm (by
        have h3 : (listed.setIfInBounds i true).getD i false = true := by simp [show i < listed.size by omega]
        rw [h3]; rfl)) hcount
    · have hsl : (listed.setIfInBounds i true).getD s false = listed.getD s false := getD_set_ne false his
      have hy : YX P l.toArray o (fillA (l.take n) xs a) w1 (X.getD i undef) := by
        obtain ⟨y1, y2⟩ := step i o hin his ho' xs hlen hdep
        cases hb : listed.getD s false with
        | false =>
          rw [hb] at hw1
          rw [hw1]; exact y1
        | true =>
          rw [hb] at hw1
          rw [hw1]
          refine y2 ?_
          cases hws : Region.waitsFor .any l.toArray s i with
          | false => rfl
          | true =>
            obtain ⟨o2, ho2, e, he, hbd, hon⟩ := Region.waitsFor_spec hws
            have := hI.inv.closed s o2 ho2 hb e he hbd
            rw [hon, getD_both hun] at this
            cases this
      rcases hy with ⟨hw, hy⟩ | ⟨hw, hy⟩
      · rw [if_pos hw]
        refine .inl (wp_strong (fun a2 w2 ⟨e1, e2⟩ => ?_) hy)
        subst e1; subst e2
        exact ih _ _ _ (hnext _ _ rfl (by rw [hsl]; exact hw1)) hcount
      · rw [hw]
        simp only [Bool.false_eq_true, if_false]
        exact ih _ _ _ (hnext undef w1 hy.symm (by rw [hsl]; exact hw1)) hcount
def depL (X : List Value) (xs : List Value) (G : Prop) : List Edge → Prop
  | [] => G
  | e :: es => match Region.binds .any e with
    | true => (xs.getD e.on undef = X.getD e.on undef) → depL X xs G es
    | false => depL X xs G es
theorem depL_spec {X xs : List Value} {G : Prop} : ∀ es : List Edge, depL X xs G es → (∀ e ∈ es, Region.binds .any e = true → xs.getD e.on undef = X.getD e.on undef) → G
  | [], h, _ => h
  | e :: es, h, hd => by
    have ht := fun h' => depL_spec (X := X) (xs := xs) (G := G) es h' (fun e' he' => hd e' (List.mem_cons_of_mem _ he'))
    unfold depL at h
    split at h
    · rename_i hb
      exact ht (h (hd e (List.mem_cons_self ..) hb))
    · exact ht h
def ob (l : List Oper) (n : Nat) (a : Act) (i : Nat) (X : List Value) (F : Oper → Act → Prop) : Prop :=
  match l[i]? with
  | some o => allV n fun xs => depL X xs (F o (fillA (l.take n) xs a)) o.after.toList
  | none => False
theorem allV_mono {F G : List Value → Prop} (h : ∀ xs, F xs → G xs) : ∀ {n : Nat} {F G : List Value → Prop}, (∀ xs, F xs → G xs) → allV n F → allV n G
  | 0, _, _, h, hf => h _ hf
  | _ + 1, _, _, h, hf => fun x => allV_mono (F := F) (G := G) ‹_› (fun xs => h (x :: xs)) (hf x)
theorem depL_mono {X xs : List Value} {F G : Prop} (h : F → G) : ∀ es : List Edge, depL X xs F es → depL X xs G es
  | [], hf => h hf
  | e :: es, hf => by
    unfold depL at hf ⊢
    split
    · rename_i hb; rw [hb] at hf; exact fun h' => depL_mono h es (hf h')
    · rename_i hb; rw [hb] at hf; exact depL_mono h es hf
theorem ob_mono {i : Nat} {F G : Oper → Act → Prop} (h : ∀ o a, F o a → G o a) (hf : ob l n a i X F) : ob l n a i X G := by
  unfold ob at hf ⊢
  split
  · rename_i o ho
    rw [ho] at hf
    exact allV_mono (F := fun _ => True) (G := fun _ => True) (fun _ h => h) (fun xs h' => depL_mono (h _ _) _ h') hf
  · rename_i ho; rw [ho] at hf; exact hf
def lateOb (P : Program) (l : List Oper) (n s : Nat) (a : Act) (wA wB : World) (i : Nat) (X : List Value) (x : Value) : Prop :=
  ob l n a i X fun o a => match decide (i = s), Region.waitsFor .any l.toArray s i with
    | true, _ => YS P l.toArray o a wA wB ∧ x = undef
    | false, true => YX P l.toArray o a wA x
    | false, false => YX P l.toArray o a wA x ∧ YX P l.toArray o a wB x
def Late (P : Program) (l : List Oper) (n s : Nat) (a : Act) (wA wB : World) (Q : Exit → Act → World → Prop) : Nat → List Value → Prop
  | 0, X => wpList P l.toArray Q (l.drop n) (fillA (l.take n) X a) wB
  | r + 1, X => ∃ x, lateOb P l n s a wA wB X.length X x ∧ Late P l n s a wA wB Q r (X ++ [x])
theorem Late.cons {r : Nat} {X X' : List Value} {x : Value} (h : lateOb P l n s a wA wB X.length X x) (hX : X ++ [x] = X') (h' : Late P l n s a wA wB Q r X') : Late P l n s a wA wB Q (r + 1) X := ⟨x, h, hX ▸ h'⟩
theorem Late.free {r : Nat} {X X' : List Value} {x : Value} (his : decide (X.length = s) = false) (h : ob l n a X.length X fun o a => ∀ w, YX P l.toArray o a w x) (hX : X ++ [x] = X') (h' : Late P l n s a wA wB Q r X') : Late P l n s a wA wB Q (r + 1) X :=
  Late.cons (ob_mono (fun o a hy => by rw [his]; split <;> first | exact ⟨hy _, hy _⟩ | exact hy _ | simp_all) h) hX h'
theorem Late.pre {r : Nat} {X X' : List Value} {x : Value} (his : decide (X.length = s) = false) (hw : Region.waitsFor .any l.toArray s X.length = true) (h : ob l n a X.length X fun o a => YX P l.toArray o a wA x) (hX : X ++ [x] = X') (h' : Late P l n s a wA wB Q r X') : Late P l n s a wA wB Q (r + 1) X :=
  Late.cons (ob_mono (fun o a hy => by rw [his, hw]; exact hy) h) hX h'
theorem Late.store {r : Nat} {X X' : List Value} (his : decide (X.length = s) = true) (h : ob l n a X.length X fun o a => YS P l.toArray o a wA wB) (hX : X ++ [undef] = X') (h' : Late P l n s a wA wB Q r X') : Late P l n s a wA wB Q (r + 1) X :=
  Late.cons (ob_mono (fun o a hy => by rw [his]; exact ⟨hy, rfl⟩) h) hX h'
theorem Late.fin (h : wpList P l.toArray Q (l.drop n) (fillA (l.take n) X a) wB) : Late P l n s a wA wB Q 0 X := h
theorem Late.all : ∀ (r : Nat) (X : List Value), Late P l n s a wA wB Q r X → (∀ i x, X[i]? = some x → lateOb P l n s a wA wB i (X.take i) x) →
    ∃ Y : List Value, Y.length = X.length + r ∧ (∀ i x, Y[i]? = some x → lateOb P l n s a wA wB i (Y.take i) x) ∧ wpList P l.toArray Q (l.drop n) (fillA (l.take n) Y a) wB
  | 0, X, h, h2 => ⟨X, rfl, h2, h⟩
  | r + 1, X, ⟨k, hs, h⟩, h2 => by
    obtain ⟨Y, a1, a3, a4⟩ := Late.all r (X ++ [k]) h (fun i x hx => by
      rcases Nat.lt_or_ge i X.length with hi | hi
      · rw [List.getElem?_append_left hi] at hx
        rw [List.take_append_of_le_length (by omega)]
        exact h2 i x hx
      · rw [List.getElem?_append_right hi] at hx
        have hi0 : i - X.length = 0 := by
          rcases Nat.eq_zero_or_pos (i - X.length) with h0 | h0
          · exact h0
          · rw [List.getElem?_eq_none (by simp; omega)] at hx; cases hx
        rw [hi0] at hx
        simp only [List.getElem?_cons_zero, Option.some.injEq] at hx
        have : i = X.length := by omega
        subst this
        rw [List.take_append_of_le_length (Nat.le_refl _), List.take_length, ← hx]
        exact hs)
    exact ⟨Y, by rw [a1]; simp; omega, a3, a4⟩
theorem getD_take {Y : List Value} {i k : Nat} (h : k < i) : (Y.take i).getD k undef = Y.getD k undef := by
  simp [List.getD, List.getElem?_take, h]
theorem wp_region_late {id : Nat} (n s : Nat) {wB : World} (hm : P.follows .mixedOrders = true) (hB : phiB l n = true) (hs : s < n) (h : Late P l n s a w.drew wB Q n []) : (Code.region id l.toArray true).wp P Q a w := by
  obtain ⟨X, hlen, hstep, hfin⟩ := Late.all n [] h (fun i k hk => by simp at hk)
  simp only [List.length_nil, Nat.zero_add] at hlen
  have hB' := hB
  simp only [phiB, Bool.and_eq_true, decide_eq_true_eq, Bool.or_eq_true] at hB'
  obtain ⟨⟨⟨⟨_, hn⟩, hback⟩, _⟩, _⟩ := hB'
  refine wp_region_any hm ?_
  have hback' : ∀ i o, i < n → l[i]? = some o → ∀ e ∈ o.after.toList, Region.binds .any e = true → e.on < i := fun i o hi ho e he hbind => by
    have := List.all_eq_true.1 hback i (List.mem_range.2 hi)
    simp only [List.getElem?_toArray, ho] at this
    have := Array.all_eq_true_iff_forall_mem.1 this e (by simpa using he)
    simpa [hbind] using this
  have hwait : ∀ i o, l[i]? = some o → ∀ e ∈ o.after.toList, Region.binds .any e = true → Region.waitsFor .any l.toArray i e.on = true := fun i o ho e he hbind => by
    unfold Region.waitsFor
    simp only [List.getElem?_toArray, ho]
    exact Array.any_eq_true'.2 ⟨e, by simpa using he, by simp [hbind]⟩
  have hget : ∀ i, i < n → X[i]? = some (X.getD i undef) := fun i hi => by
    rw [List.getElem?_eq_getElem (by omega)]; simp [List.getD, show i < X.length by omega]
  have main := wpAny_late (P := P) (Q := Q) (a := a) (wA := w.drew) (wB := wB) (l := l) (n := n) (s := s) (X := X) hB hlen hs
    (by
      have h1 := hstep s _ (hget s hs)
      unfold lateOb ob at h1
      split at h1
      · rename_i o ho
        have := allV_spec n _ h1 X hlen
        have := depL_spec _ this (fun e he hb => by rw [getD_take (hback' s o hs ho e he hb)])
        simp only [decide_true] at this
        exact this.2
      · exact h1.elim)
    (fun i o hi his ho xs hxs hd => by
      have h1 := hstep i _ (hget i hi)
      unfold lateOb ob at h1
      rw [ho] at h1
      have := depL_spec _ (allV_spec n _ h1 xs hxs) (fun e he hb => by
        have hlt := hback' i o hi ho e he hb
        rw [getD_take hlt]
        exact hd e.on (by omega) (hwait i o ho e he hb))
      simp only [his, decide_false] at this
      cases hw : Region.waitsFor .any l.toArray s i with
      | true => rw [hw] at this; exact ⟨this, fun h => by cases h⟩
      | false => rw [hw] at this; exact ⟨this.1, fun _ => this.2⟩)
    (fun o ho xs hxs hd => by
      have h1 := hstep s _ (hget s hs)
      unfold lateOb ob at h1
      rw [ho] at h1
      have := depL_spec _ (allV_spec n _ h1 xs hxs) (fun e he hb => by
        have hlt := hback' s o hs ho e he hb
        rw [getD_take hlt]
        exact hd e.on (by omega) (hwait s o ho e he hb))
      simp only [decide_true] at this
      exact this.1)
    hfin
    n (Array.replicate l.length false) a w.drew
    ⟨⟨by simp, fun j oj _ hl => (by rw [getD_replicate_false] at hl; cases hl), fun t _ ht => getD_in (by simpa using ht) (getD_replicate_false _ _)⟩,
      ⟨(l.take n).map (fun o => match o.dst with | some d => a.tmps.getD d undef | none => undef), by simp; omega, (fillA_self _ a).symm, fun k _ hl => (by rw [getD_replicate_false] at hl; cases hl)⟩,
      by rw [getD_replicate_false]; rfl⟩
    (by
      have : ((List.range n).filter fun k => !(Array.replicate l.length false).getD k false) = List.range n := List.filter_eq_self.2 (fun k _ => by rw [getD_replicate_false]; rfl)
      rw [this]; simp)
  have hsz : l.toArray.size = n + (l.length - n) := by simp; omega
  rw [hsz, show n + (l.length - n) = l.length by omega]
  rw [show n + (l.length - n) = l.length by omega] at main
  exact main
theorem wp_region_late_st {id : Nat} {w0 : World} {rs : List Res} (n s b : Nat) (cs : List Value) (st : St w0 w rs) (hm : P.follows .mixedOrders = true) (hB : phiB l n = true) (hs : s < n) (h : ∀ W, St w0 W rs → Late P l n s a W (W.setRow b cs.toArray) Q n []) : (Code.region id l.toArray true).wp P Q a w :=
  wp_region_late n s hm hB hs (h _ st.drew)
section
variable {ops : Array Oper} {o : Oper} {w0 : World} {rs : List Res}
theorem YX.run {v : Value} {r : Result Next} (hw : Region.wanted o (yielded ops a.tmps) = true) (hr : (execOp a.eval o).run P w = r) (hv : r = .ok (.value v) w) : YX P ops o a w v :=
  .inl ⟨hw, wp_value (hr.trans hv) ⟨rfl, rfl⟩⟩
theorem YX.both {v : Value} (h : ∀ w, YX P ops o a w v) : YX P ops o a wA v ∧ YX P ops o a wB v := ⟨h _, h _⟩
theorem YX.skip (hw : Region.wanted o (yielded ops a.tmps) = false) : YX P ops o a w undef := .inr ⟨hw, rfl⟩
theorem YX.load1 {t : TypeId} {x : Operand} {i b p : Nat} {bt : TypeId} {cs : List Value} {v : Value} (st : St w0 w rs) (ho : o.op = .load t x) (hT : OneT P t) (hw : Region.wanted o (yielded ops a.tmps) = true) (hx : a.eval x = .pointer (some ⟨b, p, none⟩)) (hi : rs[i]? = some (.box b bt cs)) (hv : cs[p]? = some v) : YX P ops o a w v :=
  .inl ⟨hw, wp_load1 st ho hT hx hi hv ⟨rfl, rfl⟩⟩
theorem YX.loadN {t n : Nat} {x : Operand} {i b p : Nat} {bt : TypeId} {cs vs : List Value} (st : St w0 w rs) (ho : o.op = .load t x) (hT : AggT P t n) (hw : Region.wanted o (yielded ops a.tmps) = true) (hx : a.eval x = .pointer (some ⟨b, p, none⟩)) (hi : rs[i]? = some (.box b bt cs)) (hv : (cs.drop p).take n = vs) (hn : vs.length = n) : YX P ops o a w (.agg vs.toArray) :=
  .inl ⟨hw, wp_loadN st ho hT hx hi hv hn ⟨rfl, rfl⟩⟩
theorem YS.storeN {t n : Nat} {x y : Operand} {i b p : Nat} {bt : TypeId} {cs vs : List Value} (st : St w0 w rs) (ho : o.op = .store t x y) (hT : AggT P t n) (hw : Region.wanted o (yielded ops a.tmps) = true) (hx : a.eval x = .pointer (some ⟨b, p, none⟩)) (hi : rs[i]? = some (.box b bt cs)) (hy : a.eval y = .agg vs.toArray) (hn : vs.length = n) (h1 : vs.all (·.oneCell') = true) (hp : p + n ≤ cs.length) :
    YS P ops o a w (w.setRow b (cs.take p ++ vs ++ cs.drop (p + n)).toArray) := by
  refine ⟨hw, wp_skip_ (w' := w.setRow b (cs.take p ++ vs ++ cs.drop (p + n)).toArray) ?_ ⟨rfl, rfl⟩⟩
  have := run_storeAt (P := P) (t := t) (o := p) (v := .agg vs.toArray) (vs := vs) hT.size (by simp [Value.cells]) hn (fun u hu => List.all_eq_true.1 h1 u hu) (st.blk hi) hp
  simp [execOp, ho, hx, hy, this]
end
end
end Go.Hp
namespace Go.Hp
open Go.RowKit
section
variable {P : Program} {Q : Exit → Act → World → Prop} {a : Act} {w : World} {l : List Oper} {n s : Nat} {Φ : List Phi}
theorem wpAny_head (hB : phiB l n = true) (I : Array Bool → Act → World → Prop) (hinv : ∀ L a w, I L a w → HeadInv .any l.toArray n L)
    (step : ∀ L a w i o, I L a w → i < n → L.getD i false = false → l[i]? = some o → (∀ e ∈ o.after, Region.binds .any e = true → L.getD e.on false = true) →
      (Region.wanted o (yielded l.toArray a.tmps) = true ∧ o.wp P a w (fun a' w' => I (L.setIfInBounds i true) a' w') (fun _ _ _ => False)) ∨ (Region.wanted o (yielded l.toArray a.tmps) = false ∧ I (L.setIfInBounds i true) (a.put o.dst undef) w))
    (fin : ∀ L a w, I L a w → (∀ k, k < n → L.getD k false = true) → wpList P l.toArray Q (l.drop n) a w) :
    ∀ (f : Nat) (listed : Array Bool) (a' : Act) (w1 : World), I listed a' w1 → ((List.range n).filter fun k => !listed.getD k false).length = f → wpAny P .any l.toArray Q (f + (l.length - n)) listed a' w1 := by
  simp only [phiB, Bool.and_eq_true, decide_eq_true_eq, Bool.or_eq_true] at hB
  obtain ⟨⟨⟨⟨hdist, hn⟩, hback⟩, htail⟩, hseq⟩ := hB
  have htl : (l.take n).length = n := by simp; omega
  intro f
  induction f with
  | zero =>
    intro listed a' w1 hI hf
    have hall : ∀ k, k < n → listed.getD k false = true := by
      intro k hk
      cases hl : listed.getD k false with
      | true => rfl
      | false =>
        have : k ∈ (List.range n).filter fun k => !listed.getD k false := List.mem_filter.2 ⟨List.mem_range.2 hk, by simp [hl]⟩
        rw [List.length_eq_zero_iff.1 hf] at this
        cases this
    have hls : listed = headListed n l.length := by
      have hsz := (hinv _ _ _ hI).size
      simp only [List.size_toArray] at hsz
      apply Array.ext
      · simp [headListed, hsz]
      · intro k h1 h2
        have hk : k < l.length := by omega
        simp only [headListed, List.getElem_toArray, List.getElem_map, List.getElem_range]
        by_cases hkn : k < n
        · have := hall k hkn
          simp [h1] at this
          simp [this, hkn]
        · have := (hinv _ _ _ hI).tail k (by omega) (by simpa using hk)
          simp [h1] at this
          simp [this, hkn]
    rw [Nat.zero_add, hls]
    have hdl : (l.drop n).length = l.length - n := by simp
    rw [← hdl]
    exact wpAny_of_seq (l.drop n) n _ _ _ (fun j => by simp [List.getElem?_drop]) (by rw [hdl]; exact hseq) (fin _ _ _ hI hall)
  | succ f ih =>
    intro listed a' w1 hI hf
    have hex : ∃ k, k < n ∧ listed.getD k false = false := by
      cases hfl : (List.range n).filter fun k => !listed.getD k false with
      | nil => rw [hfl] at hf; simp at hf
      | cons k r =>
        have hm : k ∈ (List.range n).filter fun k => !listed.getD k false := by rw [hfl]; exact List.mem_cons_self ..
        obtain ⟨hk1, hk2⟩ := List.mem_filter.1 hm
        exact ⟨k, List.mem_range.1 hk1, by simpa using hk2⟩
    have hsz : listed.size = l.length := by have := (hinv _ _ _ hI).size; simpa using this
    have hready : Region.ready .any l.toArray listed ≠ [] := by
      obtain ⟨k, hk⟩ := hex
      induction k using Nat.strongRecOn with
      | _ k ihk =>
        obtain ⟨hkn, hkl⟩ := hk
        by_cases hsm : ∃ j, j < k ∧ listed.getD j false = false
        · obtain ⟨j, hj, hjl⟩ := hsm
          exact ihk j hj ⟨by omega, hjl⟩
        · intro h0
          have hmem : k ∈ Region.ready .any l.toArray listed := by
            have hklt : k < l.length := by omega
            refine mem_ready.2 ⟨getD_in (by omega) hkl, l[k], by simp [hklt], fun e he hb => ?_⟩
            have := List.all_eq_true.1 hback k (List.mem_range.2 hkn)
            simp only [List.getElem?_toArray, List.getElem?_eq_getElem hklt] at this
            have := Array.all_eq_true_iff_forall_mem.1 this e he
            simp only [hb, Bool.not_true, Bool.false_or, decide_eq_true_eq] at this
            cases hle : listed.getD e.on false with
            | true => rfl
            | false => exact absurd ⟨e.on, this, hle⟩ hsm
          rw [h0] at hmem
          cases hmem
    rw [show f + 1 + (l.length - n) = (f + (l.length - n)) + 1 by omega]
    refine ⟨fun h0 => absurd h0 hready, fun i hi => ?_⟩
    have hin : i < n := by
      rcases Nat.lt_or_ge i n with h | h
      · exact h
      · exfalso
        rcases htail with ht | ht
        · obtain ⟨_, o, ho, _⟩ := mem_ready.1 hi
          have := (Array.getElem?_eq_some_iff.1 ho).1
          simp at this
          omega
        · obtain ⟨k, hkn, hkl⟩ := hex
          obtain ⟨_, o, ho, _⟩ := mem_ready.1 hi
          have := (Array.getElem?_eq_some_iff.1 ho).1
          simp at this
          exact tail_waits ht.1 ht.2 (by simp; omega) (hinv _ _ _ hI) _ k rfl hkn (getD_in (by omega) hkl) i h hi
    obtain ⟨hun, o, ho, hdeps⟩ := mem_ready.1 hi
    have ho' : l[i]? = some o := by simpa using ho
    have hcount : ((List.range n).filter fun k => !(listed.setIfInBounds i true).getD k false).length = f := by
      have hlt : i < listed.size := by omega
      have e1 : ((List.range n).filter fun k => !listed.getD k false) = (List.range n).filter (fun k => decide (k = i) || !(listed.setIfInBounds i true).getD k false) := by
        apply List.filter_congr
        intro k _
        by_cases hki : k = i
        · subst hki; simp [getD_both hun]
        · rw [getD_set_ne false (Ne.symm hki)]; simp [hki]
      rw [e1] at hf
      have hnd : (List.range n).Nodup := List.nodup_range
      have e2 : ∀ (m : List Nat), m.Nodup → i ∈ m → (m.filter (fun k => decide (k = i) || !(listed.setIfInBounds i true).getD k false)).length = (m.filter fun k => !(listed.setIfInBounds i true).getD k false).length + 1 := by
        intro m
        induction m with
        | nil => intro _ h; cases h
        | cons x m ihm =>
          intro hnd hm
          obtain ⟨hx, hnd⟩ := List.nodup_cons.1 hnd
          by_cases hxi : x = i
          · subst hxi
            have : (m.filter (fun k => decide (k = x) || !(listed.setIfInBounds x true).getD k false)) = m.filter fun k => !(listed.setIfInBounds x true).getD k false := by
              apply List.filter_congr
              intro k hk
              have : k ≠ x := fun h => hx (h ▸ hk)
              simp [this]
            rw [List.filter_cons, List.filter_cons, this]
            have h3 : (listed.setIfInBounds x true).getD x false = true := by simp [hlt]
            simp [h3]
          · have hm' : i ∈ m := by
              rcases List.mem_cons.1 hm with h | h
              · exact absurd h.symm hxi
              · exact h
            have := ihm hnd hm'
            rw [List.filter_cons, List.filter_cons]
            simp only [hxi, decide_false, Bool.false_or]
            split
            · simp only [List.length_cons]; omega
            · exact this
      have := e2 _ hnd (List.mem_range.2 hin)
      omega
    unfold wpOp
    simp only [ho]
    rcases step _ _ _ i o hI hin (getD_both hun) ho' hdeps with ⟨hw, hy⟩ | ⟨hw, hy⟩
    · rw [if_pos hw]
      exact .inl (wp_strong (fun a2 w2 h2 => ih _ _ _ h2 hcount) hy)
    · rw [hw]
      simp only [Bool.false_eq_true, if_false]
      exact ih _ _ _ hy hcount
theorem start_inv : HeadInv .any l.toArray n (Array.replicate l.length false) :=
  ⟨by simp, fun j oj _ hl => (by rw [getD_replicate_false] at hl; cases hl), fun t _ ht => getD_in (by simpa using ht) (getD_replicate_false _ _)⟩
theorem wp_region_head {id : Nat} (hm : P.follows .mixedOrders = true) (hB : phiB l n = true) (I : Array Bool → Act → World → Prop) (hinv : ∀ L a w, I L a w → HeadInv .any l.toArray n L)
    (step : ∀ L a w i o, I L a w → i < n → L.getD i false = false → l[i]? = some o → (∀ e ∈ o.after, Region.binds .any e = true → L.getD e.on false = true) →
      (Region.wanted o (yielded l.toArray a.tmps) = true ∧ o.wp P a w (fun a' w' => I (L.setIfInBounds i true) a' w') (fun _ _ _ => False)) ∨ (Region.wanted o (yielded l.toArray a.tmps) = false ∧ I (L.setIfInBounds i true) (a.put o.dst undef) w))
    (fin : ∀ L a w, I L a w → (∀ k, k < n → L.getD k false = true) → wpList P l.toArray Q (l.drop n) a w) (h0 : I (Array.replicate l.length false) a w.drew) : (Code.region id l.toArray true).wp P Q a w := by
  have hB' := hB
  simp only [phiB, Bool.and_eq_true, decide_eq_true_eq, Bool.or_eq_true] at hB'
  obtain ⟨⟨⟨⟨_, hn⟩, hback⟩, _⟩, _⟩ := hB'
  refine wp_region_any hm ?_
  have main := wpAny_head hB I hinv step fin n (Array.replicate l.length false) a w.drew h0
    (by
      have : ((List.range n).filter fun k => !(Array.replicate l.length false).getD k false) = List.range n := List.filter_eq_self.2 (fun k _ => by rw [getD_replicate_false]; rfl)
      rw [this]; simp)
  have hsz : l.toArray.size = n + (l.length - n) := by simp; omega
  rw [hsz, show n + (l.length - n) = l.length by omega]
  rw [show n + (l.length - n) = l.length by omega] at main
  exact main
end
end Go.Hp
namespace Go.Hp
open Go.RowKit
def Rd (w : World) (B size : Nat) (A : Option Addr) (n : Nat) (xs : List Value) : Prop :=
  xs.length = n * size ∧ (0 < n → ∃ b o, A = some ⟨b, o, none⟩ ∧ b < B ∧ ∀ j u, xs[j]? = some u → w.cell? ⟨b, o + j, none⟩ = some u)
section
variable {w w' : World} {B B' size n : Nat} {A : Option Addr} {xs : List Value}
theorem Rd.nil (A : Option Addr) : Rd w B size A 0 [] := ⟨by simp, fun h => absurd h (by omega)⟩
theorem Rd.keep (h : Rd w B size A n xs) (hk : ∀ b o, b < B → w'.cell? ⟨b, o, none⟩ = w.cell? ⟨b, o, none⟩) : Rd w' B size A n xs := by
  refine ⟨h.1, fun hn => ?_⟩
  obtain ⟨b, o, hA, hb, hc⟩ := h.2 hn
  exact ⟨b, o, hA, hb, fun j u hj => (hk _ _ hb).trans (hc j u hj)⟩
theorem Rd.below (h : Rd w B size A n xs) (hb : Below B' w w') (hB : B ≤ B') : Rd w' B size A n xs := h.keep fun b o hbo => hb.cell (p := ⟨b, o, none⟩) (by simp; omega)
theorem Rd.more (h : Rd w B size A n xs) (hB : B ≤ B') : Rd w B' size A n xs := by
  refine ⟨h.1, fun hn => ?_⟩
  obtain ⟨b, o, hA, hb, hc⟩ := h.2 hn
  exact ⟨b, o, hA, by omega, hc⟩
theorem Rd.of_row {base : Nat} {e : TypeId} {c : Nat} (h : w.ownsRow base e size (.slice A n c) n xs) : Rd w w.heap.size size A n xs := by
  refine ⟨h.1, fun hn => ?_⟩
  rcases h.2 with ⟨hv, h0⟩ | ⟨g, cap, cur, hv, hbase, hg, hnc, hcap, hsz, htake⟩
  · omega
  · injection hv with hA
    subst hA
    refine ⟨g, 0, rfl, (Array.getElem?_eq_some_iff.1 hg).1, fun j u hj => ?_⟩
    rw [Nat.zero_add, cell_of_row w g j cur e (0, 0) hg]
    rw [← htake, List.getElem?_take] at hj
    split at hj
    · simpa using hj
    · cases hj
end
class SliceT (P : Program) (t : TypeId) (e : outParam TypeId) (z : outParam Value) (size bytes : outParam Nat) : Prop where
  under : P.underlying t = some (.slice e)
  info : (P.info? e).map (fun i => (i.zero, i.size, i.bytes)) = some (some z, size, bytes)
  cells : z.cells.size = size
  pos : 0 < size
section
variable {P : Program} {ops : Array Oper} {rest : List Oper} {o : Oper} {a : Act} {w0 w : World} {rs : List Res} {Q : Exit → Act → World → Prop}
theorem St.nilRow (st : St w0 w rs) (e : TypeId) (size : Nat) : St w0 w (.row e size (.slice none 0 0) 0 [] :: rs) :=
  st.cons (World.ownsRow_nil w _ e size) fun s _ k hk _ => by cases hk
theorem St.rd {i e size n c : Nat} {A : Option Addr} {xs : List Value} (st : St w0 w rs) (hi : rs[i]? = some (.row e size (.slice A n c) n xs)) : Rd w w.heap.size size A n xs := Rd.of_row (st.get hi)
theorem St.rdBox {i b n size : Nat} {t : TypeId} {cs : List Value} (st : St w0 w rs) (hi : rs[i]? = some (.box b t cs)) (hn : cs.length = n * size) : Rd w w.heap.size size (some ⟨b, 0, none⟩) n cs :=
  ⟨hn, fun _ => ⟨b, 0, rfl, (Res.holds_lt (st.get hi) rfl).2, fun j u hj => by rw [Nat.zero_add, st.cell hi]; exact hj⟩⟩
theorem box_row {B b n size : Nat} {t : TypeId} {cs : List Value} (h : (Res.box b t cs).holds B w) (hn : cs.length = n * size) (hm : n ≤ maxLen) : w.ownsRow B t size (.slice (some ⟨b, 0, none⟩) n n) n cs :=
  ⟨hn, .inr ⟨b, n, cs.toArray, rfl, h.1, h.2, Nat.le_refl _, hm, by simpa using hn, by rw [← hn]; simp⟩⟩
theorem St.toRow {b n size : Nat} {t : TypeId} {cs : List Value} (st : St w0 w (.box b t cs :: rs)) (hn : cs.length = n * size) (hm : n ≤ maxLen) : St w0 w (.row t size (.slice (some ⟨b, 0, none⟩) n n) n cs :: rs) :=
  st.tail.cons (box_row (st.holds _ (List.mem_cons_self ..)) hn hm) fun s hs k hk => (List.pairwise_cons.1 st.apart).1 s hs k hk
theorem run_append_of_none (t ty e : TypeId) (i : TypeInfo) (base size : Nat) (ht : P.underlying t = some (.slice e)) (hi : P.info? e = some i) (v : Value) (n : Nat) (xs : List Value) (hown : w.ownsRow base e size v n xs) (c : Nat) :
    (Builtin.append_ #[t, t] ty #[v, .slice none 0 c]).run P w = .ok v w := by
  rcases hown.2 with ⟨rfl, rfl⟩ | ⟨g, cap, cur, rfl, _, _, hnc, _⟩
  · simp [Builtin.append_, run_underlying ht, sizeOf, typeInfo, hi, Builtin.lenOf, Builtin.firstCells]
  · simp [Builtin.append_, run_underlying ht, sizeOf, typeInfo, hi, Builtin.lenOf, Builtin.firstCells, hnc, storeCells]
theorem run_append_rd (base n m B c2 t ty e : Nat) {z : Value} {size bytes : Nat} (hT : SliceT P t e z size bytes) (v : Value) (A : Option Addr) (xs news : List Value) (hown : w.ownsRow base e size v n xs) (hs : Rd w B size A m news)
    (h1 : ∀ u ∈ news, u.oneCell' = true) (h63 : n + m ≤ maxLen) (hbytes : (n + m) * bytes ≤ 140737488355328) (hbase : base ≤ w.heap.size) :
    ∃ A' c' w', (Builtin.append_ #[t, t] ty #[v, .slice A m c2]).run P w = .ok (.slice A' (n + m) c') w' ∧ w'.ownsRow base e size (.slice A' (n + m) c') (n + m) (xs ++ news) ∧ w.grownBy w' v.ownBlock ∧
      ∀ k, (Value.slice A' (n + m) c').ownBlock = some k → v.ownBlock = some k ∨ w.heap.size ≤ k := by
  obtain ⟨i0, hi, hz0, hz1, hz2⟩ := info_parts hT.info
  have form : ∀ {v' : Value} {w' : World} {k : Nat} {ys : List Value}, w'.ownsRow base e size v' k ys → ∃ A' c', v' = .slice A' k c' := by
    intro v' w' k ys h
    rcases h.2 with ⟨rfl, rfl⟩ | ⟨g, cap, cur, rfl, _⟩
    · exact ⟨none, 0, rfl⟩
    · exact ⟨_, cap, rfl⟩
  rcases A with _ | ad
  · have hm : m = 0 := by
      rcases Nat.eq_zero_or_pos m with h0 | h0
      · exact h0
      · obtain ⟨b, o, hA, _⟩ := hs.2 h0
        cases hA
    subst hm
    have hl : news = [] := List.eq_nil_of_length_eq_zero (by simpa using hs.1)
    subst hl
    obtain ⟨A', c', rfl⟩ := form hown
    exact ⟨A', c', w, run_append_of_none t ty e i0 base size hT.under hi _ n xs hown c2, by simpa using hown, World.grownBy.refl w _, fun k hk => .inl hk⟩
  · have hcells : ∀ j u, news[j]? = some u → w.cell? (ad.add j) = some u := by
      intro j u hu
      have hj : j < news.length := (List.getElem?_eq_some_iff.1 hu).1
      rw [hs.1] at hj
      have hm0 : 0 < m := by
        rcases Nat.eq_zero_or_pos m with h0 | h0
        · subst h0; simp at hj
        · exact h0
      obtain ⟨b, o, hA, _, hc⟩ := hs.2 hm0
      obtain rfl := Option.some.inj hA
      rw [add_lit]
      exact hc j u hu
    obtain ⟨v', w', hrun, h2, h3, _, h5⟩ := run_append_own_at (P := P) w base t ty e i0 z size bytes hT.under hi hz0 hz1 hz2 hT.cells hT.pos v n xs hown ad m c2 news hs.1 hcells h1 h63 hbytes hbase
    obtain ⟨A', c', rfl⟩ := form h2
    refine ⟨A', c', w', hrun, h2, h3, fun k hk => ?_⟩
    rcases h5 with h5 | h5
    · exact .inl (h5 ▸ hk)
    · rw [h5] at hk
      cases hk
      exact .inr (Nat.le_refl _)
theorem wp_append {t e : TypeId} {z : Value} {size bytes : Nat} (i : Nat) {s x : Operand} {n m c2 B : Nat} {v : Value} {A : Option Addr} {xs news : List Value} {K : Act → World → Prop} (st : St w0 w rs)
    (ho : o.op = .call { callee := .builtin .append, args := #[s, x], argTypes := #[t, t] }) (hT : SliceT P t e z size bytes) (hi : rs[i]? = some (.row e size v n xs)) (hv : a.eval s = v) (hx : a.eval x = .slice A m c2)
    (hs : Rd w B size A m news) (h1 : ∀ u ∈ news, u.oneCell' = true) (h63 : n + m ≤ maxLen) (hbytes : (n + m) * bytes ≤ 140737488355328)
    (h : ∀ A' c' w', St w0 w' (rs.set i (.row e size (.slice A' (n + m) c') (n + m) (xs ++ news))) → K (a.put o.dst (.slice A' (n + m) c')) w') : o.wp P a w K Q := by
  obtain ⟨A', c', w', hrun, h2, h3, h4⟩ := run_append_rd w0.heap.size n m B c2 t o.type e hT v A xs news (st.get hi) hs h1 h63 hbytes st.size
  exact Lib.wp_append_run w s x t t ho _ _ hv hx _ _ hrun (h A' c' w' (st.upd hi h3 h2 h4))
theorem ow_append {t e : TypeId} {z : Value} {size bytes : Nat} (i : Nat) {s x : Operand} {n m c2 B : Nat} {v : Value} {A : Option Addr} {xs news : List Value} {K : Act → World → Prop} (st : St w0 w rs)
    (ho : o.op = .call { callee := .builtin .append, args := #[s, x], argTypes := #[t, t] }) (hT : SliceT P t e z size bytes) (hi : rs[i]? = some (.row e size v n xs)) (hv : a.eval s = v) (hx : a.eval x = .slice A m c2)
    (hs : Rd w B size A m news) (h1 : ∀ u ∈ news, u.oneCell' = true) (h63 : n + m ≤ maxLen) (hbytes : (n + m) * bytes ≤ 140737488355328)
    (h : ∀ A' c' w', St w0 w' (rs.set i (.row e size (.slice A' (n + m) c') (n + m) (xs ++ news))) → K (a.put o.dst (.slice A' (n + m) c')) w') : OW P o a w K Q := OW.mk (wp_append i st ho hT hi hv hx hs h1 h63 hbytes h)
theorem wp_rowN {t n : Nat} {x : Operand} {K : Act → World → Prop} {b p : Nat} {vs : List Value} (ho : o.op = .load t x) (hT : AggT P t n) (hx : a.eval x = .pointer (some ⟨b, p, none⟩)) (hn : vs.length = n) (hc : ∀ j v, vs[j]? = some v → w.cell? ⟨b, p + j, none⟩ = some v)
    (h : K (a.put o.dst (.agg vs.toArray)) w) : o.wp P a w K Q := by
  refine wp_value ?_ h
  have := run_loadN (P := P) (t := t) (hT := hT) (w := w) (b := b) (o := p) hn hc
  simp [execOp, ho, hx, this]
theorem Res.row_reslice {B e size n m c : Nat} {xs : List Value} {A : Option Addr} (h : (Res.row e size (.slice A n c) n xs).holds B w) (hm : m ≤ n) : (Res.row e size (.slice A m c) m (xs.take (m * size))).holds B w := by
  have hl := h.1
  have hms : m * size ≤ n * size := Nat.mul_le_mul_right _ hm
  refine ⟨by rw [List.length_take, hl]; omega, ?_⟩
  rcases h.2 with ⟨hv, h0⟩ | ⟨g, cap, cur, hv, hbase, hg, hnc, hcap, hsz, htake⟩
  · injection hv with h1 h2 h3
    subst h1; subst h3
    have : m = 0 := by omega
    subst this
    exact .inl ⟨rfl, rfl⟩
  · injection hv with h1 h2 h3
    subst h1; subst h3
    exact .inr ⟨g, _, cur, rfl, hbase, hg, by omega, hcap, hsz, by rw [← htake, List.take_take]; congr 1; omega⟩
theorem Res.holds_mono {B B' : Nat} {r : Res} (h : r.holds B w) (hB : B' ≤ B) : r.holds B' w := by
  cases r with
  | box b t cs => exact ⟨Nat.le_trans hB h.1, h.2⟩
  | row e size v n xs =>
    refine ⟨h.1, ?_⟩
    rcases h.2 with hn | ⟨g, cap, cur, hv, hb, rest⟩
    · exact .inl hn
    · exact .inr ⟨g, cap, cur, hv, Nat.le_trans hB hb, rest⟩
  | obj b o => exact ⟨Nat.le_trans hB h.1, h.2⟩
  | room n => exact h
theorem St.join {w' : World} {rs' : List Res} (st : St w0 w rs) (st' : St w w' rs') : St w0 w' (rs' ++ rs) := by
  have h := st.call st'.below
  refine ⟨h.below, fun r hr => ?_, List.pairwise_append.2 ⟨st'.apart, st.apart, fun r hr s hs k hk hk' => ?_⟩⟩
  · rcases List.mem_append.1 hr with hr | hr
    · exact Res.holds_mono (st'.holds r hr) st.size
    · exact h.holds r hr
  · have h1 := (Res.holds_lt (st'.holds r hr) hk).1
    have h2 := (Res.holds_lt (st.holds s hs) hk').2
    omega
theorem sub_left (a b : Int) : a + b - a = b := by omega
theorem wrap_id {n : Int} (h0 : -9223372036854775808 ≤ n) (h1 : n < 9223372036854775808) : IntKind.i64.wrap n = n := by rw [IntKind.wrap_i64]; omega
theorem St.reslice {e size n m c : Nat} {xs : List Value} {A : Option Addr} (st : St w0 w (.row e size (.slice A n c) n xs :: rs)) (hm : m ≤ n) : St w0 w (.row e size (.slice A m c) m (xs.take (m * size)) :: rs) :=
  st.tail.cons (Res.row_reslice (st.holds _ (List.mem_cons_self ..)) hm) fun s hs k hk => (List.pairwise_cons.1 st.apart).1 s hs k (by cases A <;> exact hk)
theorem ow_zeros {t tn e : TypeId} {z : Value} {size bytes : Nat} {k kn : IntKind} {s x : Operand} {n : Nat} {K : Act → World → Prop} (st : St w0 w rs)
    (ho : o.op = .call { callee := .builtin .append, args := #[s, x], argTypes := #[t, tn] }) (hT : SliceT P t e z size bytes) (htn : P.underlying tn = some (.int kn)) (hv : a.eval s = .slice none 0 0) (hx : a.eval x = .int k n)
    (h0 : 0 < n) (hn : n ≤ maxLen) (hb : n * bytes ≤ 281474976710656)
    (h : ∀ b c w', St w0 w' (.row e size (.slice (some ⟨b, 0, none⟩) n c) n (Builtin.zeroCells z.cells n).toList :: rs) → K (a.put o.dst (.slice (some ⟨b, 0, none⟩) n c)) w') : OW P o a w K Q := by
  obtain ⟨i0, hi, hz0, hz1, hz2⟩ := info_parts hT.info
  have hc := hT.cells
  have hp := hT.pos
  unfold maxLen at hn
  have h1 := grownCap_ge w n 0 e
  have h2 := grownCap_le_maxLen w n 0 e (by unfold maxLen; omega)
  have hrun := Lib.run_append_nil_zeros (P := P) w t tn o.type e i0 z k kn hT.under htn hi hz0 n h0 (by omega) (by omega) (by rw [hz2]; exact hb)
  refine OW.mk (Lib.wp_append_run w s x t tn ho _ _ hv hx _ _ hrun (h _ _ _ ?_))
  have hzl : ∀ m, (Builtin.zeroCells z.cells m).size = m * size := fun m => by simp [Builtin.zeroCells, hc]
  refine st.drew.fresh ((Below.refl _ _).alloc (Nat.le_refl _) _) ⟨by rw [Array.length_toList, hzl], .inr ⟨_, _, _, rfl, Nat.le_refl _, heap_alloc_new _ _, h1, h2, ?_, ?_⟩⟩
  · rw [Array.size_append, hzl, hzl, ← Nat.add_mul]; congr 1; omega
  · rw [Array.toList_append, List.take_append_of_le_length (by rw [Array.length_toList, hzl]; exact Nat.le_refl _), List.take_of_length_le (by rw [Array.length_toList, hzl]; exact Nat.le_refl _)]
end
end Go.Hp
namespace Go.Hp
open Go.RowKit
inductive MixK where
  | val (x : Value)
  | fact (φ : Phi)
  | free (x : Value)
  | store
def MixK.phi : MixK → Phi
  | .val x => isV x
  | .fact φ => φ
  | .free x => isV x
  | .store => fun _ _ _ _ => True
def MixK.isFree : MixK → Bool
  | .free _ => true
  | _ => false
def MixK.isStore : MixK → Bool
  | .store => true
  | _ => false
def fixF : List MixK → List Value → List Value
  | .free x :: Φ, _ :: xs => x :: fixF Φ xs
  | .val _ :: Φ, y :: xs => y :: fixF Φ xs
  | .fact _ :: Φ, y :: xs => y :: fixF Φ xs
  | .store :: Φ, y :: xs => y :: fixF Φ xs
  | [], xs => xs
  | _ :: _, [] => []
theorem fixF_eq : ∀ (Φ : List MixK) (xs ys : List Value), ys.length = xs.length → xs.length = Φ.length → (∀ (k : Nat) (x : Value), Φ[k]? = some (.free x) → ys.getD k undef = x) →
    (∀ (k : Nat) (φ : MixK), Φ[k]? = some φ → φ.isFree = false → ys.getD k undef = xs.getD k undef) → fixF Φ xs = ys
  | [], [], [], _, _, _, _ => rfl
  | [], x :: xs, _, _, h, _, _ => by simp at h
  | φ :: Φ, [], _, _, h, _, _ => by simp at h
  | φ :: Φ, x :: xs, [], h, _, _, _ => by simp at h
  | φ :: Φ, x :: xs, y :: ys, h1, h2, hf, hn => by
    have ih := fixF_eq Φ xs ys (by simpa using h1) (by simpa using h2) (fun k x hk => by have := hf (k + 1) x (by simpa using hk); simpa using this) (fun k φ hk hfr => by have := hn (k + 1) φ (by simpa using hk) hfr; simpa using this)
    cases φ with
    | free z =>
      have := hf 0 z rfl
      simp only [List.getD_cons_zero] at this
      subst this
      simp only [fixF, ih]
    | val z =>
      have := hn 0 _ rfl rfl
      simp only [List.getD_cons_zero] at this
      subst this
      simp only [fixF, ih]
    | fact z =>
      have := hn 0 _ rfl rfl
      simp only [List.getD_cons_zero] at this
      subst this
      simp only [fixF, ih]
    | store =>
      have := hn 0 _ rfl rfl
      simp only [List.getD_cons_zero] at this
      subst this
      simp only [fixF, ih]
section
variable {P : Program} {Q : Exit → Act → World → Prop} {a : Act} {w : World} {l : List Oper} {n s : Nat} {Φ : List MixK}
def MixDeps (l : List Oper) (n : Nat) (Φ : List MixK) (B i : Nat) (xs : List Value) (w1 : World) : Prop :=
  ∀ k φ, k < n → Region.waitsFor .any l.toArray i k = true → Φ[k]? = some φ → ∃ lo hi, B ≤ lo ∧ hi ≤ w1.heap.size ∧ φ.phi lo hi (xs.getD k undef) w1
structure MixPre (l : List Oper) (n s : Nat) (Φ : List MixK) (a : Act) (w : World) (L : Array Bool) (a' : Act) (w1 : World) : Prop where
  phi : PhiInv l n (Φ.map MixK.phi) a w L a' w1
  not : L.getD s false = false
def SameBelow (n₀ : Nat) (w w2 : World) : Prop := ∀ b o, b < n₀ → w2.cell? ⟨b, o, none⟩ = w.cell? ⟨b, o, none⟩
theorem SameBelow.of_below {n₀ B : Nat} {w w2 : World} (h : Below B w w2) (hn : n₀ ≤ B) : SameBelow n₀ w w2 := fun b o hb => h.cell (p := ⟨b, o, none⟩) (show b < B by omega)
theorem SameBelow.of_st {w0 w w2 : World} {rs rs' : List Res} (st : St w0 w rs) (st' : St w0 w2 rs') : SameBelow w0.heap.size w w2 := fun b o hb => (st'.old hb).trans (st.old hb).symm
structure MixPost (n₀ : Nat) (P : Program) (Q : Exit → Act → World → Prop) (l : List Oper) (n s : Nat) (Φ : List MixK) (a : Act) (w : World) (L : Array Bool) (a' : Act) (w2 : World) : Prop where
  inv : HeadInv .any l.toArray n L
  low : SameBelow n₀ w w2
  is : L.getD s false = true
  all : ∀ k φ, k < n → Φ[k]? = some φ → φ.isFree = false → L.getD k false = true
  ex : ∃ (xs : List Value) (w1 : World), xs.length = n ∧ a' = fillA (l.take n) xs a ∧ Below w.heap.size w w1 ∧
    (∀ (k : Nat) (φ : MixK), Φ[k]? = some φ → φ.isFree = false → ∃ lo hi, w.heap.size ≤ lo ∧ hi ≤ w1.heap.size ∧ φ.phi lo hi (xs.getD k undef) w1) ∧
    (∀ (k : Nat) (x : Value), Φ[k]? = some (.free x) → L.getD k false = true → xs.getD k undef = x) ∧
    (∀ ys : List Value, ys.length = n → (∀ (k : Nat) (x : Value), Φ[k]? = some (.free x) → ys.getD k undef = x) → (∀ (k : Nat) (φ : MixK), Φ[k]? = some φ → φ.isFree = false → ys.getD k undef = xs.getD k undef) →
      wpList P l.toArray Q (l.drop n) (fillA (l.take n) ys a) w2)
theorem wp_region_mix0 {id n₀ : Nat} (hn₀ : n₀ ≤ w.drew.heap.size) (hm : P.follows .mixedOrders = true) (hB : phiB l n = true) (hΦ : Φ.length = n) (hs : s < n) (hst : Φ[s]? = some .store) (one : ∀ k, Φ[k]? = some .store → k = s) (stable : ∀ φ ∈ Φ, φ.phi.stable)
    (waits : ∀ (k : Nat) (φ : MixK), k < n → k ≠ s → Φ[k]? = some φ → φ.isFree = false → ∃ j, k < j ∧ j ≤ s ∧ Region.waitsFor .any l.toArray j k = true ∧ (j = s ∨ ∃ φj, Φ[j]? = some φj ∧ φj.isFree = false))
    (step : ∀ i o φ, i < n → i ≠ s → l[i]? = some o → Φ[i]? = some φ → φ.isFree = false → ∀ xs : List Value, xs.length = n → ∀ w1, Below w.drew.heap.size w.drew w1 → MixDeps l n Φ w.drew.heap.size i xs w1 → Yphi P l.toArray o (fillA (l.take n) xs a) w1 φ.phi)
    (free : ∀ i o x, i < n → l[i]? = some o → Φ[i]? = some (.free x) → ∀ xs : List Value, xs.length = n → ∀ w1, Below w.drew.heap.size w.drew w1 → MixDeps l n Φ w.drew.heap.size i xs w1 → ∀ w2, SameBelow n₀ w.drew w2 → YX P l.toArray o (fillA (l.take n) xs a) w2 x)
    (store : ∀ o, l[s]? = some o → ∀ (xs : List Value) (lo hi : Nat → Nat) w1, xs.length = n → Below w.drew.heap.size w.drew w1 →
      (∀ (k : Nat) (φ : MixK), Φ[k]? = some φ → φ.isFree = false → φ.isStore = false → w.drew.heap.size ≤ lo k ∧ hi k ≤ w1.heap.size ∧ φ.phi (lo k) (hi k) (xs.getD k undef) w1) →
      (∀ j k, j < n → k < n → j ≠ k → hi j ≤ lo k ∨ hi k ≤ lo j) →
      Region.wanted o (yielded l.toArray (fillA (l.take n) xs a).tmps) = true ∧ o.wp P (fillA (l.take n) xs a) w1 (fun a' w2 => ∃ v, a' = (fillA (l.take n) xs a).put o.dst v ∧ SameBelow n₀ w.drew w2 ∧ wpList P l.toArray Q (l.drop n) (fillA (l.take n) (fixF Φ (xs.set s v)) a) w2) (fun _ _ _ => False)) :
    (Code.region id l.toArray true).wp P Q a w := by
  have hB' := hB
  simp only [phiB, Bool.and_eq_true, decide_eq_true_eq, Bool.or_eq_true] at hB'
  obtain ⟨⟨⟨⟨hdist, hn⟩, hback⟩, _⟩, _⟩ := hB'
  have htl : (l.take n).length = n := by simp; omega
  have getD_step : ∀ (xs : List Value) (i k : Nat) (v : Value), xs.length = n → i < n → (xs.set i v).getD k undef = if k = i then v else xs.getD k undef := by
    intro xs i k v hl hi
    split
    · rename_i h; subst h; simp [List.getD, hl, hi]
    · rename_i h; simp [List.getD, List.getElem?_set_ne (Ne.symm h)]
  refine wp_region_head hm hB (fun L a1 w1 => MixPre l n s Φ a w.drew L a1 w1 ∨ MixPost n₀ P Q l n s Φ a w.drew L a1 w1) (fun L a1 w1 h => ?_) (fun L a1 w1 i o hI hin hun ho hdeps => ?_) (fun L a1 w1 hI hall => ?_) (.inl ⟨⟨start_inv, Below.refl _ _,
      ⟨(l.take n).map (fun o => match o.dst with | some d => a.tmps.getD d undef | none => undef), fun _ => 0, fun _ => 0, by simp; omega, (fillA_self _ a).symm, fun k φ _ hl => (by rw [getD_replicate_false] at hl; cases hl), fun j k _ hj _ => (by rw [getD_replicate_false] at hj; cases hj)⟩⟩, getD_replicate_false _ _⟩)
  · rcases h with h | h
    · exact h.phi.inv
    · exact h.inv
  · have hsz : L.size = l.length := by rcases hI with h | h; simpa using h.phi.inv.size; simpa using h.inv.size
    have hlt : i < L.size := by omega
    have hrdy : i ∈ Region.ready .any l.toArray L := mem_ready.2 ⟨getD_in hlt hun, o, by simpa using ho, hdeps⟩
    have hφ : ∃ φ, Φ[i]? = some φ := ⟨Φ[i]'(by omega), List.getElem?_eq_getElem (by omega)⟩
    obtain ⟨φ, hφ⟩ := hφ
    have hdep : ∀ k, Region.waitsFor .any l.toArray i k = true → L.getD k false = true := fun k hwt => by
      obtain ⟨o2, ho2, e, he, hb, hon⟩ := Region.waitsFor_spec hwt
      have : o2 = o := Option.some.inj (ho2.symm.trans (by simpa using ho))
      subst this
      have := hdeps e he hb
      rwa [hon] at this
    have htrue : (L.setIfInBounds i true).getD i false = true := by simp [hlt]
    rcases hI with hI | hI
    · obtain ⟨xs, lo, hi, hlen, rfl, h1, h2⟩ := hI.phi.ex
      have hb0 := hI.phi.below.size
      have hfact : ∀ (k : Nat) (φk : MixK), Φ[k]? = some φk → L.getD k false = true → w.drew.heap.size ≤ lo k ∧ hi k ≤ w1.heap.size ∧ φk.phi (lo k) (hi k) (xs.getD k undef) w1 := fun k φk hk hl =>
        h1 k φk.phi (by rw [List.getElem?_map, hk]; rfl) hl
      have hD : MixDeps l n Φ w.drew.heap.size i xs w1 := fun k φk hk hwt hφk => ⟨lo k, hi k, hfact k φk hφk (hdep k hwt)⟩
      by_cases his : i = s
      · subst his
        have hnf0 : ∀ (m k : Nat) (φk : MixK), i - k ≤ m → k < n → k ≠ i → Φ[k]? = some φk → φk.isFree = false → L.getD k false = true := by
          intro m
          induction m with
          | zero =>
            intro k φk hm hk hne hφk hf
            obtain ⟨j, h1, h2, _⟩ := waits k φk hk hne hφk hf
            omega
          | succ m ihm =>
            intro k φk hm hk hne hφk hf
            obtain ⟨j, h1, h2, h3, h4⟩ := waits k φk hk hne hφk hf
            by_cases hji : j = i
            · subst hji; exact hdep k h3
            · obtain ⟨φj, hφj, hfj⟩ := h4.resolve_left hji
              have hjl := ihm j φj (by omega) (by omega) hji hφj hfj
              obtain ⟨o2, ho2, e, he, hb, hon⟩ := Region.waitsFor_spec h3
              have := hI.phi.inv.closed j o2 ho2 hjl e he hb
              rwa [hon] at this
        have hnf : ∀ (k : Nat) (φk : MixK), k < n → k ≠ i → Φ[k]? = some φk → φk.isFree = false → L.getD k false = true := fun k φk => hnf0 (i - k) k φk (Nat.le_refl _)
        have hlo : ∀ (k : Nat) (φk : MixK), Φ[k]? = some φk → φk.isFree = false → φk.isStore = false → k ≠ i ∧ L.getD k false = true := fun k φk hk hf hst' => by
          have hne : k ≠ i := fun e => by
            subst e
            have : φk = .store := Option.some.inj (hk.symm.trans hst)
            subst this
            cases hst'
          exact ⟨hne, hnf k φk (by rw [← hΦ]; exact (List.getElem?_eq_some_iff.1 hk).1) hne hk hf⟩
        obtain ⟨hw, hy⟩ := store o ho xs (fun k => if L.getD k false then lo k else w1.heap.size) (fun k => if L.getD k false then hi k else 0) w1 hlen hI.phi.below
          (fun k φk hk hf hst' => by
            obtain ⟨_, hl⟩ := hlo k φk hk hf hst'
            simp only [hl, if_true]
            exact hfact k φk hk hl)
          (fun j k hj hk hjk => by
            cases hlj : L.getD j false with
            | false => left; simp
            | true =>
              cases hlk : L.getD k false with
              | false => right; simp
              | true => simpa using h2 j k hjk hlj hlk)
        refine .inl ⟨hw, wp_strong (fun a2 w2 ⟨v, e, hlow, h3⟩ => .inr ?_) hy⟩
        subst e
        refine ⟨hI.phi.inv.set hrdy hin, hlow, htrue, fun k φk hk hφk hf => ?_, xs.set i v, w1, by simpa using hlen, fillA_put (l.take n) xs a i o v hdist (by rw [List.getElem?_take, if_pos hin]; exact ho) (by rw [hlen, htl]), hI.phi.below, fun k φk hφk hf => ?_, fun k x hφk hl => ?_, fun ys hy1 hy2 hy3 => ?_⟩
        · by_cases hki : k = i
          · subst hki; exact htrue
          · rw [getD_set_ne false (Ne.symm hki)]
            exact hnf k φk hk hki hφk hf
        · by_cases hki : k = i
          · subst hki
            have : φk = .store := Option.some.inj (hφk.symm.trans hst)
            subst this
            exact ⟨_, 0, Nat.le_refl _, Nat.zero_le _, True.intro⟩
          · rw [getD_step xs i k v hlen hin, if_neg hki]
            exact ⟨lo k, hi k, hfact k φk hφk (hnf k φk (by rw [← hΦ]; exact (List.getElem?_eq_some_iff.1 hφk).1) hki hφk hf)⟩
        · by_cases hki : k = i
          · subst hki
            rw [hst] at hφk
            cases hφk
          · rw [getD_set_ne false (Ne.symm hki)] at hl
            rw [getD_step xs i k v hlen hin, if_neg hki]
            exact (hfact k _ hφk hl).2.2
        · rw [← fixF_eq Φ (xs.set i v) ys (by rw [hy1, List.length_set, hlen]) (by rw [List.length_set, hlen, hΦ]) hy2 hy3]
          exact h3
      · have hnext : ∀ v w2, Below w1.heap.size w1 w2 → φ.phi w1.heap.size w2.heap.size v w2 → MixPre l n s Φ a w.drew (L.setIfInBounds i true) ((fillA (l.take n) xs a).put o.dst v) w2 := by
          intro v w2 hb hv
          refine ⟨⟨hI.phi.inv.set hrdy hin, hI.phi.below.trans (hb.mono hb0), xs.set i v, fun k => if k = i then w1.heap.size else lo k, fun k => if k = i then w2.heap.size else hi k, by simpa using hlen, ?_, ?_, ?_⟩, ?_⟩
          · exact fillA_put (l.take n) xs a i o v hdist (by rw [List.getElem?_take, if_pos hin]; exact ho) (by rw [hlen, htl])
          · intro k ψ hk hlk
            rw [List.getElem?_map] at hk
            obtain ⟨φk, hφk, rfl⟩ := Option.map_eq_some_iff.1 hk
            rw [getD_step xs i k v hlen hin]
            by_cases hki : k = i
            · subst hki
              have : φk = φ := Option.some.inj (hφk.symm.trans hφ)
              subst this
              simp only [if_true]
              exact ⟨hb0, Nat.le_refl _, hv⟩
            · rw [getD_set_ne false (Ne.symm hki)] at hlk
              obtain ⟨b1, b2, b3⟩ := hfact k φk hφk hlk
              simp only [hki, if_false]
              exact ⟨b1, Nat.le_trans b2 hb.size, stable φk (List.mem_of_getElem? hφk) _ _ _ _ _ hb b2 b3⟩
          · intro j k hjk hj hk
            have hle : ∀ m, m ≠ i → (L.setIfInBounds i true).getD m false = true → hi m ≤ w1.heap.size := fun m hm hml => by
              rw [getD_set_ne false (Ne.symm hm)] at hml
              rcases Nat.lt_or_ge m n with hmn | hmn
              · exact (hfact m (Φ[m]'(by omega)) (List.getElem?_eq_getElem (by omega)) hml).2.1
              · rcases Nat.lt_or_ge m l.length with hm2 | hm2
                · have := hI.phi.inv.tail m hmn (by simpa using hm2)
                  rw [getD_both this] at hml; cases hml
                · simp [Array.getElem?_eq_none (show L.size ≤ m by omega)] at hml
            by_cases hji : j = i
            · subst hji
              simp only [if_true, if_neg (Ne.symm hjk)]
              exact .inr (hle k (Ne.symm hjk) hk)
            · by_cases hki : k = i
              · subst hki
                simp only [if_true, if_neg hji]
                exact .inl (hle j hji hj)
              · simp only [if_neg hji, if_neg hki]
                rw [getD_set_ne false (Ne.symm hji)] at hj
                rw [getD_set_ne false (Ne.symm hki)] at hk
                exact h2 j k hjk hj hk
          · rw [getD_set_ne false his]; exact hI.not
        have hy : Yphi P l.toArray o (fillA (l.take n) xs a) w1 φ.phi := by
          cases hfr : φ.isFree with
          | false => exact step i o φ hin his ho hφ hfr xs hlen w1 hI.phi.below hD
          | true =>
            cases φ with
            | free x =>
              rcases free i o x hin ho hφ xs hlen w1 hI.phi.below hD w1 (SameBelow.of_below hI.phi.below hn₀) with ⟨h3, h4⟩ | ⟨h3, h4⟩
              · refine .inl ⟨h3, wp_strong (fun a2 w2 ⟨e1, e2⟩ => ?_) h4⟩
                subst e1; subst e2
                exact ⟨x, rfl, Below.refl _ _, rfl⟩
              · exact .inr ⟨h3, h4.symm⟩
            | val x => cases hfr
            | fact x => cases hfr
            | store => cases hfr
        rcases hy with ⟨hw, hy⟩ | ⟨hw, hy⟩
        · refine .inl ⟨hw, wp_strong (fun a2 w2 ⟨v, e, hb, hv⟩ => .inl ?_) hy⟩
          subst e
          exact hnext v w2 hb hv
        · exact .inr ⟨hw, .inl (hnext undef w1 (Below.refl _ _) hy)⟩
    · obtain ⟨xs, w0, hlen, rfl, hb, h1, h2, h3⟩ := hI.ex
      have hfree : ∃ x, φ = .free x := by
        cases φ with
        | free x => exact ⟨x, rfl⟩
        | val x => have := hI.all i _ hin hφ rfl; rw [hun] at this; cases this
        | fact x => have := hI.all i _ hin hφ rfl; rw [hun] at this; cases this
        | store => have := hI.all i _ hin hφ rfl; rw [hun] at this; cases this
      obtain ⟨x, rfl⟩ := hfree
      have hD : MixDeps l n Φ w.drew.heap.size i xs w0 := fun k φk hk hwt hφk => by
        cases hfr : φk.isFree with
        | false => exact h1 k φk hφk hfr
        | true =>
          cases φk with
          | free y => exact ⟨_, 0, Nat.le_refl _, Nat.zero_le _, h2 k y hφk (hdep k hwt)⟩
          | val y => cases hfr
          | fact y => cases hfr
          | store => cases hfr
      have hnext : MixPost n₀ P Q l n s Φ a w.drew (L.setIfInBounds i true) ((fillA (l.take n) xs a).put o.dst x) w1 := by
        have his : i ≠ s := fun e => by subst e; rw [hst] at hφ; cases hφ
        refine ⟨hI.inv.set hrdy hin, hI.low, by rw [getD_set_ne false his]; exact hI.is, fun k φk hk hφk hf => ?_, xs.set i x, w0, by simpa using hlen, ?_, hb, fun k φk hφk hf => ?_, fun k y hφk hl => ?_, fun ys hy1 hy2 hy3 => ?_⟩
        · by_cases hki : k = i
          · subst hki; exact htrue
          · rw [getD_set_ne false (Ne.symm hki)]; exact hI.all k φk hk hφk hf
        · exact fillA_put (l.take n) xs a i o x hdist (by rw [List.getElem?_take, if_pos hin]; exact ho) (by rw [hlen, htl])
        · rw [getD_step xs i k x hlen hin]
          have hki : k ≠ i := fun e => by
            subst e
            have : φk = .free x := Option.some.inj (hφk.symm.trans hφ)
            subst this
            cases hf
          rw [if_neg hki]
          exact h1 k φk hφk hf
        · rw [getD_step xs i k x hlen hin]
          by_cases hki : k = i
          · subst hki
            rw [if_pos rfl]
            have := Option.some.inj (hφk.symm.trans hφ)
            injection this with h
            exact h.symm
          · rw [if_neg hki]
            rw [getD_set_ne false (Ne.symm hki)] at hl
            exact h2 k y hφk hl
        · refine h3 ys hy1 hy2 fun k φk hφk hf => ?_
          have := hy3 k φk hφk hf
          rw [getD_step xs i k x hlen hin] at this
          have hki : k ≠ i := fun e => by
            subst e
            have : φk = .free x := Option.some.inj (hφk.symm.trans hφ)
            subst this
            cases hf
          rwa [if_neg hki] at this
      rcases free i o x hin ho hφ xs hlen w0 hb hD w1 hI.low with ⟨hw, hy⟩ | ⟨hw, hy⟩
      · refine .inl ⟨hw, wp_strong (fun a2 w2 ⟨e1, e2⟩ => .inr ?_) hy⟩
        subst e1; subst e2
        exact hnext
      · exact .inr ⟨hw, .inr (hy ▸ hnext)⟩
  · rcases hI with hI | hI
    · have := hall s hs
      rw [hI.not] at this
      cases this
    · obtain ⟨xs, w0, hlen, rfl, hb, h1, h2, h3⟩ := hI.ex
      exact h3 xs hlen (fun k x hk => h2 k x hk (hall k (by rw [← hΦ]; exact (List.getElem?_eq_some_iff.1 hk).1))) (fun _ _ _ _ => rfl)
end
end Go.Hp
namespace Go.Hp
open Go.RowKit
def depM (Φ : List MixK) (B : Nat) (xs : List Value) (w1 : World) (G : Prop) : List Edge → Prop
  | [] => G
  | e :: es =>
    match Region.binds .any e, Φ[e.on]? with
    | true, some (.val x) => xs.getD e.on undef = x → depM Φ B xs w1 G es
    | true, some (.free x) => xs.getD e.on undef = x → depM Φ B xs w1 G es
    | true, some (.fact φ) => ∀ lo hi, B ≤ lo → hi ≤ w1.heap.size → φ lo hi (xs.getD e.on undef) w1 → depM Φ B xs w1 G es
    | _, _ => depM Φ B xs w1 G es
theorem depM_spec {Φ : List MixK} {B : Nat} {xs : List Value} {w1 : World} {G : Prop} : ∀ (es : List Edge), depM Φ B xs w1 G es →
    (∀ e ∈ es, Region.binds .any e = true → ∀ k, Φ[e.on]? = some k → ∃ lo hi, B ≤ lo ∧ hi ≤ w1.heap.size ∧ k.phi lo hi (xs.getD e.on undef) w1) → G
  | [], h, _ => h
  | e :: es, h, hd => by
    have ht := fun h' => depM_spec (Φ := Φ) (B := B) (xs := xs) (w1 := w1) (G := G) es h' (fun e' he' => hd e' (List.mem_cons_of_mem _ he'))
    unfold depM at h
    split at h
    · rename_i x hb hk
      obtain ⟨_, _, _, _, h3⟩ := hd e (List.mem_cons_self ..) hb _ hk
      exact ht (h h3)
    · rename_i x hb hk
      obtain ⟨_, _, _, _, h3⟩ := hd e (List.mem_cons_self ..) hb _ hk
      exact ht (h h3)
    · rename_i φ hb hk
      obtain ⟨lo, hi, h1, h2, h3⟩ := hd e (List.mem_cons_self ..) hb _ hk
      exact ht (h lo hi h1 h2 h3)
    · exact ht h
section
variable {P : Program} {Q : Exit → Act → World → Prop} {a : Act} {w : World} {l : List Oper} {n s n₀ : Nat}
def mixOb (n₀ : Nat) (P : Program) (l : List Oper) (n s : Nat) (a : Act) (w : World) (i : Nat) (Φ : List MixK) (k : MixK) : Prop :=
  match l[i]? with
  | some o => (match k with
    | .store => decide (i = s) = true
    | .free x => allV n fun xs => ∀ w1, Below w.heap.size w w1 → depM Φ w.heap.size xs w1 (∀ w2, SameBelow n₀ w w2 → YX P l.toArray o (fillA (l.take n) xs a) w2 x) o.after.toList
    | .val x => allV n fun xs => ∀ w1, Below w.heap.size w w1 → depM Φ w.heap.size xs w1 (Yphi P l.toArray o (fillA (l.take n) xs a) w1 (isV x)) o.after.toList
    | .fact φ => allV n fun xs => ∀ w1, Below w.heap.size w w1 → depM Φ w.heap.size xs w1 (Yphi P l.toArray o (fillA (l.take n) xs a) w1 φ) o.after.toList)
  | none => False
def allMix (B : Nat) (lo hi : Nat → Nat) (w1 : World) : Nat → List MixK → List Value → Prop → Prop
  | k, .val x :: Φ, y :: ys, G => y = x → allMix B lo hi w1 (k + 1) Φ ys G
  | k, .fact φ :: Φ, y :: ys, G => B ≤ lo k → hi k ≤ w1.heap.size → φ (lo k) (hi k) y w1 → allMix B lo hi w1 (k + 1) Φ ys G
  | k, .free _ :: Φ, _ :: ys, G => allMix B lo hi w1 (k + 1) Φ ys G
  | k, .store :: Φ, _ :: ys, G => allMix B lo hi w1 (k + 1) Φ ys G
  | _, [], _, G => G
  | _, _ :: _, [], G => G
theorem allMix_spec {B : Nat} {lo hi : Nat → Nat} {w1 : World} {G : Prop} : ∀ (Φ : List MixK) (k : Nat) (ys : List Value), allMix B lo hi w1 k Φ ys G → ys.length = Φ.length →
    (∀ j x, Φ[j]? = some x → x.isFree = false → x.isStore = false → B ≤ lo (k + j) ∧ hi (k + j) ≤ w1.heap.size ∧ x.phi (lo (k + j)) (hi (k + j)) (ys.getD j undef) w1) → G
  | [], k, ys, h, _, _ => by unfold allMix at h; exact h
  | x :: Φ, k, [], _, hl, _ => by simp at hl
  | .val x :: Φ, k, y :: ys, h, hl, hd => by
    unfold allMix at h
    have h0 := (hd 0 _ rfl rfl rfl).2.2
    exact allMix_spec Φ (k + 1) ys (h h0) (by simpa using hl) (fun j x hj hf hs => by have := hd (j + 1) x (by simpa using hj) hf hs; rw [show k + 1 + j = k + (j + 1) by omega]; simpa using this)
  | .fact φ :: Φ, k, y :: ys, h, hl, hd => by
    unfold allMix at h
    obtain ⟨h1, h2, h3⟩ := hd 0 _ rfl rfl rfl
    exact allMix_spec Φ (k + 1) ys (h h1 h2 h3) (by simpa using hl) (fun j x hj hf hs => by have := hd (j + 1) x (by simpa using hj) hf hs; rw [show k + 1 + j = k + (j + 1) by omega]; simpa using this)
  | .free x :: Φ, k, y :: ys, h, hl, hd => by
    unfold allMix at h
    exact allMix_spec Φ (k + 1) ys h (by simpa using hl) (fun j x hj hf hs => by have := hd (j + 1) x (by simpa using hj) hf hs; rw [show k + 1 + j = k + (j + 1) by omega]; simpa using this)
  | .store :: Φ, k, y :: ys, h, hl, hd => by
    unfold allMix at h
    exact allMix_spec Φ (k + 1) ys h (by simpa using hl) (fun j x hj hf hs => by have := hd (j + 1) x (by simpa using hj) hf hs; rw [show k + 1 + j = k + (j + 1) by omega]; simpa using this)
def mixWaits (l : List Oper) (n s : Nat) (Φ : List MixK) : Bool :=
  (List.range n).all fun k => decide (k = s) || (match Φ[k]? with | some φ => φ.isFree | none => false) || (List.range (s + 1)).any fun j => decide (k < j) && (Region.waitsFor .any l.toArray j k && (decide (j = s) || (match Φ[j]? with | some φ => !φ.isFree | none => false)))
def mixStore (s : Nat) (Φ : List MixK) : Bool := match Φ[s]? with | some φ => φ.isStore | none => false
def mixFin (n₀ : Nat) (P : Program) (l : List Oper) (n s : Nat) (a : Act) (w : World) (Q : Exit → Act → World → Prop) (Φ : List MixK) : Prop :=
  mixWaits l n s Φ = true ∧ mixStore s Φ = true ∧
  match l[s]? with
  | some o => allV n fun xs => ∀ (lo hi : Nat → Nat) (w1 : World), Below w.heap.size w w1 → (∀ j k, j < n → k < n → j ≠ k → hi j ≤ lo k ∨ hi k ≤ lo j) →
      allMix w.heap.size lo hi w1 0 Φ xs (Region.wanted o (yielded l.toArray (fillA (l.take n) xs a).tmps) = true ∧ OW P o (fillA (l.take n) xs a) w1 (fun a' w2 => ∃ v, a' = (fillA (l.take n) xs a).put o.dst v ∧ SameBelow n₀ w w2 ∧ WL P l.toArray Q (l.drop n) (fillA (l.take n) (fixF Φ (xs.set s v)) a) w2) (fun _ _ _ => False))
  | none => False
def Mix (n₀ : Nat) (P : Program) (l : List Oper) (n s : Nat) (a : Act) (w : World) (Q : Exit → Act → World → Prop) : Nat → List MixK → Prop
  | 0, Φ => mixFin n₀ P l n s a w Q Φ
  | r + 1, Φ => ∃ k : MixK, k.phi.stable ∧ mixOb n₀ P l n s a w Φ.length Φ k ∧ Mix n₀ P l n s a w Q r (Φ ++ [k])
theorem Mix.val' {r : Nat} {Φ Φ' : List MixK} {x : Value} (h : mixOb n₀ P l n s a w Φ.length Φ (.val x)) (hΦ : Φ ++ [.val x] = Φ') (h' : Mix n₀ P l n s a w Q r Φ') : Mix n₀ P l n s a w Q (r + 1) Φ := ⟨.val x, isV_stable x, h, hΦ ▸ h'⟩
theorem Mix.free' {r : Nat} {Φ Φ' : List MixK} {x : Value} (h : mixOb n₀ P l n s a w Φ.length Φ (.free x)) (hΦ : Φ ++ [.free x] = Φ') (h' : Mix n₀ P l n s a w Q r Φ') : Mix n₀ P l n s a w Q (r + 1) Φ := ⟨.free x, isV_stable x, h, hΦ ▸ h'⟩
theorem Mix.fact' {r : Nat} {Φ Φ' : List MixK} (φ : Phi) (hs : φ.stable) (h : mixOb n₀ P l n s a w Φ.length Φ (.fact φ)) (hΦ : Φ ++ [.fact φ] = Φ') (h' : Mix n₀ P l n s a w Q r Φ') : Mix n₀ P l n s a w Q (r + 1) Φ := ⟨.fact φ, hs, h, hΦ ▸ h'⟩
theorem Mix.store' {r : Nat} {Φ Φ' : List MixK} (h : mixOb n₀ P l n s a w Φ.length Φ .store) (hΦ : Φ ++ [.store] = Φ') (h' : Mix n₀ P l n s a w Q r Φ') : Mix n₀ P l n s a w Q (r + 1) Φ := ⟨.store, fun _ _ _ _ _ _ _ _ => True.intro, h, hΦ ▸ h'⟩
theorem Mix.fin {Φ : List MixK} {o : Oper} (h1 : mixWaits l n s Φ = true) (h2 : mixStore s Φ = true) (ho : l[s]? = some o)
    (h : allV n fun xs => ∀ (lo hi : Nat → Nat) (w1 : World), Below w.heap.size w w1 → (∀ j k, j < n → k < n → j ≠ k → hi j ≤ lo k ∨ hi k ≤ lo j) →
      allMix w.heap.size lo hi w1 0 Φ xs (Region.wanted o (yielded l.toArray (fillA (l.take n) xs a).tmps) = true ∧ OW P o (fillA (l.take n) xs a) w1 (fun a' w2 => ∃ v, a' = (fillA (l.take n) xs a).put o.dst v ∧ SameBelow n₀ w w2 ∧ WL P l.toArray Q (l.drop n) (fillA (l.take n) (fixF Φ (xs.set s v)) a) w2) (fun _ _ _ => False))) : Mix n₀ P l n s a w Q 0 Φ := by
  show mixFin n₀ P l n s a w Q Φ
  unfold mixFin
  rw [ho]
  exact ⟨h1, h2, h⟩
theorem Mix.all : ∀ (r : Nat) (Φ : List MixK), Mix n₀ P l n s a w Q r Φ → (∀ k ∈ Φ, k.phi.stable) → (∀ i k, Φ[i]? = some k → mixOb n₀ P l n s a w i (Φ.take i) k) →
    ∃ Ψ : List MixK, Ψ.length = Φ.length + r ∧ (∀ k ∈ Ψ, k.phi.stable) ∧ (∀ i k, Ψ[i]? = some k → mixOb n₀ P l n s a w i (Ψ.take i) k) ∧ mixFin n₀ P l n s a w Q Ψ
  | 0, Φ, h, h1, h2 => ⟨Φ, rfl, h1, h2, h⟩
  | r + 1, Φ, ⟨k, hk, hs, h⟩, h1, h2 => by
    obtain ⟨Ψ, a1, a2, a3, a4⟩ := Mix.all r (Φ ++ [k]) h (fun x hx => by
      rcases List.mem_append.1 hx with hx | hx
      · exact h1 x hx
      · rw [List.mem_singleton.1 hx]; exact hk) (fun i x hx => by
      rcases Nat.lt_or_ge i Φ.length with hi | hi
      · rw [List.getElem?_append_left hi] at hx
        rw [List.take_append_of_le_length (by omega)]
        exact h2 i x hx
      · rw [List.getElem?_append_right hi] at hx
        have hi0 : i - Φ.length = 0 := by
          rcases Nat.eq_zero_or_pos (i - Φ.length) with h0 | h0
          · exact h0
          · rw [List.getElem?_eq_none (by simp; omega)] at hx; cases hx
        rw [hi0] at hx
        simp only [List.getElem?_cons_zero, Option.some.injEq] at hx
        have : i = Φ.length := by omega
        subst this
        rw [List.take_append_of_le_length (Nat.le_refl _), List.take_length, ← hx]
        exact hs)
    exact ⟨Ψ, by rw [a1]; simp; omega, a2, a3, a4⟩
theorem wp_region_mix {id : Nat} (n s : Nat) (hm : P.follows .mixedOrders = true) (hB : phiB l n = true) (hs : s < n) (hn₀ : n₀ ≤ w.heap.size) (h : Mix n₀ P l n s a w.drew Q n []) : (Code.region id l.toArray true).wp P Q a w := by
  obtain ⟨Ψ, hlen, hst, hstep, hfin⟩ := Mix.all n [] h (fun _ h => by cases h) (fun i k hk => by simp at hk)
  simp only [List.length_nil, Nat.zero_add] at hlen
  obtain ⟨hwt, hms, hfin⟩ := hfin
  have hB' := hB
  simp only [phiB, Bool.and_eq_true, decide_eq_true_eq, Bool.or_eq_true] at hB'
  obtain ⟨⟨⟨⟨_, hn⟩, hback⟩, _⟩, _⟩ := hB'
  have hdep : ∀ i o (xs : List Value) w1, i < n → l[i]? = some o → MixDeps l n Ψ w.drew.heap.size i xs w1 → ∀ e ∈ o.after.toList, Region.binds .any e = true → ∀ k, (Ψ.take i)[e.on]? = some k → ∃ lo hi, w.drew.heap.size ≤ lo ∧ hi ≤ w1.heap.size ∧ k.phi lo hi (xs.getD e.on undef) w1 := by
    intro i o xs w1 hi ho hD e he hb k hk
    have hon : e.on < i := by
      have := List.all_eq_true.1 hback i (List.mem_range.2 hi)
      simp only [List.getElem?_toArray, ho] at this
      have := Array.all_eq_true_iff_forall_mem.1 this e (by simpa using he)
      simpa [hb] using this
    rw [List.getElem?_take, if_pos hon] at hk
    refine hD e.on k (by omega) ?_ hk
    unfold Region.waitsFor
    simp only [List.getElem?_toArray, ho]
    exact Array.any_eq_true'.2 ⟨e, by simpa using he, by simp [hb]⟩
  have hstore : Ψ[s]? = some .store := by
    unfold mixStore at hms
    split at hms
    · rename_i φ hφ
      cases φ with
      | store => exact hφ
      | val x => cases hms
      | fact x => cases hms
      | free x => cases hms
    · cases hms
  refine wp_region_mix0 (Φ := Ψ) (n₀ := n₀) hn₀ hm hB hlen hs hstore (fun k hk => ?_) hst (fun k φ hk hne hφ hf => ?_) (fun i o φ hi hne ho hφ hf xs hxs w1 hb hD => ?_) (fun i o x hi ho hφ xs hxs w1 hb hD => ?_) (fun o ho xs lo hi w1 hxs hb hall hap => ?_)
  · have := hstep k _ hk
    unfold mixOb at this
    split at this
    · simpa using this
    · exact this.elim
  · have := List.all_eq_true.1 hwt k (List.mem_range.2 hk)
    simp only [hφ, hf, Bool.or_false, Bool.or_eq_true, decide_eq_true_eq] at this
    rcases this with h | h
    · exact absurd h hne
    · obtain ⟨j, hj, h⟩ := List.any_eq_true.1 h
      simp only [Bool.and_eq_true, Bool.or_eq_true, decide_eq_true_eq] at h
      refine ⟨j, h.1, by have := List.mem_range.1 hj; omega, h.2.1, ?_⟩
      rcases h.2.2 with h3 | h3
      · exact .inl h3
      · split at h3
        · rename_i φj hφj
          exact .inr ⟨φj, hφj, by simpa using h3⟩
        · cases h3
  · have hs' := hstep i φ hφ
    unfold mixOb at hs'
    rw [ho] at hs'
    cases φ with
    | val x => exact depM_spec _ (allV_spec n _ hs' xs hxs w1 hb) (hdep i o xs w1 hi ho hD)
    | fact x => exact depM_spec _ (allV_spec n _ hs' xs hxs w1 hb) (hdep i o xs w1 hi ho hD)
    | free x => cases hf
    | store =>
      simp only [decide_eq_true_eq] at hs'
      exact absurd hs' hne
  · have hs' := hstep i _ hφ
    unfold mixOb at hs'
    rw [ho] at hs'
    exact depM_spec _ (allV_spec n _ hs' xs hxs w1 hb) (hdep i o xs w1 hi ho hD)
  · rw [ho] at hfin
    have := allMix_spec Ψ 0 xs (allV_spec n _ hfin xs hxs lo hi w1 hb hap) (by rw [hxs, hlen]) (fun j x hj hf hst => by rw [Nat.zero_add]; exact hall j x hj hf hst)
    exact ⟨this.1, wp_strong (fun a2 w2 ⟨v, e, hl, h⟩ => ⟨v, e, hl, h.out⟩) this.2.out⟩
end
section
variable {P : Program} {ops : Array Oper} {o : Oper} {a : Act} {w0 w : World} {rs : List Res}
def freshBox (t : TypeId) (cs : List Value) : Phi := fun lo hi v w => ∃ b, v = .pointer (some ⟨b, 0, none⟩) ∧ (Res.box b t cs).holds lo w ∧ b < hi
theorem freshBox_stable (t : TypeId) (cs : List Value) : (freshBox t cs).stable := by
  rintro lo hi v w1 w2 hb hh ⟨b, rfl, ho, hk⟩
  exact ⟨b, rfl, Res.holds_keep ho hb.size (fun k h => hb.block k (by cases h; omega)), hk⟩
theorem Yphi.alloc {t : TypeId} {z : Value} {cs : List Value} (ho : o.op = .alloc t) (hT : ZeroT P t z) (hv : z.cells.toList = cs) (hw : Region.wanted o (yielded ops a.tmps) = true) : Yphi P ops o a w (freshBox t cs) := by
  refine .inl ⟨hw, wp_alloc (St.start w) ho hT hv fun b w' st => ⟨_, rfl, st.below, b, rfl, st.get (i := 0) rfl, (Res.holds_lt (st.get (i := 0) rfl) rfl).2⟩⟩
theorem Yphi.known {φ : Phi} {v : Value} {r : Result Next} (hw : Region.wanted o (yielded ops a.tmps) = true) (hr : (execOp a.eval o).run P w = r) (hv : r = .ok (.value v) w) (hφ : φ w.heap.size w.heap.size v w) : Yphi P ops o a w φ :=
  .inl ⟨hw, wp_value (hr.trans hv) ⟨v, rfl, Below.refl _ _, hφ⟩⟩
def Res.within (lo hi : Nat) (r : Res) : Prop := ∀ k, r.blk = some k → lo ≤ k ∧ k < hi
theorem Res.apart {r s : Res} {lo1 hi1 lo2 hi2 : Nat} (h1 : r.within lo1 hi1) (h2 : s.within lo2 hi2) (hd : hi1 ≤ lo2 ∨ hi2 ≤ lo1) : r.ne s := fun k hk hk' => by
  have a1 := h1 k hk
  have a2 := h2 k hk'
  omega
theorem Res.within_row {w : World} {lo hi e size n c : Nat} {A : Option Addr} {xs : List Value} (h : w.ownsRow lo e size (.slice A n c) n xs) (hk : ∀ k, (Value.slice A n c).ownBlock = some k → k < hi) : (Res.row e size (.slice A n c) n xs).within lo hi :=
  fun k hb => ⟨(World.ownsRow.lt h k hb).1, hk k hb⟩
theorem St.also {r : Res} {w' : World} {lo hi : Nat} (st : St w0 w' rs) (old : w0.heap.size ≤ lo) (h : r.holds lo w') (hn : ∀ s ∈ rs, r.ne s) : St w0 w' (r :: rs) :=
  st.cons (Res.holds_mono h old) hn
end
end Go.Hp
namespace Go.Hp
open Go.RowKit
section
variable {P : Program} {o : Oper} {a : Act} {w0 w : World} {rs : List Res} {Q : Exit → Act → World → Prop} {K : Act → World → Prop}
theorem St.toBox {e size n c : Nat} {A : Option Addr} {xs : List Value} (st : St w0 w (.row e size (.slice A n c) n xs :: rs)) (hn : 0 < n) :
    ∃ g R, A = some ⟨g, 0, none⟩ ∧ xs.length = n * size ∧ (xs ++ R).length = c * size ∧ n ≤ c ∧ c ≤ maxLen ∧ St w0 w (.box g e (xs ++ R) :: rs) := by
  have h := st.holds _ (List.mem_cons_self ..)
  have hl := h.1
  rcases h.2 with ⟨hv, h0⟩ | ⟨g, cap, cur, hv, hbase, hg, hnc, hcap, hsz, htake⟩
  · omega
  · injection hv with h1 h2 h3
    subst h1; subst h3
    have hxs : xs ++ cur.toList.drop (n * size) = cur.toList := by rw [← htake, List.take_append_drop]
    refine ⟨g, cur.toList.drop (n * size), rfl, hl, by rw [hxs, Array.length_toList, hsz], hnc, hcap, st.tail.cons ⟨hbase, by rw [hxs]; exact hg⟩ fun s hs k hk => (List.pairwise_cons.1 st.apart).1 s hs k hk⟩
theorem St.ofBox {e size n c g : Nat} {xs R : List Value} (st : St w0 w (.box g e (xs ++ R) :: rs)) (hl : xs.length = n * size) (hc : (xs ++ R).length = c * size) (hn : n ≤ c) (hm : c ≤ maxLen) : St w0 w (.row e size (.slice (some ⟨g, 0, none⟩) n c) n xs :: rs) := by
  have h := st.holds _ (List.mem_cons_self ..)
  refine st.tail.cons ⟨hl, .inr ⟨g, c, (xs ++ R).toArray, rfl, h.1, h.2, hn, hm, by simpa using hc, ?_⟩⟩ fun s hs k hk => (List.pairwise_cons.1 st.apart).1 s hs k hk
  rw [← hl]
  simp
theorem run_clear_box {t e b p n c bt : Nat} {z : Value} {size bytes : Nat} {cs : List Value} (hT : SliceT P t e z size bytes) (hZ : ZeroT P e z) (ty : TypeId) (hn : 0 < n) (hb : w.heap[b]? = some (.cells cs.toArray bt (0, 0))) (hp : p + n * size ≤ cs.length) (h1 : ∀ u ∈ (Builtin.zeroCells z.cells n).toList, u.oneCell' = true) :
    (Builtin.clear_ #[t] ty #[.slice (some ⟨b, p, none⟩) n c]).run P w = .ok (.tuple #[]) (w.setRow b (cs.take p ++ (Builtin.zeroCells z.cells n).toList ++ cs.drop (p + n * size)).toArray) := by
  have hzl : (Builtin.zeroCells z.cells n).toList.length = n * size := by simp [Builtin.zeroCells, hT.cells]
  have hst := run_storeCells_at P b p bt (Builtin.zeroCells z.cells n).toList 0 cs.toArray w hb (by rw [hzl]; simpa using hp) h1
  simp only [Nat.add_zero, hzl] at hst
  have hn0 : n ≠ 0 := by omega
  obtain ⟨m, rfl⟩ : ∃ m, n = m + 1 := ⟨n - 1, by omega⟩
  simp [Builtin.clear_, run_underlying hT.under, hZ.zero, hst]
theorem ow_clear {t e : TypeId} {z : Value} {size bytes i b p n c bt : Nat} {cs : List Value} {rs' : List Res} {x : Operand} (st : St w0 w rs) (ho : o.op = .call { callee := .builtin .clear, args := #[x], argTypes := #[t] }) (hT : SliceT P t e z size bytes) (hZ : ZeroT P e z)
    (hx : a.eval x = .slice (some ⟨b, p, none⟩) n c) (hi : rs[i]? = some (.box b bt cs)) (hn : 0 < n) (hp : p + n * size ≤ cs.length) (h1 : ∀ u ∈ (Builtin.zeroCells z.cells n).toList, u.oneCell' = true)
    (hrs : rs.set i (.box b bt (cs.take p ++ (Builtin.zeroCells z.cells n).toList ++ cs.drop (p + n * size))) = rs') (h : ∀ w', St w0 w' rs' → K (a.put o.dst (.tuple #[])) w') : OW P o a w K Q := by
  have hrun := run_clear_box (P := P) (w := w) (c := c) hT hZ o.type hn (st.blk hi) hp h1
  refine OW.mk ?_
  unfold Oper.wp execOp
  simp only [ho, resolve, invoke, builtin, Sem.run_bind, Sem.run_pure, Result.andThen_ok, List.map_toArray, List.map_cons, List.map_nil, hx, hrun]
  exact h _ (hrs ▸ st.store (o := p) (n := n * size) (vs := (Builtin.zeroCells z.cells n).toList) hi)
end
end Go.Hp
namespace Ck
def goE (E : Nat → Int) : Nat → Int
  | 0 => 0
  | k + 1 => if goE E k = 0 then E k else goE E k
theorem goE_stop (E : Nat → Int) {k : Nat} (h : goE E k = 0) (hE : E k ≠ 0) : ∀ n, k < n → goE E n = E k
  | 0, hn => by omega
  | n + 1, hn => by
    show (if goE E n = 0 then E n else goE E n) = E k
    by_cases hkn : k = n
    · subst hkn
      rw [if_pos h]
    · rw [goE_stop E h hE n (by omega), if_neg hE]
theorem goE_next (E : Nat → Int) {k : Nat} (h : goE E k = 0) : goE E (k + 1) = E k := if_pos h
theorem goE_zero (E : Nat → Int) : ∀ n, (∀ k, k < n → E k = 0) → goE E n = 0
  | 0, _ => rfl
  | n + 1, h => by rw [goE_next E (goE_zero E n fun k hk => h k (by omega))]; exact h n (by omega)
theorem goE_all (E : Nat → Int) : ∀ n, goE E n = 0 → ∀ k, k < n → E k = 0
  | 0, _, k, hk => by omega
  | n + 1, h, k, hk => by
    by_cases h0 : goE E n = 0
    · rw [goE_next E h0] at h
      by_cases hkn : k = n
      · rw [hkn]; exact h
      · exact goE_all E n h0 k (by omega)
    · exact absurd h (by show (if goE E n = 0 then E n else goE E n) ≠ 0; rw [if_neg h0]; exact h0)
theorem goE_congr {E F : Nat → Int} : ∀ n, (∀ k, k < n → E k = F k) → goE E n = goE F n
  | 0, _ => rfl
  | n + 1, h => by
    show (if goE E n = 0 then E n else goE E n) = (if goE F n = 0 then F n else goE F n)
    rw [goE_congr n fun k hk => h k (by omega), h n (by omega)]
def goI (E : Nat → Int) : Nat → Int
  | 0 => 0
  | k + 1 => if goE E k = 0 then (if E k = 0 then 0 else k) else goI E k
theorem goI_stop (E : Nat → Int) {k : Nat} (h : goE E k = 0) (hE : E k ≠ 0) : ∀ n, k < n → goI E n = k
  | 0, hn => by omega
  | n + 1, hn => by
    show (if goE E n = 0 then (if E n = 0 then 0 else (n : Int)) else goI E n) = k
    by_cases hkn : k = n
    · subst hkn
      rw [if_pos h, if_neg hE]
    · rw [goE_stop E h hE n (by omega), if_neg hE]
      exact goI_stop E h hE n (by omega)
theorem goI_zero (E : Nat → Int) : ∀ n, goE E n = 0 → goI E n = 0
  | 0, _ => rfl
  | n + 1, h => by
    show (if goE E n = 0 then (if E n = 0 then 0 else (n : Int)) else goI E n) = 0
    by_cases h0 : goE E n = 0
    · rw [goE_next E h0] at h
      rw [if_pos h0, if_pos h]
    · exact absurd h (by show (if goE E n = 0 then E n else goE E n) ≠ 0; rw [if_neg h0]; exact h0)
def it {S : Type} (f : S → Nat → S) (s : S) : Nat → S
  | 0 => s
  | k + 1 => f (it f s k) k
def wi (n lo hi : Int) : Bool := decide (lo ≤ n) && decide (n ≤ hi)
def first : List Int → Int
  | [] => 0
  | e :: l => if e = 0 then first l else e
structure Run where
  s : Int
  l : Int
  deriving DecidableEq
structure Ref where
  r : Int
  q : Int
  deriving DecidableEq
structure Nm where
  d : Ref
  n : List UInt8
  deriving DecidableEq
structure En where
  n : List UInt8
  f : Ref
  z : Int
  deriving DecidableEq
structure Sm where
  r : List Run
  z : Int
  deriving DecidableEq
structure Rc where
  u : Bool
  q : Int
  k : Int
  b : Ref
  ln : Int
  ds : Int
  ns : List Nm
  ss : List Sm
  es : List En
  deriving DecidableEq
structure Pt where
  c : Int
  al : List Run
  rs : List Rc
  ds : List Int
  mp : List UInt8
  deriving DecidableEq
structure Fd where
  k : Int
  r : Int
  i : Int
  deriving DecidableEq
def Ref.o : Ref := ⟨0, 0⟩
def Run.o : Run := ⟨0, 0⟩
def Nm.o : Nm := ⟨Ref.o, []⟩
def En.o : En := ⟨[], Ref.o, 0⟩
def Sm.o : Sm := ⟨[], 0⟩
def Rc.o : Rc := ⟨false, 0, 0, Ref.o, 0, 0, [], [], []⟩
def Fd.o : Fd := ⟨0, 0, 0⟩
def at_ {α : Type} (o : α) (l : List α) (i : Nat) : α := l[i]?.getD o
theorem at_eq {α : Type} (o : α) (l : List α) (i : Nat) (h : i < l.length) : at_ o l i = l[i] := by unfold at_; rw [List.getElem?_eq_getElem h]; rfl
theorem at_mem {α : Type} (o : α) (l : List α) (i : Nat) (h : i < l.length) : at_ o l i ∈ l := by rw [at_eq o l i h]; exact List.getElem_mem h
theorem at_map {α β : Type} (f : α → β) (o : α) (o' : β) (l : List α) (i : Nat) (h : i < l.length) : at_ o' (l.map f) i = f (at_ o l i) := by
  rw [at_eq o l i h, at_eq o' _ i (by rw [List.length_map]; exact h), List.getElem_map]
theorem take_at {α : Type} (o : α) (l : List α) (i : Nat) (h : i < l.length) : l.take (i + 1) = l.take i ++ [at_ o l i] := by rw [at_eq o l i h, List.take_succ_eq_append_getElem h]
theorem drop_at {α : Type} (o : α) (l : List α) (i : Nat) (h : i < l.length) : l.drop i = at_ o l i :: l.drop (i + 1) := by rw [at_eq o l i h, List.drop_eq_getElem_cons h]
theorem at_set_same {α : Type} (o : α) (l : List α) (i : Nat) (x : α) (h : i < l.length) : at_ o (l.set i x) i = x := by
  rw [at_eq o _ i (by rw [List.length_set]; exact h), List.getElem_set_self]
theorem at_set_ne {α : Type} (o : α) (l : List α) (i j : Nat) (x : α) (h : i ≠ j) : at_ o (l.set i x) j = at_ o l j := by
  unfold at_; rw [List.getElem?_set_ne h]
def refErr (r : Ref) : Int := if wi r.r 0 95 && wi r.q 1 65535 then 0 else 2
def num (n : Int) : Bool := wi n 0 2147483647
def legalB (c : UInt8) : Bool := decide (32 ≤ c.toNat) && decide (c.toNat ≤ 126) && !([34, 42, 47, 58, 60, 62, 63, 92, 124].contains c)
def legal (s : List UInt8) : Bool := s != [] && decide (s.length ≤ 32) && s.all legalB && s != [46, 46] && s.getLast? != some 32 && s.getLast? != some 46
def nameErr (s : List UInt8) : Int := if 32 < s.length then 8 else if legal s then 0 else 4
def nmErr (x : Nm) : Int := if refErr x.d = 0 then nameErr x.n else refErr x.d
def enErr (x : En) : Int := if nameErr x.n = 0 then (if refErr x.f = 0 then (if num x.z then 0 else 2) else refErr x.f) else nameErr x.n
def badRun (r : Run) : Bool := !(wi r.s (-1) 2147483647) || !(wi r.l 1 512)
def smErr (x : Sm) : Int := if 24 < x.r.length then 8 else if !(x.r.any badRun) && num x.z then 0 else 2
def most (d : Int) : Nat := if d = 5 then 700 else 200
def nmsErr (x : Rc) : Int := goE (fun i => nmErr (at_ Nm.o x.ns i)) x.ns.length
def smsErr (x : Rc) : Int := goE (fun i => smErr (at_ Sm.o x.ss i)) x.ss.length
def ensErr (x : Rc) : Int := goE (fun i => enErr (at_ En.o x.es i)) x.es.length
def Rc.parts (x : Rc) : Nat := x.ns.length + x.ss.length + x.es.length
def headErr (i : Int) (x : Rc) : Int :=
  if !(wi x.q 1 65535) || !(wi x.k 0 3) || !(num x.ln) || !(num x.ds) then 2
  else if !x.u && (x.b != Ref.o || decide (0 < x.ln + x.ds + x.parts + x.k)) then 3
  else if (if x.k = 3 then refErr x.b else if x.b = Ref.o then 0 else 2) ≠ 0 then 2
  else if 8 < x.ns.length ∨ 8 < x.ss.length ∨ most i < x.es.length then 8
  else if (0 < x.es.length ∧ x.k ≠ 0) ∨ (0 < x.ns.length ∧ (x.k = 3 ∨ i < 16)) then 3
  else 0
def recErr (i : Int) (x : Rc) : Int := first [headErr i x, nmsErr x, smsErr x, ensErr x]
def alErr (c : Int) (r : Run) : Int := if wi r.s 0 (c - 1) && wi r.l 1 (c - r.s) then 0 else 2
def dsErr (l : List Int) (i : Nat) : Int := if wi (at_ 0 l i) 1 2147483647 then (if 0 < i ∧ at_ 0 l i ≤ at_ 0 l (i - 1) then 9 else 0) else 2
def mapErr (s : List UInt8) (c : Int) : Int :=
  if wi c 0 4096 then (if s.length = ((c + 7) / 8).toNat then (if c % 8 = 0 ∨ (s.getLast?.getD 0).toNat / 2 ^ (c % 8).toNat = 0 then 0 else 3) else 10) else 2
def wholeErr (v : Pt) : Int :=
  first [if wi v.c 64 512 then 0 else 2, if 24 < v.al.length ∨ 96 < v.rs.length ∨ 64 < v.ds.length then 8 else 0, goE (fun i => alErr v.c (at_ Run.o v.al i)) v.al.length, goE (dsErr v.ds) v.ds.length,
    if v.ds.length = 0 then 17 else 0, mapErr v.mp v.c]
def rootErr (v : Pt) : Int := if v.rs.length ≤ 5 ∨ (at_ Rc.o v.rs 5).u = false ∨ (at_ Rc.o v.rs 5).k ≠ 0 then 6 else 0
def recsErr (v : Pt) : Int := goE (fun i => recErr i (at_ Rc.o v.rs i)) v.rs.length
def partsErr (v : Pt) : Int := first [wholeErr v, rootErr v, recsErr v]
def partsIx (v : Pt) : Int := if wholeErr v ≠ 0 then 0 else if rootErr v ≠ 0 then 5 else goI (fun i => recErr i (at_ Rc.o v.rs i)) v.rs.length
def upB (c : UInt8) : UInt8 := if 97 ≤ c.toNat ∧ c.toNat ≤ 122 then c - 32 else c
def fold (s : List UInt8) : List UInt8 := if nameErr s = 0 then s.map upB else []
def same (a b : List UInt8) : Bool := fold a == fold b
def own (x : Rc) : Bool := x.u && x.k != 3
def dir (x : Rc) : Bool := x.u && x.k == 0
def rc (v : Pt) (i : Int) : Rc := at_ Rc.o v.rs i.toNat
def right (v : Pt) (r : Ref) : Bool := wi r.r 0 ((v.rs.length : Int) - 1) && own (rc v r.r) && (rc v r.r).q == r.q
def sizeOf (x : Rc) : Int := if x.k = 1 ∧ 0 < x.ss.length then (at_ Sm.o x.ss 0).z else 0
structure Rp where
  v : Pt
  fd : List Fd
  fl : List Int
  deriving DecidableEq
def Rp.note (p : Rp) (k r i : Int) : Rp := { p with fd := p.fd ++ [⟨k, r, i⟩], fl := p.fl ++ [-1] }
def Rp.setR (p : Rp) (i : Nat) (x : Rc) : Rp := { p with v := { p.v with rs := p.v.rs.set i x } }
def Rp.rc (p : Rp) (i : Int) : Rc := Ck.rc p.v i
def Rp.ref (p : Rp) (i : Int) : Ref := ⟨i, (p.rc i).q⟩
def lostStep (p : Rp) (i : Nat) : Rp :=
  let x := p.rc i
  if x.u && x.k == 3 && !right p.v x.b then (p.note 0 i 0).setR i { Rc.o with q := x.q % 65535 + 1 } else p
def lostParts (p : Rp) : Rp := it lostStep p p.v.rs.length
def fill (t : List Bool) (s : Int) : Nat → List Bool
  | 0 => t
  | k + 1 => (fill t s k).set (s + k).toNat true
def taken (v : Pt) : List Bool := it (fun t i => fill t (at_ Run.o v.al i).s (at_ Run.o v.al i).l.toNat) (List.replicate v.c.toNat false) v.al.length
def take1 (t : List Bool) (s : Int) (k : Nat) : Nat → List Bool × Option Nat
  | 0 => (t, none)
  | n + 1 => if s + k < t.length ∧ at_ false t (s + k).toNat = false then take1 (t.set (s + k).toNat true) s (k + 1) n else (t, some k)
def cutGo (t : List Bool) (acc : List Run) : List Run → List Bool × Option (List Run)
  | [] => (t, none)
  | r :: l =>
    if r.s = -1 then cutGo t (acc ++ [r]) l
    else match take1 t r.s 0 r.l.toNat with
      | (t', none) => cutGo t' (acc ++ [r]) l
      | (t', some k) => (t', some (acc ++ if 0 < k then [⟨r.s, k⟩] else []))
def cut (l : List Run) (t : List Bool) : List Bool × Option (List Run) := cutGo t [] l
def clusters (l : List Run) : Int := it (fun n i => n + (at_ Run.o l i).l) 0 l.length
def cutStep (i : Nat) (s : Rp × List Bool) (k : Nat) : Rp × List Bool :=
  let x := s.1.rc i
  let y := at_ Sm.o x.ss k
  match cut y.r s.2 with
  | (t, none) => (s.1, t)
  | (t, some l) => ((s.1.note 1 i k).setR i { x with ss := x.ss.set k ⟨l, min y.z (clusters l * 256)⟩ }, t)
def badRunsStep (s : Rp × List Bool) (i : Nat) : Rp × List Bool :=
  if (s.1.rc i).u then it (cutStep i) s (s.1.rc i).ss.length else s
def badRuns (p : Rp) : Rp := (it badRunsStep (p, taken p.v) p.v.rs.length).1
def descStep (p : Rp) (i : Nat) : Rp :=
  let x := p.rc i
  if own x && !p.v.ds.contains x.ds then (p.note 2 i 0).setR i { x with ds := at_ 0 p.v.ds 0 } else p
def descriptors (p : Rp) : Rp := it descStep p p.v.rs.length
def isEntry (p : Rp) (d : Int) (before : List En) (x : En) : Bool :=
  !before.any (fun y => same x.n y.n) && right p.v x.f && decide (16 ≤ x.f.r) && (p.rc x.f.r).ns.contains ⟨p.ref d, x.n⟩
def setLast (l : List Int) (n : Int) : List Int := l.set (l.length - 1) n
def entryStep (i : Nat) (es : List En) (s : Rp × List En) (k : Nat) : Rp × List En :=
  let x := at_ En.o es k
  if isEntry s.1 i s.2 x then (s.1, s.2 ++ [x])
  else
    let p := s.1.note 3 i s.2.length
    (if x.f.r < p.v.rs.length ∧ (p.rc x.f.r).q = x.f.q then { p with fl := setLast p.fl x.f.r } else p, s.2)
def badEntriesStep (p : Rp) (i : Nat) : Rp :=
  if dir (p.rc i) then
    let s := it (entryStep i (p.rc i).es) (p, []) (p.rc i).es.length
    s.1.setR i { s.1.rc i with es := s.2 }
  else p
def badEntries (p : Rp) : Rp := it badEntriesStep p p.v.rs.length
def ixE (n : List UInt8) : List En → Option Nat
  | [] => none
  | x :: l => if same x.n n then some 0 else (ixE n l).map (· + 1)
def isName (p : Rp) (r : Nat) (before : List Nm) (n : Nm) : Bool × Bool :=
  if right p.v n.d && (p.rc n.d.r).k == 0 then
    if before.any (fun y => decide (y.d = n.d) && same y.n n.n) then (false, false)
    else if before ≠ [] ∧ (p.rc r).k ≠ 1 then (false, false)
    else match ixE n.n (p.rc n.d.r).es with
      | none => (decide ((p.rc n.d.r).es.length < most n.d.r), false)
      | some k => (decide ((at_ En.o (p.rc n.d.r).es k).f = p.ref r ∧ (at_ En.o (p.rc n.d.r).es k).n = n.n), true)
  else (false, false)
def drop (p : Rp) (r : Nat) (n : Nm) : Rp :=
  if right p.v n.d && (p.rc n.d.r).k == 0 then
    p.setR n.d.r.toNat { p.rc n.d.r with es := (p.rc n.d.r).es.filter fun x => !(decide (x.f = p.ref r) && decide (x.n = n.n)) }
  else p
def enter (p : Rp) (d : Int) (n : List UInt8) (r : Nat) : Rp :=
  p.setR d.toNat { p.rc d with es := (p.rc d).es ++ [⟨n, p.ref r, sizeOf (p.rc r)⟩] }
def nameStep (i : Nat) (all : List Nm) (s : Rp × List Nm) (k : Nat) : Rp × List Nm :=
  let n := at_ Nm.o all k
  if (isName s.1 i s.2 n).1 then
    (if (isName s.1 i s.2 n).2 then s.1 else enter (s.1.note 5 i s.2.length) n.d.r n.n i, s.2 ++ [n])
  else
    let p := s.1.note 4 i s.2.length
    (if !s.2.contains n && !(all.drop (k + 1)).contains n then drop p i n else p, s.2)
def badNames1 (p : Rp) (i : Nat) : Rp :=
  let s := it (nameStep i (p.rc i).ns) (p, []) (p.rc i).ns.length
  s.1.setR i { s.1.rc i with ns := s.2 }
def below (f : Rp → Nat → Rp) (p : Rp) : Rp := it (fun q j => if own (q.rc (16 + j : Nat)) then f q (16 + j) else q) p (p.v.rs.length - 16)
def badNames (p : Rp) : Rp := below badNames1 p
def reachIn (v : Pt) (es : List En) (s : List Bool × List Int) (k : Nat) : List Bool × List Int :=
  let x := at_ En.o es k
  if right v x.f && !at_ false s.1 x.f.r.toNat then (s.1.set x.f.r.toNat true, if dir (rc v x.f.r) then s.2 ++ [x.f.r] else s.2) else s
def reachGo (v : Pt) : Nat → List Bool × List Int → List Bool
  | 0, s => s.1
  | m + 1, s =>
    match s.2 with
    | [] => s.1
    | d :: l => reachGo v m (it (reachIn v (rc v d).es) (s.1, l) (rc v d).es.length)
def reached (v : Pt) : List Bool := reachGo v (v.rs.length + 1) ((List.replicate v.rs.length false).set 5 true, [5])
def digit (n : Nat) : UInt8 := UInt8.ofNat (48 + n % 10)
def dec (n : Nat) : List UInt8 := if n < 10 then [digit n] else dec (n / 10) ++ [digit n]
decreasing_by omega
def found : List UInt8 := [102, 111, 117, 110, 100, 46]
def bringName (r : Nat) : Nat → List UInt8
  | 0 => found ++ dec r
  | k + 1 => found ++ dec r ++ [46] ++ dec (k + 1)
def bringK (es : List En) (r : Nat) (k : Nat) : Nat → Nat
  | 0 => k
  | m + 1 => if es.any (fun x => same x.n (bringName r k)) then bringK es r (k + 1) m else k
def bring (p : Rp) (r : Nat) : Rp :=
  let n := bringName r (bringK (p.rc 5).es r 0 ((p.rc 5).es.length + 1))
  enter (p.setR r { p.rc r with ns := [⟨p.ref 5, n⟩] }) 5 n r
def orphan1 (p : Rp) (i : Nat) : Rp := if (p.rc i).ns.length = 0 then bring (p.note 6 i 0) i else p
def orphans (p : Rp) : Rp := below orphan1 p
def cycleStep (p : Rp) (j : Nat) : Rp :=
  let i := 16 + j
  if dir (p.rc i) && !at_ false (reached p.v) i then
    bring (it (fun q k => drop q i (at_ Nm.o (p.rc i).ns k)) (p.note 7 i 0) (p.rc i).ns.length) i
  else p
def cycles (p : Rp) : Rp := it cycleStep p (p.v.rs.length - 16)
def link1 (p : Rp) (i : Nat) : Rp :=
  if (p.rc i).ln ≠ (p.rc i).ns.length then (p.note 8 i 0).setR i { p.rc i with ln := (p.rc i).ns.length } else p
def links (p : Rp) : Rp := below link1 p
def sizeStep (i : Nat) (p : Rp) (k : Nat) : Rp :=
  let x := at_ En.o (p.rc i).es k
  if right p.v x.f && x.z != sizeOf (p.rc x.f.r) then
    (p.note 9 i k).setR i { p.rc i with es := (p.rc i).es.set k { x with z := sizeOf (p.rc x.f.r) } }
  else p
def sizesStep (p : Rp) (i : Nat) : Rp := if dir (p.rc i) then it (sizeStep i) p (p.rc i).es.length else p
def sizes (p : Rp) : Rp := it sizesStep p p.v.rs.length
def setBit (t : List UInt8) (c : Nat) : List UInt8 := t.set (c / 8) (at_ 0 t (c / 8) ||| UInt8.ofNat (2 ^ (c % 8)))
def mark1 (c : Int) (r : Run) (t : List UInt8) (k : Nat) : List UInt8 := if r.s ≠ -1 ∧ r.s + k < c then setBit t (r.s + k).toNat else t
def mark (c : Int) (l : List Run) (t : List UInt8) : List UInt8 := it (fun t i => it (mark1 c (at_ Run.o l i)) t (at_ Run.o l i).l.toNat) t l.length
def markRec (c : Int) (x : Rc) (t : List UInt8) : List UInt8 := it (fun t k => mark c (at_ Sm.o x.ss k).r t) t x.ss.length
def used (v : Pt) : List UInt8 := it (fun t i => markRec v.c (at_ Rc.o v.rs i) t) (mark v.c v.al (List.replicate ((v.c + 7) / 8).toNat 0)) v.rs.length
def bitAt (t : List UInt8) (c : Nat) : Nat := (at_ 0 t (c / 8)).toNat / 2 ^ (c % 8) % 2
def bitStep (want : List UInt8) (p : Rp) (c : Nat) : Rp := if bitAt want c ≠ bitAt p.v.mp c then p.note 10 c 0 else p
def bits (p : Rp) : Rp :=
  let q := it (bitStep (used p.v)) p p.v.c.toNat
  { q with v := { q.v with mp := used p.v } }
def repaired (v : Pt) : Rp := bits (sizes (links (cycles (orphans (badNames (badEntries (descriptors (badRuns (lostParts ⟨v, [], []⟩)))))))))
def concerns (p : Rp) (r : Int) : Bool := (List.range p.fd.length).any fun i => decide ((at_ Fd.o p.fd i).k ≤ 7) && (decide ((at_ Fd.o p.fd i).r = r) || decide (at_ 0 p.fl i = r))
def reachedIn (v : Pt) : List Int := ((List.range v.rs.length).filter fun i => at_ false (reached v) i).map fun (i : Nat) => (i : Int)
def soundIn (v : Pt) : List Int := ((List.range v.rs.length).filter fun i => decide (16 ≤ i) && own (at_ Rc.o v.rs i) && (at_ Rc.o v.rs i).k != 0 && !concerns (repaired v) i).map fun (i : Nat) => (i : Int)
def walkL (v : Pt) (g : Int → List UInt8 → List (List UInt8) → List (List UInt8) × Bool) (path : List UInt8) : List (List UInt8) → List En → List (List UInt8) × Bool
  | ps, [] => (ps, true)
  | ps, x :: l =>
    if right v x.f then
      if 500 < ps.length + 1 then (ps ++ [path ++ 47 :: x.n], false)
      else if dir (rc v x.f.r) then
        if (g x.f.r (path ++ 47 :: x.n) (ps ++ [path ++ 47 :: x.n])).2 then walkL v g path (g x.f.r (path ++ 47 :: x.n) (ps ++ [path ++ 47 :: x.n])).1 l
        else ((g x.f.r (path ++ 47 :: x.n) (ps ++ [path ++ 47 :: x.n])).1, false)
      else walkL v g path (ps ++ [path ++ 47 :: x.n]) l
    else walkL v g path ps l
def walk (v : Pt) : Nat → Int → List UInt8 → List (List UInt8) → List (List UInt8) × Bool
  | 0, _, _, ps => (ps, true)
  | m + 1, d, path, ps => walkL v (walk v m) path ps (rc v d).es
def pathsIn (v : Pt) : Option (List (List UInt8)) := if (walk v 24 5 [] [[47]]).2 then some (walk v 24 5 [] [[47]]).1 else none
end Ck
namespace Go.Hp
open Go.RowKit
def OldC (w : World) (b p : Nat) (vs : List Value) : Prop := ∀ j v, vs[j]? = some v → w.cell? ⟨b, p + j, none⟩ = some v
section
variable {P : Program} {ops : Array Oper} {o : Oper} {a : Act} {w0 w : World} {rs : List Res} {Q : Exit → Act → World → Prop} {K : Act → World → Prop}
theorem OldC.below {B b p : Nat} {vs : List Value} {w' : World} (h : OldC w b p vs) (hb : Below B w w') (hB : b < B) : OldC w' b p vs := fun j v hj => (hb.cell (p := ⟨b, p + j, none⟩) hB).trans (h j v hj)
theorem ow_oldC {t n : Nat} {x : Operand} {b p : Nat} {vs : List Value} (st : St w0 w rs) (ho : o.op = .load t x) (hT : AggT P t n) (hx : a.eval x = .pointer (some ⟨b, p, none⟩)) (hb : b < w0.heap.size) (hv : OldC w0 b p vs) (hn : vs.length = n)
    (h : K (a.put o.dst (.agg vs.toArray)) w) : OW P o a w K Q := OW.mk (wp_rowN ho hT hx hn (fun j v hj => (st.old hb).trans (hv j v hj)) h)
theorem Yphi.oldC {t n : Nat} {x : Operand} {b p : Nat} {vs : List Value} (st : St w0 w rs) (ho : o.op = .load t x) (hT : AggT P t n) (hw : Region.wanted o (yielded ops a.tmps) = true) (hx : a.eval x = .pointer (some ⟨b, p, none⟩)) (hb : b < w0.heap.size) (hv : OldC w0 b p vs) (hn : vs.length = n) : Yphi P ops o a w (isV (.agg vs.toArray)) :=
  .inl ⟨hw, wp_rowN ho hT hx hn (fun j v hj => (st.old hb).trans (hv j v hj)) ⟨_, rfl, Below.refl _ _, rfl⟩⟩
theorem ow_hereC {t n : Nat} {x : Operand} {b p : Nat} {vs : List Value} (ho : o.op = .load t x) (hT : AggT P t n) (hx : a.eval x = .pointer (some ⟨b, p, none⟩)) (hv : OldC w b p vs) (hn : vs.length = n)
    (h : K (a.put o.dst (.agg vs.toArray)) w) : OW P o a w K Q := OW.mk (wp_rowN ho hT hx hn hv h)
theorem ow_here1 {t : TypeId} {x : Operand} {b p : Nat} {v : Value} (ho : o.op = .load t x) (hT : OneT P t) (hx : a.eval x = .pointer (some ⟨b, p, none⟩)) (hv : w.cell? ⟨b, p, none⟩ = some v)
    (h : K (a.put o.dst v) w) : OW P o a w K Q := by
  refine OW.mk (wp_value ?_ h)
  simp [execOp, ho, hx, run_load1 (P := P) (t := t) (hT := hT) hv]
theorem Yphi.hereC {t n : Nat} {x : Operand} {b p : Nat} {vs : List Value} (ho : o.op = .load t x) (hT : AggT P t n) (hw : Region.wanted o (yielded ops a.tmps) = true) (hx : a.eval x = .pointer (some ⟨b, p, none⟩)) (hv : OldC w b p vs) (hn : vs.length = n) : Yphi P ops o a w (isV (.agg vs.toArray)) :=
  .inl ⟨hw, wp_rowN ho hT hx hn hv ⟨_, rfl, Below.refl _ _, rfl⟩⟩
theorem St.perm {rs' : List Res} (st : St w0 w rs) (h : rs.Perm rs') : St w0 w rs' :=
  ⟨st.below, fun r hr => st.holds r (h.mem_iff.2 hr), (h.pairwise_iff (fun h => Res.ne_symm h)).1 st.apart⟩
theorem St.part {rs' : List Res} (l : List Res) (st : St w0 w rs) (h : rs.Perm (rs' ++ l)) : St w0 w rs' :=
  have st' := st.perm h
  ⟨st'.below, fun r hr => st'.holds r (List.mem_append_left _ hr), (List.pairwise_append.1 st'.apart).1⟩
theorem St.boxC {i b : Nat} {t : TypeId} {cs : List Value} (st : St w0 w rs) (hi : rs[i]? = some (.box b t cs)) : OldC w b 0 cs := fun j v hj => by rw [Nat.zero_add, st.cell hi]; exact hj
theorem St.room0 (st : St w0 w rs) : St w0 w (.room 0 :: rs) := st.cons (Nat.zero_le _) fun s _ k hk => by cases hk
end
class El (α : Type) (n : outParam Nat) where
  cells : α → List Value
  o : α
  len : ∀ a, (cells a).length = n
  one : ∀ a, ∀ u ∈ cells a, u.oneCell' = true
  pos : 0 < n
def El.all {α : Type} {n : Nat} [El α n] (l : List α) : List Value := l.flatMap El.cells
abbrev El.ix {α : Type} {n : Nat} [El α n] (l : List α) (i : Nat) : α := Ck.at_ (El.o) l i
section
variable {α : Type} {n : Nat} [E : El α n]
theorem El.all_length (l : List α) : (El.all l).length = l.length * n := by
  induction l with
  | nil => simp [El.all]
  | cons q l ih =>
    show (El.cells q ++ El.all l).length = _
    rw [List.length_append, ih, List.length_cons, El.len, Nat.add_mul, Nat.one_mul, Nat.add_comm]
theorem El.all_append (a b : List α) : El.all (a ++ b) = El.all a ++ El.all b := List.flatMap_append ..
theorem El.all_one (l : List α) : ∀ u ∈ El.all l, u.oneCell' = true := by
  intro u hu
  obtain ⟨q, _, hq⟩ := List.mem_flatMap.1 hu
  exact El.one q u hq
theorem El.all_get (l : List α) (i : Nat) (h : i < l.length) (j : Nat) (hj : j < n) : (El.all l)[i * n + j]? = (El.cells (El.ix l i))[j]? := by
  induction l generalizing i with
  | nil => simp at h
  | cons q l ih =>
    show (El.cells q ++ El.all l)[i * n + j]? = _
    have hl : (El.cells q).length = n := El.len q
    cases i with
    | zero =>
      rw [List.getElem?_append_left (by omega), Nat.zero_mul, Nat.zero_add]
      rfl
    | succ i =>
      have e : (i + 1) * n + j = n + (i * n + j) := by rw [Nat.add_mul, Nat.one_mul]; omega
      rw [e, List.getElem?_append_right (by omega), hl, Nat.add_sub_cancel_left, ih i (by simpa using h)]
      rfl
theorem El.take (M : List α) (R : List Value) (k : Nat) (h : k < M.length) : ((El.all M ++ R).drop (k * n)).take n = El.cells (El.ix M k) := by
  have hl : (El.cells (El.ix M k)).length = n := El.len _
  have hb : k * n + n ≤ (El.all M).length := by
    rw [El.all_length, ← Nat.succ_mul]
    exact Nat.mul_le_mul_right _ h
  apply List.ext_getElem?
  intro j
  by_cases hj : j < n
  · rw [List.getElem?_take, if_pos hj, List.getElem?_drop, List.getElem?_append_left (by omega), El.all_get M k h j hj]
  · rw [List.getElem?_take, if_neg hj, List.getElem?_eq_none (by omega)]
theorem El.set (M : List α) (R : List Value) (k : Nat) (a : α) (h : k < M.length) : (El.all M ++ R).take (k * n) ++ El.cells a ++ (El.all M ++ R).drop (k * n + n) = El.all (M.set k a) ++ R := by
  have h1 : (El.all (M.take k)).length = k * n := by rw [El.all_length, List.length_take, Nat.min_eq_left (by omega)]
  have h2 : (El.all (M.take (k + 1))).length = k * n + n := by rw [El.all_length, List.length_take, Nat.min_eq_left (by omega), Nat.add_mul, Nat.one_mul]
  have e1 : (El.all M ++ R).take (k * n) = El.all (M.take k) := by
    conv => lhs; rw [← List.take_append_drop k M, El.all_append]
    rw [List.append_assoc, List.take_append_of_le_length (by omega), List.take_of_length_le (by omega)]
  have e2 : (El.all M ++ R).drop (k * n + n) = El.all (M.drop (k + 1)) ++ R := by
    conv => lhs; rw [← List.take_append_drop (k + 1) M, El.all_append]
    rw [List.append_assoc, ← h2, List.drop_left]
  rw [e1, e2, List.set_eq_take_append_cons_drop, if_pos h, El.all_append]
  show _ = (El.all (M.take k) ++ (El.cells a ++ El.all (M.drop (k + 1)))) ++ R
  simp only [List.append_assoc]
theorem El.cell (M : List α) (R : List Value) (k : Nat) (h : k < M.length) (j : Nat) (hj : j < n) : (El.all M ++ R)[k * n + j]? = (El.cells (El.ix M k))[j]? := by
  have hb : k * n + n ≤ (El.all M).length := by
    rw [El.all_length, ← Nat.succ_mul]
    exact Nat.mul_le_mul_right _ h
  rw [List.getElem?_append_left (by omega), El.all_get M k h j hj]
theorem El.set1 (M : List α) (R : List Value) (k : Nat) (h : k < M.length) (j : Nat) (hj : j < n) (v : Value) (a : α) (ha : El.cells a = (El.cells (El.ix M k)).set j v) :
    (El.all M ++ R).take (k * n + j) ++ [v] ++ (El.all M ++ R).drop (k * n + j + 1) = El.all (M.set k a) ++ R := by
  have hb : k * n + n ≤ (El.all M).length := by
    rw [El.all_length, ← Nat.succ_mul]
    exact Nat.mul_le_mul_right _ h
  rw [← El.set M R k a h, ha]
  have hlen : (El.all M ++ R).length = (El.all M).length + R.length := List.length_append
  have hcl : ((El.cells (El.ix M k)).set j v).length = n := by rw [List.length_set]; exact El.len _
  apply List.ext_getElem?
  intro i
  rw [List.append_assoc, List.append_assoc]
  by_cases h1 : i < k * n
  · rw [List.getElem?_append_left (by rw [List.length_take]; omega), List.getElem?_append_left (by rw [List.length_take]; omega), List.getElem?_take, if_pos (by omega), List.getElem?_take, if_pos h1]
  · rw [List.getElem?_append_right (l₁ := (El.all M ++ R).take (k * n)) (by rw [List.length_take]; omega)]
    rw [show ((El.all M ++ R).take (k * n)).length = k * n by rw [List.length_take]; omega]
    by_cases h2 : i < k * n + n
    · rw [List.getElem?_append_left (l₁ := (El.cells (El.ix M k)).set j v) (by omega), List.getElem?_set]
      by_cases h3 : i < k * n + j
      · rw [List.getElem?_append_left (l₁ := (El.all M ++ R).take (k * n + j)) (by rw [List.length_take]; omega), List.getElem?_take, if_pos h3, if_neg (by omega)]
        have := El.cell M R k h (i - k * n) (by omega)
        rw [show k * n + (i - k * n) = i by omega] at this
        exact this
      · rw [List.getElem?_append_right (l₁ := (El.all M ++ R).take (k * n + j)) (by rw [List.length_take]; omega), show ((El.all M ++ R).take (k * n + j)).length = k * n + j by rw [List.length_take]; omega]
        by_cases h4 : i = k * n + j
        · rw [if_pos (by omega), if_pos (by have : (El.cells (El.ix M k)).length = n := El.len _; omega), show i - (k * n + j) = 0 by omega]
          rfl
        · rw [if_neg (by omega), show i - (k * n + j) = (i - (k * n + j) - 1) + 1 by omega]
          show ((El.all M ++ R).drop (k * n + j + 1))[i - (k * n + j) - 1]? = _
          rw [List.getElem?_drop, show k * n + j + 1 + (i - (k * n + j) - 1) = i by omega]
          have := El.cell M R k h (i - k * n) (by omega)
          rw [show k * n + (i - k * n) = i by omega] at this
          exact this
    · rw [List.getElem?_append_right (l₁ := (El.all M ++ R).take (k * n + j)) (by rw [List.length_take]; omega), show ((El.all M ++ R).take (k * n + j)).length = k * n + j by rw [List.length_take]; omega, List.getElem?_append_right (l₁ := (El.cells (El.ix M k)).set j v) (by omega), hcl]
      rw [show i - (k * n + j) = (i - (k * n + j) - 1) + 1 by omega]
      show ((El.all M ++ R).drop (k * n + j + 1))[i - (k * n + j) - 1]? = _
      rw [List.getElem?_drop, List.getElem?_drop]
      congr 1
      omega
def Lst (w : World) (B : Nat) (A : Option Addr) (l : List α) : Prop := Rd w B n A l.length (El.all l)
section
variable {w w' w0 : World} {B B' : Nat} {A : Option Addr} {l : List α} {rs : List Res}
theorem Lst.nil (w : World) (B : Nat) (A : Option Addr) : Lst w B A ([] : List α) := Rd.nil A
theorem Lst.below (h : Lst w B A l) (hb : Below B' w w') (hB : B ≤ B') : Lst w' B A l := Rd.below h hb hB
theorem Lst.more (h : Lst w B A l) (hB : B ≤ B') : Lst w B' A l := Rd.more h hB
theorem Lst.st (h : Lst w0 B A l) (st : St w0 w rs) (hB : B ≤ w0.heap.size) : Lst w B A l := h.below st.below hB
theorem Lst.at_ (h : Lst w B A l) (hn : 0 < l.length) : ∃ b p, A = some ⟨b, p, none⟩ ∧ b < B ∧ ∀ k, k < l.length → OldC w b (p + k * n) (El.cells (El.ix l k)) := by
  obtain ⟨b, o, hA, hb, hc⟩ := h.2 hn
  refine ⟨b, o, hA, hb, fun k hk j v hj => ?_⟩
  have hjn : j < n := by have := (List.getElem?_eq_some_iff.1 hj).1; rw [El.len] at this; exact this
  rw [Nat.add_assoc]
  exact hc _ v (by rw [El.all_get l k hk j hjn]; exact hj)
def own (t : TypeId) (A : Option Addr) (c : Nat) (l : List α) : Res := if l.length = 0 then .room 0 else .row t n (.slice A l.length c) l.length (El.all l)
variable {t : TypeId} {c : Nat}
theorem own_nil (t : TypeId) (A : Option Addr) (c : Nat) : own t A c ([] : List α) = .room 0 := rfl
theorem own_pos (h : 0 < l.length) : own t A c l = .row t n (.slice A l.length c) l.length (El.all l) := if_neg (by omega)
theorem St.own (st : St w0 w (.row t n (.slice A l.length c) l.length (El.all l) :: rs)) : St w0 w (own t A c l :: rs) := by
  unfold Hp.own
  split
  · exact st.tail.room0
  · exact st
theorem St.lst (st : St w0 w rs) (hm : Hp.own t A c l ∈ rs) : Lst w w.heap.size A l := by
  have h := st.holds _ hm
  unfold Hp.own at h
  split at h
  · rename_i h0
    rw [List.eq_nil_of_length_eq_zero h0]
    exact Lst.nil _ _ _
  · exact Rd.of_row h
theorem St.lst_row (st : St w0 w rs) {i : Nat} (hi : rs[i]? = some (.row t n (.slice A l.length c) l.length (El.all l))) : Lst w w.heap.size A l := Rd.of_row (st.get hi)
theorem St.own_at (st : St w0 w rs) (hm : Hp.own t A c l ∈ rs) (hn : 0 < l.length) : ∃ g, A = some ⟨g, 0, none⟩ ∧ w0.heap.size ≤ g ∧ g < w.heap.size := by
  have h := st.holds _ hm
  rw [own_pos hn] at h
  rcases h.2 with ⟨hv, h0⟩ | ⟨g, cap, cur, hv, hbase, hg, hnc, hcap, hsz, htake⟩
  · omega
  · injection hv with h1 h2 h3
    exact ⟨g, h1, hbase, (Array.getElem?_eq_some_iff.1 hg).1⟩
theorem St.own_cells {g : Nat} (st : St w0 w rs) (hm : Hp.own t (some ⟨g, 0, none⟩) c l ∈ rs) (k : Nat) (hk : k < l.length) : OldC w g (k * n) (El.cells (El.ix l k)) := by
  obtain ⟨b, p, hA, _, hc⟩ := (st.lst hm).at_ (by omega)
  injection hA with hA
  injection hA with h1 h2
  subst h1
  have h3 := hc k hk
  rwa [← h2, Nat.zero_add] at h3
theorem St.own_fit (st : St w0 w rs) (hm : Hp.own t A c l ∈ rs) : l.length ≤ maxLen := by
  have h := st.holds _ hm
  unfold Hp.own at h
  split at h
  · omega
  · rcases h.2 with ⟨hv, h0⟩ | ⟨g, cap, cur, hv, hbase, hg, hnc, hcap, hsz, htake⟩
    · omega
    · omega
end
end
section
variable {P : Program} {ops : Array Oper} {rest : List Oper} {o : Oper} {a : Act} {w0 w : World} {rs : List Res} {Q : Exit → Act → World → Prop} {K : Act → World → Prop}
theorem ow_ownC {α : Type} {n : Nat} [El α n] {t e : TypeId} {x : Operand} {c : Nat} {l : List α} {g : Nat} (k : Nat) (st : St w0 w rs) (ho : o.op = .load t x) (hT : AggT P t n) (hx : a.eval x = .pointer (some ⟨g, k * n, none⟩)) (hm : Hp.own e (some ⟨g, 0, none⟩) c l ∈ rs) (hk : k < l.length)
    (h : K (a.put o.dst (.agg (El.cells (El.ix l k)).toArray)) w) : OW P o a w K Q := ow_hereC ho hT hx (st.own_cells hm k hk) (El.len _) h
theorem ow_appendFull {t e : TypeId} {z : Value} {size bytes : Nat} {s x : Operand} {m k c c2 B B2 : Nat} {A A2 : Option Addr} {olds news : List Value} (st : St w0 w rs)
    (ho : o.op = .call { callee := .builtin .append, args := #[s, x], argTypes := #[t, t] }) (hT : SliceT P t e z size bytes) (hv : a.eval s = .slice A m c) (hx : a.eval x = .slice A2 k c2)
    (hs : Rd w B size A m olds) (hs2 : Rd w B2 size A2 k news) (h1 : ∀ u ∈ news, u.oneCell' = true) (hc : c < m + k) (h63 : m + k ≤ maxLen) (hbytes : (m + k) * bytes ≤ 140737488355328)
    (h : ∀ b c' w', St w0 w' (.row e size (.slice (some ⟨b, 0, none⟩) (m + k) c') (m + k) (olds ++ news) :: rs) → K (a.put o.dst (.slice (some ⟨b, 0, none⟩) (m + k) c')) w') : OW P o a w K Q := by
  obtain ⟨i0, hi, hz0, hz1, hz2⟩ := info_parts hT.info
  have hcs := hT.cells
  have hml : m + k ≤ 9223372036854775807 := by unfold maxLen at h63; omega
  have hold : (Builtin.firstCells i0.size m (.slice A m c)).run P w.drew = .ok olds.toArray w.drew := by
    rcases Nat.eq_zero_or_pos m with h0 | h0
    · subst h0
      have : olds = [] := List.eq_nil_of_length_eq_zero (by simpa using hs.1)
      subst this
      cases A with
      | none => exact run_firstCells_none w.drew i0.size 0 0 c
      | some ad => exact run_firstCells_some w.drew i0.size 0 ad 0 c [] (by simp) (fun j u hj => by simp at hj)
    · obtain ⟨b, p, rfl, _, hcell⟩ := hs.2 h0
      exact run_firstCells_some w.drew i0.size m ⟨b, p, none⟩ m c olds (by rw [hz1]; exact hs.1) (fun j u hj => by rw [add_lit]; simpa using hcell j u hj)
  have hsrc : Src P i0.size t (.slice A2 k c2) k news w := by
    cases A2 with
    | none =>
      have : k = 0 := by
        rcases Nat.eq_zero_or_pos k with h0 | h0
        · exact h0
        · obtain ⟨b, p, hA, _⟩ := hs2.2 h0
          cases hA
      subst this
      have : news = [] := List.eq_nil_of_length_eq_zero (by simpa using hs2.1)
      subst this
      exact Src.ofNil w hT.under c2
    | some ad =>
      refine Src.ofSlice w hT.under ad k c2 news (by rw [hz1]; exact hs2.1) (fun j u hj => ?_) h1
      rcases Nat.eq_zero_or_pos k with h0 | h0
      · subst h0
        have : news = [] := List.eq_nil_of_length_eq_zero (by simpa using hs2.1)
        subst this
        simp at hj
      · obtain ⟨b, p, hA, _, hcell⟩ := hs2.2 h0
        injection hA with hA
        subst hA
        rw [add_lit]
        exact hcell j u hj
  have hrun := run_append_grow_src (P := P) w t t o.type e i0 z hT.under hi hz0 A m c olds hold (.slice A2 k c2) k news hsrc hc (by omega) (by rw [hz2]; exact growslice_fits (by omega) hbytes)
  have hge := grownCap_ge w (m + k) c e
  have hle := grownCap_le_maxLen w (m + k) c e h63
  have hol : (olds ++ news).length = (m + k) * size := by rw [List.length_append, hs.1, hs2.1, Nat.add_mul]
  refine OW.mk (Lib.wp_append_run w s x t t ho _ _ hv hx _ _ hrun (h _ _ _ ?_))
  refine st.drew.fresh ((Below.refl _ _).alloc (Nat.le_refl _) _) ⟨hol, .inr ⟨_, _, _, rfl, Nat.le_refl _, heap_alloc_new w.drew _, hge, hle, ?_, ?_⟩⟩
  · rw [Array.size_append, List.size_toArray, hol, size_zeroCells, hcs, ← Nat.add_mul]
    congr 1
    omega
  · rw [Array.toList_append, List.take_append_of_le_length (by rw [List.toList_toArray, hol]; exact Nat.le_refl _), List.toList_toArray, List.take_of_length_le (by rw [hol]; exact Nat.le_refl _)]
end
end Go.Hp
namespace Ck
open Go Go.RowKit Go.Hp
instance elInt : El Int 1 := ⟨fun x => [.int .i64 x], 0, fun _ => rfl, fun _ u hu => by simp at hu; subst hu; rfl, by decide⟩
instance elBool : El Bool 1 := ⟨fun x => [.bool x], false, fun _ => rfl, fun _ u hu => by simp at hu; subst hu; rfl, by decide⟩
instance elByte : El UInt8 1 := ⟨fun x => [.int .u8 x.toNat], 0, fun _ => rfl, fun _ u hu => by simp at hu; subst hu; rfl, by decide⟩
instance elText : El (List UInt8) 1 := ⟨fun x => [.string ⟨x.toArray⟩], [], fun _ => rfl, fun _ u hu => by simp at hu; subst hu; rfl, by decide⟩
instance elRun : El Run 2 := ⟨fun x => [.int .i64 x.s, .int .i64 x.l], Run.o, fun _ => rfl, fun _ u hu => by simp at hu; rcases hu with rfl | rfl <;> rfl, by decide⟩
instance elNm : El Nm 3 := ⟨fun x => [.int .i64 x.d.r, .int .i64 x.d.q, .string ⟨x.n.toArray⟩], Nm.o, fun _ => rfl, fun _ u hu => by simp at hu; rcases hu with rfl | rfl | rfl <;> rfl, by decide⟩
instance elEn : El En 4 := ⟨fun x => [.string ⟨x.n.toArray⟩, .int .i64 x.f.r, .int .i64 x.f.q, .int .i64 x.z], En.o, fun _ => rfl, fun _ u hu => by simp at hu; rcases hu with rfl | rfl | rfl | rfl <;> rfl, by decide⟩
instance elFd : El Fd 3 := ⟨fun x => [.int .i64 x.k, .int .i64 x.r, .int .i64 x.i], Fd.o, fun _ => rfl, fun _ u hu => by simp at hu; rcases hu with rfl | rfl | rfl <;> rfl, by decide⟩
structure VSm where
  r : List Run
  z : Int
  A : Option Addr
  c : Nat
structure VRc where
  u : Bool
  q : Int
  k : Int
  b : Ref
  ln : Int
  ds : Int
  ns : List Nm
  ss : List VSm
  es : List En
  An : Option Addr
  cn : Nat
  As : Option Addr
  cs : Nat
  Ae : Option Addr
  ce : Nat
structure VPt where
  c : Int
  al : List Run
  rs : List VRc
  ds : List Int
  mp : List UInt8
  Aa : Option Addr
  ca : Nat
  Ar : Option Addr
  cr : Nat
  Ad : Option Addr
  cd : Nat
def VSm.p (x : VSm) : Sm := ⟨x.r, x.z⟩
def VRc.p (x : VRc) : Rc := ⟨x.u, x.q, x.k, x.b, x.ln, x.ds, x.ns, x.ss.map VSm.p, x.es⟩
def VPt.p (v : VPt) : Pt := ⟨v.c, v.al, v.rs.map VRc.p, v.ds, v.mp⟩
def VSm.o : VSm := ⟨[], 0, none, 0⟩
def VRc.o : VRc := ⟨false, 0, 0, Ref.o, 0, 0, [], [], [], none, 0, none, 0, none, 0⟩
def VPt.val (v : VPt) : Value := .agg #[.int .i64 v.c, .slice v.Aa v.al.length v.ca, .slice v.Ar v.rs.length v.cr, .slice v.Ad v.ds.length v.cd, .string ⟨v.mp.toArray⟩]
instance elVSm : El VSm 2 := ⟨fun x => [.slice x.A x.r.length x.c, .int .i64 x.z], VSm.o, fun _ => rfl, fun _ u hu => by simp at hu; rcases hu with rfl | rfl <;> rfl, by decide⟩
instance elVRc : El VRc 10 := ⟨fun x => [.bool x.u, .int .i64 x.q, .int .i64 x.k, .int .i64 x.b.r, .int .i64 x.b.q, .int .i64 x.ln, .int .i64 x.ds, .slice x.An x.ns.length x.cn, .slice x.As x.ss.length x.cs, .slice x.Ae x.es.length x.ce], VRc.o, fun _ => rfl, fun _ u hu => by simp at hu; rcases hu with rfl | rfl | rfl | rfl | rfl | rfl | rfl | rfl | rfl | rfl <;> rfl, by decide⟩
def VSm.At (w : World) (B : Nat) (x : VSm) : Prop := Lst w B x.A x.r
structure VRc.At (w : World) (B : Nat) (x : VRc) : Prop where
  ns : Lst w B x.An x.ns
  ss : Lst w B x.As x.ss
  rr : ∀ s ∈ x.ss, s.At w B
  es : Lst w B x.Ae x.es
structure VPt.At (w : World) (B : Nat) (v : VPt) : Prop where
  al : Lst w B v.Aa v.al
  rs : Lst w B v.Ar v.rs
  rcs : ∀ x ∈ v.rs, x.At w B
  ds : Lst w B v.Ad v.ds
structure VRc.Fit (x : VRc) : Prop where
  ns : x.ns.length ≤ 100000
  ss : x.ss.length ≤ 100000
  es : x.es.length ≤ 100000
  rr : ∀ s ∈ x.ss, s.r.length ≤ 100000
  nl : ∀ n ∈ x.ns, n.n.length ≤ 100000
  el : ∀ n ∈ x.es, n.n.length ≤ 100000
structure VPt.Fit (v : VPt) : Prop where
  al : v.al.length ≤ 100000
  rs : v.rs.length ≤ 100000
  rcs : ∀ x ∈ v.rs, x.Fit
  ds : v.ds.length ≤ 100000
section
variable {w w' w0 : World} {B B' : Nat} {rs : List Res} {x : VRc} {v : VPt} {s : VSm}
theorem VRc.At.below (h : x.At w B) (hb : Below B' w w') (hB : B ≤ B') : x.At w' B := ⟨h.ns.below hb hB, h.ss.below hb hB, fun s hs => Lst.below (h.rr s hs) hb hB, h.es.below hb hB⟩
theorem VPt.At.below (h : v.At w B) (hb : Below B' w w') (hB : B ≤ B') : v.At w' B := ⟨h.al.below hb hB, h.rs.below hb hB, fun x hx => (h.rcs x hx).below hb hB, h.ds.below hb hB⟩
theorem VRc.At.st (h : x.At w0 B) (st : St w0 w rs) (hB : B ≤ w0.heap.size) : x.At w B := h.below st.below hB
theorem VPt.At.st (h : v.At w0 B) (st : St w0 w rs) (hB : B ≤ w0.heap.size) : v.At w B := h.below st.below hB
theorem VRc.At.more (h : x.At w B) (hB : B ≤ B') : x.At w B' := ⟨h.ns.more hB, h.ss.more hB, fun s hs => Lst.more (h.rr s hs) hB, h.es.more hB⟩
theorem VPt.At.more (h : v.At w B) (hB : B ≤ B') : v.At w B' := ⟨h.al.more hB, h.rs.more hB, fun x hx => (h.rcs x hx).more hB, h.ds.more hB⟩
end
theorem VPt.rc_at (v : VPt) (i : Nat) (h : i < v.rs.length) : at_ Rc.o v.p.rs i = (at_ VRc.o v.rs i).p := at_map VRc.p VRc.o Rc.o v.rs i h
theorem VRc.sm_at (x : VRc) (i : Nat) (h : i < x.ss.length) : at_ Sm.o x.p.ss i = (at_ VSm.o x.ss i).p := at_map VSm.p VSm.o Sm.o x.ss i h
theorem VPt.p_len (v : VPt) : v.p.rs.length = v.rs.length := List.length_map ..
theorem VRc.p_len (x : VRc) : x.p.ss.length = x.ss.length := List.length_map ..
abbrev rowRun (A : Option Addr) (c : Nat) (l : List Run) : Res := Hp.own 78 A c l
abbrev rowInt (A : Option Addr) (c : Nat) (l : List Int) : Res := Hp.own 3 A c l
abbrev rowNm (A : Option Addr) (c : Nat) (l : List Nm) : Res := Hp.own 71 A c l
abbrev rowEn (A : Option Addr) (c : Nat) (l : List En) : Res := Hp.own 73 A c l
abbrev rowSm (A : Option Addr) (c : Nat) (l : List VSm) : Res := Hp.own 80 A c l
abbrev rowRc (A : Option Addr) (c : Nat) (l : List VRc) : Res := Hp.own 66 A c l
def VSm.res (x : VSm) : Res := rowRun x.A x.c x.r
def VRc.res (x : VRc) : List Res := rowNm x.An x.cn x.ns :: rowEn x.Ae x.ce x.es :: rowSm x.As x.cs x.ss :: x.ss.map VSm.res
def deep (l : List VRc) : List Res := l.flatMap VRc.res
section
variable {w w0 : World} {rs : List Res} {x : VRc} {v : VPt} {l : List VRc}
theorem VRc.at_of (st : St w0 w rs) (h : ∀ r ∈ x.res, r ∈ rs) : x.At w w.heap.size :=
  ⟨st.lst (h _ (List.mem_cons_self ..)), st.lst (h _ (List.mem_cons_of_mem _ (List.mem_cons_of_mem _ (List.mem_cons_self ..)))),
    fun s hs => st.lst (h _ (List.mem_cons_of_mem _ (List.mem_cons_of_mem _ (List.mem_cons_of_mem _ (List.mem_map_of_mem hs))))), st.lst (h _ (List.mem_cons_of_mem _ (List.mem_cons_self ..)))⟩
theorem mem_deep {r : Res} (hx : x ∈ l) (hr : r ∈ x.res) : r ∈ deep l := List.mem_flatMap.2 ⟨x, hx, hr⟩
theorem VPt.at_of (st : St w0 w rs) (h1 : rowRc v.Ar v.cr v.rs ∈ rs) (h2 : rowRun v.Aa v.ca v.al ∈ rs) (h3 : rowInt v.Ad v.cd v.ds ∈ rs) (h4 : ∀ r ∈ deep v.rs, r ∈ rs) : v.At w w.heap.size :=
  ⟨st.lst h2, st.lst h1, fun x hx => VRc.at_of st fun r hr => h4 r (mem_deep hx hr), st.lst h3⟩
theorem deep_append (a b : List VRc) : deep (a ++ b) = deep a ++ deep b := List.flatMap_append ..
theorem deep_split (l : List VRc) (i : Nat) (h : i < l.length) : deep l = deep (l.take i) ++ ((at_ VRc.o l i).res ++ deep (l.drop (i + 1))) := by
  conv => lhs; rw [← List.take_append_drop i l, drop_at VRc.o l i h]
  rw [deep_append]; rfl
theorem deep_set (l : List VRc) (i : Nat) (h : i < l.length) (y : VRc) : deep (l.set i y) = deep (l.take i) ++ (y.res ++ deep (l.drop (i + 1))) := by
  rw [List.set_eq_take_append_cons_drop, if_pos h, deep_append]; rfl
theorem deep_front (l : List VRc) (i : Nat) (h : i < l.length) (H T : List Res) : (H ++ (deep l ++ T)).Perm (H ++ ((at_ VRc.o l i).res ++ (deep (l.take i) ++ (deep (l.drop (i + 1)) ++ T)))) := by
  rw [deep_split l i h]
  refine List.Perm.append_left H ?_
  simp only [List.append_assoc]
  exact List.perm_append_comm_assoc _ _ _
theorem deep_back (l : List VRc) (i : Nat) (h : i < l.length) (y : VRc) (H T : List Res) : (H ++ (y.res ++ (deep (l.take i) ++ (deep (l.drop (i + 1)) ++ T)))).Perm (H ++ (deep (l.set i y) ++ T)) := by
  rw [deep_set l i h]
  refine List.Perm.append_left H ?_
  simp only [List.append_assoc]
  exact List.perm_append_comm_assoc _ _ _
end
end Ck
namespace Go.Hp
section
variable {α : Type} {x y : α} {l m : List α} {n : Nat}
theorem zta : (x :: l).take (n + 1) = x :: l.take n := rfl
theorem ztz : l.take 0 = [] := rfl
theorem zda : (x :: l).drop (n + 1) = l.drop n := rfl
theorem zdz : l.drop 0 = l := rfl
theorem zca : x :: l ++ m = x :: (l ++ m) := rfl
theorem zcn : [] ++ l = l := rfl
theorem zan : l ++ [] = l := List.append_nil l
theorem zsz : (x :: l).set 0 y = y :: l := rfl
theorem zss : (x :: l).set (n + 1) y = x :: l.set n y := rfl
theorem zpt : l.toArray.setIfInBounds n x = (l.set n x).toArray := by simp
theorem zl0 : ([] : List α).length = 0 := rfl
theorem zls : (x :: l).length = l.length + 1 := rfl
end
theorem zac (a b : Int) : a + b - b = a := Int.add_sub_cancel a b
end Go.Hp
namespace Go.Proofs.YtgcjejajljhnaaaGreatDoor
open Go.Hp
instance : OneT Tryz.prog 3 := ⟨fun _ => by kernel_rfl, fun _ => by kernel_rfl⟩
instance : OneT Tryz.prog 4 := ⟨fun _ => by kernel_rfl, fun _ => by kernel_rfl⟩
instance : OneT Tryz.prog 9 := ⟨fun _ => by kernel_rfl, fun _ => by kernel_rfl⟩
instance : OneT Tryz.prog 29 := ⟨fun _ => by kernel_rfl, fun _ => by kernel_rfl⟩
instance : OneT Tryz.prog 117 := ⟨fun _ => by kernel_rfl, fun _ => by kernel_rfl⟩
instance : ZeroT Tryz.prog 3 (.int .i64 0) := ⟨fun _ => by kernel_rfl⟩
end Go.Proofs.YtgcjejajljhnaaaGreatDoor
namespace Go.Proofs.YtgcjejajljhnaaaGreatDoor
open Go.Hp
instance oneT_0 : OneT Tryz.prog 22 := ⟨fun _ => by kernel_rfl, fun _ => by kernel_rfl⟩
instance oneT_1 : OneT Tryz.prog 23 := ⟨fun _ => by kernel_rfl, fun _ => by kernel_rfl⟩
instance oneT_2 : OneT Tryz.prog 62 := ⟨fun _ => by kernel_rfl, fun _ => by kernel_rfl⟩
instance oneT_3 : OneT Tryz.prog 63 := ⟨fun _ => by kernel_rfl, fun _ => by kernel_rfl⟩
instance oneT_4 : OneT Tryz.prog 64 := ⟨fun _ => by kernel_rfl, fun _ => by kernel_rfl⟩
instance oneT_5 : OneT Tryz.prog 41 := ⟨fun _ => by kernel_rfl, fun _ => by kernel_rfl⟩
instance oneT_6 : OneT Tryz.prog 24 := ⟨fun _ => by kernel_rfl, fun _ => by kernel_rfl⟩
instance oneT_7 : OneT Tryz.prog 51 := ⟨fun _ => by kernel_rfl, fun _ => by kernel_rfl⟩
instance oneT_8 : OneT Tryz.prog 35 := ⟨fun _ => by kernel_rfl, fun _ => by kernel_rfl⟩
instance oneT_9 : OneT Tryz.prog 5 := ⟨fun _ => by kernel_rfl, fun _ => by kernel_rfl⟩
instance oneT_10 : OneT Tryz.prog 117 := ⟨fun _ => by kernel_rfl, fun _ => by kernel_rfl⟩
instance oneT_11 : OneT Tryz.prog 29 := ⟨fun _ => by kernel_rfl, fun _ => by kernel_rfl⟩
instance oneT_12 : OneT Tryz.prog 156 := ⟨fun _ => by kernel_rfl, fun _ => by kernel_rfl⟩
instance oneT_13 : OneT Tryz.prog 158 := ⟨fun _ => by kernel_rfl, fun _ => by kernel_rfl⟩
instance oneT_14 : OneT Tryz.prog 186 := ⟨fun _ => by kernel_rfl, fun _ => by kernel_rfl⟩
instance oneT_15 : OneT Tryz.prog 189 := ⟨fun _ => by kernel_rfl, fun _ => by kernel_rfl⟩
instance oneT_16 : OneT Tryz.prog 107 := ⟨fun _ => by kernel_rfl, fun _ => by kernel_rfl⟩
instance oneT_17 : OneT Tryz.prog 99 := ⟨fun _ => by kernel_rfl, fun _ => by kernel_rfl⟩
instance oneT_18 : OneT Tryz.prog 160 := ⟨fun _ => by kernel_rfl, fun _ => by kernel_rfl⟩
instance oneT_19 : OneT Tryz.prog 165 := ⟨fun _ => by kernel_rfl, fun _ => by kernel_rfl⟩
instance aggT_0 : AggT Tryz.prog 61 2 := ⟨fun _ => by kernel_rfl, fun _ => by kernel_rfl⟩
instance zeroT_0 : ZeroT Tryz.prog 61 (.agg #[.int .i64 0, .int .i64 0]) := ⟨fun _ => by kernel_rfl⟩
instance aggT_1 : AggT Tryz.prog 78 2 := ⟨fun _ => by kernel_rfl, fun _ => by kernel_rfl⟩
instance zeroT_1 : ZeroT Tryz.prog 78 (.agg #[.int .i64 0, .int .i64 0]) := ⟨fun _ => by kernel_rfl⟩
instance aggT_2 : AggT Tryz.prog 71 3 := ⟨fun _ => by kernel_rfl, fun _ => by kernel_rfl⟩
instance zeroT_2 : ZeroT Tryz.prog 71 (.agg #[.int .i64 0, .int .i64 0, .string ⟨#[]⟩]) := ⟨fun _ => by kernel_rfl⟩
instance aggT_3 : AggT Tryz.prog 73 4 := ⟨fun _ => by kernel_rfl, fun _ => by kernel_rfl⟩
instance zeroT_3 : ZeroT Tryz.prog 73 (.agg #[.string ⟨#[]⟩, .int .i64 0, .int .i64 0, .int .i64 0]) := ⟨fun _ => by kernel_rfl⟩
instance aggT_4 : AggT Tryz.prog 80 2 := ⟨fun _ => by kernel_rfl, fun _ => by kernel_rfl⟩
instance zeroT_4 : ZeroT Tryz.prog 80 (.agg #[.slice none 0 0, .int .i64 0]) := ⟨fun _ => by kernel_rfl⟩
instance aggT_5 : AggT Tryz.prog 66 10 := ⟨fun _ => by kernel_rfl, fun _ => by kernel_rfl⟩
instance zeroT_5 : ZeroT Tryz.prog 66 (.agg #[.bool false, .int .i64 0, .int .i64 0, .int .i64 0, .int .i64 0, .int .i64 0, .int .i64 0, .slice none 0 0, .slice none 0 0, .slice none 0 0]) := ⟨fun _ => by kernel_rfl⟩
instance aggT_6 : AggT Tryz.prog 26 5 := ⟨fun _ => by kernel_rfl, fun _ => by kernel_rfl⟩
instance zeroT_6 : ZeroT Tryz.prog 26 (.agg #[.int .i64 0, .slice none 0 0, .slice none 0 0, .slice none 0 0, .string ⟨#[]⟩]) := ⟨fun _ => by kernel_rfl⟩
instance aggT_7 : AggT Tryz.prog 86 3 := ⟨fun _ => by kernel_rfl, fun _ => by kernel_rfl⟩
instance zeroT_7 : ZeroT Tryz.prog 86 (.agg #[.int .i64 0, .int .i64 0, .int .i64 0]) := ⟨fun _ => by kernel_rfl⟩
instance aggT_8 : AggT Tryz.prog 106 7 := ⟨fun _ => by kernel_rfl, fun _ => by kernel_rfl⟩
instance zeroT_8 : ZeroT Tryz.prog 106 (.agg #[.int .i64 0, .slice none 0 0, .slice none 0 0, .slice none 0 0, .string ⟨#[]⟩, .slice none 0 0, .slice none 0 0]) := ⟨fun _ => by kernel_rfl⟩
instance aggT_9 : AggT Tryz.prog 53 7 := ⟨fun _ => by kernel_rfl, fun _ => by kernel_rfl⟩
instance zeroT_9 : ZeroT Tryz.prog 53 (.agg #[.int .i64 0, .slice none 0 0, .slice none 0 0, .slice none 0 0, .string ⟨#[]⟩, .slice none 0 0, .slice none 0 0]) := ⟨fun _ => by kernel_rfl⟩
instance aggT_10 : AggT Tryz.prog 101 6 := ⟨fun _ => by kernel_rfl, fun _ => by kernel_rfl⟩
instance zeroT_10 : ZeroT Tryz.prog 101 (.agg #[.int .i64 0, .slice none 0 0, .slice none 0 0, .slice none 0 0, .string ⟨#[]⟩, .slice none 0 0]) := ⟨fun _ => by kernel_rfl⟩
instance aggT_11 : AggT Tryz.prog 125 3 := ⟨fun _ => by kernel_rfl, fun _ => by kernel_rfl⟩
instance zeroT_11 : ZeroT Tryz.prog 125 (.agg #[.int .i64 0, .int .i64 0, .int .i64 0]) := ⟨fun _ => by kernel_rfl⟩
instance zeroT1_0 : ZeroT Tryz.prog 4 (.bool false) := ⟨fun _ => by kernel_rfl⟩
instance zeroT1_1 : ZeroT Tryz.prog 9 (.string ⟨#[]⟩) := ⟨fun _ => by kernel_rfl⟩
instance zeroT1_2 : ZeroT Tryz.prog 22 (.slice none 0 0) := ⟨fun _ => by kernel_rfl⟩
instance zeroT1_3 : ZeroT Tryz.prog 62 (.slice none 0 0) := ⟨fun _ => by kernel_rfl⟩
instance zeroT1_4 : ZeroT Tryz.prog 63 (.slice none 0 0) := ⟨fun _ => by kernel_rfl⟩
instance zeroT1_5 : ZeroT Tryz.prog 64 (.slice none 0 0) := ⟨fun _ => by kernel_rfl⟩
instance zeroT1_6 : ZeroT Tryz.prog 24 (.slice none 0 0) := ⟨fun _ => by kernel_rfl⟩
instance zeroT1_7 : ZeroT Tryz.prog 51 (.slice none 0 0) := ⟨fun _ => by kernel_rfl⟩
instance zeroT1_8 : ZeroT Tryz.prog 35 (.slice none 0 0) := ⟨fun _ => by kernel_rfl⟩
instance zeroT1_9 : ZeroT Tryz.prog 5 (.int .u8 0) := ⟨fun _ => by kernel_rfl⟩
instance zeroT1_10 : ZeroT Tryz.prog 117 (.slice none 0 0) := ⟨fun _ => by kernel_rfl⟩
instance zeroT1_11 : ZeroT Tryz.prog 29 (.int .i64 0) := ⟨fun _ => by kernel_rfl⟩
instance sliceT_0 : SliceT Tryz.prog 22 78 (.agg #[.int .i64 0, .int .i64 0]) 2 16 := ⟨by kernel_rfl, by kernel_rfl, rfl, by decide⟩
instance sliceT_1 : SliceT Tryz.prog 62 71 (.agg #[.int .i64 0, .int .i64 0, .string ⟨#[]⟩]) 3 32 := ⟨by kernel_rfl, by kernel_rfl, rfl, by decide⟩
instance sliceT_2 : SliceT Tryz.prog 64 73 (.agg #[.string ⟨#[]⟩, .int .i64 0, .int .i64 0, .int .i64 0]) 4 40 := ⟨by kernel_rfl, by kernel_rfl, rfl, by decide⟩
instance sliceT_3 : SliceT Tryz.prog 63 80 (.agg #[.slice none 0 0, .int .i64 0]) 2 32 := ⟨by kernel_rfl, by kernel_rfl, rfl, by decide⟩
instance sliceT_4 : SliceT Tryz.prog 23 66 (.agg #[.bool false, .int .i64 0, .int .i64 0, .int .i64 0, .int .i64 0, .int .i64 0, .int .i64 0, .slice none 0 0, .slice none 0 0, .slice none 0 0]) 10 128 := ⟨by kernel_rfl, by kernel_rfl, rfl, by decide⟩
instance sliceT_5 : SliceT Tryz.prog 41 86 (.agg #[.int .i64 0, .int .i64 0, .int .i64 0]) 3 24 := ⟨by kernel_rfl, by kernel_rfl, rfl, by decide⟩
instance sliceT1_0 : SliceT Tryz.prog 24 3 (.int .i64 0) 1 8 := ⟨by kernel_rfl, by kernel_rfl, rfl, by decide⟩
instance sliceT1_1 : SliceT Tryz.prog 51 4 (.bool false) 1 1 := ⟨by kernel_rfl, by kernel_rfl, rfl, by decide⟩
instance sliceT1_2 : SliceT Tryz.prog 35 9 (.string ⟨#[]⟩) 1 16 := ⟨by kernel_rfl, by kernel_rfl, rfl, by decide⟩
instance sliceT1_3 : SliceT Tryz.prog 117 5 (.int .u8 0) 1 1 := ⟨by kernel_rfl, by kernel_rfl, rfl, by decide⟩
end Go.Proofs.YtgcjejajljhnaaaGreatDoor
namespace Ck
def unl (b : Bool) (e : Int) : Int := if b then 0 else e
theorem first_drop (l : List Int) (k : Nat) (hk : k < l.length) (h : first (l.drop k) = first l) (h0 : at_ 0 l k = 0) : first (l.drop (k + 1)) = first l := by
  rw [← h, drop_at 0 l k hk]
  show _ = (if at_ 0 l k = 0 then _ else _)
  rw [if_pos h0]
theorem first_hit (l : List Int) (k : Nat) (hk : k < l.length) (h : first (l.drop k) = first l) (h0 : at_ 0 l k ≠ 0) : first l = at_ 0 l k := by
  rw [← h, drop_at 0 l k hk]
  show (if at_ 0 l k = 0 then _ else _) = _
  rw [if_neg h0]
end Ck
namespace Go.Proofs.YtgcjejajljhnaaaGreatDoor
open Go.RowKit Go.Hp
theorem within_any (n lo hi : Int) (w : World) :
    Calls Tryz.prog 59 #[.int .i64 n, .int .i64 lo, .int .i64 hi] w fun e w' => e = .returned (.bool (Ck.wi n lo hi)) ∧ w = w' := by
  go_enter Tryz.func59, Tryz.ntmps59
  go_wp2
  all_goals (go_ret; exact ⟨by simp [Ck.wi, *]; try omega, rfl⟩)
theorem bwithin_any (n lo hi : Int) (w : World) :
    Calls Tryz.prog 131 #[.int .i64 n, .int .i64 lo, .int .i64 hi] w fun e w' => e = .returned (.bool (Ck.wi n lo hi)) ∧ w = w' := by
  go_enter Tryz.func131, Tryz.ntmps131
  go_wp2
  all_goals (go_ret; exact ⟨by simp [Ck.wi, *]; try omega, rfl⟩)
theorem Within_any (n lo hi : Int) (w : World) :
    Calls Tryz.prog 29 #[.int .i64 n, .int .i64 lo, .int .i64 hi] w fun e w' => e = .returned (.bool (Ck.wi n lo hi)) ∧ w = w' := by
  go_enter Tryz.func29, Tryz.ntmps29
  go_wp2
  all_goals (go_ret; exact ⟨by simp [Ck.wi, *]; try omega, rfl⟩)
theorem unless_any (b : Bool) (n : Int) (w : World) :
    Calls Tryz.prog 58 #[.bool b, .int .i64 n] w fun e w' => e = .returned (.int .i64 (Ck.unl b n)) ∧ w = w' := by
  go_enter Tryz.func58, Tryz.ntmps58
  go_wp2
  all_goals (go_ret; exact ⟨by simp [Ck.unl, *], rfl⟩)
theorem bunless_any (b : Bool) (n : Int) (w : World) :
    Calls Tryz.prog 133 #[.bool b, .int .i64 n] w fun e w' => e = .returned (.int .i64 (Ck.unl b n)) ∧ w = w' := by
  go_enter Tryz.func133, Tryz.ntmps133
  go_wp2
  all_goals (go_ret; exact ⟨by simp [Ck.unl, *], rfl⟩)
theorem nunless_any (b : Bool) (n : Int) (w : World) :
    Calls Tryz.prog 167 #[.bool b, .int .i64 n] w fun e w' => e = .returned (.int .i64 (Ck.unl b n)) ∧ w = w' := by
  go_enter Tryz.func167, Tryz.ntmps167
  go_wp2
  all_goals (go_ret; exact ⟨by simp [Ck.unl, *], rfl⟩)
theorem isNumber_any (n : Int) (w : World) :
    Calls Tryz.prog 89 #[.int .i64 n] w fun e w' => e = .returned (.bool (Ck.num n)) ∧ w = w' := by
  go_enter Tryz.func89, Tryz.ntmps89
  go_wp2_with (go_at_call 59; refine (within_any _ _ _ _).mono ?_; rintro e w' ⟨rfl, rfl⟩)
  go_ret
  exact ⟨rfl, rfl⟩
theorem IsNumber_any (n : Int) (w : World) :
    Calls Tryz.prog 96 #[.int .i64 n] w fun e w' => e = .returned (.bool (Ck.num n)) ∧ w = w' := by
  go_enter Tryz.func96, Tryz.ntmps96
  go_wp2_with (go_at_call 29; refine (Within_any _ _ _ _).mono ?_; rintro e w' ⟨rfl, rfl⟩)
  go_ret
  exact ⟨rfl, rfl⟩
theorem mostEntries_any (d : Int) (w : World) :
    Calls Tryz.prog 91 #[.int .i64 d] w fun e w' => e = .returned (.int .i64 (Ck.most d : Nat)) ∧ w = w' := by
  go_enter Tryz.func91, Tryz.ntmps91
  go_wp2
  all_goals (go_ret; exact ⟨by simp_all [Ck.most], rfl⟩)
theorem most_any (d : Int) (w : World) :
    Calls Tryz.prog 98 #[.int .i64 d] w fun e w' => e = .returned (.int .i64 (Ck.most d : Nat)) ∧ w = w' := by
  go_enter Tryz.func98, Tryz.ntmps98
  go_wp2
  all_goals (go_ret; exact ⟨by simp_all [Ck.most], rfl⟩)
theorem refErr_any (r q : Int) (w : World) :
    Calls Tryz.prog 90 #[.agg #[.int .i64 r, .int .i64 q]] w fun e w' => e = .returned (.int .i64 (Ck.refErr ⟨r, q⟩)) ∧ Below w.heap.size w w' := by
  go_enter Tryz.func90, Tryz.ntmps90
  go_wp2_with (first | (go_at_call 59; refine (within_any _ _ _ _).mono ?_; rintro e w' ⟨rfl, rfl⟩) | (go_at_call 58; refine (unless_any _ _ _).mono ?_; rintro e w' ⟨rfl, rfl⟩))
  all_goals (go_ret; exact ⟨by simp [Ck.refErr, Ck.unl, *], by (focus (repeat (first | exact Below.refl _ _ | (refine Below.alloc ?_ (by (omega)) _))))⟩)
theorem rrefErr_any (r q : Int) (w : World) :
    Calls Tryz.prog 97 #[.agg #[.int .i64 r, .int .i64 q]] w fun e w' => e = .returned (.int .i64 (Ck.refErr ⟨r, q⟩)) ∧ Below w.heap.size w w' := by
  go_enter Tryz.func97, Tryz.ntmps97
  go_wp2_with ((go_at_call 29; refine (Within_any _ _ _ _).mono ?_; rintro e w' ⟨rfl, rfl⟩))
  all_goals (go_ret; exact ⟨by simp_all [Ck.refErr], by (focus (repeat (first | exact Below.refl _ _ | (refine Below.alloc ?_ (by (omega)) _))))⟩)
theorem badRun_any (s l : Int) (w : World) :
    Calls Tryz.prog 135 #[.agg #[.int .i64 s, .int .i64 l]] w fun e w' => e = .returned (.bool (Ck.badRun ⟨s, l⟩)) ∧ Below w.heap.size w w' := by
  go_enter Tryz.func135, Tryz.ntmps135
  go_wp2_with ((go_at_call 59; refine (within_any _ _ _ _).mono ?_; rintro e w' ⟨rfl, rfl⟩))
  all_goals (go_ret; exact ⟨by simp [Ck.badRun, *], by (focus (repeat (first | exact Below.refl _ _ | (refine Below.alloc ?_ (by (omega)) _))))⟩)
set_option maxHeartbeats 400000 in
theorem first_any (b : Nat) (l : List Int) (w : World) (hl : l.length ≤ 100) (hc' : OldC w b 0 (l.map fun x => Value.int .i64 x)) :
    Calls Tryz.prog 57 #[.slice (some ⟨b, 0, none⟩) l.length l.length] w fun e w' => e = .returned (.int .i64 (Ck.first l)) ∧ w = w' := by
  have hc : ∀ k, k < l.length → w.cell? ⟨b, k, none⟩ = some (.int .i64 (Ck.at_ 0 l k)) := fun k hk => by
    have := hc' k (.int .i64 (Ck.at_ 0 l k)) (by rw [List.getElem?_map, Ck.at_eq 0 l k hk, List.getElem?_eq_getElem hk]; rfl)
    rwa [Nat.zero_add] at this
  clear hc'
  go_enter Tryz.func57, Tryz.ntmps57
  go_wp2
  go_loop [7] (fun i => ∃ k : Nat, k ≤ l.length ∧ i = .int .i64 k ∧ Hid (Ck.first (l.drop k) = Ck.first l)) (fun i => l.length - (intOf i).toNat)
  case atStart => exact ⟨0, Nat.zero_le _, rfl, rfl⟩
  case round =>
    obtain ⟨k, hk, rfl, hd⟩ := hrel
    by_cases hlt : k < l.length
    · have hk := hc k hlt
      clear hc
      by_cases h0 : Ck.at_ 0 l k = 0
      · have hb : (Ck.at_ 0 l k == 0) = true := by simpa using h0
        have hb' : (Ck.at_ 0 l k != 0) = false := by simpa using h0
        have hd' := Lib.hid (Ck.first_drop l k hlt hd.out h0)
        clear h0
        go_wp2
        go_round
        case rel => exact ⟨k + 1, by omega, by go_num, hd'⟩
        case measure => simp [intOf]; omega
      · have hb : (Ck.at_ 0 l k == 0) = false := by simpa using h0
        have hb' : (Ck.at_ 0 l k != 0) = true := by simpa using h0
        have hd' := Lib.hid (Ck.first_hit l k hlt hd.out h0)
        clear h0
        go_wp2
        go_ret
        exact ⟨congrArg (fun z => Ending.returned (.int .i64 z)) hd'.out.symm, rfl⟩
    · have he : l.drop k = [] := List.drop_eq_nil_of_le (by omega)
      rw [he] at hd
      go_wp2
      go_ret
      exact ⟨by rw [← hd.out]; rfl, rfl⟩
set_option maxHeartbeats 400000 in
theorem nfirst_any (b : Nat) (l : List Int) (w : World) (hl : l.length ≤ 100) (hc' : OldC w b 0 (l.map fun x => Value.int .i64 x)) :
    Calls Tryz.prog 166 #[.slice (some ⟨b, 0, none⟩) l.length l.length] w fun e w' => e = .returned (.int .i64 (Ck.first l)) ∧ w = w' := by
  have hc : ∀ k, k < l.length → w.cell? ⟨b, k, none⟩ = some (.int .i64 (Ck.at_ 0 l k)) := fun k hk => by
    have := hc' k (.int .i64 (Ck.at_ 0 l k)) (by rw [List.getElem?_map, Ck.at_eq 0 l k hk, List.getElem?_eq_getElem hk]; rfl)
    rwa [Nat.zero_add] at this
  clear hc'
  go_enter Tryz.func166, Tryz.ntmps166
  go_wp2
  go_loop [7] (fun i => ∃ k : Nat, k ≤ l.length ∧ i = .int .i64 k ∧ Hid (Ck.first (l.drop k) = Ck.first l)) (fun i => l.length - (intOf i).toNat)
  case atStart => exact ⟨0, Nat.zero_le _, rfl, rfl⟩
  case round =>
    obtain ⟨k, hk, rfl, hd⟩ := hrel
    by_cases hlt : k < l.length
    · have hk := hc k hlt
      clear hc
      by_cases h0 : Ck.at_ 0 l k = 0
      · have hb : (Ck.at_ 0 l k == 0) = true := by simpa using h0
        have hb' : (Ck.at_ 0 l k != 0) = false := by simpa using h0
        have hd' := Lib.hid (Ck.first_drop l k hlt hd.out h0)
        clear h0
        go_wp2
        go_round
        case rel => exact ⟨k + 1, by omega, by go_num, hd'⟩
        case measure => simp [intOf]; omega
      · have hb : (Ck.at_ 0 l k == 0) = false := by simpa using h0
        have hb' : (Ck.at_ 0 l k != 0) = true := by simpa using h0
        have hd' := Lib.hid (Ck.first_hit l k hlt hd.out h0)
        clear h0
        go_wp2
        go_ret
        exact ⟨congrArg (fun z => Ending.returned (.int .i64 z)) hd'.out.symm, rfl⟩
    · have he : l.drop k = [] := List.drop_eq_nil_of_le (by omega)
      rw [he] at hd
      go_wp2
      go_ret
      exact ⟨by rw [← hd.out]; rfl, rfl⟩
theorem first2_any (b : Nat) (x y : Int) (w : World) (hc : OldC w b 0 [.int .i64 x, .int .i64 y]) :
    Calls Tryz.prog 57 #[.slice (some ⟨b, 0, none⟩) 2 2] w fun e w' => e = .returned (.int .i64 (Ck.first [x, y])) ∧ w = w' := first_any b [x, y] w (by simp) hc
theorem first3_any (b : Nat) (x y z : Int) (w : World) (hc : OldC w b 0 [.int .i64 x, .int .i64 y, .int .i64 z]) :
    Calls Tryz.prog 57 #[.slice (some ⟨b, 0, none⟩) 3 3] w fun e w' => e = .returned (.int .i64 (Ck.first [x, y, z])) ∧ w = w' := first_any b [x, y, z] w (by simp) hc
theorem nfirst2_any (b : Nat) (x y : Int) (w : World) (hc : OldC w b 0 [.int .i64 x, .int .i64 y]) :
    Calls Tryz.prog 166 #[.slice (some ⟨b, 0, none⟩) 2 2] w fun e w' => e = .returned (.int .i64 (Ck.first [x, y])) ∧ w = w' := nfirst_any b [x, y] w (by simp) hc
end Go.Proofs.YtgcjejajljhnaaaGreatDoor
namespace Ck
open Go
def idxF {α : Type} (p : α → Bool) : Nat → List α → Int
  | _, [] => -1
  | i, x :: l => if p x then (i : Int) else idxF p (i + 1) l
section
variable {α : Type} {n : Nat} [Hp.El α n] (p : α → Bool)
theorem idxF_step (l : List α) (k : Nat) (h : k < l.length) : idxF p k (l.drop k) = if p (at_ (Hp.El.o) l k) then (k : Int) else idxF p (k + 1) (l.drop (k + 1)) := by
  rw [drop_at Hp.El.o l k h]; rfl
theorem idxF_end (l : List α) (k : Nat) (h : l.length ≤ k) : idxF p k (l.drop k) = -1 := by
  rw [List.drop_of_length_le h]; rfl
omit [Hp.El α n] in
theorem idxF_any : ∀ (i : Nat) (l : List α), decide (0 ≤ idxF p i l) = l.any p
  | _, [] => rfl
  | i, x :: l => by
    by_cases hp : p x = true
    · show decide (0 ≤ (if p x = true then (i : Int) else idxF p (i + 1) l)) = (p x || l.any p)
      rw [if_pos hp, hp]
      simp
    · show decide (0 ≤ (if p x = true then (i : Int) else idxF p (i + 1) l)) = (p x || l.any p)
      rw [if_neg hp, idxF_any (i + 1) l, Bool.eq_false_iff.2 hp]
      rfl
end
theorem ret_int {k : IntKind} {a b : Int} (h : a = b) : Ending.returned (.int k a) = .returned (.int k b) := by rw [h]
theorem ret_bool {a b : Bool} (h : a = b) : Ending.returned (.bool a) = .returned (.bool b) := by rw [h]
end Ck
namespace Go.Proofs.YtgcjejajljhnaaaGreatDoor
open Go.RowKit Go.Hp
theorem text_eq (a b : List UInt8) : ((ByteArray.mk a.toArray).toList == (ByteArray.mk b.toArray).toList) = decide (a = b) := by
  rw [← beq_toListBytes]
  show ((⟨⟨a⟩⟩ : ByteArray) == ⟨⟨b⟩⟩) = _
  show ((⟨a⟩ : Array UInt8) == ⟨b⟩) = _
  by_cases h : a = b
  · subst h; simp
  · rw [decide_eq_false h]
    exact beq_false_of_ne fun e => h (Array.mk.inj e)
def cRef (a : Ck.Ref) : Value := .agg #[.int .i64 a.r, .int .i64 a.q]
theorem equalIn_ref (d : Nat) (a b : Ck.Ref) (w : World) : (Op.equalIn (d + 2) 61 (.agg #[.int .i64 a.r, .int .i64 a.q]) (.agg #[.int .i64 b.r, .int .i64 b.q])).run Tryz.prog w = .ok (decide (a = b)) w := by
  rw [run_equalIn_agg _ _ _ _ _ (by kernel_rfl) (by kernel_rfl)]
  cases a; cases b
  rename_i a1 a2 b1 b2
  by_cases h1 : a1 = b1 <;> by_cases h2 : a2 = b2 <;> simp [go_sem, Tryz.underlying61, h1, h2]
theorem equalIn_run (d : Nat) (a b : Ck.Run) (w : World) : (Op.equalIn (d + 2) 78 (.agg #[.int .i64 a.s, .int .i64 a.l]) (.agg #[.int .i64 b.s, .int .i64 b.l])).run Tryz.prog w = .ok (decide (a = b)) w := by
  rw [run_equalIn_agg _ _ _ _ _ (by kernel_rfl) (by kernel_rfl)]
  cases a; cases b
  rename_i a1 a2 b1 b2
  by_cases h1 : a1 = b1 <;> by_cases h2 : a2 = b2 <;> simp [go_sem, Tryz.underlying78, h1, h2]
theorem equalIn_fd (d : Nat) (a b : Ck.Fd) (w : World) : (Op.equalIn (d + 2) 86 (.agg #[.int .i64 a.k, .int .i64 a.r, .int .i64 a.i]) (.agg #[.int .i64 b.k, .int .i64 b.r, .int .i64 b.i])).run Tryz.prog w = .ok (decide (a = b)) w := by
  rw [run_equalIn_agg _ _ _ _ _ (by kernel_rfl) (by kernel_rfl)]
  cases a; cases b
  rename_i a1 a2 a3 b1 b2 b3
  by_cases h1 : a1 = b1 <;> by_cases h2 : a2 = b2 <;> by_cases h3 : a3 = b3 <;> simp [go_sem, Tryz.underlying86, h1, h2, h3]
theorem equalIn_nm (d : Nat) (a b : Ck.Nm) (w : World) : (Op.equalIn (d + 3) 71 (.agg #[.int .i64 a.d.r, .int .i64 a.d.q, .string ⟨a.n.toArray⟩]) (.agg #[.int .i64 b.d.r, .int .i64 b.d.q, .string ⟨b.n.toArray⟩])).run Tryz.prog w = .ok (decide (a = b)) w := by
  rw [run_equalIn_agg _ _ _ _ _ (by kernel_rfl) (by kernel_rfl)]
  cases a; cases b
  rename_i a1 a2 b1 b2
  obtain ⟨x1, x2⟩ := a1
  obtain ⟨y1, y2⟩ := b1
  by_cases h1 : x1 = y1 <;> by_cases h3 : x2 = y2 <;> by_cases h2 : a2 = b2 <;> simp [go_sem, Tryz.underlying71, Tryz.underlying61, text_eq, h1, h2, h3]
theorem equalIn_en (d : Nat) (a b : Ck.En) (w : World) : (Op.equalIn (d + 3) 73 (.agg #[.string ⟨a.n.toArray⟩, .int .i64 a.f.r, .int .i64 a.f.q, .int .i64 a.z]) (.agg #[.string ⟨b.n.toArray⟩, .int .i64 b.f.r, .int .i64 b.f.q, .int .i64 b.z])).run Tryz.prog w = .ok (decide (a = b)) w := by
  rw [run_equalIn_agg _ _ _ _ _ (by kernel_rfl) (by kernel_rfl)]
  cases a; cases b
  rename_i a1 a2 a3 b1 b2 b3
  obtain ⟨x1, x2⟩ := a2
  obtain ⟨y1, y2⟩ := b2
  by_cases h1 : a1 = b1 <;> by_cases h2 : x1 = y1 <;> by_cases h4 : x2 = y2 <;> by_cases h3 : a3 = b3 <;> simp [go_sem, Tryz.underlying73, Tryz.underlying61, text_eq, h1, h2, h3, h4]
theorem eql_ref (a b : Ck.Ref) (w : World) : (binOp .eql 61 (.agg #[.int .i64 a.r, .int .i64 a.q]) (.agg #[.int .i64 b.r, .int .i64 b.q])).run Tryz.prog w = .ok (.bool (decide (a = b))) w := by rw [run_eql_struct, equalIn_ref]; rfl
theorem neq_ref (a b : Ck.Ref) (w : World) : (binOp .neq 61 (.agg #[.int .i64 a.r, .int .i64 a.q]) (.agg #[.int .i64 b.r, .int .i64 b.q])).run Tryz.prog w = .ok (.bool (!decide (a = b))) w := by rw [run_neq_struct, equalIn_ref]; rfl
theorem neq_run (a b : Ck.Run) (w : World) : (binOp .neq 78 (.agg #[.int .i64 a.s, .int .i64 a.l]) (.agg #[.int .i64 b.s, .int .i64 b.l])).run Tryz.prog w = .ok (.bool (!decide (a = b))) w := by rw [run_neq_struct, equalIn_run]; rfl
theorem neq_fd (a b : Ck.Fd) (w : World) : (binOp .neq 86 (.agg #[.int .i64 a.k, .int .i64 a.r, .int .i64 a.i]) (.agg #[.int .i64 b.k, .int .i64 b.r, .int .i64 b.i])).run Tryz.prog w = .ok (.bool (!decide (a = b))) w := by rw [run_neq_struct, equalIn_fd]; rfl
theorem eql_nm (a b : Ck.Nm) (w : World) : (binOp .eql 71 (.agg #[.int .i64 a.d.r, .int .i64 a.d.q, .string ⟨a.n.toArray⟩]) (.agg #[.int .i64 b.d.r, .int .i64 b.d.q, .string ⟨b.n.toArray⟩])).run Tryz.prog w = .ok (.bool (decide (a = b))) w := by rw [run_eql_struct, equalIn_nm]; rfl
theorem neq_nm (a b : Ck.Nm) (w : World) : (binOp .neq 71 (.agg #[.int .i64 a.d.r, .int .i64 a.d.q, .string ⟨a.n.toArray⟩]) (.agg #[.int .i64 b.d.r, .int .i64 b.d.q, .string ⟨b.n.toArray⟩])).run Tryz.prog w = .ok (.bool (!decide (a = b))) w := by rw [run_neq_struct, equalIn_nm]; rfl
theorem neq_en (a b : Ck.En) (w : World) : (binOp .neq 73 (.agg #[.string ⟨a.n.toArray⟩, .int .i64 a.f.r, .int .i64 a.f.q, .int .i64 a.z]) (.agg #[.string ⟨b.n.toArray⟩, .int .i64 b.f.r, .int .i64 b.f.q, .int .i64 b.z])).run Tryz.prog w = .ok (.bool (!decide (a = b))) w := by rw [run_neq_struct, equalIn_en]; rfl
end Go.Proofs.YtgcjejajljhnaaaGreatDoor
namespace Go.Hp
open Go.RowKit
section
variable {P : Program} {ops : Array Oper} {o : Oper} {a : Act} {w0 w : World} {rs : List Res} {Q : Exit → Act → World → Prop} {K : Act → World → Prop}
def marked (g : Nat) (t : TypeId) (l : List UInt8) (R : List Value) : Res := .obj g (.cells (El.all l ++ R).toArray t ((El.all l ++ R).length, (El.all l ++ R).length + 1))
theorem El.byte_get (l : List UInt8) (R : List Value) (j : Nat) (hj : j < l.length) : (El.all l ++ R)[j]? = some (.int .u8 (Ck.at_ 0 l j).toNat) := by
  have h := El.cell l R j hj 0 (by decide)
  rw [Nat.mul_one, Nat.add_zero] at h
  exact h
theorem St.marked_lst {t : TypeId} {g : Nat} {l : List UInt8} {R : List Value} (st : St w0 w rs) (hm : marked g t l R ∈ rs) : Lst w w.heap.size (some ⟨g, 0, none⟩) l := by
  have h := st.holds _ hm
  refine ⟨by rw [El.all_length], fun hn => ⟨g, 0, rfl, (Array.getElem?_eq_some_iff.1 h.2).1, fun j u hj => ?_⟩⟩
  rw [Nat.zero_add, cell_of_row w g j _ t _ h.2]
  have hjl : j < (El.all l).length := (List.getElem?_eq_some_iff.1 hj).1
  simp only [List.getElem?_toArray]
  rw [List.getElem?_append_left hjl]
  exact hj
theorem St.marked_cell {t : TypeId} {g i : Nat} {l : List UInt8} {R : List Value} (st : St w0 w rs) (hi : rs[i]? = some (marked g t l R)) (j : Nat) : w.cell? ⟨g, j, none⟩ = (El.all l ++ R)[j]? := by
  rw [cell_of_row w g j _ t _ (st.get hi).2]
  simp
theorem heap_setCell_obj (w : World) (g p : Nat) (cs : Array Value) (t : TypeId) (m : Nat × Nat) (v : Value) (hg : w.heap[g]? = some (.cells cs t m)) : (w.setCell ⟨g, p, none⟩ v).heap[g]? = some (.cells (cs.setIfInBounds p v) t m) := by
  simp [World.setCell, Array.getElem?_modify, hg]
theorem run_storeO {t : TypeId} {g p : Nat} {cs : Array Value} {bt : TypeId} {v : Value} {m : Nat × Nat} (hs : ∀ w, (sizeOf t).run P w = .ok 1 w) (hv : v.cells.toList = [v]) (h1 : v.oneCell' = true) (hb : w.heap[g]? = some (.cells cs bt m)) (hp : p < cs.size) (hm : cs.size ≤ m.1) :
    (Instr.storeAt t (.pointer (some ⟨g, p, none⟩)) v).run P w = .ok () (w.setCell ⟨g, p, none⟩ v) := by
  have hst := run_storeCells_cells (P := P) g p [v] 0 w (fun j hj => by
      simp only [List.length_cons, List.length_nil] at hj
      have : j = 0 := by omega
      subst this
      simp only [Nat.add_zero]
      rw [cell_of_row w g p cs bt m hb]
      simp [hp]) (fun j hj => by
      simp only [List.length_cons, List.length_nil] at hj
      have : j = 0 := by omega
      subst this
      obtain ⟨m1, m2⟩ := m
      simp only [World.frozen?, hb, Nat.add_zero]
      have : ¬ m1 ≤ p := by simp only at hm; omega
      simp [this]) (fun u hu => by simp at hu; subst hu; exact h1)
  simp only [Nat.add_zero] at hst
  have hsz : v.cells.size = 1 := by rw [← Array.length_toList, hv]; rfl
  simp [Instr.storeAt, Instr.sureAddr, storeVar, hs, hsz, hv, hst, World.setCells]
theorem St.setO {g p i : Nat} {cs : Array Value} {t : TypeId} {v : Value} {m : Nat × Nat} (st : St w0 w rs) (hi : rs[i]? = some (.obj g (.cells cs t m))) : St w0 (w.setCell ⟨g, p, none⟩ v) (rs.set i (.obj g (.cells (cs.setIfInBounds p v) t m))) :=
  st.upd hi ⟨rfl, rfl, rfl, by simp [World.setCell], fun k _ hne => heap_setCell_other w ⟨g, p, none⟩ k v (fun e => hne (by rw [e]; rfl))⟩ ⟨(st.get hi).1, heap_setCell_obj w g p cs t m v (st.get hi).2⟩ (fun k hk => .inl hk)
theorem ow_storeB {t bt : TypeId} {x y : Operand} {i g p : Nat} {l : List UInt8} {R : List Value} {b : UInt8} {v : Value} (st : St w0 w rs) (ho : o.op = .store t x y) (hT : OneT P t) (hx : a.eval x = .pointer (some ⟨g, p, none⟩)) (hi : rs[i]? = some (marked g bt l R)) (hp : p < l.length) (hy : a.eval y = v) (hv : v = .int .u8 b.toNat)
    (h : ∀ w', St w0 w' (rs.set i (marked g bt (l.set p b) R)) → K (a.put o.dst undef) w') : OW P o a w K Q := by
  subst hv
  have hlen : (El.all l).length = l.length := by rw [El.all_length, Nat.mul_one]
  have hset : ((El.all l ++ R).toArray.setIfInBounds p (.int .u8 b.toNat)) = (El.all (l.set p b) ++ R).toArray := by
    have h1 := El.set1 l R p hp 0 (by decide) (.int .u8 b.toNat) b rfl
    rw [Nat.mul_one, Nat.add_zero] at h1
    rw [List.setIfInBounds_toArray, ← h1, List.set_eq_take_append_cons_drop, if_pos (by rw [List.length_append]; omega)]
    simp
  have hll : (El.all (l.set p b) ++ R).length = (El.all l ++ R).length := by simp [El.all_length]
  have hrun := run_storeO (P := P) (w := w) (t := t) (p := p) (v := .int .u8 b.toNat) hT.size rfl rfl (st.get hi).2 (by simp; omega) (by simp)
  refine OW.mk (wp_skip_ (w' := w.setCell ⟨g, p, none⟩ (.int .u8 b.toNat)) ?_ (h _ ?_))
  · simp [execOp, ho, hx, hy, hrun]
  · have := St.setO (p := p) (v := .int .u8 b.toNat) st hi
    rw [hset] at this
    unfold marked
    rw [hll]
    exact this
theorem ow_bytes {src dst e : TypeId} (hs : P.underlying src = some .string) (hd : P.underlying dst = some (.slice e)) (he : P.underlying e = some (.int .u8)) {x : Operand} {l : List UInt8} (st : St w0 w rs) (ho : o.op = .convert src dst x) (hx : a.eval x = .string ⟨l.toArray⟩)
    (h : ∀ (g c : Nat) (R : List Value) w', St w0 w' (marked g e l R :: rs) → l.length ≤ c → K (a.put o.dst (.slice (some ⟨g, 0, none⟩) l.length c)) w') : OW P o a w K Q := by
  have hrun := run_bytes_of_string (P := P) w src dst e ⟨l.toArray⟩ hs hd he
  have hsz : (ByteArray.mk l.toArray).size = l.length := by show l.toArray.size = _; simp
  rw [hsz] at hrun
  have hall : ∀ l : List UInt8, El.all l = l.map fun b => Value.int .u8 b.toNat := fun l => by
    induction l with
    | nil => rfl
    | cons b l ih => show El.cells b ++ El.all l = _; rw [ih]; rfl
  have hrow : ∀ c, bytesRow ⟨l.toArray⟩ c = (El.all l ++ List.replicate (c - l.length) (Value.int .u8 0)).toArray := fun c => by
    unfold bytesRow
    rw [hsz, hall]
    simp
  refine OW.mk (wp_value (v := .slice (some ⟨w.heap.size, 0, none⟩) l.length (grownCap w l.length 0 e)) (w' := w.drew.alloc (.cells (bytesRow ⟨l.toArray⟩ (grownCap w l.length 0 e)) e ((bytesRow ⟨l.toArray⟩ (grownCap w l.length 0 e)).size, (bytesRow ⟨l.toArray⟩ (grownCap w l.length 0 e)).size + 1))) ?_ (h w.heap.size _ (List.replicate (grownCap w l.length 0 e - l.length) (Value.int .u8 0)) _ ?_ (grownCap_ge _ _ _ _)))
  · simp [execOp, ho, hx, hrun]
  · refine st.drew.fresh ((Below.refl _ _).alloc (Nat.le_refl _) _) ⟨Nat.le_refl _, ?_⟩
    rw [hrow]
    have := heap_alloc_new w.drew (.cells (El.all l ++ List.replicate (grownCap w l.length 0 e - l.length) (Value.int .u8 0)).toArray e ((El.all l ++ List.replicate (grownCap w l.length 0 e - l.length) (Value.int .u8 0)).length, (El.all l ++ List.replicate (grownCap w l.length 0 e - l.length) (Value.int .u8 0)).length + 1))
    simpa using this
theorem ow_text {src dst e : TypeId} (hs : P.underlying src = some (.slice e)) (he : P.underlying e = some (.int .u8)) (hd : P.underlying dst = some .string) {x : Operand} {b p n c B : Nat} {l : List UInt8} (ho : o.op = .convert src dst x) (hx : a.eval x = .slice (some ⟨b, p, none⟩) n c) (hl : Lst w B (some ⟨b, p, none⟩) l) (hn : n = l.length)
    (h : K (a.put o.dst (.string ⟨l.toArray⟩)) w) : OW P o a w K Q := by
  subst hn
  have hrun := run_convert_bytes_back (P := P) w src dst e ⟨b, p, none⟩ c l hs he hd (fun j hj => by
    obtain ⟨b', p', hA, _, hc⟩ := hl.at_ (by omega)
    injection hA with hA
    injection hA with h1 h2
    subst h1; subst h2
    have := hc j hj 0 _ rfl
    rw [add_lit]
    rw [Nat.mul_one, Nat.add_zero] at this
    rw [this]
    show some (Value.int IntKind.u8 (Ck.at_ El.o l j).toNat) = _
    rw [Ck.at_eq _ l j hj])
  refine OW.mk (wp_value ?_ h)
  simp [execOp, ho, hx, hrun]
end
end Go.Hp
