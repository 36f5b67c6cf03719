/- Own text, part Base 1: walks of the package acl and of its reference, and the plain laws that they lean on; no statement of the seat is here. -/
import Derived.WalkKit
import Derived.Laws.AppendOwn
import Derived.Laws.CopyRow
import Derived.Laws.Rows
import Derived.Orders
import Derived.Deep.Draws
import Derived.StillTail
import Derived.Maps.AppendAt
import Derived.Lib.AppendZeros
import Derived.RangeFuncNested
import Derived.RangeFuncBound
import Derived.RangeFuncCalls
import Derived.RangeFuncLeaves
import Derived.Shelf.Abstract
import Derived.OwnWalkIn
import Derived.TacticsInMore
import Derived.LoopNIn
import Derived.LoopIn
import Derived.Test.YtppjhccdgbheiaaGreatDoorProg
import Derived.WalkSpells
import Derived.WalkLawsBesides
import Derived.Lib.Hide
import Derived.Deep.QuietTactic
import Derived.BigQuiet
import Derived.Laws.StructEq
set_option linter.all false
namespace Go.Hp
open Go.RowKit
inductive Res where
  | box (b : Nat) (t : TypeId) (cs : List Value)
  | row (e : TypeId) (size : Nat) (v : Value) (n : Nat) (xs : List Value)
  | obj (b : Nat) (o : Obj)
  | room (n : Nat)
def Res.blk : Res → Option Nat
  | .box b _ _ => some b
  | .row _ _ v _ _ => v.ownBlock
  | .obj b _ => some b
  | .room _ => none
def Res.holds (B : Nat) (w : World) : Res → Prop
  | .box b t cs => B ≤ b ∧ w.heap[b]? = some (.cells cs.toArray t (0, 0))
  | .row e size v n xs => w.ownsRow B e size v n xs
  | .obj b o => B ≤ b ∧ w.heap[b]? = some o
  | .room n => n ≤ w.heap.size
def Res.ne (r s : Res) : Prop := ∀ k, r.blk = some k → s.blk ≠ some k
theorem Res.ne_symm {r s : Res} (h : r.ne s) : s.ne r := fun k hs hr => h k hr hs
theorem Res.holds_lt {B : Nat} {w : World} {r : Res} (h : r.holds B w) {k : Nat} (hk : r.blk = some k) : B ≤ k ∧ k < w.heap.size := by
  cases r with
  | box b t cs =>
    cases hk
    exact ⟨h.1, (Array.getElem?_eq_some_iff.1 h.2).1⟩
  | row e size v n xs => exact World.ownsRow.lt h k hk
  | obj b o =>
    cases hk
    exact ⟨h.1, (Array.getElem?_eq_some_iff.1 h.2).1⟩
  | room n => cases hk
theorem Res.holds_keep {B : Nat} {w w' : World} {r : Res} (h : r.holds B w) (hs : w.heap.size ≤ w'.heap.size) (hk : ∀ k, r.blk = some k → w'.heap[k]? = w.heap[k]?) : r.holds B w' := by
  cases r with
  | box b t cs => exact ⟨h.1, (hk b rfl).trans h.2⟩
  | row e size v n xs =>
    refine ⟨h.1, ?_⟩
    rcases h.2 with hn | ⟨g, cap, cur, rfl, hb, hg, rest⟩
    · exact .inl hn
    · exact .inr ⟨g, cap, cur, rfl, hb, (hk g rfl).trans hg, rest⟩
  | obj b o => exact ⟨h.1, (hk b rfl).trans h.2⟩
  | room n => exact Nat.le_trans h hs
structure St (w0 w : World) (rs : List Res) : Prop where
  below : Below w0.heap.size w0 w
  holds : ∀ r ∈ rs, r.holds w0.heap.size w
  apart : rs.Pairwise Res.ne
section
variable {w0 w w' : World} {rs : List Res} {r r' : Res}
theorem St.start (w : World) : St w w [] := ⟨Below.refl _ _, fun _ h => (by cases h), .nil⟩
theorem St.size (h : St w0 w rs) : w0.heap.size ≤ w.heap.size := h.below.size
theorem St.step (h : St w0 w rs) (hb : Below w0.heap.size w w') (hk : ∀ r ∈ rs, ∀ k, r.blk = some k → w'.heap[k]? = w.heap[k]?) : St w0 w' rs :=
  ⟨h.below.trans hb, fun r hr => Res.holds_keep (h.holds r hr) hb.size (hk r hr), h.apart⟩
theorem St.call (h : St w0 w rs) (hb : Below w.heap.size w w') : St w0 w' rs :=
  h.step (hb.mono h.size) fun r hr k hk => hb.block k (Res.holds_lt (h.holds r hr) hk).2
theorem St.drew (h : St w0 w rs) : St w0 w.drew rs := h.call ((Below.refl _ _).drew)
theorem St.drewN (h : St w0 w rs) (n : Nat) : St w0 (w.drewN n) rs := h.call ⟨rfl, rfl, rfl, Nat.le_refl _, fun _ _ => rfl⟩
theorem St.cons (h : St w0 w rs) (hr : r.holds w0.heap.size w) (hn : ∀ s ∈ rs, r.ne s) : St w0 w (r :: rs) :=
  ⟨h.below, fun s hs => by
    rcases List.mem_cons.1 hs with rfl | hs
    · exact hr
    · exact h.holds s hs, List.pairwise_cons.2 ⟨hn, h.apart⟩⟩
theorem St.tail (h : St w0 w (r :: rs)) : St w0 w rs := ⟨h.below, fun s hs => h.holds s (List.mem_cons_of_mem _ hs), (List.pairwise_cons.1 h.apart).2⟩
theorem St.drop (h : St w0 w rs) (n : Nat) : St w0 w (rs.drop n) := ⟨h.below, fun s hs => h.holds s (List.mem_of_mem_drop hs), h.apart.drop⟩
theorem St.sub {rs' : List Res} (h : St w0 w rs) (hs : rs'.Sublist rs) : St w0 w rs' := ⟨h.below, fun s hm => h.holds s (hs.subset hm), h.apart.sublist hs⟩
theorem St.swap {r s : Res} (h : St w0 w (r :: s :: rs)) : St w0 w (s :: r :: rs) := by
  have h1 := List.pairwise_cons.1 h.apart
  have h2 := List.pairwise_cons.1 h1.2
  refine ⟨h.below, fun x hx => h.holds x ?_, List.pairwise_cons.2 ⟨fun x hx => ?_, List.pairwise_cons.2 ⟨fun x hx => h1.1 x (List.mem_cons_of_mem _ hx), h2.2⟩⟩⟩
  · simp only [List.mem_cons] at hx ⊢
    rcases hx with hx | hx | hx
    · exact .inr (.inl hx)
    · exact .inl hx
    · exact .inr (.inr hx)
  · rcases List.mem_cons.1 hx with rfl | hx
    · exact Res.ne_symm (h1.1 s (List.mem_cons_self ..))
    · exact h2.1 x hx
theorem St.fresh (h : St w0 w rs) (hb : Below w.heap.size w w') (hr : r.holds w.heap.size w') : St w0 w' (r :: rs) := by
  have h' := h.call hb
  refine h'.cons ?_ (fun s hs k hk hk' => ?_)
  · cases r with
    | box b t cs => exact ⟨Nat.le_trans h.size hr.1, hr.2⟩
    | row e size v n xs =>
      refine ⟨hr.1, ?_⟩
      rcases hr.2 with hn | ⟨g, cap, cur, rfl, hb, rest⟩
      · exact .inl hn
      · exact .inr ⟨g, cap, cur, rfl, Nat.le_trans h.size hb, rest⟩
    | obj b o => exact ⟨Nat.le_trans h.size hr.1, hr.2⟩
    | room n => exact hr
  · have h1 := (Res.holds_lt hr hk).1
    have h2 := (Res.holds_lt (h.holds s hs) hk').2
    omega
theorem St.alloc (h : St w0 w rs) (cs : List Value) (t : TypeId) : St w0 (w.alloc (.cells cs.toArray t)) (.box w.heap.size t cs :: rs) :=
  h.fresh ((Below.refl _ _).alloc (Nat.le_refl _) _) ⟨Nat.le_refl _, heap_alloc_new w _⟩
theorem pairwise_set {i : Nat} (h : rs.Pairwise Res.ne) (hi : rs[i]? = some r) (hne : ∀ s, r.ne s → s ∈ rs → r'.ne s) : (rs.set i r').Pairwise Res.ne := by
  induction rs generalizing i with
  | nil => simp at hi
  | cons x rs ih =>
    obtain ⟨h1, h2⟩ := List.pairwise_cons.1 h
    rcases i with _ | i
    · simp only [List.getElem?_cons_zero, Option.some.injEq] at hi
      subst hi
      exact List.pairwise_cons.2 ⟨fun s hs => hne s (h1 s hs) (List.mem_cons_of_mem _ hs), h2⟩
    · simp only [List.getElem?_cons_succ] at hi
      refine List.pairwise_cons.2 ⟨fun s hs => ?_, ih h2 hi fun s hs hm => hne s hs (List.mem_cons_of_mem _ hm)⟩
      rcases List.mem_or_eq_of_mem_set hs with hs | rfl
      · exact h1 s hs
      · exact Res.ne_symm (hne x (Res.ne_symm (h1 r (List.mem_of_getElem? hi))) (List.mem_cons_self ..))
theorem St.upd {i : Nat} (h : St w0 w rs) (hi : rs[i]? = some r) (hg : w.grownBy w' r.blk) (hr : r'.holds w0.heap.size w') (hb : ∀ k, r'.blk = some k → r.blk = some k ∨ w.heap.size ≤ k) : St w0 w' (rs.set i r') := by
  have hm : r ∈ rs := List.mem_of_getElem? hi
  have hbel : Below w0.heap.size w w' := (Below.refl _ _).grown hg h.size (fun k hk => (Res.holds_lt (h.holds r hm) hk).1)
  refine ⟨h.below.trans hbel, fun s hs => ?_, pairwise_set h.apart hi fun s hne hs k hk hk' => ?_⟩
  · obtain ⟨j, hj, hjs⟩ := List.mem_iff_getElem.1 hs
    rw [List.getElem_set] at hjs
    split at hjs
    · subst hjs; exact hr
    · rename_i hij
      have hlt : j < rs.length := by simpa using hj
      have hsm : s ∈ rs := by rw [← hjs]; exact List.getElem_mem _
      refine Res.holds_keep (h.holds s hsm) hg.size fun k hk => hg.block k (Res.holds_lt (h.holds s hsm) hk).2 fun e => ?_
      have hil : i < rs.length := (List.getElem?_eq_some_iff.1 hi).1
      have hri : rs[i] = r := (List.getElem?_eq_some_iff.1 hi).2
      have hp := List.pairwise_iff_getElem.1 h.apart
      rcases Nat.lt_or_gt_of_ne hij with hlt' | hlt'
      · have := hp i j hil hlt hlt'
        rw [hri, hjs] at this
        exact this k e.symm hk
      · have := hp j i hlt hil hlt'
        rw [hri, hjs] at this
        exact this k hk e.symm
  · rcases hb k hk with h1 | h1
    · exact hne k h1 hk'
    · have := (Res.holds_lt (h.holds s hs) hk').2
      omega
theorem St.get {i : Nat} (h : St w0 w rs) (hi : rs[i]? = some r) : r.holds w0.heap.size w := h.holds r (List.mem_of_getElem? hi)
theorem St.blk {i b : Nat} {t : TypeId} {cs : List Value} (h : St w0 w rs) (hi : rs[i]? = some (.box b t cs)) : w.heap[b]? = some (.cells cs.toArray t (0, 0)) := (h.get hi).2
theorem St.cell {i b : Nat} {t : TypeId} {cs : List Value} (h : St w0 w rs) (hi : rs[i]? = some (.box b t cs)) (o : Nat) : w.cell? ⟨b, o, none⟩ = cs[o]? := by
  rw [cell_of_row w b o _ t (0, 0) (h.blk hi)]
  simp
theorem St.old (h : St w0 w rs) {b o : Nat} (hb : b < w0.heap.size) : w.cell? ⟨b, o, none⟩ = w0.cell? ⟨b, o, none⟩ := h.below.cell (p := ⟨b, o, none⟩) hb
theorem grownBy_setRow (w : World) (g : Nat) (cs : Array Value) : w.grownBy (w.setRow g cs) (some g) :=
  ⟨rfl, rfl, rfl, by simp, fun k _ hne => setRow_other w g k cs (fun e => hne (by rw [e]))⟩
end
class OneT (P : Program) (t : TypeId) : Prop where
  agg : ∀ w, (isAgg t).run P w = .ok false w
  size : ∀ w, (sizeOf t).run P w = .ok 1 w
class AggT (P : Program) (t : TypeId) (n : outParam Nat) : Prop where
  agg : ∀ w, (isAgg t).run P w = .ok true w
  size : ∀ w, (sizeOf t).run P w = .ok n w
class ZeroT (P : Program) (t : TypeId) (z : outParam Value) : Prop where
  zero : ∀ w, (zeroValue t).run P w = .ok z w
section
variable {P : Program} {ops : Array Oper} {rest : List Oper} {o : Oper} {a : Act} {w0 w : World} {rs : List Res} {Q : Exit → Act → World → Prop} {K : Act → World → Prop}
@[irreducible] def OW (P : Program) (o : Oper) (a : Act) (w : World) (K : Act → World → Prop) (Q : Exit → Act → World → Prop) : Prop := o.wp P a w K Q
theorem OW.mk (h : o.wp P a w K Q) : OW P o a w K Q := by unfold OW; exact h
theorem OW.out (h : OW P o a w K Q) : o.wp P a w K Q := by unfold OW at h; exact h
theorem wpList_of_wp (hw : Region.wanted o (yielded ops a.tmps) = true) (h : ∀ K : Act → World → Prop, (∀ a w, wpList P ops Q rest a w → K a w) → OW P o a w K Q) : wpList P ops Q (o :: rest) a w :=
  wpList_step fun K hK => by rw [if_pos hw]; exact (h K hK).out
theorem wp_value {v : Value} {w' : World} (hr : (execOp a.eval o).run P w = .ok (.value v) w') (h : K (a.put o.dst v) w') : o.wp P a w K Q := by
  unfold Oper.wp; rw [hr]; exact h
theorem wp_skip_ {w' : World} (hr : (execOp a.eval o).run P w = .ok .skip w') (h : K (a.put o.dst undef) w') : o.wp P a w K Q := by
  unfold Oper.wp; rw [hr]; exact h
theorem add_lit (b o j : Nat) : (⟨b, o, none⟩ : Addr).add j = ⟨b, o + j, none⟩ := by
  unfold Addr.add; split <;> simp_all
theorem run_load1 {t : TypeId} [hT : OneT P t] {b o : Nat} {v : Value} (hc : w.cell? ⟨b, o, none⟩ = some v) : (Instr.loadAt t (.pointer (some ⟨b, o, none⟩))).run P w = .ok v w := by
  simp [Instr.loadAt, Instr.sureAddr, loadVar, hT.agg, load, Sem.run, hc]
theorem run_loadN {t n : Nat} [hT : AggT P t n] {b o : Nat} {vs : List Value} (hn : vs.length = n) (hc : ∀ j v, vs[j]? = some v → w.cell? ⟨b, o + j, none⟩ = some v) : (Instr.loadAt t (.pointer (some ⟨b, o, none⟩))).run P w = .ok (.agg vs.toArray) w := by
  have hl : (loadCells ⟨b, o, none⟩ vs.length).run P w = .ok vs.toArray w :=
    run_loadCells_list (P := P) w ⟨b, o, none⟩ vs (fun j v hv => by rw [add_lit]; exact hc j v hv)
  rw [hn] at hl
  simp [Instr.loadAt, Instr.sureAddr, loadVar, hT.agg, hT.size, hl]
theorem run_storeAt {t : TypeId} {n b o : Nat} {bt : TypeId} {cs : List Value} {v : Value} {vs : List Value} (hs : ∀ w, (sizeOf t).run P w = .ok n w) (hv : v.cells.toList = vs) (hn : vs.length = n) (h1 : ∀ u ∈ vs, u.oneCell' = true)
    (hb : w.heap[b]? = some (.cells cs.toArray bt (0, 0))) (ho : o + n ≤ cs.length) :
    (Instr.storeAt t (.pointer (some ⟨b, o, none⟩)) v).run P w = .ok () (w.setRow b (cs.take o ++ vs ++ cs.drop (o + n)).toArray) := by
  have hst := run_storeCells_at P b o bt vs 0 cs.toArray w hb (by simp; omega) h1
  have hsz : v.cells.size = n := by rw [← hn, ← hv]; simp
  simp only [Nat.add_zero, List.toList_toArray, hn] at hst
  simp [Instr.storeAt, Instr.sureAddr, storeVar, hs, hsz, hv, hst]
theorem St.store {i b o n : Nat} {bt : TypeId} {cs vs : List Value} (st : St w0 w rs) (hi : rs[i]? = some (.box b bt cs)) : St w0 (w.setRow b (cs.take o ++ vs ++ cs.drop (o + n)).toArray) (rs.set i (.box b bt (cs.take o ++ vs ++ cs.drop (o + n)))) :=
  st.upd hi (grownBy_setRow w b _) ⟨(st.get hi).1, setRow_heap w b _ _ bt _ (st.blk hi)⟩ (fun k hk => .inl hk)
theorem wp_box {t : TypeId} {x : Operand} {v : Value} {cs : List Value} (st : St w0 w rs) (ho : o.op = .box t x) (hx : a.eval x = v) (hv : v.cells.toList = cs)
    (h : ∀ b w', St w0 w' (.box b t cs :: rs) → K (a.put o.dst (.pointer (some ⟨b, 0, none⟩))) w') : o.wp P a w K Q := by
  subst hv
  refine wp_value (v := .pointer (some ⟨w.heap.size, 0, none⟩)) (w' := w.alloc (.cells v.cells.toList.toArray t)) ?_ (h _ _ (st.alloc _ t))
  simp only [execOp, ho, hx, Instr.box, newVar, newRow]
  simp
theorem wp_alloc {t : TypeId} {z : Value} {cs : List Value} (st : St w0 w rs) (ho : o.op = .alloc t) (hT : ZeroT P t z) (hv : z.cells.toList = cs)
    (h : ∀ b w', St w0 w' (.box b t cs :: rs) → K (a.put o.dst (.pointer (some ⟨b, 0, none⟩))) w') : o.wp P a w K Q := by
  subst hv
  refine wp_value (v := .pointer (some ⟨w.heap.size, 0, none⟩)) (w' := w.alloc (.cells z.cells.toList.toArray t)) ?_ (h _ _ (st.alloc _ t))
  simp [execOp, ho, Instr.alloc, hT.zero, newVar, newRow, go_sem]
theorem wp_load1 {t : TypeId} {x : Operand} {i b p : Nat} {bt : TypeId} {cs : List Value} {v : Value} (st : St w0 w rs) (ho : o.op = .load t x) (hT : OneT P t) (hx : a.eval x = .pointer (some ⟨b, p, none⟩)) (hi : rs[i]? = some (.box b bt cs)) (hv : cs[p]? = some v)
    (h : K (a.put o.dst v) w) : o.wp P a w K Q := by
  refine wp_value ?_ h
  simp [execOp, ho, hx, run_load1 (P := P) (t := t) (hT := hT) ((st.cell hi p).trans hv)]
theorem wp_loadN {t n : Nat} {x : Operand} {i b p : Nat} {bt : TypeId} {cs vs : List Value} (st : St w0 w rs) (ho : o.op = .load t x) (hT : AggT P t n) (hx : a.eval x = .pointer (some ⟨b, p, none⟩)) (hi : rs[i]? = some (.box b bt cs)) (hv : (cs.drop p).take n = vs) (hn : vs.length = n)
    (h : K (a.put o.dst (.agg vs.toArray)) w) : o.wp P a w K Q := by
  refine wp_value ?_ h
  have := run_loadN (P := P) (t := t) (hT := hT) (w := w) (b := b) (o := p) hn (fun j v hj => by
    rw [st.cell hi]
    rw [← hv, List.getElem?_take] at hj
    split at hj
    · rwa [List.getElem?_drop] at hj
    · cases hj)
  simp [execOp, ho, hx, this]
theorem wp_old1 {t : TypeId} {x : Operand} {b p : Nat} {v : Value} (st : St w0 w rs) (ho : o.op = .load t x) (hT : OneT P t) (hx : a.eval x = .pointer (some ⟨b, p, none⟩)) (hb : b < w0.heap.size) (hv : w0.cell? ⟨b, p, none⟩ = some v)
    (h : K (a.put o.dst v) w) : o.wp P a w K Q := by
  refine wp_value ?_ h
  simp [execOp, ho, hx, run_load1 (P := P) (t := t) (hT := hT) ((st.old hb).trans hv)]
theorem wp_old4 {t : TypeId} {x : Operand} {b p : Nat} {v0 v1 v2 v3 : Value} (st : St w0 w rs) (ho : o.op = .load t x) (hT : AggT P t 4) (hx : a.eval x = .pointer (some ⟨b, p, none⟩)) (hb : b < w0.heap.size)
    (h0 : w0.cell? ⟨b, p, none⟩ = some v0) (h1 : w0.cell? ⟨b, p + 1, none⟩ = some v1) (h2 : w0.cell? ⟨b, p + 2, none⟩ = some v2) (h3 : w0.cell? ⟨b, p + 3, none⟩ = some v3)
    (h : K (a.put o.dst (.agg #[v0, v1, v2, v3])) w) : o.wp P a w K Q := by
  refine wp_value ?_ h
  have := run_loadN (P := P) (t := t) (hT := hT) (w := w) (b := b) (o := p) (vs := [v0, v1, v2, v3]) rfl (fun j v hj => by
    rw [st.old hb]
    match j, hj with
    | 0, hj => exact h0.trans hj
    | 1, hj => exact h1.trans hj
    | 2, hj => exact h2.trans hj
    | 3, hj => exact h3.trans hj)
  simp [execOp, ho, hx, this]
theorem wp_store1 {t : TypeId} {x y : Operand} {i b p : Nat} {bt : TypeId} {cs : List Value} {v : Value} (st : St w0 w rs) (ho : o.op = .store t x y) (hT : OneT P t) (hx : a.eval x = .pointer (some ⟨b, p, none⟩)) (hi : rs[i]? = some (.box b bt cs)) (hy : a.eval y = v) (hv : v.cells.toList = [v]) (h1 : v.oneCell' = true) (hp : p + 1 ≤ cs.length)
    (h : ∀ w', St w0 w' (rs.set i (.box b bt (cs.take p ++ [v] ++ cs.drop (p + 1)))) → K (a.put o.dst undef) w') : o.wp P a w K Q := by
  refine wp_skip_ ?_ (h _ (st.store (o := p) (n := 1) (vs := [v]) hi))
  have := run_storeAt (P := P) (t := t) (o := p) hT.size hv rfl (by simpa using h1) (st.blk hi) hp
  simp [execOp, ho, hx, hy, this]
theorem wp_storeN {t n : Nat} {x y : Operand} {i b p : Nat} {bt : TypeId} {cs vs : List Value} (st : St w0 w rs) (ho : o.op = .store t x y) (hT : AggT P t n) (hx : a.eval x = .pointer (some ⟨b, p, none⟩)) (hi : rs[i]? = some (.box b bt cs)) (hy : a.eval y = .agg vs.toArray) (hn : vs.length = n) (h1 : vs.all (·.oneCell') = true) (hp : p + n ≤ cs.length)
    (h : ∀ w', St w0 w' (rs.set i (.box b bt (cs.take p ++ vs ++ cs.drop (p + n)))) → K (a.put o.dst undef) w') : o.wp P a w K Q := by
  refine wp_skip_ ?_ (h _ (st.store (o := p) (n := n) (vs := vs) hi))
  have := run_storeAt (P := P) (t := t) (o := p) (v := .agg vs.toArray) (vs := vs) hT.size (by simp [Value.cells]) hn (fun u hu => List.all_eq_true.1 h1 u hu) (st.blk hi) hp
  simp [execOp, ho, hx, hy, this]
theorem wp_new {f : Nat → Value} {t : TypeId} {cs : List Value} (st : St w0 w rs) (hr : (execOp a.eval o).run P w = .ok (.value (f w.heap.size)) (w.alloc (.cells cs.toArray t)))
    (h : ∀ b w', St w0 w' (.box b t cs :: rs) → K (a.put o.dst (f b)) w') : o.wp P a w K Q := wp_value hr (h _ _ (st.alloc _ t))
theorem ow_box {t : TypeId} {x : Operand} {v : Value} {cs : List Value} (st : St w0 w rs) (ho : o.op = .box t x) (hx : a.eval x = v) (hv : v.cells.toList = cs)
    (h : ∀ b w', St w0 w' (.box b t cs :: rs) → K (a.put o.dst (.pointer (some ⟨b, 0, none⟩))) w') : OW P o a w K Q := OW.mk (wp_box st ho hx hv h)
theorem ow_alloc {t : TypeId} {z : Value} {cs : List Value} (st : St w0 w rs) (ho : o.op = .alloc t) (hT : ZeroT P t z) (hv : z.cells.toList = cs)
    (h : ∀ b w', St w0 w' (.box b t cs :: rs) → K (a.put o.dst (.pointer (some ⟨b, 0, none⟩))) w') : OW P o a w K Q := OW.mk (wp_alloc st ho hT hv h)
theorem ow_load1 {t : TypeId} {x : Operand} {i b p : Nat} {bt : TypeId} {cs : List Value} {v : Value} (st : St w0 w rs) (ho : o.op = .load t x) (hT : OneT P t) (hx : a.eval x = .pointer (some ⟨b, p, none⟩)) (hi : rs[i]? = some (.box b bt cs)) (hv : cs[p]? = some v)
    (h : K (a.put o.dst v) w) : OW P o a w K Q := OW.mk (wp_load1 st ho hT hx hi hv h)
theorem ow_loadN {t n : Nat} {x : Operand} {i b p : Nat} {bt : TypeId} {cs vs : List Value} (st : St w0 w rs) (ho : o.op = .load t x) (hT : AggT P t n) (hx : a.eval x = .pointer (some ⟨b, p, none⟩)) (hi : rs[i]? = some (.box b bt cs)) (hv : (cs.drop p).take n = vs) (hn : vs.length = n)
    (h : K (a.put o.dst (.agg vs.toArray)) w) : OW P o a w K Q := OW.mk (wp_loadN st ho hT hx hi hv hn h)
theorem ow_old1 {t : TypeId} {x : Operand} {b p : Nat} {v : Value} (st : St w0 w rs) (ho : o.op = .load t x) (hT : OneT P t) (hx : a.eval x = .pointer (some ⟨b, p, none⟩)) (hb : b < w0.heap.size) (hv : w0.cell? ⟨b, p, none⟩ = some v)
    (h : K (a.put o.dst v) w) : OW P o a w K Q := OW.mk (wp_old1 st ho hT hx hb hv h)
theorem ow_old4 {t : TypeId} {x : Operand} {b p : Nat} {v0 v1 v2 v3 : Value} (st : St w0 w rs) (ho : o.op = .load t x) (hT : AggT P t 4) (hx : a.eval x = .pointer (some ⟨b, p, none⟩)) (hb : b < w0.heap.size)
    (h0 : w0.cell? ⟨b, p, none⟩ = some v0) (h1 : w0.cell? ⟨b, p + 1, none⟩ = some v1) (h2 : w0.cell? ⟨b, p + 2, none⟩ = some v2) (h3 : w0.cell? ⟨b, p + 3, none⟩ = some v3)
    (h : K (a.put o.dst (.agg #[v0, v1, v2, v3])) w) : OW P o a w K Q := OW.mk (wp_old4 st ho hT hx hb h0 h1 h2 h3 h)
@[irreducible] def WL (P : Program) (ops : Array Oper) (Q : Exit → Act → World → Prop) (l : List Oper) (a : Act) (w : World) : Prop := wpList P ops Q l a w
theorem WL.out {l : List Oper} (h : WL P ops Q l a w) : wpList P ops Q l a w := by unfold WL at h; exact h
theorem WL.mk {l : List Oper} (h : wpList P ops Q l a w) : WL P ops Q l a w := by unfold WL; exact h
theorem WL.nil (h : Q .normal a w) : WL P ops Q [] a w := .mk h
theorem WL.op (hw : Region.wanted o (yielded ops a.tmps) = true) (h : ∀ K : Act → World → Prop, (∀ a w, WL P ops Q rest a w → K a w) → OW P o a w K Q) : WL P ops Q (o :: rest) a w :=
  .mk (wpList_of_wp hw fun K hK => h K fun a w h' => hK a w h'.out)
theorem WL.skip {a' : Act} (hw : Region.wanted o (yielded ops a.tmps) = false) (ha : a.put o.dst undef = a') (h : WL P ops Q rest a' w) : WL P ops Q (o :: rest) a w :=
  .mk (wpList_step fun K hK => by rw [hw]; simp only [Bool.false_eq_true, if_false]; rw [ha]; exact hK _ _ h.out)
theorem WL.next {a' : Act} (hK : ∀ a w, WL P ops Q rest a w → K a w) (ha : a = a') (h : WL P ops Q rest a' w) : K a w := ha ▸ hK _ _ (ha ▸ h)
theorem ow_run {v : Value} {r : Result Next} (hr : (execOp a.eval o).run P w = r) (hv : r = .ok (.value v) w) (h : K (a.put o.dst v) w) : OW P o a w K Q := OW.mk (wp_value (hr.trans hv) h)
theorem ow_move {x : Operand} {v : Value} (ho : o.op = .move x) (hx : a.eval x = v) (h : K (a.put o.dst v) w) : OW P o a w K Q := OW.mk (wp_value (v := v) (w' := w) (by simp only [execOp, ho, hx]; rfl) h)
theorem ow_assign {x : Operand} {v : Value} (ho : o.op = .assign x) (hx : a.eval x = v) (h : K (a.put o.dst v) w) : OW P o a w K Q := OW.mk (wp_value (v := v) (w' := w) (by simp only [execOp, ho, hx]; rfl) h)
theorem ow_call {f : FuncId} {args : Array Value} {r : Result Next} (hr : (execOp a.eval o).run P w = r) (hv : r = .ok (.enter f args) w) (h : Calls P f args w fun e w' => ∃ v, e = .returned v ∧ K (a.put o.dst v) w') : OW P o a w K Q := by
  refine OW.mk ?_
  unfold Oper.wp
  rw [hr, hv]
  refine Calls.mono h ?_
  rintro e w' ⟨v, rfl, hk⟩
  exact hk
@[irreducible] def UP (P : Program) (o : Oper) (a : Act) (K : Act → World → Prop) (Q : Exit → Act → World → Prop) (r : Result Next) : Prop := o.upon P a K Q r
theorem ow_eval {r : Result Next} (hr : (execOp a.eval o).run P w = r) (h : UP P o a K Q r) : OW P o a w K Q := by
  refine OW.mk ?_
  unfold Oper.wp
  rw [hr]
  unfold UP at h
  exact h
theorem up_value {v : Value} (h : K (a.put o.dst v) w) : UP P o a K Q (.ok (.value v) w) := by unfold UP; exact h
theorem up_skip (h : K (a.put o.dst undef) w) : UP P o a K Q (.ok .skip w) := by unfold UP; exact h
theorem up_enter {f : FuncId} {args : Array Value} (h : Calls P f args w fun e w' => ∃ v, e = .returned v ∧ K (a.put o.dst v) w') : UP P o a K Q (.ok (.enter f args) w) := by
  unfold UP
  refine Calls.mono h ?_
  rintro e w' ⟨v, rfl, hk⟩
  exact hk
theorem wp_region_WL {id : Nat} {l : List Oper} (h : WL P l.toArray Q l a w) : (Code.region id l.toArray false).wp P Q a w := wp_region_lit h.out
end
end Go.Hp
namespace Go.Hp
open Go.RowKit
def fillA : List Oper → List Value → Act → Act
  | o :: l, x :: xs, a => fillA l xs (a.put o.dst x)
  | _, _, a => a
def distinctB : List Oper → Bool
  | [] => true
  | o :: l => l.all (fun o' => o.dst.isNone || o.dst != o'.dst) && distinctB l
theorem put_put (a : Act) (d : Option Tmp) (x v : Value) : (a.put d x).put d v = a.put d v := by
  cases d with
  | none => rfl
  | some d => simp [Act.put]
theorem put_self (a : Act) (d : Option Tmp) : a.put d (match d with | some d => a.tmps.getD d undef | none => undef) = a := by
  cases d with
  | none => rfl
  | some d =>
    cases a with
    | mk tmps defers =>
      simp only [Act.put]
      congr 1
      apply Array.ext_getElem?
      intro i
      rw [Array.getElem?_setIfInBounds]
      split
      · rename_i h
        subst h
        split
        · rename_i h; simp [h]
        · rename_i h; simp [Array.getElem?_eq_none (Nat.le_of_not_lt h)]
      · rfl
theorem fillA_self : ∀ (l : List Oper) (a : Act), fillA l (l.map fun o => match o.dst with | some d => a.tmps.getD d undef | none => undef) a = a
  | [], a => rfl
  | o :: l, a => by
    simp only [List.map_cons, fillA]
    rw [put_self a o.dst]
    exact fillA_self l a
theorem fillA_comm : ∀ (l : List Oper) (xs : List Value) (a : Act) (d : Option Tmp) (v : Value), (∀ o ∈ l, d = none ∨ d ≠ o.dst) → (fillA l xs a).put d v = fillA l xs (a.put d v)
  | [], xs, a, d, v, _ => by cases xs <;> rfl
  | o :: l, [], a, d, v, _ => rfl
  | o :: l, x :: xs, a, d, v, h => by
    simp only [fillA]
    rw [fillA_comm l xs _ d v (fun o' ho => h o' (List.mem_cons_of_mem _ ho))]
    rcases h o (List.mem_cons_self ..) with rfl | hne
    · rfl
    · rw [Act.put_comm a x v (fun e he hd => hne (by rw [hd, he]))]
theorem fillA_put : ∀ (l : List Oper) (xs : List Value) (a : Act) (i : Nat) (o : Oper) (v : Value), distinctB l = true → l[i]? = some o → xs.length = l.length → (fillA l xs a).put o.dst v = fillA l (xs.set i v) a
  | [], _, _, _, _, _, _, h, _ => by simp at h
  | o0 :: l, [], _, _, _, _, _, _, h => by simp at h
  | o0 :: l, x :: xs, a, 0, o, v, hd, hi, _ => by
    simp only [List.getElem?_cons_zero, Option.some.injEq] at hi
    subst hi
    simp only [distinctB, Bool.and_eq_true, List.all_eq_true] at hd
    simp only [fillA, List.set_cons_zero]
    rw [fillA_comm l xs _ _ v (fun o' ho => ?_), put_put]
    have := hd.1 o' ho
    simp only [Bool.or_eq_true, Option.isNone_iff_eq_none, bne_iff_ne] at this
    exact this
  | o0 :: l, x :: xs, a, i + 1, o, v, hd, hi, hl => by
    simp only [distinctB, Bool.and_eq_true] at hd
    simp only [fillA, List.set_cons_succ]
    exact fillA_put l xs _ i o v hd.2 (by simpa using hi) (by simpa using hl)
abbrev Phi := Nat → Nat → Value → World → Prop
def isV (x : Value) : Phi := fun _ _ v _ => v = x
def Phi.stable (φ : Phi) : Prop := ∀ lo hi v w1 w2, Below w1.heap.size w1 w2 → hi ≤ w1.heap.size → φ lo hi v w1 → φ lo hi v w2
theorem isV_stable (x : Value) : (isV x).stable := fun _ _ _ _ _ _ _ h => h
def Yphi (P : Program) (ops : Array Oper) (o : Oper) (a : Act) (w : World) (φ : Phi) : Prop :=
  (Region.wanted o (yielded ops a.tmps) = true ∧ o.wp P a w (fun a' w' => ∃ v, a' = a.put o.dst v ∧ Below w.heap.size w w' ∧ φ w.heap.size w'.heap.size v w') (fun _ _ _ => False)) ∨
  (Region.wanted o (yielded ops a.tmps) = false ∧ φ w.heap.size w.heap.size undef w)
def backB (ops : Array Oper) (n : Nat) : Bool := (List.range n).all fun i => match ops[i]? with | some o => o.after.all fun e => !Region.binds .any e || decide (e.on < i) | none => false
def headListed (n m : Nat) : Array Bool := ((List.range m).map fun k => decide (k < n)).toArray
def phiB (l : List Oper) (n : Nat) : Bool :=
  distinctB (l.take n) && decide (n ≤ l.length) && backB l.toArray n && (decide (n = l.length) || (Region.sinkB .any l.toArray n && Region.chainB .any l.toArray n)) && Region.seqB .any l.toArray (l.length - n) n (headListed n l.length)
theorem wp_strong {P : Program} {o : Oper} {a : Act} {w : World} {K K' : Act → World → Prop} {Q : Exit → Act → World → Prop} (h : ∀ a w, K a w → K' a w) (hh : o.wp P a w K (fun _ _ _ => False)) : o.wp P a w K' Q := by
  unfold Oper.wp at *
  generalize (execOp a.eval o).run P w = r at *
  cases r with
  | ok x w' =>
    cases x <;> simp only [Oper.upon] at hh ⊢ <;> first | exact h _ _ hh | exact hh.elim | skip
    case enter f args =>
      refine Calls.mono hh ?_
      intro e w'' he
      cases e with
      | returned v => exact h _ _ he
      | panicked c => exact he.elim
      | outgrown => obtain ⟨_, _, he⟩ := he; exact he.elim
    case row r args => exact hh.mono fun v w'' hv => h _ _ hv
  | halt x w' =>
    cases x <;> simp only [Oper.upon] at hh ⊢
section
variable {P : Program} {Q : Exit → Act → World → Prop} {a : Act} {w : World} {l : List Oper} {n : Nat} {Φ : List Phi}
structure PhiInv (l : List Oper) (n : Nat) (Φ : List Phi) (a : Act) (w : World) (listed : Array Bool) (a' : Act) (w1 : World) : Prop where
  inv : HeadInv .any l.toArray n listed
  below : Below w.heap.size w w1
  ex : ∃ (xs : List Value) (lo hi : Nat → Nat), xs.length = n ∧ a' = fillA (l.take n) xs a ∧
    (∀ k φ, Φ[k]? = some φ → listed.getD k false = true → w.heap.size ≤ lo k ∧ hi k ≤ w1.heap.size ∧ φ (lo k) (hi k) (xs.getD k undef) w1) ∧
    (∀ j k, j ≠ k → listed.getD j false = true → listed.getD k false = true → hi j ≤ lo k ∨ hi k ≤ lo j)
theorem getD_false_true {listed : Array Bool} {k : Nat} (h : listed.getD k true = false) : listed.getD k false = false := getD_both h
theorem wpAny_phi (hB : phiB l n = true) (hΦ : Φ.length = n) (stable : ∀ φ ∈ Φ, φ.stable)
    (step : ∀ i o φ, i < n → l[i]? = some o → Φ[i]? = some φ → ∀ xs : List Value, xs.length = n → ∀ w1, Below w.heap.size w w1 →
      (∀ k φk, k < n → Region.waitsFor .any l.toArray i k = true → Φ[k]? = some φk → ∃ lo hi, w.heap.size ≤ lo ∧ hi ≤ w1.heap.size ∧ φk lo hi (xs.getD k undef) w1) → Yphi P l.toArray o (fillA (l.take n) xs a) w1 φ)
    (fin : ∀ (xs : List Value) (lo hi : Nat → Nat) w1, xs.length = n → Below w.heap.size w w1 → (∀ k φ, Φ[k]? = some φ → w.heap.size ≤ lo k ∧ hi k ≤ w1.heap.size ∧ φ (lo k) (hi k) (xs.getD k undef) w1) →
      (∀ j k, j < n → k < n → j ≠ k → hi j ≤ lo k ∨ hi k ≤ lo j) → wpList P l.toArray Q (l.drop n) (fillA (l.take n) xs a) w1) :
    ∀ (f : Nat) (listed : Array Bool) (a' : Act) (w1 : World), PhiInv l n Φ a w listed a' w1 → ((List.range n).filter fun k => !listed.getD k false).length = f → wpAny P .any l.toArray Q (f + (l.length - n)) listed a' w1 := by
  simp only [phiB, Bool.and_eq_true, decide_eq_true_eq, Bool.or_eq_true] at hB
  obtain ⟨⟨⟨⟨hdist, hn⟩, hback⟩, htail⟩, hseq⟩ := hB
  have htl : (l.take n).length = n := by simp; omega
  intro f
  induction f with
  | zero =>
    intro listed a' w1 hI hf
    have hall : ∀ k, k < n → listed.getD k false = true := by
      intro k hk
      cases hl : listed.getD k false with
      | true => rfl
      | false =>
        have : k ∈ (List.range n).filter fun k => !listed.getD k false := List.mem_filter.2 ⟨List.mem_range.2 hk, by simp [hl]⟩
        rw [List.length_eq_zero_iff.1 hf] at this
        cases this
    have hls : listed = headListed n l.length := by
      have hsz := hI.inv.size
      simp only [List.size_toArray] at hsz
      apply Array.ext
      · simp [headListed, hsz]
      · intro k h1 h2
        have hk : k < l.length := by omega
        simp only [headListed, List.getElem_toArray, List.getElem_map, List.getElem_range]
        by_cases hkn : k < n
        · have := hall k hkn
          simp [h1] at this
          simp [this, hkn]
        · have := hI.inv.tail k (by omega) (by simpa using hk)
          simp [h1] at this
          simp [this, hkn]
    obtain ⟨xs, lo, hi, hlen, rfl, h1, h2⟩ := hI.ex
    have := fin xs lo hi w1 hlen hI.below (fun k φ hk => h1 k φ hk (hall k (by rw [← hΦ]; exact (List.getElem?_eq_some_iff.1 hk).1))) (fun j k hj hk hne => h2 j k hne (hall j hj) (hall k hk))
    rw [Nat.zero_add, hls]
    have hdl : (l.drop n).length = l.length - n := by simp
    rw [← hdl]
    exact wpAny_of_seq (l.drop n) n _ _ _ (fun j => by simp [List.getElem?_drop]) (by rw [hdl]; exact hseq) this
  | succ f ih =>
    intro listed a' w1 hI hf
    have hex : ∃ k, k < n ∧ listed.getD k false = false := by
      cases hfl : (List.range n).filter fun k => !listed.getD k false with
      | nil => rw [hfl] at hf; simp at hf
      | cons k r =>
        have hm : k ∈ (List.range n).filter fun k => !listed.getD k false := by rw [hfl]; exact List.mem_cons_self ..
        obtain ⟨hk1, hk2⟩ := List.mem_filter.1 hm
        exact ⟨k, List.mem_range.1 hk1, by simpa using hk2⟩
    have hsz : listed.size = l.length := by have := hI.inv.size; simpa using this
    have hready : Region.ready .any l.toArray listed ≠ [] := by
      obtain ⟨k, hk⟩ := hex
      induction k using Nat.strongRecOn with
      | _ k ihk =>
        obtain ⟨hkn, hkl⟩ := hk
        by_cases hsm : ∃ j, j < k ∧ listed.getD j false = false
        · obtain ⟨j, hj, hjl⟩ := hsm
          exact ihk j hj ⟨by omega, hjl⟩
        · intro h0
          have hmem : k ∈ Region.ready .any l.toArray listed := by
            have hklt : k < l.length := by omega
            refine mem_ready.2 ⟨getD_in (by omega) hkl, l[k], by simp [hklt], fun e he hb => ?_⟩
            have := List.all_eq_true.1 hback k (List.mem_range.2 hkn)
            simp only [List.getElem?_toArray, List.getElem?_eq_getElem hklt] at this
            have := Array.all_eq_true_iff_forall_mem.1 this e he
            simp only [hb, Bool.not_true, Bool.false_or, decide_eq_true_eq] at this
            cases hle : listed.getD e.on false with
            | true => rfl
            | false => exact absurd ⟨e.on, this, hle⟩ hsm
          rw [h0] at hmem
          cases hmem
    rw [show f + 1 + (l.length - n) = (f + (l.length - n)) + 1 by omega]
    refine ⟨fun h0 => absurd h0 hready, fun i hi => ?_⟩
    have hin : i < n := by
      rcases Nat.lt_or_ge i n with h | h
      · exact h
      · exfalso
        rcases htail with ht | ht
        · obtain ⟨_, o, ho, _⟩ := mem_ready.1 hi
          have := (Array.getElem?_eq_some_iff.1 ho).1
          simp at this
          omega
        · obtain ⟨k, hkn, hkl⟩ := hex
          obtain ⟨_, o, ho, _⟩ := mem_ready.1 hi
          have := (Array.getElem?_eq_some_iff.1 ho).1
          simp at this
          exact tail_waits ht.1 ht.2 (by simp; omega) hI.inv _ k rfl hkn (getD_in (by omega) hkl) i h hi
    obtain ⟨hun, o, ho, hdeps⟩ := mem_ready.1 hi
    have ho' : l[i]? = some o := by simpa using ho
    obtain ⟨xs, lo, hi', hlen, rfl, h1, h2⟩ := hI.ex
    have hφ : ∃ φ, Φ[i]? = some φ := ⟨Φ[i]'(by omega), List.getElem?_eq_getElem (by omega)⟩
    obtain ⟨φ, hφ⟩ := hφ
    have hy := step i o φ hin ho' hφ xs hlen w1 hI.below (fun k φk hk hwt hφk => by
      obtain ⟨o2, ho2, e, he, hb, hon⟩ := Region.waitsFor_spec hwt
      have : o2 = o := Option.some.inj (ho2.symm.trans ho)
      subst this
      have hlk := hdeps e he hb
      rw [hon] at hlk
      obtain ⟨a1, a2, a3⟩ := h1 k φk hφk hlk
      exact ⟨lo k, hi' k, a1, a2, a3⟩)
    have hnext : ∀ v w2, Below w1.heap.size w1 w2 → φ w1.heap.size w2.heap.size v w2 → PhiInv l n Φ a w (listed.setIfInBounds i true) ((fillA (l.take n) xs a).put o.dst v) w2 := by
      intro v w2 hb hv
      have hb0 := hI.below.size
      refine ⟨hI.inv.set hi hin, hI.below.trans (hb.mono hb0), xs.set i v, fun k => if k = i then w1.heap.size else lo k, fun k => if k = i then w2.heap.size else hi' k, by simpa using hlen, ?_, ?_, ?_⟩
      · exact fillA_put (l.take n) xs a i o v hdist (by rw [List.getElem?_take, if_pos hin]; exact ho') (by rw [hlen, htl])
      · intro k φk hk hlk
        by_cases hki : k = i
        · subst hki
          have : φk = φ := Option.some.inj (hk.symm.trans hφ)
          subst this
          simp only [if_true]
          refine ⟨hb0, Nat.le_refl _, ?_⟩
          have : (xs.set k v).getD k undef = v := by simp [List.getD, hlen, hin]
          rw [this]; exact hv
        · rw [getD_set_ne false (Ne.symm hki)] at hlk
          obtain ⟨b1, b2, b3⟩ := h1 k φk hk hlk
          simp only [hki, if_false]
          refine ⟨b1, Nat.le_trans b2 hb.size, ?_⟩
          have : (xs.set i v).getD k undef = xs.getD k undef := by simp [List.getD, List.getElem?_set_ne (Ne.symm hki)]
          rw [this]
          exact stable φk (List.mem_of_getElem? hk) _ _ _ _ _ hb b2 b3
      · intro j k hjk hj hk
        have hle : ∀ m, m ≠ i → (listed.setIfInBounds i true).getD m false = true → hi' m ≤ w1.heap.size := fun m hm hml => by
          rw [getD_set_ne false (Ne.symm hm)] at hml
          rcases Nat.lt_or_ge m n with hmn | hmn
          · exact (h1 m (Φ[m]'(by omega)) (List.getElem?_eq_getElem (by omega)) hml).2.1
          · rcases Nat.lt_or_ge m l.length with hm2 | hm2
            · have := hI.inv.tail m hmn (by simpa using hm2)
              rw [getD_both this] at hml; cases hml
            · simp [Array.getElem?_eq_none (show listed.size ≤ m by omega)] at hml
        by_cases hji : j = i
        · subst hji
          simp only [if_true, if_neg (Ne.symm hjk)]
          exact .inr (hle k (Ne.symm hjk) hk)
        · by_cases hki : k = i
          · subst hki
            simp only [if_true, if_neg hji]
            exact .inl (hle j hji hj)
          · simp only [if_neg hji, if_neg hki]
            rw [getD_set_ne false (Ne.symm hji)] at hj
            rw [getD_set_ne false (Ne.symm hki)] at hk
            exact h2 j k hjk hj hk
    have hcount : ((List.range n).filter fun k => !(listed.setIfInBounds i true).getD k false).length = f := by
      have hlt : i < listed.size := by omega
      have e1 : ((List.range n).filter fun k => !listed.getD k false) = (List.range n).filter (fun k => decide (k = i) || !(listed.setIfInBounds i true).getD k false) := by
        apply List.filter_congr
        intro k _
        by_cases hki : k = i
        · subst hki; simp [getD_both hun]
        · rw [getD_set_ne false (Ne.symm hki)]; simp [hki]
      rw [e1] at hf
      have hnd : (List.range n).Nodup := List.nodup_range
      have e2 : ∀ (m : List Nat), m.Nodup → i ∈ m → (m.filter (fun k => decide (k = i) || !(listed.setIfInBounds i true).getD k false)).length = (m.filter fun k => !(listed.setIfInBounds i true).getD k false).length + 1 := by
        intro m
        induction m with
        | nil => intro _ h; cases h
        | cons x m ihm =>
          intro hnd hm
          obtain ⟨hx, hnd⟩ := List.nodup_cons.1 hnd
          by_cases hxi : x = i
          · subst hxi
            have : (m.filter (fun k => decide (k = x) || !(listed.setIfInBounds x true).getD k false)) = m.filter fun k => !(listed.setIfInBounds x true).getD k false := by
              apply List.filter_congr
              intro k hk
              have : k ≠ x := fun h => hx (h ▸ hk)
              simp [this]
            rw [List.filter_cons, List.filter_cons, this]
            have h3 : (listed.setIfInBounds x true).getD x false = true := by simp [hlt]
            simp [h3]
          · have hm' : i ∈ m := by
              rcases List.mem_cons.1 hm with h | h
              · exact absurd h.symm hxi
              · exact h
            have := ihm hnd hm'
            rw [List.filter_cons, List.filter_cons]
            simp only [hxi, decide_false, Bool.false_or]
            split
            · simp only [List.length_cons]; omega
            · exact this
      have := e2 _ hnd (List.mem_range.2 hin)
      omega
    unfold wpOp
    simp only [ho]
    rcases hy with ⟨hw, hy⟩ | ⟨hw, hy⟩
    · rw [if_pos hw]
      refine .inl (wp_strong (fun a2 w2 ⟨v, e, hb, hv⟩ => ?_) hy)
      subst e
      exact ih _ _ _ (hnext v w2 hb hv) hcount
    · rw [hw]
      simp only [Bool.false_eq_true, if_false]
      exact ih _ _ _ (hnext undef w1 (Below.refl _ _) hy) hcount
end
end Go.Hp
namespace Go.Hp
open Go.RowKit
inductive PhiK where
  | val (x : Value)
  | fact (φ : Phi)
def PhiK.phi : PhiK → Phi
  | .val x => isV x
  | .fact φ => φ
def allV : Nat → (List Value → Prop) → Prop
  | 0, F => F []
  | n + 1, F => ∀ x, allV n fun xs => F (x :: xs)
theorem allV_spec : ∀ (n : Nat) (F : List Value → Prop), allV n F → ∀ xs : List Value, xs.length = n → F xs
  | 0, F, h, xs, hl => by rw [List.length_eq_zero_iff.1 hl]; exact h
  | n + 1, F, h, x :: xs, hl => allV_spec n _ (h x) xs (by simpa using hl)
def depF (Φ : List PhiK) (B : Nat) (xs : List Value) (w1 : World) (G : Prop) : List Edge → Prop
  | [] => G
  | e :: es =>
    match Region.binds .any e, Φ[e.on]? with
    | true, some (.val x) => xs.getD e.on undef = x → depF Φ B xs w1 G es
    | true, some (.fact φ) => ∀ lo hi, B ≤ lo → hi ≤ w1.heap.size → φ lo hi (xs.getD e.on undef) w1 → depF Φ B xs w1 G es
    | _, _ => depF Φ B xs w1 G es
theorem depF_spec {Φ : List PhiK} {B : Nat} {xs : List Value} {w1 : World} {G : Prop} : ∀ (es : List Edge), depF Φ B xs w1 G es →
    (∀ e ∈ es, Region.binds .any e = true → ∀ k, Φ[e.on]? = some k → ∃ lo hi, B ≤ lo ∧ hi ≤ w1.heap.size ∧ k.phi lo hi (xs.getD e.on undef) w1) → G
  | [], h, _ => h
  | e :: es, h, hd => by
    have ht := fun h' => depF_spec (Φ := Φ) (B := B) (xs := xs) (w1 := w1) (G := G) es h' (fun e' he' => hd e' (List.mem_cons_of_mem _ he'))
    unfold depF at h
    split at h
    · rename_i x hb hk
      obtain ⟨_, _, _, _, h3⟩ := hd e (List.mem_cons_self ..) hb _ hk
      exact ht (h h3)
    · rename_i φ hb hk
      obtain ⟨lo, hi, h1, h2, h3⟩ := hd e (List.mem_cons_self ..) hb _ hk
      exact ht (h lo hi h1 h2 h3)
    · exact ht h
section
variable {P : Program} {Q : Exit → Act → World → Prop} {a : Act} {w : World} {l : List Oper} {n : Nat}
def stepOb (P : Program) (l : List Oper) (n : Nat) (a : Act) (w : World) (i : Nat) (Φ : List PhiK) (k : PhiK) : Prop :=
  match l[i]? with
  | some o => allV n fun xs => ∀ w1, Below w.heap.size w w1 → depF Φ w.heap.size xs w1 (Yphi P l.toArray o (fillA (l.take n) xs a) w1 k.phi) o.after.toList
  | none => False
def allPhi (B : Nat) (lo hi : Nat → Nat) (w1 : World) : Nat → List PhiK → List Value → Prop → Prop
  | k, .val x :: Φ, y :: ys, G => y = x → allPhi B lo hi w1 (k + 1) Φ ys G
  | k, .fact φ :: Φ, y :: ys, G => B ≤ lo k → hi k ≤ w1.heap.size → φ (lo k) (hi k) y w1 → allPhi B lo hi w1 (k + 1) Φ ys G
  | _, _, _, G => G
theorem allPhi_spec {B : Nat} {lo hi : Nat → Nat} {w1 : World} {G : Prop} : ∀ (Φ : List PhiK) (k : Nat) (ys : List Value), allPhi B lo hi w1 k Φ ys G → ys.length = Φ.length →
    (∀ j x, Φ[j]? = some x → B ≤ lo (k + j) ∧ hi (k + j) ≤ w1.heap.size ∧ x.phi (lo (k + j)) (hi (k + j)) (ys.getD j undef) w1) → G
  | [], k, ys, h, _, _ => by unfold allPhi at h; exact h
  | x :: Φ, k, [], _, hl, _ => by simp at hl
  | .val x :: Φ, k, y :: ys, h, hl, hd => by
    unfold allPhi at h
    have h0 := (hd 0 _ rfl).2.2
    exact allPhi_spec Φ (k + 1) ys (h h0) (by simpa using hl) (fun j x hj => by have := hd (j + 1) x (by simpa using hj); rw [show k + 1 + j = k + (j + 1) by omega]; simpa using this)
  | .fact φ :: Φ, k, y :: ys, h, hl, hd => by
    unfold allPhi at h
    obtain ⟨h1, h2, h3⟩ := hd 0 _ rfl
    exact allPhi_spec Φ (k + 1) ys (h h1 h2 h3) (by simpa using hl) (fun j x hj => by have := hd (j + 1) x (by simpa using hj); rw [show k + 1 + j = k + (j + 1) by omega]; simpa using this)
def PhiK.stable (k : PhiK) : Prop := k.phi.stable
def finOb (P : Program) (l : List Oper) (n : Nat) (a : Act) (w : World) (Q : Exit → Act → World → Prop) (Φ : List PhiK) : Prop :=
  allV n fun xs => ∀ (lo hi : Nat → Nat) (w1 : World), Below w.heap.size w w1 → (∀ j k, j < n → k < n → j ≠ k → hi j ≤ lo k ∨ hi k ≤ lo j) → allPhi w.heap.size lo hi w1 0 Φ xs (wpList P l.toArray Q (l.drop n) (fillA (l.take n) xs a) w1)
def Plan (P : Program) (l : List Oper) (n : Nat) (a : Act) (w : World) (Q : Exit → Act → World → Prop) : Nat → List PhiK → Prop
  | 0, Φ => finOb P l n a w Q Φ
  | r + 1, Φ => ∃ k : PhiK, k.stable ∧ stepOb P l n a w Φ.length Φ k ∧ Plan P l n a w Q r (Φ ++ [k])
theorem Plan.val {r : Nat} {Φ : List PhiK} {x : Value} (h : stepOb P l n a w Φ.length Φ (.val x)) (h' : Plan P l n a w Q r (Φ ++ [.val x])) : Plan P l n a w Q (r + 1) Φ := ⟨.val x, isV_stable x, h, h'⟩
theorem Plan.fact {r : Nat} {Φ : List PhiK} (φ : Phi) (hs : φ.stable) (h : stepOb P l n a w Φ.length Φ (.fact φ)) (h' : Plan P l n a w Q r (Φ ++ [.fact φ])) : Plan P l n a w Q (r + 1) Φ := ⟨.fact φ, hs, h, h'⟩
theorem Plan.val' {r : Nat} {Φ Φ' : List PhiK} {x : Value} (h : stepOb P l n a w Φ.length Φ (.val x)) (hΦ : Φ ++ [.val x] = Φ') (h' : Plan P l n a w Q r Φ') : Plan P l n a w Q (r + 1) Φ := Plan.val h (hΦ ▸ h')
theorem Plan.fact' {r : Nat} {Φ Φ' : List PhiK} (φ : Phi) (hs : φ.stable) (h : stepOb P l n a w Φ.length Φ (.fact φ)) (hΦ : Φ ++ [.fact φ] = Φ') (h' : Plan P l n a w Q r Φ') : Plan P l n a w Q (r + 1) Φ := Plan.fact φ hs h (hΦ ▸ h')
theorem Plan.all : ∀ (r : Nat) (Φ : List PhiK), Plan P l n a w Q r Φ → (∀ k ∈ Φ, k.stable) → (∀ i k, Φ[i]? = some k → stepOb P l n a w i (Φ.take i) k) →
    ∃ Ψ : List PhiK, Ψ.length = Φ.length + r ∧ (∀ k ∈ Ψ, k.stable) ∧ (∀ i k, Ψ[i]? = some k → stepOb P l n a w i (Ψ.take i) k) ∧ finOb P l n a w Q Ψ
  | 0, Φ, h, h1, h2 => ⟨Φ, rfl, h1, h2, h⟩
  | r + 1, Φ, ⟨k, hk, hs, h⟩, h1, h2 => by
    obtain ⟨Ψ, a1, a2, a3, a4⟩ := Plan.all r (Φ ++ [k]) h (fun x hx => by
      rcases List.mem_append.1 hx with hx | hx
      · exact h1 x hx
      · rw [List.mem_singleton.1 hx]; exact hk) (fun i x hx => by
      rcases Nat.lt_or_ge i Φ.length with hi | hi
      · rw [List.getElem?_append_left hi] at hx
        rw [List.take_append_of_le_length (by omega)]
        exact h2 i x hx
      · rw [List.getElem?_append_right hi] at hx
        have hi0 : i - Φ.length = 0 := by
          rcases Nat.eq_zero_or_pos (i - Φ.length) with h0 | h0
          · exact h0
          · rw [List.getElem?_eq_none (by simp; omega)] at hx; cases hx
        rw [hi0] at hx
        simp only [List.getElem?_cons_zero, Option.some.injEq] at hx
        have : i = Φ.length := by omega
        subst this
        rw [List.take_append_of_le_length (Nat.le_refl _), List.take_length, ← hx]
        exact hs)
    exact ⟨Ψ, by rw [a1]; simp; omega, a2, a3, a4⟩
theorem wp_region_plan {id : Nat} (n : Nat) (hm : P.follows .mixedOrders = true) (hB : phiB l n = true) (h : Plan P l n a w.drew Q n []) : (Code.region id l.toArray true).wp P Q a w := by
  obtain ⟨Ψ, hlen, hst, hstep, hfin⟩ := Plan.all n [] h (fun _ h => by cases h) (fun i k hk => by simp at hk)
  simp only [List.length_nil, Nat.zero_add] at hlen
  have hB' := hB
  simp only [phiB, Bool.and_eq_true, decide_eq_true_eq, Bool.or_eq_true] at hB'
  obtain ⟨⟨⟨⟨_, hn⟩, hback⟩, _⟩, _⟩ := hB'
  refine wp_region_any hm ?_
  have hΦ : (Ψ.map PhiK.phi).length = n := by simpa using hlen
  have hget : ∀ k φ, (Ψ.map PhiK.phi)[k]? = some φ → ∃ x : PhiK, Ψ[k]? = some x ∧ x.phi = φ := fun k φ hk => by
    rw [List.getElem?_map] at hk
    obtain ⟨x, hx, he⟩ := Option.map_eq_some_iff.1 hk
    exact ⟨x, hx, he⟩
  have main := wpAny_phi (P := P) (Q := Q) (a := a) (w := w.drew) (l := l) (n := n) (Φ := Ψ.map PhiK.phi) hB hΦ
    (fun φ hφ => by
      obtain ⟨k, hk, rfl⟩ := List.mem_map.1 hφ
      exact hst k hk)
    (fun i o φ hi ho hφ xs hxs w1 hb hd => by
      obtain ⟨x, hx, rfl⟩ := hget i φ hφ
      have hs := hstep i x hx
      unfold stepOb at hs
      rw [ho] at hs
      refine depF_spec _ (allV_spec n _ hs xs hxs w1 hb) fun e he hbind k hk => ?_
      have hon : e.on < i := by
        have := List.all_eq_true.1 hback i (List.mem_range.2 hi)
        simp only [List.getElem?_toArray, ho] at this
        have := Array.all_eq_true_iff_forall_mem.1 this e (by simpa using he)
        simpa [hbind] using this
      rw [List.getElem?_take, if_pos hon] at hk
      refine hd e.on k.phi (by omega) ?_ (by rw [List.getElem?_map, hk]; rfl)
      unfold Region.waitsFor
      simp only [List.getElem?_toArray, ho]
      exact Array.any_eq_true'.2 ⟨e, by simpa using he, by simp [hbind]⟩)
    (fun xs lo hi w1 hxs hb hall hd => by
      refine allPhi_spec Ψ 0 xs (allV_spec n _ hfin xs hxs lo hi w1 hb hd) (by rw [hxs, hlen]) fun j x hj => ?_
      rw [Nat.zero_add]
      exact hall j x.phi (by rw [List.getElem?_map, hj]; rfl))
    n (Array.replicate l.length false) a w.drew
    ⟨⟨by simp, fun j oj _ hl => (by rw [getD_replicate_false] at hl; cases hl), fun t _ ht => getD_in (by simpa using ht) (getD_replicate_false _ _)⟩, Below.refl _ _,
      ⟨(l.take n).map (fun o => match o.dst with | some d => a.tmps.getD d undef | none => undef), fun _ => 0, fun _ => 0, by simp; omega, (fillA_self _ a).symm, fun k φ _ hl => (by rw [getD_replicate_false] at hl; cases hl), fun j k _ hj _ => (by rw [getD_replicate_false] at hj; cases hj)⟩⟩
    (by
      have : ((List.range n).filter fun k => !(Array.replicate l.length false).getD k false) = List.range n := List.filter_eq_self.2 (fun k _ => by rw [getD_replicate_false]; rfl)
      rw [this]; simp)
  have hsz : l.toArray.size = n + (l.length - n) := by simp; omega
  rw [hsz, show n + (l.length - n) = l.length by omega]
  rw [show n + (l.length - n) = l.length by omega] at main
  exact main
end
end Go.Hp
namespace Go.Hp
open Go.RowKit
section
variable {P : Program} {ops : Array Oper} {rest : List Oper} {o : Oper} {a : Act} {w0 w : World} {rs : List Res} {Q : Exit → Act → World → Prop}
theorem L_next {a' : Act} (ha : a = a') (h : wpList P ops Q rest a' w) : wpList P ops Q rest a w := ha ▸ h
theorem get0 {r : Res} {rs : List Res} : (r :: rs)[0]? = some r := rfl
theorem get1 {r r0 : Res} {rs : List Res} : (r0 :: r :: rs)[1]? = some r := rfl
theorem get2 {r r0 r1 : Res} {rs : List Res} : (r0 :: r1 :: r :: rs)[2]? = some r := rfl
theorem get3 {r r0 r1 r2 : Res} {rs : List Res} : (r0 :: r1 :: r2 :: r :: rs)[3]? = some r := rfl
theorem get4 {r r0 r1 r2 r3 : Res} {rs : List Res} : (r0 :: r1 :: r2 :: r3 :: r :: rs)[4]? = some r := rfl
theorem get5 {r r0 r1 r2 r3 r4 : Res} {rs : List Res} : (r0 :: r1 :: r2 :: r3 :: r4 :: r :: rs)[5]? = some r := rfl
theorem get6 {r r0 r1 r2 r3 r4 r5 : Res} {rs : List Res} : (r0 :: r1 :: r2 :: r3 :: r4 :: r5 :: r :: rs)[6]? = some r := rfl
theorem get7 {r r0 r1 r2 r3 r4 r5 r6 : Res} {rs : List Res} : (r0 :: r1 :: r2 :: r3 :: r4 :: r5 :: r6 :: r :: rs)[7]? = some r := rfl
theorem K_next {K : Act → World → Prop} {a' : Act} (hK : ∀ a w, wpList P ops Q rest a w → K a w) (ha : a = a') (h : wpList P ops Q rest a' w) : K a w := ha ▸ hK _ _ (ha ▸ h)
theorem L_skip {a' : Act} (hw : Region.wanted o (yielded ops a.tmps) = false) (ha : a.put o.dst undef = a') (h : wpList P ops Q rest a' w) : wpList P ops Q (o :: rest) a w :=
  wpList_step fun K hK => by rw [hw]; simp only [Bool.false_eq_true, if_false]; rw [ha]; exact hK _ _ h
theorem wp_newSlice {t : TypeId} {m : Nat} {cs : List Value} {T : TypeId} {ps : Array (Nat × Operand)} {r : Result Next} {K : Act → World → Prop} (st : St w0 w rs) (ho : o.op = .buildSlice T m ps) (hr : (execOp a.eval o).run P w = r) (hv : r = .ok (.value (.slice (some ⟨w.heap.size, 0, none⟩) m m)) (w.alloc (.cells cs.toArray t)))
    (h : ∀ b w', St w0 w' (.box b t cs :: rs) → K (a.put o.dst (.slice (some ⟨b, 0, none⟩) m m)) w') : o.wp P a w K Q :=
  wp_new (f := fun b => .slice (some ⟨b, 0, none⟩) m m) st (hr.trans hv) fun b w' s => h b w' s
theorem wp_store1' {t : TypeId} {x y : Operand} {i b p : Nat} {bt : TypeId} {cs : List Value} {v : Value} {rs' : List Res} {K : Act → World → Prop} (st : St w0 w rs) (ho : o.op = .store t x y) (hT : OneT P t) (hx : a.eval x = .pointer (some ⟨b, p, none⟩)) (hi : rs[i]? = some (.box b bt cs)) (hy : a.eval y = v) (hv : v.cells.toList = [v]) (h1 : v.oneCell' = true) (hp : p + 1 ≤ cs.length)
    (hrs : rs.set i (.box b bt (cs.take p ++ [v] ++ cs.drop (p + 1))) = rs') (h : ∀ w', St w0 w' rs' → K (a.put o.dst undef) w') : o.wp P a w K Q :=
  wp_store1 st ho hT hx hi hy hv h1 hp fun w' s => h w' (hrs ▸ s)
theorem wp_storeN' {t n : Nat} {x y : Operand} {i b p : Nat} {bt : TypeId} {cs vs : List Value} {rs' : List Res} {K : Act → World → Prop} (st : St w0 w rs) (ho : o.op = .store t x y) (hT : AggT P t n) (hx : a.eval x = .pointer (some ⟨b, p, none⟩)) (hi : rs[i]? = some (.box b bt cs)) (hy : a.eval y = .agg vs.toArray) (hn : vs.length = n) (h1 : vs.all (·.oneCell') = true) (hp : p + n ≤ cs.length)
    (hrs : rs.set i (.box b bt (cs.take p ++ vs ++ cs.drop (p + n))) = rs') (h : ∀ w', St w0 w' rs' → K (a.put o.dst undef) w') : o.wp P a w K Q :=
  wp_storeN st ho hT hx hi hy hn h1 hp fun w' s => h w' (hrs ▸ s)
theorem ow_newSlice {t : TypeId} {m : Nat} {cs : List Value} {T : TypeId} {ps : Array (Nat × Operand)} {r : Result Next} {K : Act → World → Prop} (st : St w0 w rs) (ho : o.op = .buildSlice T m ps) (hr : (execOp a.eval o).run P w = r) (hv : r = .ok (.value (.slice (some ⟨w.heap.size, 0, none⟩) m m)) (w.alloc (.cells cs.toArray t)))
    (h : ∀ b w', St w0 w' (.box b t cs :: rs) → K (a.put o.dst (.slice (some ⟨b, 0, none⟩) m m)) w') : OW P o a w K Q := OW.mk (wp_newSlice st ho hr hv h)
theorem ow_store1' {t : TypeId} {x y : Operand} {i b p : Nat} {bt : TypeId} {cs : List Value} {v : Value} {rs' : List Res} {K : Act → World → Prop} (st : St w0 w rs) (ho : o.op = .store t x y) (hT : OneT P t) (hx : a.eval x = .pointer (some ⟨b, p, none⟩)) (hi : rs[i]? = some (.box b bt cs)) (hy : a.eval y = v) (hv : v.cells.toList = [v]) (h1 : v.oneCell' = true) (hp : p + 1 ≤ cs.length)
    (hrs : rs.set i (.box b bt (cs.take p ++ [v] ++ cs.drop (p + 1))) = rs') (h : ∀ w', St w0 w' rs' → K (a.put o.dst undef) w') : OW P o a w K Q := OW.mk (wp_store1' st ho hT hx hi hy hv h1 hp hrs h)
theorem ow_storeN' {t n : Nat} {x y : Operand} {i b p : Nat} {bt : TypeId} {cs vs : List Value} {rs' : List Res} {K : Act → World → Prop} (st : St w0 w rs) (ho : o.op = .store t x y) (hT : AggT P t n) (hx : a.eval x = .pointer (some ⟨b, p, none⟩)) (hi : rs[i]? = some (.box b bt cs)) (hy : a.eval y = .agg vs.toArray) (hn : vs.length = n) (h1 : vs.all (·.oneCell') = true) (hp : p + n ≤ cs.length)
    (hrs : rs.set i (.box b bt (cs.take p ++ vs ++ cs.drop (p + n))) = rs') (h : ∀ w', St w0 w' rs' → K (a.put o.dst undef) w') : OW P o a w K Q := OW.mk (wp_storeN' st ho hT hx hi hy hn h1 hp hrs h)
theorem Yphi.run {v : Value} {r : Result Next} (hw : Region.wanted o (yielded ops a.tmps) = true) (hr : (execOp a.eval o).run P w = r) (hv : r = .ok (.value v) w) : Yphi P ops o a w (isV v) :=
  .inl ⟨hw, wp_value (hr.trans hv) ⟨v, rfl, Below.refl _ _, rfl⟩⟩
theorem Yphi.skip (hw : Region.wanted o (yielded ops a.tmps) = false) : Yphi P ops o a w (isV undef) := .inr ⟨hw, rfl⟩
theorem Yphi.load1 {t : TypeId} {x : Operand} {i b p : Nat} {bt : TypeId} {cs : List Value} {v : Value} (st : St w0 w rs) (ho : o.op = .load t x) (hT : OneT P t) (hw : Region.wanted o (yielded ops a.tmps) = true) (hx : a.eval x = .pointer (some ⟨b, p, none⟩)) (hi : rs[i]? = some (.box b bt cs)) (hv : cs[p]? = some v) : Yphi P ops o a w (isV v) :=
  .inl ⟨hw, wp_load1 st ho hT hx hi hv ⟨v, rfl, Below.refl _ _, rfl⟩⟩
theorem Yphi.loadN {t n : Nat} {x : Operand} {i b p : Nat} {bt : TypeId} {cs vs : List Value} (st : St w0 w rs) (ho : o.op = .load t x) (hT : AggT P t n) (hw : Region.wanted o (yielded ops a.tmps) = true) (hx : a.eval x = .pointer (some ⟨b, p, none⟩)) (hi : rs[i]? = some (.box b bt cs)) (hv : (cs.drop p).take n = vs) (hn : vs.length = n) : Yphi P ops o a w (isV (.agg vs.toArray)) :=
  .inl ⟨hw, wp_loadN st ho hT hx hi hv hn ⟨_, rfl, Below.refl _ _, rfl⟩⟩
theorem Yphi.old1 {t : TypeId} {x : Operand} {b p : Nat} {v : Value} (st : St w0 w rs) (ho : o.op = .load t x) (hT : OneT P t) (hw : Region.wanted o (yielded ops a.tmps) = true) (hx : a.eval x = .pointer (some ⟨b, p, none⟩)) (hb : b < w0.heap.size) (hv : w0.cell? ⟨b, p, none⟩ = some v) : Yphi P ops o a w (isV v) :=
  .inl ⟨hw, wp_old1 st ho hT hx hb hv ⟨v, rfl, Below.refl _ _, rfl⟩⟩
theorem Yphi.old4 {t : TypeId} {x : Operand} {b p : Nat} {v0 v1 v2 v3 : Value} (st : St w0 w rs) (ho : o.op = .load t x) (hT : AggT P t 4) (hw : Region.wanted o (yielded ops a.tmps) = true) (hx : a.eval x = .pointer (some ⟨b, p, none⟩)) (hb : b < w0.heap.size)
    (h0 : w0.cell? ⟨b, p, none⟩ = some v0) (h1 : w0.cell? ⟨b, p + 1, none⟩ = some v1) (h2 : w0.cell? ⟨b, p + 2, none⟩ = some v2) (h3 : w0.cell? ⟨b, p + 3, none⟩ = some v3) : Yphi P ops o a w (isV (.agg #[v0, v1, v2, v3])) :=
  .inl ⟨hw, wp_old4 st ho hT hx hb h0 h1 h2 h3 ⟨_, rfl, Below.refl _ _, rfl⟩⟩
theorem Yphi.call {f : FuncId} {args : Array Value} {φ : Phi} {r : Result Next} (hw : Region.wanted o (yielded ops a.tmps) = true) (hr : (execOp a.eval o).run P w = r) (hv : r = .ok (.enter f args) w)
    (hc : Calls P f args w fun e w' => ∃ v, e = .returned v ∧ Below w.heap.size w w' ∧ φ w.heap.size w'.heap.size v w') : Yphi P ops o a w φ := by
  refine .inl ⟨hw, ?_⟩
  unfold Oper.wp
  rw [hr, hv]
  refine Calls.mono hc ?_
  rintro e w' ⟨v, rfl, hb, hφ⟩
  exact ⟨v, rfl, hb, hφ⟩
def freshRow (e : TypeId) (size : Nat) (xs : List Value) : Phi := fun lo hi v w => ∃ A n c, v = .slice A n c ∧ w.ownsRow lo e size v n xs ∧ ∀ k, v.ownBlock = some k → k < hi
theorem freshRow_stable (e : TypeId) (size : Nat) (xs : List Value) : (freshRow e size xs).stable := by
  rintro lo hi v w1 w2 hb hh ⟨A, n, c, rfl, ho, hk⟩
  exact ⟨A, n, c, rfl, Res.holds_keep (r := .row e size (.slice A n c) n xs) ho hb.size (fun k h => hb.block k (by have := hk k h; omega)), hk⟩
theorem freshRow_mk {e : TypeId} {size n : Nat} {xs : List Value} {A : Option Addr} {c : Nat} {w' : World} (ho : w'.ownsRow w.heap.size e size (.slice A n c) n xs) : freshRow e size xs w.heap.size w'.heap.size (.slice A n c) w' :=
  ⟨A, n, c, rfl, ho, fun k hk => (World.ownsRow.lt ho k hk).2⟩
theorem rows_one {e1 s1 lo1 n1 : Nat} {v1 : Value} {xs1 : List Value} {w' : World} (st : St w0 w rs) (hb : Below w.heap.size w w') (h1 : w'.ownsRow lo1 e1 s1 v1 n1 xs1) (hl1 : w.heap.size ≤ lo1) :
    St w0 w' (.row e1 s1 v1 n1 xs1 :: rs) :=
  (st.call hb).cons ((fun h : Res.holds lo1 w' (.row e1 s1 v1 n1 xs1) => by
      refine ⟨h.1, ?_⟩
      rcases h.2 with hn | ⟨g, cap, cur, hv, hg, rest⟩
      · exact .inl hn
      · exact .inr ⟨g, cap, cur, hv, by have := st.size; omega, rest⟩) h1)
    (fun s hs k hk hk' => by
      have a1 := (World.ownsRow.lt h1 k hk).1
      have a2 := (Res.holds_lt (st.holds s hs) hk').2
      omega)
theorem rows_two {e1 e2 s1 s2 lo1 hi1 lo2 hi2 n1 n2 : Nat} {v1 v2 : Value} {xs1 xs2 : List Value} {w' : World} (st : St w0 w rs) (hb : Below w.heap.size w w') (h1 : w'.ownsRow lo1 e1 s1 v1 n1 xs1) (hk1 : ∀ k, v1.ownBlock = some k → k < hi1) (hl1 : w.heap.size ≤ lo1)
    (h2 : w'.ownsRow lo2 e2 s2 v2 n2 xs2) (hk2 : ∀ k, v2.ownBlock = some k → k < hi2) (hl2 : w.heap.size ≤ lo2) (hd : hi1 ≤ lo2 ∨ hi2 ≤ lo1) : St w0 w' (.row e1 s1 v1 n1 xs1 :: .row e2 s2 v2 n2 xs2 :: rs) := by
  have st2 := rows_one st hb h2 hl2
  have st1 := rows_one st hb h1 hl1
  refine st2.cons (st1.holds _ (List.mem_cons_self ..)) (fun s hs k hk hk' => ?_)
  have a1 := World.ownsRow.lt h1 k hk
  have b1 := hk1 k hk
  rcases List.mem_cons.1 hs with rfl | hs
  · have a2 := World.ownsRow.lt h2 k hk'
    have b2 := hk2 k hk'
    omega
  · have a2 := (Res.holds_lt (st.holds s hs) hk').2
    omega
theorem run_loadVar_box {T n b : Nat} {bt : TypeId} {cs : List Value} (i : Nat) (st : St w0 w rs) (hi : rs[i]? = some (.box b bt cs)) (hT : AggT P T n) (hn : cs.length = n) : (loadVar T ⟨b, 0, none⟩).run P w = .ok (.agg cs.toArray) w := by
  have := run_loadN (P := P) (t := T) (hT := hT) (w := w) (b := b) (o := 0) hn (fun j v hj => by rw [Nat.zero_add, st.cell hi]; exact hj)
  simpa [Instr.loadAt, Instr.sureAddr] using this
theorem bodyPost_cell {fn : Func} {R : Ending → World → Prop} {t : Tmp} {T n b : Nat} {bt : TypeId} {cs : List Value} (i : Nat) (st : St w0 w rs) (hres : fn.results = #[.cell t T]) (hT : AggT P T n) (hd : a.defers = []) (hi : rs[i]? = some (.box b bt cs)) (hn : cs.length = n)
    (ht : a.tmps.getD t undef = .pointer (some ⟨b, 0, none⟩)) (hR : R (.returned (.agg cs.toArray)) w) : bodyPost P fn R .ret a w :=
  bodyPost_ret (v := .agg cs.toArray) (by
    have h := run_loadVar_box i st hi hT hn
    have ht' : a.tmps[t]?.getD undef = .pointer (some ⟨b, 0, none⟩) := by simpa using ht
    simp only [results, hres]
    simp [ht', asAddr, h]) hd hR
theorem bodyPost_cell_tmp {fn : Func} {R : Ending → World → Prop} {t u : Tmp} {T n b : Nat} {bt : TypeId} {cs : List Value} {v : Value} (i : Nat) (st : St w0 w rs) (hres : fn.results = #[.cell t T, .tmp u]) (hT : AggT P T n) (hd : a.defers = []) (hi : rs[i]? = some (.box b bt cs)) (hn : cs.length = n)
    (ht : a.tmps.getD t undef = .pointer (some ⟨b, 0, none⟩)) (hu : a.tmps.getD u undef = v) (hR : R (.returned (.tuple #[.agg cs.toArray, v])) w) : bodyPost P fn R .ret a w :=
  bodyPost_ret (v := .tuple #[.agg cs.toArray, v]) (by
    have h := run_loadVar_box i st hi hT hn
    have ht' : a.tmps[t]?.getD undef = .pointer (some ⟨b, 0, none⟩) := by simpa using ht
    have hu' : a.tmps[u]?.getD undef = v := by simpa using hu
    simp only [results, hres]
    simp [ht', hu', asAddr, h]) hd hR
end
end Go.Hp
namespace Go.Hp
open Go.RowKit
def Rd (w : World) (B size : Nat) (A : Option Addr) (n : Nat) (xs : List Value) : Prop :=
  xs.length = n * size ∧ (0 < n → ∃ b o, A = some ⟨b, o, none⟩ ∧ b < B ∧ ∀ j u, xs[j]? = some u → w.cell? ⟨b, o + j, none⟩ = some u)
section
variable {w w' : World} {B B' size n : Nat} {A : Option Addr} {xs : List Value}
theorem Rd.nil (A : Option Addr) : Rd w B size A 0 [] := ⟨by simp, fun h => absurd h (by omega)⟩
theorem Rd.keep (h : Rd w B size A n xs) (hk : ∀ b o, b < B → w'.cell? ⟨b, o, none⟩ = w.cell? ⟨b, o, none⟩) : Rd w' B size A n xs := by
  refine ⟨h.1, fun hn => ?_⟩
  obtain ⟨b, o, hA, hb, hc⟩ := h.2 hn
  exact ⟨b, o, hA, hb, fun j u hj => (hk _ _ hb).trans (hc j u hj)⟩
theorem Rd.below (h : Rd w B size A n xs) (hb : Below B' w w') (hB : B ≤ B') : Rd w' B size A n xs := h.keep fun b o hbo => hb.cell (p := ⟨b, o, none⟩) (by simp; omega)
theorem Rd.more (h : Rd w B size A n xs) (hB : B ≤ B') : Rd w B' size A n xs := by
  refine ⟨h.1, fun hn => ?_⟩
  obtain ⟨b, o, hA, hb, hc⟩ := h.2 hn
  exact ⟨b, o, hA, by omega, hc⟩
theorem Rd.of_row {base : Nat} {e : TypeId} {c : Nat} (h : w.ownsRow base e size (.slice A n c) n xs) : Rd w w.heap.size size A n xs := by
  refine ⟨h.1, fun hn => ?_⟩
  rcases h.2 with ⟨hv, h0⟩ | ⟨g, cap, cur, hv, hbase, hg, hnc, hcap, hsz, htake⟩
  · omega
  · injection hv with hA
    subst hA
    refine ⟨g, 0, rfl, (Array.getElem?_eq_some_iff.1 hg).1, fun j u hj => ?_⟩
    rw [Nat.zero_add, cell_of_row w g j cur e (0, 0) hg]
    rw [← htake, List.getElem?_take] at hj
    split at hj
    · simpa using hj
    · cases hj
end
class SliceT (P : Program) (t : TypeId) (e : outParam TypeId) (z : outParam Value) (size bytes : outParam Nat) : Prop where
  under : P.underlying t = some (.slice e)
  info : (P.info? e).map (fun i => (i.zero, i.size, i.bytes)) = some (some z, size, bytes)
  cells : z.cells.size = size
  pos : 0 < size
section
variable {P : Program} {ops : Array Oper} {rest : List Oper} {o : Oper} {a : Act} {w0 w : World} {rs : List Res} {Q : Exit → Act → World → Prop}
theorem St.nilRow (st : St w0 w rs) (e : TypeId) (size : Nat) : St w0 w (.row e size (.slice none 0 0) 0 [] :: rs) :=
  st.cons (World.ownsRow_nil w _ e size) fun s _ k hk _ => by cases hk
theorem St.rd {i e size n c : Nat} {A : Option Addr} {xs : List Value} (st : St w0 w rs) (hi : rs[i]? = some (.row e size (.slice A n c) n xs)) : Rd w w.heap.size size A n xs := Rd.of_row (st.get hi)
theorem St.rdBox {i b n size : Nat} {t : TypeId} {cs : List Value} (st : St w0 w rs) (hi : rs[i]? = some (.box b t cs)) (hn : cs.length = n * size) : Rd w w.heap.size size (some ⟨b, 0, none⟩) n cs :=
  ⟨hn, fun _ => ⟨b, 0, rfl, (Res.holds_lt (st.get hi) rfl).2, fun j u hj => by rw [Nat.zero_add, st.cell hi]; exact hj⟩⟩
theorem box_row {B b n size : Nat} {t : TypeId} {cs : List Value} (h : (Res.box b t cs).holds B w) (hn : cs.length = n * size) (hm : n ≤ maxLen) : w.ownsRow B t size (.slice (some ⟨b, 0, none⟩) n n) n cs :=
  ⟨hn, .inr ⟨b, n, cs.toArray, rfl, h.1, h.2, Nat.le_refl _, hm, by simpa using hn, by rw [← hn]; simp⟩⟩
theorem St.toRow {b n size : Nat} {t : TypeId} {cs : List Value} (st : St w0 w (.box b t cs :: rs)) (hn : cs.length = n * size) (hm : n ≤ maxLen) : St w0 w (.row t size (.slice (some ⟨b, 0, none⟩) n n) n cs :: rs) :=
  st.tail.cons (box_row (st.holds _ (List.mem_cons_self ..)) hn hm) fun s hs k hk => (List.pairwise_cons.1 st.apart).1 s hs k hk
theorem run_append_of_none (t ty e : TypeId) (i : TypeInfo) (base size : Nat) (ht : P.underlying t = some (.slice e)) (hi : P.info? e = some i) (v : Value) (n : Nat) (xs : List Value) (hown : w.ownsRow base e size v n xs) (c : Nat) :
    (Builtin.append_ #[t, t] ty #[v, .slice none 0 c]).run P w = .ok v w := by
  rcases hown.2 with ⟨rfl, rfl⟩ | ⟨g, cap, cur, rfl, _, _, hnc, _⟩
  · simp [Builtin.append_, run_underlying ht, sizeOf, typeInfo, hi, Builtin.lenOf, Builtin.firstCells]
  · simp [Builtin.append_, run_underlying ht, sizeOf, typeInfo, hi, Builtin.lenOf, Builtin.firstCells, hnc, storeCells]
theorem run_append_rd (base n m B c2 t ty e : Nat) {z : Value} {size bytes : Nat} (hT : SliceT P t e z size bytes) (v : Value) (A : Option Addr) (xs news : List Value) (hown : w.ownsRow base e size v n xs) (hs : Rd w B size A m news)
    (h1 : ∀ u ∈ news, u.oneCell' = true) (h63 : n + m ≤ maxLen) (hbytes : (n + m) * bytes ≤ 140737488355328) (hbase : base ≤ w.heap.size) :
    ∃ A' c' w', (Builtin.append_ #[t, t] ty #[v, .slice A m c2]).run P w = .ok (.slice A' (n + m) c') w' ∧ w'.ownsRow base e size (.slice A' (n + m) c') (n + m) (xs ++ news) ∧ w.grownBy w' v.ownBlock ∧
      ∀ k, (Value.slice A' (n + m) c').ownBlock = some k → v.ownBlock = some k ∨ w.heap.size ≤ k := by
  obtain ⟨i0, hi, hz0, hz1, hz2⟩ := info_parts hT.info
  have form : ∀ {v' : Value} {w' : World} {k : Nat} {ys : List Value}, w'.ownsRow base e size v' k ys → ∃ A' c', v' = .slice A' k c' := by
    intro v' w' k ys h
    rcases h.2 with ⟨rfl, rfl⟩ | ⟨g, cap, cur, rfl, _⟩
    · exact ⟨none, 0, rfl⟩
    · exact ⟨_, cap, rfl⟩
  rcases A with _ | ad
  · have hm : m = 0 := by
      rcases Nat.eq_zero_or_pos m with h0 | h0
      · exact h0
      · obtain ⟨b, o, hA, _⟩ := hs.2 h0
        cases hA
    subst hm
    have hl : news = [] := List.eq_nil_of_length_eq_zero (by simpa using hs.1)
    subst hl
    obtain ⟨A', c', rfl⟩ := form hown
    exact ⟨A', c', w, run_append_of_none t ty e i0 base size hT.under hi _ n xs hown c2, by simpa using hown, World.grownBy.refl w _, fun k hk => .inl hk⟩
  · have hcells : ∀ j u, news[j]? = some u → w.cell? (ad.add j) = some u := by
      intro j u hu
      have hj : j < news.length := (List.getElem?_eq_some_iff.1 hu).1
      rw [hs.1] at hj
      have hm0 : 0 < m := by
        rcases Nat.eq_zero_or_pos m with h0 | h0
        · subst h0; simp at hj
        · exact h0
      obtain ⟨b, o, hA, _, hc⟩ := hs.2 hm0
      obtain rfl := Option.some.inj hA
      rw [add_lit]
      exact hc j u hu
    obtain ⟨v', w', hrun, h2, h3, _, h5⟩ := run_append_own_at (P := P) w base t ty e i0 z size bytes hT.under hi hz0 hz1 hz2 hT.cells hT.pos v n xs hown ad m c2 news hs.1 hcells h1 h63 hbytes hbase
    obtain ⟨A', c', rfl⟩ := form h2
    refine ⟨A', c', w', hrun, h2, h3, fun k hk => ?_⟩
    rcases h5 with h5 | h5
    · exact .inl (h5 ▸ hk)
    · rw [h5] at hk
      cases hk
      exact .inr (Nat.le_refl _)
theorem wp_append {t e : TypeId} {z : Value} {size bytes : Nat} (i : Nat) {s x : Operand} {n m c2 B : Nat} {v : Value} {A : Option Addr} {xs news : List Value} {K : Act → World → Prop} (st : St w0 w rs)
    (ho : o.op = .call { callee := .builtin .append, args := #[s, x], argTypes := #[t, t] }) (hT : SliceT P t e z size bytes) (hi : rs[i]? = some (.row e size v n xs)) (hv : a.eval s = v) (hx : a.eval x = .slice A m c2)
    (hs : Rd w B size A m news) (h1 : ∀ u ∈ news, u.oneCell' = true) (h63 : n + m ≤ maxLen) (hbytes : (n + m) * bytes ≤ 140737488355328)
    (h : ∀ A' c' w', St w0 w' (rs.set i (.row e size (.slice A' (n + m) c') (n + m) (xs ++ news))) → K (a.put o.dst (.slice A' (n + m) c')) w') : o.wp P a w K Q := by
  obtain ⟨A', c', w', hrun, h2, h3, h4⟩ := run_append_rd w0.heap.size n m B c2 t o.type e hT v A xs news (st.get hi) hs h1 h63 hbytes st.size
  exact Lib.wp_append_run w s x t t ho _ _ hv hx _ _ hrun (h A' c' w' (st.upd hi h3 h2 h4))
theorem ow_append {t e : TypeId} {z : Value} {size bytes : Nat} (i : Nat) {s x : Operand} {n m c2 B : Nat} {v : Value} {A : Option Addr} {xs news : List Value} {K : Act → World → Prop} (st : St w0 w rs)
    (ho : o.op = .call { callee := .builtin .append, args := #[s, x], argTypes := #[t, t] }) (hT : SliceT P t e z size bytes) (hi : rs[i]? = some (.row e size v n xs)) (hv : a.eval s = v) (hx : a.eval x = .slice A m c2)
    (hs : Rd w B size A m news) (h1 : ∀ u ∈ news, u.oneCell' = true) (h63 : n + m ≤ maxLen) (hbytes : (n + m) * bytes ≤ 140737488355328)
    (h : ∀ A' c' w', St w0 w' (rs.set i (.row e size (.slice A' (n + m) c') (n + m) (xs ++ news))) → K (a.put o.dst (.slice A' (n + m) c')) w') : OW P o a w K Q := OW.mk (wp_append i st ho hT hi hv hx hs h1 h63 hbytes h)
theorem wp_rowN {t n : Nat} {x : Operand} {K : Act → World → Prop} {b p : Nat} {vs : List Value} (ho : o.op = .load t x) (hT : AggT P t n) (hx : a.eval x = .pointer (some ⟨b, p, none⟩)) (hn : vs.length = n) (hc : ∀ j v, vs[j]? = some v → w.cell? ⟨b, p + j, none⟩ = some v)
    (h : K (a.put o.dst (.agg vs.toArray)) w) : o.wp P a w K Q := by
  refine wp_value ?_ h
  have := run_loadN (P := P) (t := t) (hT := hT) (w := w) (b := b) (o := p) hn hc
  simp [execOp, ho, hx, this]
theorem Res.row_reslice {B e size n m c : Nat} {xs : List Value} {A : Option Addr} (h : (Res.row e size (.slice A n c) n xs).holds B w) (hm : m ≤ n) : (Res.row e size (.slice A m c) m (xs.take (m * size))).holds B w := by
  have hl := h.1
  have hms : m * size ≤ n * size := Nat.mul_le_mul_right _ hm
  refine ⟨by rw [List.length_take, hl]; omega, ?_⟩
  rcases h.2 with ⟨hv, h0⟩ | ⟨g, cap, cur, hv, hbase, hg, hnc, hcap, hsz, htake⟩
  · injection hv with h1 h2 h3
    subst h1; subst h3
    have : m = 0 := by omega
    subst this
    exact .inl ⟨rfl, rfl⟩
  · injection hv with h1 h2 h3
    subst h1; subst h3
    exact .inr ⟨g, _, cur, rfl, hbase, hg, by omega, hcap, hsz, by rw [← htake, List.take_take]; congr 1; omega⟩
theorem Res.holds_mono {B B' : Nat} {r : Res} (h : r.holds B w) (hB : B' ≤ B) : r.holds B' w := by
  cases r with
  | box b t cs => exact ⟨Nat.le_trans hB h.1, h.2⟩
  | row e size v n xs =>
    refine ⟨h.1, ?_⟩
    rcases h.2 with hn | ⟨g, cap, cur, hv, hb, rest⟩
    · exact .inl hn
    · exact .inr ⟨g, cap, cur, hv, Nat.le_trans hB hb, rest⟩
  | obj b o => exact ⟨Nat.le_trans hB h.1, h.2⟩
  | room n => exact h
theorem St.join {w' : World} {rs' : List Res} (st : St w0 w rs) (st' : St w w' rs') : St w0 w' (rs' ++ rs) := by
  have h := st.call st'.below
  refine ⟨h.below, fun r hr => ?_, List.pairwise_append.2 ⟨st'.apart, st.apart, fun r hr s hs k hk hk' => ?_⟩⟩
  · rcases List.mem_append.1 hr with hr | hr
    · exact Res.holds_mono (st'.holds r hr) st.size
    · exact h.holds r hr
  · have h1 := (Res.holds_lt (st'.holds r hr) hk).1
    have h2 := (Res.holds_lt (st.holds s hs) hk').2
    omega
theorem sub_left (a b : Int) : a + b - a = b := by omega
theorem wrap_id {n : Int} (h0 : -9223372036854775808 ≤ n) (h1 : n < 9223372036854775808) : IntKind.i64.wrap n = n := by rw [IntKind.wrap_i64]; omega
theorem St.reslice {e size n m c : Nat} {xs : List Value} {A : Option Addr} (st : St w0 w (.row e size (.slice A n c) n xs :: rs)) (hm : m ≤ n) : St w0 w (.row e size (.slice A m c) m (xs.take (m * size)) :: rs) :=
  st.tail.cons (Res.row_reslice (st.holds _ (List.mem_cons_self ..)) hm) fun s hs k hk => (List.pairwise_cons.1 st.apart).1 s hs k (by cases A <;> exact hk)
theorem ow_zeros {t tn e : TypeId} {z : Value} {size bytes : Nat} {k kn : IntKind} {s x : Operand} {n : Nat} {K : Act → World → Prop} (st : St w0 w rs)
    (ho : o.op = .call { callee := .builtin .append, args := #[s, x], argTypes := #[t, tn] }) (hT : SliceT P t e z size bytes) (htn : P.underlying tn = some (.int kn)) (hv : a.eval s = .slice none 0 0) (hx : a.eval x = .int k n)
    (h0 : 0 < n) (hn : n ≤ maxLen) (hb : n * bytes ≤ 281474976710656)
    (h : ∀ b c w', St w0 w' (.row e size (.slice (some ⟨b, 0, none⟩) n c) n (Builtin.zeroCells z.cells n).toList :: rs) → K (a.put o.dst (.slice (some ⟨b, 0, none⟩) n c)) w') : OW P o a w K Q := by
  obtain ⟨i0, hi, hz0, hz1, hz2⟩ := info_parts hT.info
  have hc := hT.cells
  have hp := hT.pos
  unfold maxLen at hn
  have h1 := grownCap_ge w n 0 e
  have h2 := grownCap_le_maxLen w n 0 e (by unfold maxLen; omega)
  have hrun := Lib.run_append_nil_zeros (P := P) w t tn o.type e i0 z k kn hT.under htn hi hz0 n h0 (by omega) (by omega) (by rw [hz2]; exact hb)
  refine OW.mk (Lib.wp_append_run w s x t tn ho _ _ hv hx _ _ hrun (h _ _ _ ?_))
  have hzl : ∀ m, (Builtin.zeroCells z.cells m).size = m * size := fun m => by simp [Builtin.zeroCells, hc]
  refine st.drew.fresh ((Below.refl _ _).alloc (Nat.le_refl _) _) ⟨by rw [Array.length_toList, hzl], .inr ⟨_, _, _, rfl, Nat.le_refl _, heap_alloc_new _ _, h1, h2, ?_, ?_⟩⟩
  · rw [Array.size_append, hzl, hzl, ← Nat.add_mul]; congr 1; omega
  · rw [Array.toList_append, List.take_append_of_le_length (by rw [Array.length_toList, hzl]; exact Nat.le_refl _), List.take_of_length_le (by rw [Array.length_toList, hzl]; exact Nat.le_refl _)]
end
end Go.Hp
namespace Go.Hp
open Go.RowKit
section
variable {P : Program} {ops : Array Oper} {Q Q' : Exit → Act → World → Prop} {o : Oper} {a : Act} {w w0 w' W : World} {rs : List Res} {l n : Nat}
theorem wpIn_round_of_wp {K K' : Act → World → Prop} (hd : ∀ c, o.op ≠ .defer c) (hK : ∀ a w, K a w → K' a w) (h : o.wp P a w K Q) : o.wpIn (Fence.wide.inRound l) n P a w K' Q := by
  refine ⟨fun _ _ => trivial, ?_⟩
  rw [Fence.inRound_round, Oper.semAt_eq _ _ _ hd]
  unfold Oper.wp at h
  generalize (execOp a.eval o).run P w = r at h ⊢
  cases r with
  | ok x w' =>
    cases x <;> simp only [Oper.upon, Oper.uponIn] at h ⊢ <;> first | exact hK _ _ h | exact h.elim | skip
    case enter f args =>
      refine ⟨fun h => (by cases h), CallsIn.inRound l (callsIn_wide.2 (Calls.mono h ?_))⟩
      intro e w'' he
      cases e with
      | returned v => exact hK _ _ he
      | panicked c => exact he
      | outgrown => exact he
    case row r args =>
      exact ⟨fun h => (by cases h), fun c cs _ => let ⟨v, w', r, s⟩ := h c cs; ⟨v, w', hK _ _ r, stepsIn_wide.2 s⟩⟩
  | halt x w' =>
    cases x <;> simp only [Oper.upon, Oper.uponIn] at h ⊢ <;> first | exact h | exact h.elim
def noDefer : List Oper → Bool
  | [] => true
  | o :: l => (match o.op with | .defer _ => false | _ => true) && noDefer l
theorem wpListIn_of_wpList : ∀ (lst : List Oper) (a : Act) (w : World), noDefer lst = true → ¬ LetsOut Q → wpList P ops Q lst a w → wpListIn (Fence.wide.inRound l) n P ops Q lst a w
  | [], _, _, _, _, h => h
  | o :: rest, a, w, hd, hL, h => by
    simp only [noDefer, Bool.and_eq_true] at hd
    have ih := fun a w => wpListIn_of_wpList rest a w hd.2 hL
    unfold wpList at h
    unfold wpListIn
    split at h
    · rename_i hw
      rw [if_pos hw]
      refine wpIn_round_of_wp (fun c hc => ?_) ih (h.resolve_right fun h => hL h.2)
      rw [hc] at hd
      exact absurd hd.1 (by simp)
    · rename_i hw
      rw [if_neg hw]
      exact ⟨fun _ _ => trivial, ih _ _ h⟩
theorem wpIn_round_region {id : Nat} {lst : List Oper} (hd : noDefer lst = true) (hL : ¬ LetsOut Q) (h : WL P lst.toArray Q lst a w) : (Code.region id lst.toArray false).wpIn (Fence.wide.inRound l) n P Q a w :=
  wpIn_region_lit (wpListIn_of_wpList lst a w hd hL h.out)
theorem WL.act {a' : Act} {lst : List Oper} (ha : a = a') (h : WL P ops Q lst a' w) : WL P ops Q lst a w := ha ▸ h
def objs (B : Nat) (W : World) : List Res := (List.range W.heap.size).filterMap fun k => if B ≤ k then (match W.heap[k]? with | some o => if o.isCells then none else some (.obj k o) | none => none) else none
theorem mem_objs {B : Nat} {r : Res} : r ∈ objs B W ↔ ∃ k o, r = .obj k o ∧ B ≤ k ∧ W.heap[k]? = some o ∧ o.isCells = false := by
  unfold objs
  rw [List.mem_filterMap]
  constructor
  · rintro ⟨k, hk, h⟩
    split at h
    · rename_i hB
      split at h
      · rename_i o ho
        split at h
        · cases h
        · rename_i hc
          simp only [Option.some.injEq] at h
          exact ⟨k, o, h.symm, hB, ho, by simpa using hc⟩
      · cases h
    · cases h
  · rintro ⟨k, o, rfl, hB, ho, hc⟩
    refine ⟨k, List.mem_range.2 (Array.getElem?_eq_some_iff.1 ho).1, ?_⟩
    rw [if_pos hB, ho]
    simp [hc]
theorem objs_pairwise (B : Nat) (W : World) : (objs B W).Pairwise Res.ne := by
  unfold objs
  refine List.Pairwise.filterMap (R := fun a b => a ≠ b) _ ?_ List.nodup_range
  intro a a' hne b hb b' hb' k hk hk'
  have key : ∀ (x : Nat) (r : Res), (if B ≤ x then (match W.heap[x]? with | some o => if o.isCells then none else some (Res.obj x o) | none => none) else none) = some r → r.blk = some x := by
    intro x r h
    split at h
    · split at h
      · split at h
        · cases h
        · simp only [Option.some.injEq] at h; subst h; rfl
      · cases h
    · cases h
  have h1 := key a b (by simpa using hb)
  have h2 := key a' b' (by simpa using hb')
  rw [h1] at hk
  rw [h2] at hk'
  cases hk; cases hk'
  exact hne rfl
def Res.plain : Res → Bool
  | .box .. => true
  | .row .. => true
  | _ => false
theorem Res.plain_cells {B : Nat} {r : Res} (h : r.holds B w) (hp : r.plain = true) {k : Nat} (hk : r.blk = some k) : ∃ o, w.heap[k]? = some o ∧ o.isCells = true := by
  cases r with
  | box b t cs => cases hk; exact ⟨_, h.2, rfl⟩
  | row e size v n xs =>
    rcases h.2 with ⟨hv, _⟩ | ⟨g, cap, cur, rfl, _, hg, _⟩
    · subst hv; cases hk
    · cases hk; exact ⟨_, hg, rfl⟩
  | obj b o => cases hp
  | room n => cases hp
theorem St.objs {B : Nat} (st : St w0 W rs) (hp : rs.all Res.plain = true) (hB : w0.heap.size ≤ B) : St w0 W (rs ++ .room W.heap.size :: objs B W) := by
  have hp' := List.all_eq_true.1 hp
  refine ⟨st.below, fun r hr => ?_, List.pairwise_append.2 ⟨st.apart, List.pairwise_cons.2 ⟨fun s _ k hk => (by cases hk), objs_pairwise B W⟩, fun r hr s hs k hk hk' => ?_⟩⟩
  · rcases List.mem_append.1 hr with hr | hr
    · exact st.holds r hr
    · rcases List.mem_cons.1 hr with rfl | hr
      · exact Nat.le_refl _
      · obtain ⟨k, o, rfl, hBk, ho, _⟩ := mem_objs.1 hr
        exact ⟨by omega, ho⟩
  · obtain ⟨o, ho, hc⟩ := Res.plain_cells (st.holds r hr) (hp' r hr) hk
    rcases List.mem_cons.1 hs with rfl | hs
    · cases hk'
    · obtain ⟨k', o', rfl, _, ho', hc'⟩ := mem_objs.1 hs
      cases hk'
      rw [ho] at ho'
      cases ho'
      rw [hc] at hc'
      cases hc'
theorem St.keepsFrom {B : Nat} {rs' : List Res} (st : St w0 w' (rs' ++ .room W.heap.size :: Hp.objs B W)) : KeepsFrom B W w' ∧ W.heap.size ≤ w'.heap.size := by
  have hs : W.heap.size ≤ w'.heap.size := st.holds (.room W.heap.size) (List.mem_append_right _ (List.mem_cons_self ..))
  refine ⟨⟨hs, fun k o hB ho hc => ?_⟩, hs⟩
  exact (st.holds (.obj k o) (List.mem_append_right _ (List.mem_cons_of_mem _ (mem_objs.2 ⟨k, o, rfl, hB, ho, by simpa using hc⟩)))).2
theorem St.front {rs' : List Res} (st : St w0 w (rs ++ rs')) : St w0 w rs := st.sub (List.sublist_append_left _ _)
theorem St.turn {B : Nat} {row : Option Nat} (st : St w0 W rs) (hp : rs.all Res.plain = true) (hB : w0.heap.size ≤ B) (hg : W.grownBy w' row) (hr : ∀ r, row = some r → B ≤ r ∧ ∃ o : Obj, W.heap[r]? = some o ∧ o.isCells = false) : St w0 w' rs := by
  have hp' := List.all_eq_true.1 hp
  refine st.step ((Below.refl _ _).grown hg st.size fun k hk => ?_) fun r hr' k hk => hg.block k (Res.holds_lt (st.holds r hr') hk).2 fun e => ?_
  · have := (hr k hk).1; omega
  · obtain ⟨_, o, ho, hc⟩ := hr k e.symm
    obtain ⟨o', ho', hc'⟩ := Res.plain_cells (st.holds r hr') (hp' r hr') hk
    rw [ho] at ho'
    cases ho'
    rw [hc] at hc'
    cases hc'
theorem Below.grownNone (h : Below W.heap.size W w') : W.grownBy w' none := ⟨h.os, h.tape, h.output, h.size, fun k hk _ => h.block k hk⟩
theorem below_of_st {n₀ : Nat} (h1 : Below w0.heap.size w0 W) (st : St w0 w' rs) (hn : n₀ ≤ w0.heap.size) (hs : W.heap.size ≤ w'.heap.size) : Below n₀ W w' :=
  ⟨st.below.os.trans h1.os.symm, st.below.tape.trans h1.tape.symm, st.below.output.trans h1.output.symm, hs, fun k hk => (st.below.block k (by omega)).trans (h1.block k (by omega)).symm⟩
end
end Go.Hp
namespace Go.Proofs.YtppjhccdgbheiaaGreatDoor
open Go.RowKit
namespace L
def ix (l : List Int) (k : Nat) : Int := l[k]?.getD 0
def within (n lo hi : Int) : Bool := decide (lo ≤ n) && decide (n ≤ hi)
def isIdentity (n : Int) : Bool := within n 1 5 || within n 10 999
def isCreator (n : Int) : Bool := n == 2 || n == 3
def isHolder (n : Int) : Bool := isIdentity n && !isCreator n && n != 1
def unles (b : Bool) (e : Int) : Int := if b then 0 else e
def firstErr (l : List Int) : Int := (l.find? (fun x => x != 0)).getD 0
def holdersErr (o g : Int) : Int := unles (isHolder o && isHolder g) 2
def aceErr (k f m w : Int) : Int := firstErr [unles (within k 0 2) 15, unles (within f 0 31 && within m 1 511 && isIdentity w) 2]
def isUser (n : Int) : Bool := within n 10 999
def isWho (n : Int) : Bool := within n 1 5 || isUser n
def rHolder (n : Int) : Bool := isUser n || n == 4 || n == 5
def rPairErr (o g : Int) : Int := if !rHolder o || !rHolder g then 2 else 0
def rAceErr (k f m w : Int) : Int := if !within k 0 2 then 15 else if !within f 0 31 || !within m 1 511 || !isWho w then 2 else 0
end L
theorem within_any (n lo hi : Int) (w : World) :
    Calls Tryz.prog 87 #[.int .i64 n, .int .i64 lo, .int .i64 hi] w fun e w' => e = .returned (.bool (L.within n lo hi)) ∧ w = w' := by
  go_enter Tryz.func87, Tryz.ntmps87
  go_wp2
  all_goals (go_ret; exact ⟨by simp [L.within, *]; try omega, rfl⟩)
theorem Within_any (n lo hi : Int) (w : World) :
    Calls Tryz.prog 31 #[.int .i64 n, .int .i64 lo, .int .i64 hi] w fun e w' => e = .returned (.bool (L.within n lo hi)) ∧ w = w' := by
  go_enter Tryz.func31, Tryz.ntmps31
  go_wp2
  all_goals (go_ret; exact ⟨by simp [L.within, *]; try omega, rfl⟩)
theorem isIdentity_any (n : Int) (w : World) :
    Calls Tryz.prog 112 #[.int .i64 n] w fun e w' => e = .returned (.bool (L.isIdentity n)) ∧ w = w' := by
  go_enter Tryz.func112, Tryz.ntmps112
  go_wp2_with (go_at_call 87; refine (within_any _ _ _ _).mono ?_; rintro e w' ⟨rfl, rfl⟩)
  all_goals (go_ret; exact ⟨by simp [L.isIdentity, *], rfl⟩)
theorem isCreator_any (n : Int) (w : World) :
    Calls Tryz.prog 113 #[.int .i64 n] w fun e w' => e = .returned (.bool (L.isCreator n)) ∧ w = w' := by
  go_enter Tryz.func113, Tryz.ntmps113
  go_wp2
  all_goals (go_ret; exact ⟨by simp [L.isCreator, *], rfl⟩)
theorem isHolder_any (n : Int) (w : World) :
    Calls Tryz.prog 82 #[.int .i64 n] w fun e w' => e = .returned (.bool (L.isHolder n)) ∧ w = w' := by
  go_enter Tryz.func82, Tryz.ntmps82
  go_wp2_with (first | (go_at_call 112; refine (isIdentity_any _ _).mono ?_; rintro e w' ⟨rfl, rfl⟩) | (go_at_call 113; refine (isCreator_any _ _).mono ?_; rintro e w' ⟨rfl, rfl⟩))
  all_goals (go_ret; exact ⟨by simp [L.isHolder, *], rfl⟩)
theorem unles_any (b : Bool) (n : Int) (w : World) :
    Calls Tryz.prog 81 #[.bool b, .int .i64 n] w fun e w' => e = .returned (.int .i64 (L.unles b n)) ∧ w = w' := by
  go_enter Tryz.func81, Tryz.ntmps81
  go_wp2
  all_goals (go_ret; exact ⟨by simp [L.unles, *], rfl⟩)
theorem holdersErr_any (o g : Int) (w : World) :
    Calls Tryz.prog 47 #[.int .i64 o, .int .i64 g] w fun e w' => e = .returned (.int .i64 (L.holdersErr o g)) ∧ w = w' := by
  go_enter Tryz.func47, Tryz.ntmps47
  go_wp2_with (first | (go_at_call 82; refine (isHolder_any _ _).mono ?_; rintro e w' ⟨rfl, rfl⟩) | (go_at_call 81; refine (unles_any _ _ _).mono ?_; rintro e w' ⟨rfl, rfl⟩))
  all_goals (go_ret; exact ⟨by simp [L.holdersErr, *], rfl⟩)
theorem IsUser_any (n : Int) (w : World) :
    Calls Tryz.prog 115 #[.int .i64 n] w fun e w' => e = .returned (.bool (L.isUser n)) ∧ w = w' := by
  go_enter Tryz.func115, Tryz.ntmps115
  go_wp2_with (go_at_call 31; refine (Within_any _ _ _ _).mono ?_; rintro e w' ⟨rfl, rfl⟩)
  all_goals (go_ret; exact ⟨by simp [L.isUser, *], rfl⟩)
theorem IsWho_any (n : Int) (w : World) :
    Calls Tryz.prog 89 #[.int .i64 n] w fun e w' => e = .returned (.bool (L.isWho n)) ∧ w = w' := by
  go_enter Tryz.func89, Tryz.ntmps89
  go_wp2_with (first | (go_at_call 31; refine (Within_any _ _ _ _).mono ?_; rintro e w' ⟨rfl, rfl⟩) | (go_at_call 115; refine (IsUser_any _ _).mono ?_; rintro e w' ⟨rfl, rfl⟩))
  all_goals (go_ret; exact ⟨by simp [L.isWho, *], rfl⟩)
theorem rHolder_any (n : Int) (w : World) :
    Calls Tryz.prog 88 #[.int .i64 n] w fun e w' => e = .returned (.bool (L.rHolder n)) ∧ w = w' := by
  go_enter Tryz.func88, Tryz.ntmps88
  go_wp2_with (go_at_call 115; refine (IsUser_any _ _).mono ?_; rintro e w' ⟨rfl, rfl⟩)
  all_goals (go_ret; exact ⟨by simp [L.rHolder, *], rfl⟩)
theorem rPairErr_any (o g : Int) (w : World) :
    Calls Tryz.prog 57 #[.int .i64 o, .int .i64 g] w fun e w' => e = .returned (.int .i64 (L.rPairErr o g)) ∧ w = w' := by
  go_enter Tryz.func57, Tryz.ntmps57
  go_wp2_with (go_at_call 88; refine (rHolder_any _ _).mono ?_; rintro e w' ⟨rfl, rfl⟩)
  all_goals (go_ret; exact ⟨by simp [L.rPairErr, *], rfl⟩)
end Go.Proofs.YtppjhccdgbheiaaGreatDoor
namespace Go.Proofs.YtppjhccdgbheiaaGreatDoor
open Go.RowKit
theorem firstErr_drop (l : List Int) (k : Nat) (hk : k < l.length) (h : L.firstErr (l.drop k) = L.firstErr l) (h0 : L.ix l k = 0) : L.firstErr (l.drop (k + 1)) = L.firstErr l := by
  rw [← h, List.drop_eq_getElem_cons hk]
  have : l[k] = 0 := by simpa [L.ix, List.getElem?_eq_getElem hk] using h0
  simp [L.firstErr, this]
theorem firstErr_hit (l : List Int) (k : Nat) (hk : k < l.length) (h : L.firstErr (l.drop k) = L.firstErr l) (h0 : L.ix l k ≠ 0) : L.firstErr l = L.ix l k := by
  rw [← h]
  have e : L.ix l k = l[k] := by simp [L.ix, List.getElem?_eq_getElem hk]
  have e0 : (l[k] != 0) = true := by rw [e] at h0; simpa using h0
  rw [e]
  unfold L.firstErr
  rw [List.drop_eq_getElem_cons hk, List.find?_cons, e0]
  rfl
set_option maxHeartbeats 400000 in
theorem first_any (b : Nat) (l : List Int) (w : World) (hl : l.length ≤ 100) (hc : ∀ k, k < l.length → w.cell? ⟨b, k, none⟩ = some (.int .i64 (L.ix l k))) :
    Calls Tryz.prog 44 #[.slice (some ⟨b, 0, none⟩) l.length l.length] w fun e w' => e = .returned (.int .i64 (L.firstErr l)) ∧ w = w' := by
  go_enter Tryz.func44, Tryz.ntmps44
  go_wp2
  go_loop [7] (fun i => ∃ k : Nat, k ≤ l.length ∧ i = .int .i64 k ∧ Hid (L.firstErr (l.drop k) = L.firstErr l)) (fun i => l.length - (intOf i).toNat)
  case atStart => exact ⟨0, Nat.zero_le _, rfl, rfl⟩
  case round =>
    obtain ⟨k, hk, rfl, hd⟩ := hrel
    by_cases hlt : k < l.length
    · have hk := hc k hlt
      clear hc
      by_cases h0 : L.ix l k = 0
      · have hb : (L.ix l k == 0) = true := by simpa using h0
        have hb' : (L.ix l k != 0) = false := by simpa using h0
        have hd' := Lib.hid (firstErr_drop l k hlt hd.out h0)
        clear h0
        go_wp2
        go_round
        case rel => exact ⟨k + 1, by omega, by go_num, hd'⟩
        case measure => simp [intOf]; omega
      · have hb : (L.ix l k == 0) = false := by simpa using h0
        have hb' : (L.ix l k != 0) = true := by simpa using h0
        have hd' := Lib.hid (firstErr_hit l k hlt hd.out h0)
        clear h0
        go_wp2
        go_ret
        exact ⟨congrArg (fun z => Ending.returned (.int .i64 z)) hd'.out.symm, rfl⟩
    · have he : l.drop k = [] := List.drop_eq_nil_of_le (by omega)
      rw [he] at hd
      go_wp2
      go_ret
      exact ⟨by rw [← hd.out]; rfl, rfl⟩
@[go_sem] def cInt (w : World) (b k : Nat) : Int := match w.cell? ⟨b, k, none⟩ with | some (.int _ n) => n | _ => 0
theorem cInt_of {w : World} {b k : Nat} (h : ∃ x, w.cell? ⟨b, k, none⟩ = some (.int .i64 x)) : w.cell? ⟨b, k, none⟩ = some (.int .i64 (cInt w b k)) := by
  obtain ⟨x, h⟩ := h
  simp [cInt, h]
theorem first2_any (b : Nat) (w : World) (h0 : ∃ x, w.cell? ⟨b, 0, none⟩ = some (.int .i64 x)) (h1 : ∃ x, w.cell? ⟨b, 1, none⟩ = some (.int .i64 x)) :
    Calls Tryz.prog 44 #[.slice (some ⟨b, 0, none⟩) 2 2] w fun e w' => e = .returned (.int .i64 (L.firstErr [cInt w b 0, cInt w b 1])) ∧ w = w' :=
  first_any b [cInt w b 0, cInt w b 1] w (by simp) (fun k hk => by
    rcases k with _ | _ | k
    · exact cInt_of h0
    · exact cInt_of h1
    · simp only [List.length_cons, List.length_nil] at hk; omega)
theorem first3_any (b : Nat) (w : World) (h0 : ∃ x, w.cell? ⟨b, 0, none⟩ = some (.int .i64 x)) (h1 : ∃ x, w.cell? ⟨b, 1, none⟩ = some (.int .i64 x)) (h2 : ∃ x, w.cell? ⟨b, 2, none⟩ = some (.int .i64 x)) :
    Calls Tryz.prog 44 #[.slice (some ⟨b, 0, none⟩) 3 3] w fun e w' => e = .returned (.int .i64 (L.firstErr [cInt w b 0, cInt w b 1, cInt w b 2])) ∧ w = w' :=
  first_any b [cInt w b 0, cInt w b 1, cInt w b 2] w (by simp) (fun k hk => by
    rcases k with _ | _ | _ | k
    · exact cInt_of h0
    · exact cInt_of h1
    · exact cInt_of h2
    · simp only [List.length_cons, List.length_nil] at hk; omega)
end Go.Proofs.YtppjhccdgbheiaaGreatDoor
namespace Go.Proofs.YtppjhccdgbheiaaGreatDoor
open Go.RowKit
namespace L
structure Ace where
  k : Int
  f : Int
  m : Int
  w : Int
def ace0 : Ace := ⟨0, 0, 0, 0⟩
def ax (l : List Ace) (i : Nat) : Ace := l[i]?.getD ace0
def Ace.cells (a : Ace) : List Value := [.int .i64 a.k, .int .i64 a.f, .int .i64 a.m, .int .i64 a.w]
def cellsOf (l : List Ace) : List Value := l.flatMap Ace.cells
theorem Ace.ext' {a b : Ace} (h1 : a.k = b.k) (h2 : a.f = b.f) (h3 : a.m = b.m) (h4 : a.w = b.w) : a = b := by
  cases a; cases b; simp_all
theorem cellsOf_length (l : List Ace) : (cellsOf l).length = l.length * 4 := by
  induction l with
  | nil => rfl
  | cons a l ih => simp only [cellsOf, List.flatMap_cons, List.length_append] at *; rw [ih]; simp [Ace.cells]; omega
theorem cellsOf_append (l m : List Ace) : cellsOf (l ++ m) = cellsOf l ++ cellsOf m := by simp [cellsOf]
theorem cellsOf_get (l : List Ace) (i : Nat) (h : i < l.length) (j : Nat) (hj : j < 4) : (cellsOf l)[i * 4 + j]? = (ax l i).cells[j]? := by
  induction l generalizing i with
  | nil => simp at h
  | cons a l ih =>
    rcases i with _ | i
    · simp only [cellsOf, List.flatMap_cons]
      rw [List.getElem?_append_left (by simp [Ace.cells]; omega)]
      simp [ax]
    · simp only [cellsOf, List.flatMap_cons]
      rw [List.getElem?_append_right (by simp [Ace.cells]; omega)]
      have e : (i + 1) * 4 + j - a.cells.length = i * 4 + j := by simp [Ace.cells]; omega
      rw [e]
      have := ih i (by simpa using h)
      simp only [cellsOf] at this
      rw [this]
      simp [ax]
theorem ax_eq (l : List Ace) (i : Nat) (h : i < l.length) : ax l i = l[i] := by simp [ax, List.getElem?_eq_getElem h]
theorem take_succ_ax (l : List Ace) (i : Nat) (h : i < l.length) : l.take (i + 1) = l.take i ++ [ax l i] := by
  rw [List.take_succ_eq_append_getElem h, ax_eq l i h]
theorem drop_ax (l : List Ace) (i : Nat) (h : i < l.length) : l.drop i = ax l i :: l.drop (i + 1) := by
  rw [List.drop_eq_getElem_cons h, ax_eq l i h]
end L
theorem bcell {W w1 : World} (hb : Below W.heap.size W w1) : (∀ b o, b < W.heap.size → w1.cell? ⟨b, o, none⟩ = W.cell? ⟨b, o, none⟩) ∧ (∀ b o, b < W.heap.size → w1.frozen? ⟨b, o, none⟩ = W.frozen? ⟨b, o, none⟩) :=
  ⟨fun b o h => hb.cell (p := ⟨b, o, none⟩) h, fun b o h => hb.frozen (p := ⟨b, o, none⟩) h⟩
theorem ret_int {k : IntKind} {a b : Int} (h : a = b) : Ending.returned (.int k a) = .returned (.int k b) := by rw [h]
theorem ret_pair {p : Int × Int} {a b : Int} (h : p = (a, b)) : Ending.returned (.tuple #[.int .i64 a, .int .i64 b]) = .returned (.tuple #[.int .i64 p.1, .int .i64 p.2]) := by rw [h]
theorem ret_bool {a b : Bool} (h : a = b) : Ending.returned (.bool a) = .returned (.bool b) := by rw [h]
def Aces (w : World) (B : Nat) (A : Option Addr) (n : Nat) (l : List L.Ace) : Prop :=
  n = l.length ∧ (0 < n → ∃ b o, A = some ⟨b, o, none⟩ ∧ b < B ∧ ∀ k, k < n →
    w.cell? ⟨b, o + k * 4, none⟩ = some (.int .i64 (L.ax l k).k) ∧ w.cell? ⟨b, o + k * 4 + 1, none⟩ = some (.int .i64 (L.ax l k).f) ∧
    w.cell? ⟨b, o + k * 4 + 2, none⟩ = some (.int .i64 (L.ax l k).m) ∧ w.cell? ⟨b, o + k * 4 + 3, none⟩ = some (.int .i64 (L.ax l k).w))
section
variable {w w' : World} {B B' n : Nat} {A : Option Addr} {l : List L.Ace}
theorem Aces.len (h : Aces w B A n l) : n = l.length := h.1
theorem Aces.at_ (h : Aces w B A n l) (hn : 0 < n) : ∃ b o, A = some ⟨b, o, none⟩ ∧ b < B ∧ ∀ k, k < n →
    w.cell? ⟨b, o + k * 4, none⟩ = some (.int .i64 (L.ax l k).k) ∧ w.cell? ⟨b, o + k * 4 + 1, none⟩ = some (.int .i64 (L.ax l k).f) ∧
    w.cell? ⟨b, o + k * 4 + 2, none⟩ = some (.int .i64 (L.ax l k).m) ∧ w.cell? ⟨b, o + k * 4 + 3, none⟩ = some (.int .i64 (L.ax l k).w) := h.2 hn
theorem Aces.keep (h : Aces w B A n l) (hk : ∀ b o, b < B → w'.cell? ⟨b, o, none⟩ = w.cell? ⟨b, o, none⟩) : Aces w' B A n l := by
  refine ⟨h.1, fun hn => ?_⟩
  obtain ⟨b, o, hA, hb, hc⟩ := h.2 hn
  refine ⟨b, o, hA, hb, fun k hkn => ?_⟩
  obtain ⟨h1, h2, h3, h4⟩ := hc k hkn
  exact ⟨(hk _ _ hb).trans h1, (hk _ _ hb).trans h2, (hk _ _ hb).trans h3, (hk _ _ hb).trans h4⟩
theorem Aces.below (h : Aces w B A n l) (hb : Below B' w w') (hB : B ≤ B') : Aces w' B A n l := h.keep fun b o hbo => hb.cell (p := ⟨b, o, none⟩) (by simp; omega)
theorem Aces.more (h : Aces w B A n l) (hB : B ≤ B') : Aces w B' A n l := by
  refine ⟨h.1, fun hn => ?_⟩
  obtain ⟨b, o, hA, hb, hc⟩ := h.2 hn
  exact ⟨b, o, hA, by omega, hc⟩
theorem Aces.nil (A : Option Addr) : Aces w B A 0 [] := ⟨rfl, fun h => absurd h (by omega)⟩
theorem Aces.of_own {base : Nat} {e : TypeId} {v : Value} (h : w.ownsRow base e 4 v n (L.cellsOf l)) : n = l.length ∧ ∃ A c, v = .slice A n c ∧ Aces w w.heap.size A n l := by
  have hn : n = l.length := by have := h.1; rw [L.cellsOf_length] at this; omega
  refine ⟨hn, ?_⟩
  rcases h.2 with ⟨rfl, rfl⟩ | ⟨g, cap, cur, rfl, hbase, hg, hnc, hcap, hsz, htake⟩
  · exact ⟨none, 0, rfl, hn, fun h => absurd h (by omega)⟩
  · refine ⟨some ⟨g, 0, none⟩, cap, rfl, hn, fun hn0 => ⟨g, 0, rfl, (Array.getElem?_eq_some_iff.1 hg).1, fun k hk => ?_⟩⟩
    have hcell : ∀ j, j < 4 → w.cell? ⟨g, 0 + k * 4 + j, none⟩ = (L.ax l k).cells[j]? := by
      intro j hj
      rw [cell_of_row w g (0 + k * 4 + j) cur e (0, 0) hg, ← L.cellsOf_get l k (by omega) j hj, ← htake, List.getElem?_take, if_pos (by omega)]
      simp
    exact ⟨hcell 0 (by omega), hcell 1 (by omega), hcell 2 (by omega), hcell 3 (by omega)⟩
end
end Go.Proofs.YtppjhccdgbheiaaGreatDoor
namespace Go.Proofs.YtppjhccdgbheiaaGreatDoor
open Go.RowKit
namespace L
def has (f b : Int) : Bool := f / b % 2 == 1
def holder (who o g : Int) : Int := if who = 2 then o else if who = 3 then g else who
def band (n b : Int) : Int := bits BinOp.and IntKind.i64 n b
def bor (n b : Int) : Int := bits BinOp.or IntKind.i64 n b
def hflags (dir : Bool) (n : Int) : Int × Bool :=
  if !dir then (16, band n 1 != 0)
  else if band n 2 != 0 && band n 4 != 0 then (16, true)
  else if band n 2 != 0 then (bor 16 (band n 3), true)
  else if band n 1 != 0 && !(band n 4 != 0) then (25, true)
  else (0, false)
def rank (k f : Int) : Int := (if band f 16 != 0 then 2 else 0) + (if k != 1 then 1 else 0)
def rRank (k f : Int) : Int := (if k == 1 then 0 else 1) + (if has f 16 then 2 else 0)
def bit (b : Bool) : Int := if b then 1 else 0
end L
set_option maxHeartbeats 400000 in
theorem CheckAce_any (k f m wh : Int) (w : World) :
    Calls Tryz.prog 80 #[.agg #[.int .i64 k, .int .i64 f, .int .i64 m, .int .i64 wh]] w fun e w' => e = .returned (.int .i64 (L.aceErr k f m wh)) ∧ Below w.heap.size w w' := by
  go_enter Tryz.func80, Tryz.ntmps80
  go_wp2_with (first | (go_at_call 87; refine (within_any _ _ _ _).mono ?_; rintro e w' ⟨rfl, rfl⟩) | (go_at_call 112; refine (isIdentity_any _ _).mono ?_; rintro e w' ⟨rfl, rfl⟩) | (go_at_call 81; refine (unles_any _ _ _).mono ?_; rintro e w' ⟨rfl, rfl⟩) | (go_at_call 44; refine (first2_any _ _ ?_ ?_).mono ?_; go_simp; go_simp; rintro e w' ⟨rfl, rfl⟩))
  all_goals (go_ret; exact ⟨by simp [L.aceErr, *], by (focus (repeat (first | exact Below.refl _ _ | (refine Below.alloc ?_ (by (first | omega | (focus (simp; done)))) _))))⟩)
theorem AceErr_any (k f m wh : Int) (w : World) :
    Calls Tryz.prog 58 #[.agg #[.int .i64 k, .int .i64 f, .int .i64 m, .int .i64 wh]] w fun e w' => e = .returned (.int .i64 (L.rAceErr k f m wh)) ∧ Below w.heap.size w w' := by
  go_enter Tryz.func58, Tryz.ntmps58
  go_wp2_with (first | (go_at_call 31; refine (Within_any _ _ _ _).mono ?_; rintro e w' ⟨rfl, rfl⟩) | (go_at_call 89; refine (IsWho_any _ _).mono ?_; rintro e w' ⟨rfl, rfl⟩))
  all_goals (go_ret; exact ⟨by simp [L.rAceErr, *], by (focus (repeat (first | exact Below.refl _ _ | (refine Below.alloc ?_ (by (omega)) _))))⟩)
theorem fullErr_any (A : Option Addr) (n c : Nat) (w : World) (hn : n ≤ 1000) :
    Calls Tryz.prog 49 #[.slice A n c] w fun e w' => e = .returned (.int .i64 (L.unles (decide (n ≤ 16)) 16)) ∧ w = w' := by
  go_enter Tryz.func49, Tryz.ntmps49
  go_wp2_with (go_at_call 81; refine (unles_any _ _ _).mono ?_; rintro e w' ⟨rfl, rfl⟩)
  go_ret
  exact ⟨congrArg (fun b => Ending.returned (.int .i64 (L.unles b 16))) (decide_eq_decide.2 (by omega)), rfl⟩
theorem Has_any (f b : Int) (w : World) (h0 : 0 ≤ f) (h1 : f ≤ 31) (hb : 1 ≤ b) (hb' : b ≤ 31) :
    Calls Tryz.prog 12 #[.int .i64 f, .int .i64 b] w fun e w' => e = .returned (.bool (L.has f b)) ∧ w = w' := by
  have hq0 : 0 ≤ f / b := Int.ediv_nonneg h0 (by omega)
  have hq1 : f / b ≤ 31 := Int.le_trans (Int.ediv_le_self _ h0) h1
  go_enter Tryz.func12, Tryz.ntmps12
  go_wp2
  go_ret
  exact ⟨rfl, rfl⟩
theorem holder_any (who o g : Int) (w : World) :
    Calls Tryz.prog 90 #[.int .i64 who, .int .i64 o, .int .i64 g] w fun e w' => e = .returned (.int .i64 (L.holder who o g)) ∧ w = w' := by
  go_enter Tryz.func90, Tryz.ntmps90
  go_wp2
  all_goals (go_ret; exact ⟨by simp_all [L.holder], rfl⟩)
theorem flags_any (dir : Bool) (o g n : Int) (w : World) (h0 : 0 ≤ n) (h1 : n ≤ 31) :
    Calls Tryz.prog 114 #[.agg #[.bool dir, .int .i64 o, .int .i64 g], .int .i64 n] w fun e w' => e = .returned (.tuple #[.int .i64 (L.hflags dir n).1, .bool (L.hflags dir n).2]) ∧ Below w.heap.size w w' := by
  cases dir
  · go_enter Tryz.func114, Tryz.ntmps114
    go_wp2
    go_ret2
    exact ⟨by simp [L.hflags, L.band], by (focus (repeat (first | exact Below.refl _ _ | (refine Below.alloc ?_ (by (omega)) _))))⟩
  · by_cases hb2 : (L.band n 2 != 0) = true <;> by_cases hb4 : (L.band n 4 != 0) = true <;> by_cases hb1 : (L.band n 1 != 0) = true
    all_goals
      try simp only [Bool.not_eq_true] at hb1 hb2 hb4
      have H := Lib.hid (And.intro hb1 (And.intro hb2 hb4))
      unfold L.band at hb1 hb2 hb4
      go_enter Tryz.func114, Tryz.ntmps114
      go_wp2
      go_ret2
      obtain ⟨k1, k2, k4⟩ := H.out
      exact ⟨by simp_all [L.hflags, L.band, L.bor], by (focus (repeat (first | exact Below.refl _ _ | (refine Below.alloc ?_ (by (omega)) _))))⟩
theorem rank_any (k f m wh : Int) (w : World) (h0 : 0 ≤ f) (h1 : f ≤ 31) :
    Calls Tryz.prog 133 #[.agg #[.int .i64 k, .int .i64 f, .int .i64 m, .int .i64 wh]] w fun e w' => e = .returned (.int .i64 (L.rank k f)) ∧ Below w.heap.size w w' := by
  go_enter Tryz.func133, Tryz.ntmps133
  go_wp2
  all_goals (go_ret; exact ⟨by simp_all [L.rank, L.band], by (focus (repeat (first | exact Below.refl _ _ | (refine Below.alloc ?_ (by (omega)) _))))⟩)
theorem Rank_any (k f m wh : Int) (w : World) (h0 : 0 ≤ f) (h1 : f ≤ 31) :
    Calls Tryz.prog 91 #[.agg #[.int .i64 k, .int .i64 f, .int .i64 m, .int .i64 wh]] w fun e w' => e = .returned (.int .i64 (L.rRank k f)) ∧ Below w.heap.size w w' := by
  go_enter Tryz.func91, Tryz.ntmps91
  go_wp2_with (go_at_call 12; refine (Has_any _ _ _ (by omega) (by omega) (by omega) (by omega)).mono ?_; rintro e w' ⟨rfl, rfl⟩)
  all_goals (go_ret; exact ⟨by simp_all [L.rRank], by (focus (repeat (first | exact Below.refl _ _ | (refine Below.alloc ?_ (by (omega)) _))))⟩)
end Go.Proofs.YtppjhccdgbheiaaGreatDoor
namespace Go.Proofs.YtppjhccdgbheiaaGreatDoor
open Go.RowKit
namespace L
def aeq (a b : Ace) : Bool := a.k == b.k && (a.f == b.f && (a.m == b.m && a.w == b.w))
def same : List Ace → List Ace → Bool
  | [], [] => true
  | a :: l, b :: m => aeq a b && same l m
  | _, _ => false
theorem same_len : ∀ (l m : List Ace), l.length ≠ m.length → same l m = false
  | [], [], h => absurd rfl h
  | [], _ :: _, _ => rfl
  | _ :: _, [], _ => rfl
  | a :: l, b :: m, h => by simp [same, same_len l m (by simpa using h)]
theorem same_step (l m : List Ace) (k : Nat) (h1 : k < l.length) (h2 : k < m.length) : same (l.drop k) (m.drop k) = (aeq (ax l k) (ax m k) && same (l.drop (k + 1)) (m.drop (k + 1))) := by
  rw [drop_ax l k h1, drop_ax m k h2]; rfl
end L
theorem neq_ace (a b : L.Ace) (w : World) : (binOp .neq 37 (.agg #[.int .i64 a.k, .int .i64 a.f, .int .i64 a.m, .int .i64 a.w]) (.agg #[.int .i64 b.k, .int .i64 b.f, .int .i64 b.m, .int .i64 b.w])).run Tryz.prog w = .ok (.bool (!L.aeq a b)) w := by
  rw [run_neq_struct, run_equalIn_agg _ _ _ _ _ (by kernel_rfl) (by kernel_rfl)]
  by_cases h1 : a.k = b.k <;> by_cases h2 : a.f = b.f <;> by_cases h3 : a.m = b.m <;> by_cases h4 : a.w = b.w <;>
  simp [go_sem, Tryz.underlying37, h1, h2, h3, h4, L.aeq]
set_option maxHeartbeats 400000 in
theorem SameAces_any (A1 A2 : Option Addr) (n1 n2 c1 c2 B1 B2 : Nat) (l m : List L.Ace) (w : World) (h1 : Aces w B1 A1 n1 l) (h2 : Aces w B2 A2 n2 m) (hB1 : B1 ≤ w.heap.size) (hB2 : B2 ≤ w.heap.size) (hn : n1 ≤ 1000) (hn2 : n2 ≤ 1000) :
    Calls Tryz.prog 30 #[.slice A1 n1 c1, .slice A2 n2 c2] w fun e w' => e = .returned (.bool (L.same l m)) ∧ Below w.heap.size w w' := by
  have e1 := Lib.hid h1.len
  have e2 := Lib.hid h2.len
  by_cases hne : n1 = n2
  · subst hne
    have hnn : (((n1 : Int)) != (n1 : Int)) = false := by simp
    go_enter Tryz.func30, Tryz.ntmps30
    go_wp2
    go_loopw [5] (fun i wr => ∃ k : Nat, k ≤ n1 ∧ i = .int .i64 k ∧ Below w.heap.size w wr ∧ Hid (L.same l m = L.same (l.drop k) (m.drop k))) (fun i _ => n1 - (intOf i).toNat)
    case atStart => exact ⟨0, Nat.zero_le _, rfl, Below.refl _ _, rfl⟩
    case round =>
      obtain ⟨k, hk, rfl, hb, hs⟩ := hrel
      by_cases hlt : k < n1
      · have hst := Lib.hid (L.same_step l m k (by rw [← e1.out]; omega) (by rw [← e2.out]; omega))
        obtain ⟨b, o, rfl, _, hc⟩ := (h1.below hb hB1).at_ (by omega)
        obtain ⟨b', o', rfl, _, hc'⟩ := (h2.below hb hB2).at_ (by omega)
        obtain ⟨f1, f2, f3, f4⟩ := hc k hlt
        obtain ⟨g1, g2, g3, g4⟩ := hc' k hlt
        clear hc hc' h1 h2
        have hq := fun W => neq_ace (L.ax l k) (L.ax m k) W
        by_cases hae : L.aeq (L.ax l k) (L.ax m k) = true
        · have hs' : Hid (L.same l m = L.same (l.drop (k + 1)) (m.drop (k + 1))) := by
            rw [hs.out, hst.out, hae]; rfl
          go_wp2
          go_quiet (fail)
          go_wp2
          (exact ⟨⟨k + 1, by omega, by go_num, by (focus (repeat (first | assumption | refine below_drewN ?_ _))), hs'⟩, by simp [intOf]; omega⟩)
        · simp only [Bool.not_eq_true] at hae
          have hs' : Hid (L.same l m = false) := by
            rw [hs.out, hst.out, hae]; rfl
          go_wp2
          go_quiet (fail)
          go_wp2
          go_ret
          exact ⟨ret_bool hs'.out.symm, by (focus (repeat (first | assumption | refine below_drewN ?_ _)))⟩
      · obtain rfl : k = n1 := by omega
        have hs' : Hid (L.same l m = true) := by
          rw [hs.out, List.drop_eq_nil_of_le (by rw [← e1.out]; omega), List.drop_eq_nil_of_le (by rw [← e2.out]; omega)]; rfl
        go_wp2
        go_ret
        exact ⟨ret_bool hs'.out.symm, by (focus (repeat (assumption)))⟩
  · have hnn : (((n1 : Int)) != (n2 : Int)) = true := by rw [bne_iff_ne]; omega
    have hs := Lib.hid (L.same_len l m (by rw [← e1.out, ← e2.out]; exact hne))
    go_enter Tryz.func30, Tryz.ntmps30
    go_wp2
    go_ret
    exact ⟨ret_bool hs.out.symm, by (focus (repeat (exact Below.refl _ _)))⟩
end Go.Proofs.YtppjhccdgbheiaaGreatDoor
namespace Go.Proofs.YtppjhccdgbheiaaGreatDoor
open Go.RowKit
namespace L
def rErr (a : Ace) : Int := rAceErr a.k a.f a.m a.w
def aErr (a : Ace) : Int := aceErr a.k a.f a.m a.w
def rAcesErr (l : List Ace) : Int := if 16 < l.length then 8 else firstErr (l.map rErr)
theorem errs_step (E : Ace → Int) (l : List Ace) (k : Nat) (h : k < l.length) : firstErr ((l.drop k).map E) = if E (ax l k) = 0 then firstErr ((l.drop (k + 1)).map E) else E (ax l k) := by
  rw [drop_ax l k h, List.map_cons]
  unfold firstErr
  rw [List.find?_cons]
  by_cases h0 : E (ax l k) = 0
  · have : (E (ax l k) != 0) = false := by simpa using h0
    rw [this, if_pos h0]
  · have : (E (ax l k) != 0) = true := by simpa using h0
    rw [this, if_neg h0]; rfl
def each (E : Nat → Ace → Int) : Nat → List Ace → Int × Int
  | _, [] => (0, 0)
  | i, a :: r => if E i a = 0 then each E (i + 1) r else (i, E i a)
theorem each_step (E : Nat → Ace → Int) (l : List Ace) (k : Nat) (h : k < l.length) : each E k (l.drop k) = if E k (ax l k) = 0 then each E (k + 1) (l.drop (k + 1)) else (k, E k (ax l k)) := by
  rw [drop_ax l k h]; rfl
theorem each_nil (E : Nat → Ace → Int) (l : List Ace) (k : Nat) (h : l.length ≤ k) : each E k (l.drop k) = (0, 0) := by
  rw [List.drop_eq_nil_of_le h]; rfl
def acesErr (l : List Ace) : Int := if 16 < l.length then 8 else (each (fun _ a => aErr a) 0 l).2
end L
set_option maxHeartbeats 400000 in
theorem each1_any (E : Nat → L.Ace → Int) (A : Option Addr) (n c B : Nat) (l : List L.Ace) (w : World) (h1 : Aces w B A n l) (hB1 : B ≤ w.heap.size) (hn : n ≤ 1000)
    (hE : ∀ (i : Nat) (a : L.Ace) (W : World), i < n → a = L.ax l i → Below w.heap.size w W → Calls Tryz.prog 79 #[.int .i64 i, .agg #[.int .i64 a.k, .int .i64 a.f, .int .i64 a.m, .int .i64 a.w]] W fun e w' => e = .returned (.int .i64 (E i a)) ∧ Below W.heap.size W w') :
    Calls Tryz.prog 78 #[.slice A n c, .func (.func 79) #[] #[]] w fun e w' => e = .returned (.tuple #[.int .i64 (L.each E 0 l).1, .int .i64 (L.each E 0 l).2]) ∧ Below w.heap.size w w' := by
  have e1 := Lib.hid h1.len
  have HE := Lib.hid hE
  clear hE
  go_enter Tryz.func78, Tryz.ntmps78
  go_wp2
  go_loopw [11] (fun i wr => ∃ k : Nat, k ≤ n ∧ i = .int .i64 k ∧ Below w.heap.size w wr ∧ Hid (L.each E 0 l = L.each E k (l.drop k))) (fun i _ => n - (intOf i).toNat)
  case atStart => exact ⟨0, Nat.zero_le _, rfl, Below.refl _ _, rfl⟩
  case round =>
    obtain ⟨k, hk, rfl, hb, hs⟩ := hrel
    have hz0 := hb.size
    by_cases hlt : k < n
    · have hst := Lib.hid (L.each_step E l k (by rw [← e1.out]; omega))
      obtain ⟨b, o, rfl, _, hc⟩ := (h1.below hb hB1).at_ (by omega)
      obtain ⟨f1, f2, f3, f4⟩ := hc k hlt
      clear hc h1
      have HB := Lib.hid hb
      by_cases h0 : E k (L.ax l k) = 0
      · have hs' : Hid (L.each E 0 l = L.each E (k + 1) (l.drop (k + 1))) := by rw [hs.out, hst.out, if_pos h0]; rfl
        have h0' : (E k (L.ax l k) != 0) = false := by simpa using h0
        clear h0
        go_wp2_with (go_at_call 79; refine (HE.out k (L.ax l k) _ hlt rfl ?_).mono ?_; (focus (repeat (first | assumption | (refine Below.alloc ?_ (by (omega)) _)))); rintro e w' ⟨rfl, hb⟩; obtain ⟨hc, hf⟩ := bcell hb; have hz := hb.size; try simp only [World.size_alloc, World.size_drew, World.size_setCell] at hz)
        (exact ⟨⟨k + 1, by omega, by go_num, by (focus (repeat (first | assumption | (refine Below.alloc ?_ (by (omega)) _) | (refine Below.trans ?_ (Below.mono (by assumption) (by ((focus (simp; omega))))))))), hs'⟩, by simp [intOf]; omega⟩)
      · have hs' : Hid (L.each E 0 l = ((k : Int), E k (L.ax l k))) := by rw [hs.out, hst.out, if_neg h0]; rfl
        have h0' : (E k (L.ax l k) != 0) = true := by simpa using h0
        clear h0
        go_wp2_with (go_at_call 79; refine (HE.out k (L.ax l k) _ hlt rfl ?_).mono ?_; (focus (repeat (first | assumption | (refine Below.alloc ?_ (by (omega)) _)))); rintro e w' ⟨rfl, hb⟩; obtain ⟨hc, hf⟩ := bcell hb; have hz := hb.size; try simp only [World.size_alloc, World.size_drew, World.size_setCell] at hz)
        go_ret2
        exact ⟨ret_pair hs'.out, by (focus (repeat (first | assumption | (refine Below.alloc ?_ (by (omega)) _) | (refine Below.trans ?_ (Below.mono (by assumption) (by ((focus (simp; omega)))))))))⟩
    · have hs' : Hid (L.each E 0 l = (0, 0)) := by
        rw [hs.out, L.each_nil E l k (by rw [← e1.out]; omega)]; rfl
      go_wp2
      go_ret2
      exact ⟨ret_pair hs'.out, by (focus (repeat (assumption)))⟩
set_option maxHeartbeats 400000 in
theorem each2_any (cp : Value) (E : Nat → L.Ace → Int) (A : Option Addr) (n c B : Nat) (l : List L.Ace) (w : World) (h1 : Aces w B A n l) (hB1 : B ≤ w.heap.size) (hn : n ≤ 1000)
    (hE : ∀ (i : Nat) (a : L.Ace) (W : World), i < n → a = L.ax l i → Below w.heap.size w W → Calls Tryz.prog 92 #[.int .i64 i, .agg #[.int .i64 a.k, .int .i64 a.f, .int .i64 a.m, .int .i64 a.w], cp] W fun e w' => e = .returned (.int .i64 (E i a)) ∧ Below W.heap.size W w') :
    Calls Tryz.prog 78 #[.slice A n c, .func (.func 92) #[] #[cp]] w fun e w' => e = .returned (.tuple #[.int .i64 (L.each E 0 l).1, .int .i64 (L.each E 0 l).2]) ∧ Below w.heap.size w w' := by
  have e1 := Lib.hid h1.len
  have HE := Lib.hid hE
  clear hE
  go_enter Tryz.func78, Tryz.ntmps78
  go_wp2
  go_loopw [11] (fun i wr => ∃ k : Nat, k ≤ n ∧ i = .int .i64 k ∧ Below w.heap.size w wr ∧ Hid (L.each E 0 l = L.each E k (l.drop k))) (fun i _ => n - (intOf i).toNat)
  case atStart => exact ⟨0, Nat.zero_le _, rfl, Below.refl _ _, rfl⟩
  case round =>
    obtain ⟨k, hk, rfl, hb, hs⟩ := hrel
    have hz0 := hb.size
    by_cases hlt : k < n
    · have hst := Lib.hid (L.each_step E l k (by rw [← e1.out]; omega))
      obtain ⟨b, o, rfl, _, hc⟩ := (h1.below hb hB1).at_ (by omega)
      obtain ⟨f1, f2, f3, f4⟩ := hc k hlt
      clear hc h1
      have HB := Lib.hid hb
      by_cases h0 : E k (L.ax l k) = 0
      · have hs' : Hid (L.each E 0 l = L.each E (k + 1) (l.drop (k + 1))) := by rw [hs.out, hst.out, if_pos h0]; rfl
        have h0' : (E k (L.ax l k) != 0) = false := by simpa using h0
        clear h0
        go_wp2_with (go_at_call 92; refine (HE.out k (L.ax l k) _ hlt rfl ?_).mono ?_; (focus (repeat (first | assumption | (refine Below.alloc ?_ (by (omega)) _)))); rintro e w' ⟨rfl, hb⟩; obtain ⟨hc, hf⟩ := bcell hb; have hz := hb.size; try simp only [World.size_alloc, World.size_drew, World.size_setCell] at hz)
        (exact ⟨⟨k + 1, by omega, by go_num, by (focus (repeat (first | assumption | (refine Below.alloc ?_ (by (omega)) _) | (refine Below.trans ?_ (Below.mono (by assumption) (by ((focus (simp; omega))))))))), hs'⟩, by simp [intOf]; omega⟩)
      · have hs' : Hid (L.each E 0 l = ((k : Int), E k (L.ax l k))) := by rw [hs.out, hst.out, if_neg h0]; rfl
        have h0' : (E k (L.ax l k) != 0) = true := by simpa using h0
        clear h0
        go_wp2_with (go_at_call 92; refine (HE.out k (L.ax l k) _ hlt rfl ?_).mono ?_; (focus (repeat (first | assumption | (refine Below.alloc ?_ (by (omega)) _)))); rintro e w' ⟨rfl, hb⟩; obtain ⟨hc, hf⟩ := bcell hb; have hz := hb.size; try simp only [World.size_alloc, World.size_drew, World.size_setCell] at hz)
        go_ret2
        exact ⟨ret_pair hs'.out, by (focus (repeat (first | assumption | (refine Below.alloc ?_ (by (omega)) _) | (refine Below.trans ?_ (Below.mono (by assumption) (by ((focus (simp; omega)))))))))⟩
    · have hs' : Hid (L.each E 0 l = (0, 0)) := by
        rw [hs.out, L.each_nil E l k (by rw [← e1.out]; omega)]; rfl
      go_wp2
      go_ret2
      exact ⟨ret_pair hs'.out, by (focus (repeat (assumption)))⟩
end Go.Proofs.YtppjhccdgbheiaaGreatDoor
namespace Go.Hp
open Go.RowKit
section
variable {P : Program} {ops : Array Oper} {Q : Exit → Act → World → Prop} {a : Act} {w : World} {i j fuel : Nat} {listed : Array Bool} {K : Act → World → Prop}
@[irreducible] def WA (P : Program) (ops : Array Oper) (Q : Exit → Act → World → Prop) (fuel : Nat) (listed : Array Bool) (a : Act) (w : World) : Prop := wpAny P .any ops Q fuel listed a w
@[irreducible] def WO (P : Program) (ops : Array Oper) (Q : Exit → Act → World → Prop) (i fuel : Nat) (listed : Array Bool) (a : Act) (w : World) : Prop := wpOp P ops Q i (wpAny P .any ops Q fuel listed) a w
theorem WA.one (hr : Region.ready .any ops listed = [i]) (h : WO P ops Q i fuel (listed.setIfInBounds i true) a w) : WA P ops Q (fuel + 1) listed a w := by
  unfold WA; unfold WO at h
  exact wpAny_all hr (by simp) (by simpa using h)
theorem WA.two (hr : Region.ready .any ops listed = [i, j]) (h : WO P ops Q i fuel (listed.setIfInBounds i true) a w) (h' : WO P ops Q j fuel (listed.setIfInBounds j true) a w) : WA P ops Q (fuel + 1) listed a w := by
  unfold WA; unfold WO at h h'
  exact wpAny_all hr (by simp) (by simpa using ⟨h, h'⟩)
theorem WA.done (hr : Region.ready .any ops listed = []) (h : Q .normal a w) : WA P ops Q fuel listed a w := by unfold WA; exact wpAny_done hr h fuel
theorem nth0 {α : Type} {x : α} {l : List α} : (x :: l)[0]? = some x := rfl
theorem nth1 {α : Type} {x y : α} {l : List α} : (y :: x :: l)[1]? = some x := rfl
theorem nth2 {α : Type} {x y y1 : α} {l : List α} : (y :: y1 :: x :: l)[2]? = some x := rfl
theorem nth3 {α : Type} {x y y1 y2 : α} {l : List α} : (y :: y1 :: y2 :: x :: l)[3]? = some x := rfl
theorem nth4 {α : Type} {x y y1 y2 y3 : α} {l : List α} : (y :: y1 :: y2 :: y3 :: x :: l)[4]? = some x := rfl
theorem nth5 {α : Type} {x y y1 y2 y3 y4 : α} {l : List α} : (y :: y1 :: y2 :: y3 :: y4 :: x :: l)[5]? = some x := rfl
theorem WO.at {o : Oper} {l : List Oper} (ho : l[i]? = some o) (hw : Region.wanted o (yielded l.toArray a.tmps) = true) (h : ∀ K : Act → World → Prop, (∀ a w, WA P l.toArray Q fuel listed a w → K a w) → OW P o a w K Q) : WO P l.toArray Q i fuel listed a w := by
  unfold WO wpOp
  rw [List.getElem?_toArray, ho]
  simp only [hw, if_true]
  exact .inl (h _ fun a w h => by unfold WA at h; exact h).out
theorem WO.op {o : Oper} (ho : ops[i]? = some o) (hw : Region.wanted o (yielded ops a.tmps) = true) (h : ∀ K : Act → World → Prop, (∀ a w, WA P ops Q fuel listed a w → K a w) → OW P o a w K Q) : WO P ops Q i fuel listed a w := by
  unfold WO wpOp
  rw [ho]
  simp only [hw, if_true]
  exact .inl (h _ fun a w h => by unfold WA at h; exact h).out
theorem WA.next {a' : Act} (hK : ∀ a w, WA P ops Q fuel listed a w → K a w) (ha : a = a') (h : WA P ops Q fuel listed a' w) : K a w := ha ▸ hK _ _ (ha ▸ h)
theorem wp_region_wa {id : Nat} {R : Act → World → Prop} (n : Nat) (hn : ops.size = n) (hm : P.follows .mixedOrders = true) (h : WA P ops (fun x a w => x = .normal ∧ R a w) n (Array.replicate n false) a w.drew) (h' : ∀ a w, R a w → Q .normal a w) : (Code.region id ops true).wp P Q a w := by
  subst hn
  unfold WA at h
  exact wp_mono (wp_region_any hm h) fun e a w ⟨he, hr⟩ => he ▸ h' a w hr
theorem wp_region_st {id : Nat} {A : Act} {w0 : World} {rs : List Res} (n : Nat) (hn : ops.size = n) (hm : P.follows .mixedOrders = true) (h : WA P ops (fun x a w => x = .normal ∧ a = A ∧ St w0 w rs) n (Array.replicate n false) a w.drew) (h' : ∀ w, St w0 w rs → Q .normal A w) : (Code.region id ops true).wp P Q a w :=
  wp_region_wa (R := fun a w => a = A ∧ St w0 w rs) n hn hm h fun _ w ⟨ha, hs⟩ => ha ▸ h' w hs
end
end Go.Hp
namespace Go.Hp
section
variable {α : Type} {x y : α} {l m : List α} {n : Nat}
theorem zta : (x :: l).take (n + 1) = x :: l.take n := rfl
theorem ztz : l.take 0 = [] := rfl
theorem zda : (x :: l).drop (n + 1) = l.drop n := rfl
theorem zdz : l.drop 0 = l := rfl
theorem zca : x :: l ++ m = x :: (l ++ m) := rfl
theorem zcn : [] ++ l = l := rfl
theorem zan : l ++ [] = l := List.append_nil l
theorem zsz : (x :: l).set 0 y = y :: l := rfl
theorem zss : (x :: l).set (n + 1) y = x :: l.set n y := rfl
theorem zpt : l.toArray.setIfInBounds n x = (l.set n x).toArray := by simp
theorem zl0 : ([] : List α).length = 0 := rfl
theorem zls : (x :: l).length = l.length + 1 := rfl
end
theorem zac (a b : Int) : a + b - b = a := Int.add_sub_cancel a b
end Go.Hp
namespace Go.Proofs.YtppjhccdgbheiaaGreatDoor
open Go.Hp
instance : OneT Tryz.prog 3 := ⟨fun _ => by kernel_rfl, fun _ => by kernel_rfl⟩
instance : OneT Tryz.prog 4 := ⟨fun _ => by kernel_rfl, fun _ => by kernel_rfl⟩
instance : OneT Tryz.prog 9 := ⟨fun _ => by kernel_rfl, fun _ => by kernel_rfl⟩
instance : OneT Tryz.prog 23 := ⟨fun _ => by kernel_rfl, fun _ => by kernel_rfl⟩
instance : OneT Tryz.prog 29 := ⟨fun _ => by kernel_rfl, fun _ => by kernel_rfl⟩
instance : OneT Tryz.prog 81 := ⟨fun _ => by kernel_rfl, fun _ => by kernel_rfl⟩
instance : AggT Tryz.prog 37 4 := ⟨fun _ => by kernel_rfl, fun _ => by kernel_rfl⟩
instance : AggT Tryz.prog 25 6 := ⟨fun _ => by kernel_rfl, fun _ => by kernel_rfl⟩
instance : AggT Tryz.prog 80 3 := ⟨fun _ => by kernel_rfl, fun _ => by kernel_rfl⟩
instance : ZeroT Tryz.prog 37 (.agg #[.int .i64 0, .int .i64 0, .int .i64 0, .int .i64 0]) := ⟨fun _ => by kernel_rfl⟩
instance : ZeroT Tryz.prog 25 (.agg #[.int .i64 0, .int .i64 0, .bool false, .bool false, .slice none 0 0, .slice none 0 0]) := ⟨fun _ => by kernel_rfl⟩
instance : ZeroT Tryz.prog 3 (.int .i64 0) := ⟨fun _ => by kernel_rfl⟩
instance : ZeroT Tryz.prog 23 (.slice none 0 0) := ⟨fun _ => by kernel_rfl⟩
instance : SliceT Tryz.prog 23 37 (.agg #[.int .i64 0, .int .i64 0, .int .i64 0, .int .i64 0]) 4 32 := ⟨by kernel_rfl, by kernel_rfl, rfl, by decide⟩
end Go.Proofs.YtppjhccdgbheiaaGreatDoor
namespace Go.Proofs.YtppjhccdgbheiaaGreatDoor
open Go.RowKit Go.Hp
abbrev aceRow (v : Value) (n : Nat) (l : List L.Ace) : Res := .row 37 4 v n (L.cellsOf l)
def RetAces (w : World) (l : List L.Ace) (e : Ending) (w' : World) : Prop := ∃ A n c, e = .returned (.slice A n c) ∧ St w w' [aceRow (.slice A n c) n l]
theorem cells_one (l : List L.Ace) : ∀ u ∈ L.cellsOf l, u.oneCell' = true := by
  intro u hu
  simp only [L.cellsOf, List.mem_flatMap] at hu
  obtain ⟨a, _, hu⟩ := hu
  simp only [L.Ace.cells, List.mem_cons, List.not_mem_nil, or_false] at hu
  rcases hu with rfl | rfl | rfl | rfl <;> rfl
section
variable {w w0 : World} {B n : Nat} {A : Option Addr} {l : List L.Ace} {rs : List Res}
theorem Aces.rd (h : Aces w B A n l) : Rd w B 4 A n (L.cellsOf l) := by
  refine ⟨by rw [L.cellsOf_length, h.len], fun hn => ?_⟩
  obtain ⟨b, o, hA, hb, hc⟩ := h.at_ hn
  refine ⟨b, o, hA, hb, fun j u hj => ?_⟩
  have hjl : j < (L.cellsOf l).length := (List.getElem?_eq_some_iff.1 hj).1
  rw [L.cellsOf_length] at hjl
  have hm := h.len
  obtain ⟨q, r, rfl, hr⟩ : ∃ q r, j = q * 4 + r ∧ r < 4 := ⟨j / 4, j % 4, by omega, by omega⟩
  rw [L.cellsOf_get l q (by omega) r hr] at hj
  obtain ⟨h1, h2, h3, h4⟩ := hc q (by omega)
  rw [← Nat.add_assoc]
  match r, hr, hj with
  | 0, _, hu => exact h1.trans hu
  | 1, _, hu => exact h2.trans hu
  | 2, _, hu => exact h3.trans hu
  | 3, _, hu => exact h4.trans hu
theorem Rd.aces (h : Rd w B 4 A n (L.cellsOf l)) : Aces w B A n l := by
  have hn : n = l.length := by have := h.1; rw [L.cellsOf_length] at this; omega
  refine ⟨hn, fun h0 => ?_⟩
  obtain ⟨b, o, hA, hb, hc⟩ := h.2 h0
  refine ⟨b, o, hA, hb, fun k hk => ?_⟩
  have hg : ∀ j, j < 4 → ∀ u, (L.ax l k).cells[j]? = some u → w.cell? ⟨b, o + k * 4 + j, none⟩ = some u := fun j hj u hu => by
    rw [Nat.add_assoc]
    exact hc _ u (by rw [L.cellsOf_get l k (by omega) j hj]; exact hu)
  exact ⟨hg 0 (by omega) _ rfl, hg 1 (by omega) _ rfl, hg 2 (by omega) _ rfl, hg 3 (by omega) _ rfl⟩
theorem St.aces {i c : Nat} (st : St w0 w rs) (hi : rs[i]? = some (aceRow (.slice A n c) n l)) : Aces w w.heap.size A n l := Rd.aces (st.rd hi)
theorem Aces.st (h : Aces w0 B A n l) (st : St w0 w rs) (hB : B ≤ w0.heap.size) : Aces w B A n l := h.below st.below hB
theorem row_len {B : Nat} {v : Value} (h : (aceRow v n l).holds B w) : n = l.length := by have := h.1; rw [L.cellsOf_length] at this; omega
theorem St.len {i : Nat} {v : Value} (st : St w0 w rs) (hi : rs[i]? = some (aceRow v n l)) : n = l.length := row_len (st.get hi)
end
set_option maxHeartbeats 400000 in
theorem CopyAces_any (A : Option Addr) (n c B : Nat) (l : List L.Ace) (w : World) (h1 : Aces w B A n l) (hB1 : B ≤ w.heap.size) (hn : n ≤ 1000) :
    Calls Tryz.prog 35 #[.slice A n c] w (RetAces w l) := by
  have H1 := Lib.hid h1
  clear h1
  have st := St.start w
  go_enter Tryz.func35, Tryz.ntmps35
  go_wp2_with (refine WL.out ?_; (repeat ((refine WL.op ?_ ?_; (exact rfl); intro K hK; (first | ((first | ((with_reducible apply ow_move); exact rfl) | ((with_reducible apply ow_assign); exact rfl)); (go_simp <;> (try simp (disch := omega) only [wrap_id, sub_left, zac]) <;> rfl)) | ((((with_reducible apply ow_newSlice st); exact rfl; (go_simp <;> (try simp (disch := omega) only [wrap_id, sub_left, zac]) <;> rfl); exact rfl)); (try clear st); intro b w' st) | (replace st := st.toRow (n := 0) (size := 4) rfl (by decide); ((with_reducible apply ow_append 0 st); exact rfl; exact inferInstance; exact rfl; exact rfl; exact rfl; exact (H1.out.st st hB1).rd; (focus (exact cells_one _)); (focus (unfold maxLen; omega)); (focus omega); (try clear st); intro A' c' w' st; (try simp only [List.set_cons_zero, List.set_cons_succ, Nat.zero_add, List.nil_append] at st)))); refine WL.next hK (by simp only [Act.put, zpt, zsz, zss]; exact rfl) ?_; clear hK K))); (try refine WL.nil ?_))
  go_ret
  exact ⟨_, _, _, rfl, st⟩
end Go.Proofs.YtppjhccdgbheiaaGreatDoor
namespace Go.Proofs.YtppjhccdgbheiaaGreatDoor
open Go.RowKit Go.Hp
namespace L
structure Ok (a : Ace) : Prop where
  k0 : 0 ≤ a.k
  k1 : a.k ≤ 2
  f0 : 0 ≤ a.f
  f1 : a.f ≤ 31
  m0 : 1 ≤ a.m
  m1 : a.m ≤ 511
  w0 : 1 ≤ a.w
  w1 : a.w ≤ 999
def Good (l : List Ace) : Prop := ∀ a ∈ l, Ok a
theorem Good.ax {l : List Ace} (h : Good l) {k : Nat} (hk : k < l.length) : Ok (ax l k) := h _ (by rw [ax_eq l k hk]; exact List.getElem_mem hk)
def explicit (l : List Ace) : List Ace := l.filter fun a => !has a.f 16
theorem explicit_step (l : List Ace) (k : Nat) (h : k < l.length) : explicit (l.take (k + 1)) = explicit (l.take k) ++ (if has (ax l k).f 16 then [] else [ax l k]) := by
  rw [take_succ_ax l k h]; unfold explicit; rw [List.filter_append]
  congr 1
  by_cases hx : has (ax l k).f 16 = true <;> simp [hx]
theorem explicit_take_len (l : List Ace) (k : Nat) : (explicit (l.take k)).length ≤ k := Nat.le_trans (List.length_filter_le _ _) (List.length_take_le _ _)
structure Desc where
  o : Int
  g : Int
  p : Bool
  h : Bool
  e : List Ace
  a : List Ace
def Desc.same (a b : Desc) : Bool := a.o == b.o && (a.g == b.g && (a.p == b.p && (a.h == b.h && (L.same a.e b.e && L.same a.a b.a))))
def Desc.none : Desc := ⟨0, 0, false, false, [], []⟩
end L
set_option maxHeartbeats 400000 in
theorem explicit_any (A : Option Addr) (n c B : Nat) (l : List L.Ace) (w : World) (h1 : Aces w B A n l) (hB1 : B ≤ w.heap.size) (hn : n ≤ 1000) (hg : L.Good l) :
    Calls Tryz.prog 59 #[.slice A n c] w (RetAces w (L.explicit l)) := by
  have e1 := Lib.hid h1.len
  have HG := Lib.hid hg
  clear hg
  go_enter Tryz.func59, Tryz.ntmps59
  go_wp2
  go_loopw [3, 4] (fun v i wr => ∃ (k : Nat) (A' : Option Addr) (m c' : Nat), k ≤ n ∧ i = .int .i64 k ∧ v = .slice A' m c' ∧ St w wr [aceRow (.slice A' m c') m (L.explicit (l.take k))]) (fun _ i _ => n - (intOf i).toNat)
  case atStart => exact ⟨0, none, 0, 0, Nat.zero_le _, rfl, rfl, (St.start w).nilRow _ _⟩
  case round =>
    obtain ⟨k, A', m, c', hk, rfl, rfl, st⟩ := hrel
    have hm : m ≤ k := by rw [St.len st (i := 0) rfl]; exact L.explicit_take_len l k
    by_cases hlt : k < n
    · have hst := Lib.hid (L.explicit_step l k (by rw [← e1.out]; omega))
      have hgk := HG.out.ax (k := k) (by rw [← e1.out]; omega)
      have hk0 := hgk.f0
      have hk1 := hgk.f1
      obtain ⟨b, o, rfl, hb, hc⟩ := h1.at_ (by omega)
      have hb := Nat.lt_of_lt_of_le hb hB1
      obtain ⟨f1, f2, f3, f4⟩ := hc k hlt
      clear hc h1 hgk
      by_cases hx : L.has (L.ax l k).f 16 = true
      · have hs' : Hid (L.explicit (l.take (k + 1)) = L.explicit (l.take k)) := Lib.hid (by rw [hst.out, hx]; simp)
        go_wp2_with (refine WL.out ?_; (repeat ((refine WL.op ?_ ?_; (exact rfl); intro K hK; (first | ((((with_reducible apply ow_assign); exact rfl)); (go_simp <;> (try simp (disch := omega) only [wrap_id, sub_left, zac]) <;> rfl)) | ((with_reducible apply ow_old1 st); exact rfl; exact inferInstance; exact rfl; assumption; assumption) | ((with_reducible apply ow_eval); (go_simp <;> (try simp (disch := omega) only [wrap_id, sub_left, zac]) <;> rfl); first | (with_reducible apply up_value) | ((with_reducible apply up_enter); ((go_at_call 12; refine (Has_any _ _ _ (by omega) (by omega) (by omega) (by omega)).mono ?_; rintro e w' ⟨rfl, rfl⟩; refine ⟨_, rfl, ?_⟩))))); refine WL.next hK (by simp only [Act.put, zpt, zsz, zss]; exact rfl) ?_; clear hK K))); (try refine WL.nil ?_))
        have hwr : IntKind.i64.wrap ((k : Int) + 1) = (k : Int) + 1 := by rw [IntKind.wrap_i64]; omega
        exact ⟨⟨k + 1, A', m, c', by omega, by (try rw [hwr]); go_num, rfl, by rw [hs'.out]; exact st⟩, by (try simp only [hwr]); simp [intOf]; omega⟩
      · simp only [Bool.not_eq_true] at hx
        have hs' : Hid (L.explicit (l.take (k + 1)) = L.explicit (l.take k) ++ [L.ax l k]) := Lib.hid (by rw [hst.out, hx]; simp)
        go_wp2_with (refine WL.out ?_; (repeat ((refine WL.op ?_ ?_; (exact rfl); intro K hK; (first | ((((with_reducible apply ow_assign); exact rfl)); (go_simp <;> (try simp (disch := omega) only [wrap_id, sub_left, zac]) <;> rfl)) | ((((with_reducible apply ow_newSlice st); exact rfl; (go_simp <;> (try simp (disch := omega) only [wrap_id, sub_left, zac]) <;> rfl); exact rfl)); (try clear st); intro b w' st) | ((with_reducible apply ow_old1 st); exact rfl; exact inferInstance; exact rfl; assumption; assumption) | ((with_reducible apply ow_old4 st); exact rfl; exact inferInstance; exact rfl; assumption; assumption; assumption; assumption; assumption) | ((with_reducible apply ow_append 1 st); exact rfl; exact inferInstance; exact rfl; exact rfl; exact rfl; exact st.rdBox (i := 0) (n := 1) (size := 4) rfl rfl; (focus ((simp [Value.oneCell']; done))); (focus (unfold maxLen; omega)); (focus omega); (try clear st); intro A' c' w' st; (try simp only [List.set_cons_zero, List.set_cons_succ, Nat.zero_add, List.nil_append] at st)) | ((with_reducible apply ow_eval); (go_simp <;> (try simp (disch := omega) only [wrap_id, sub_left, zac]) <;> rfl); first | (with_reducible apply up_value) | ((with_reducible apply up_enter); ((go_at_call 12; refine (Has_any _ _ _ (by omega) (by omega) (by omega) (by omega)).mono ?_; rintro e w' ⟨rfl, rfl⟩; refine ⟨_, rfl, ?_⟩))))); refine WL.next hK (by simp only [Act.put, zpt, zsz, zss]; exact rfl) ?_; clear hK K))); (try refine WL.nil ?_))
        have hwr : IntKind.i64.wrap ((k : Int) + 1) = (k : Int) + 1 := by rw [IntKind.wrap_i64]; omega
        exact ⟨⟨k + 1, A', m + 1, c', by omega, by (try rw [hwr]); go_num, rfl, by unfold aceRow; rw [hs'.out, L.cellsOf_append]; exact st.tail⟩, by (try simp only [hwr]); simp [intOf]; omega⟩
    · have hs' : Hid (l.take k = l) := Lib.hid (List.take_of_length_le (by rw [← e1.out]; omega))
      go_wp2
      go_ret
      exact ⟨_, _, _, rfl, by rw [← hs'.out]; exact st⟩
def RetDesc (w : World) (d : L.Desc) (e : Ending) (w' : World) : Prop := ∃ A1 n1 c1 A2 n2 c2, e = .returned (.agg #[.int .i64 d.o, .int .i64 d.g, .bool d.p, .bool d.h, .slice A1 n1 c1, .slice A2 n2 c2]) ∧ St w w' [aceRow (.slice A1 n1 c1) n1 d.e, aceRow (.slice A2 n2 c2) n2 d.a]
set_option maxHeartbeats 400000 in
theorem CopyDescriptor_any (d : L.Desc) (A1 A2 : Option Addr) (n1 n2 c1 c2 B : Nat) (w : World) (h1 : Aces w B A1 n1 d.e) (h2 : Aces w B A2 n2 d.a) (hB1 : B ≤ w.heap.size) (hn1 : n1 ≤ 1000) (hn2 : n2 ≤ 1000) :
    Calls Tryz.prog 15 #[.agg #[.int .i64 d.o, .int .i64 d.g, .bool d.p, .bool d.h, .slice A1 n1 c1, .slice A2 n2 c2]] w (RetDesc w d) := by
  have H1 := Lib.hid h1
  have H2 := Lib.hid h2
  clear h1 h2
  have st := St.start w
  go_enter Tryz.func15, Tryz.ntmps15
  go_wp2_with (refine WL.out ?_; (repeat ((refine WL.op ?_ ?_; (exact rfl); intro K hK; (((first | ((with_reducible apply ow_box st); exact rfl; (go_simp <;> (try simp (disch := omega) only [wrap_id, sub_left, zac]) <;> rfl); (go_simp <;> (try simp (disch := omega) only [wrap_id, sub_left, zac]) <;> rfl)) | ((with_reducible apply ow_alloc st); exact rfl; exact inferInstance; (go_simp <;> (try simp (disch := omega) only [wrap_id, sub_left, zac]) <;> rfl))); (try clear st); intro b w' st)); refine WL.next hK (by simp only [Act.put, zpt, zsz, zss]; exact rfl) ?_; clear hK K))); (try refine WL.nil ?_))
  refine wp_region_plan 7 (by kernel_rfl) (by kernel_rfl) ?_; replace st := st.drew; generalize World.drew _ = W at st ⊢
  iterate 2 (apply Plan.val'; (focus (intro x0 x1 x2 x3 x4 x5 x6 w1 hb; (try simp only [depF, fillA, Act.put, zta, ztz, zpt, zsz, zss, zl0, zls]); (repeat (rintro rfl)); have st := st.call hb; (first | (apply Yphi.run; (exact rfl); (go_simp <;> (try simp (disch := omega) only [wrap_id, sub_left, zac]) <;> rfl); exact rfl) | (apply Yphi.load1 st; exact rfl; exact inferInstance; (exact rfl); exact rfl; (exact get1); exact rfl)))); (simp only [zca, zcn] <;> exact rfl))
  (apply Plan.fact' (freshRow 37 4 (L.cellsOf (d.e))) (freshRow_stable _ _ _); (focus (intro x0 x1 x2 x3 x4 x5 x6 w1 hb; (try simp only [depF, fillA, Act.put, zta, ztz, zpt, zsz, zss, zl0, zls]); (repeat (rintro rfl)); have st := st.call hb; apply Yphi.call; (exact rfl); (go_simp <;> (try simp (disch := omega) only [wrap_id, sub_left, zac]) <;> rfl); exact rfl; refine (CopyAces_any A1 n1 c1 B d.e _ (H1.out.st st hB1) (by have := st.size; omega) hn1).mono ?_; rintro e w' ⟨A', n', c', rfl, st'⟩; exact ⟨_, rfl, st'.below, freshRow_mk (st'.get (i := 0) rfl)⟩)); (simp only [zca, zcn] <;> exact rfl))
  iterate 2 (apply Plan.val'; (focus (intro x0 x1 x2 x3 x4 x5 x6 w1 hb; (try simp only [depF, fillA, Act.put, zta, ztz, zpt, zsz, zss, zl0, zls]); (repeat (rintro rfl)); have st := st.call hb; (first | (apply Yphi.run; (exact rfl); (go_simp <;> (try simp (disch := omega) only [wrap_id, sub_left, zac]) <;> rfl); exact rfl) | (apply Yphi.load1 st; exact rfl; exact inferInstance; (exact rfl); exact rfl; (exact get1); exact rfl)))); (simp only [zca, zcn] <;> exact rfl))
  (apply Plan.fact' (freshRow 37 4 (L.cellsOf (d.a))) (freshRow_stable _ _ _); (focus (intro x0 x1 x2 x3 x4 x5 x6 w1 hb; (try simp only [depF, fillA, Act.put, zta, ztz, zpt, zsz, zss, zl0, zls]); (repeat (first | rintro rfl | intro lo hi hlo hhi hphi)); have st := st.call hb; apply Yphi.call; (exact rfl); (go_simp <;> (try simp (disch := omega) only [wrap_id, sub_left, zac]) <;> rfl); exact rfl; refine (CopyAces_any A2 n2 c2 B d.a _ (H2.out.st st hB1) (by have := st.size; omega) hn2).mono ?_; rintro e w' ⟨A', n', c', rfl, st'⟩; exact ⟨_, rfl, st'.below, freshRow_mk (st'.get (i := 0) rfl)⟩)); (simp only [zca, zcn] <;> exact rfl))
  (apply Plan.val'; (focus (intro x0 x1 x2 x3 x4 x5 x6 w1 hb; (try simp only [depF, fillA, Act.put, zta, ztz, zpt, zsz, zss, zl0, zls]); (repeat (first | rintro rfl | intro lo hi hlo hhi hphi)); have st := st.call hb; ((apply Yphi.run; (exact rfl); (go_simp <;> (try simp (disch := omega) only [wrap_id, sub_left, zac]) <;> rfl); exact rfl)))); (simp only [zca, zcn] <;> exact rfl))
  intro x0 x1 x2 x3 x4 x5 x6 lo hi w1 hb hap
  rintro rfl rfl hl1 _ ⟨A1', n1', c1', rfl, ho1, hk1⟩ rfl rfl hl2 _ ⟨A2', n2', c2', rfl, ho2, hk2⟩ rfl
  simp only [allPhi, fillA, Act.put, zta, ztz, zpt, zsz, zss, zda, zdz]
  have st := rows_two st hb ho1 hk1 hl1 ho2 hk2 hl2 (hap 2 5 (by omega) (by omega) (by omega))
  go_wp2_with (refine WL.out ?_; (repeat ((refine WL.op ?_ ?_; (exact rfl); intro K hK; (first | ((((with_reducible apply ow_loadN st); exact rfl; exact inferInstance; exact rfl; (exact get3); ((try simp only [zta, ztz, zda, zdz, zca, zcn, zan, zsz, zss]) <;> exact rfl))); exact rfl) | ((first | ((with_reducible apply ow_store1' st); exact rfl; exact inferInstance; exact rfl; (exact get3); (go_simp <;> (try simp (disch := omega) only [wrap_id, sub_left, zac]) <;> rfl)) | ((with_reducible apply ow_storeN' st); exact rfl; exact inferInstance; exact rfl; (exact get2); exact rfl)); exact rfl; exact rfl; (simp <;> done); ((try simp only [zta, ztz, zda, zdz, zca, zcn, zan, zsz, zss]) <;> exact rfl); (try clear st); intro w' st) | ((with_reducible apply ow_eval); (go_simp <;> (try simp (disch := omega) only [wrap_id, sub_left, zac]) <;> rfl); ((with_reducible apply up_value)))); refine WL.next hK (by simp only [Act.put, zpt, zsz, zss]; exact rfl) ?_; clear hK K))); (try refine WL.nil ?_))
  exact bodyPost_cell 2 st rfl inferInstance rfl rfl rfl rfl ⟨_, _, _, _, _, _, rfl, st.sub (by simp)⟩
set_option maxHeartbeats 400000 in
theorem Few_any (d : L.Desc) (A1 A2 : Option Addr) (n1 n2 c1 c2 : Nat) (w : World) (hb1 : n1 ≤ maxLen) (hb2 : n2 ≤ maxLen) :
    Calls Tryz.prog 11 #[.agg #[.int .i64 d.o, .int .i64 d.g, .bool d.p, .bool d.h, .slice A1 n1 c1, .slice A2 n2 c2]] w fun e w' => e = .returned (.bool (decide (n1 ≤ 20) && decide (n2 ≤ 20))) ∧ Below w.heap.size w w' := by
  unfold maxLen at hb1 hb2
  have st := St.start w
  by_cases h1 : n1 ≤ 20
  · go_enter Tryz.func11, Tryz.ntmps11
    go_wp2_with (refine WL.out ?_; (repeat ((refine WL.op ?_ ?_; (first | exact rfl | (simp [Region.wanted, yielded] <;> omega)); intro K hK; (first | ((first | ((with_reducible apply ow_move); exact rfl) | ((with_reducible apply ow_assign); exact rfl)); (go_simp <;> (try simp (disch := omega) only [wrap_id, sub_left, zac]) <;> rfl)) | ((((with_reducible apply ow_load1 st); exact rfl; exact inferInstance; exact rfl; (exact get0))); exact rfl) | ((((with_reducible apply ow_box st); exact rfl; (go_simp <;> (try simp (disch := omega) only [wrap_id, sub_left, zac]) <;> rfl); (go_simp <;> (try simp (disch := omega) only [wrap_id, sub_left, zac]) <;> rfl))); (try clear st); intro b w' st) | ((with_reducible apply ow_eval); (go_simp <;> (try simp (disch := omega) only [wrap_id, sub_left, zac]) <;> rfl); ((with_reducible apply up_value)))); refine WL.next hK (by simp only [Act.put, zpt, zsz, zss]; exact rfl) ?_; clear hK K))); (try refine WL.nil ?_))
    go_ret
    exact ⟨ret_bool (by rw [Bool.eq_iff_iff]; simp; omega), st.below⟩
  · go_enter Tryz.func11, Tryz.ntmps11
    go_wp2_with (refine WL.out ?_; (repeat (first | (refine WL.op ?_ ?_; (exact rfl); intro K hK; (first | ((first | ((with_reducible apply ow_move); exact rfl) | ((with_reducible apply ow_assign); exact rfl)); (go_simp <;> (try simp (disch := omega) only [wrap_id, sub_left, zac]) <;> rfl)) | ((((with_reducible apply ow_load1 st); exact rfl; exact inferInstance; exact rfl; (exact get0))); exact rfl) | ((((with_reducible apply ow_box st); exact rfl; (go_simp <;> (try simp (disch := omega) only [wrap_id, sub_left, zac]) <;> rfl); (go_simp <;> (try simp (disch := omega) only [wrap_id, sub_left, zac]) <;> rfl))); (try clear st); intro b w' st) | ((with_reducible apply ow_eval); (go_simp <;> (try simp (disch := omega) only [wrap_id, sub_left, zac]) <;> rfl); ((with_reducible apply up_value)))); refine WL.next hK (by simp only [Act.put, zpt, zsz, zss]; exact rfl) ?_; clear hK K) | (refine WL.skip ?_ (by simp only [Act.put, zpt, zsz, zss]; exact rfl) ?_; ((simp [Region.wanted, yielded] <;> omega))))); (try refine WL.nil ?_))
    go_ret
    exact ⟨ret_bool (by simp [h1]), st.below⟩
set_option maxHeartbeats 1000000 in
theorem SameDescriptor_any (d d' : L.Desc) (A1 A2 A1' A2' : Option Addr) (n1 n2 n1' n2' c1 c2 c1' c2' B : Nat) (w : World) (h1 : Aces w B A1 n1 d.e) (h2 : Aces w B A2 n2 d.a) (h1' : Aces w B A1' n1' d'.e) (h2' : Aces w B A2' n2' d'.a) (hB1 : B ≤ w.heap.size)
    (hn1 : n1 ≤ 1000) (hn2 : n2 ≤ 1000) (hn1' : n1' ≤ 1000) (hn2' : n2' ≤ 1000) :
    Calls Tryz.prog 16 #[.agg #[.int .i64 d.o, .int .i64 d.g, .bool d.p, .bool d.h, .slice A1 n1 c1, .slice A2 n2 c2], .agg #[.int .i64 d'.o, .int .i64 d'.g, .bool d'.p, .bool d'.h, .slice A1' n1' c1', .slice A2' n2' c2']] w fun e w' => e = .returned (.bool (d.same d')) ∧ Below w.heap.size w w' := by
  have H1 := Lib.hid h1
  have H2 := Lib.hid h2
  have H1' := Lib.hid h1'
  have H2' := Lib.hid h2'
  clear h1 h2 h1' h2'
  have st := St.start w
  have hs : Hid (d.same d' = (d.o == d'.o && (d.g == d'.g && (d.p == d'.p && (d.h == d'.h && (L.same d.e d'.e && L.same d.a d'.a)))))) := rfl
  by_cases e1 : (d.o == d'.o) = true
  · by_cases e2 : (d.g == d'.g) = true
    · by_cases e3 : (d.p == d'.p) = true
      · by_cases e4 : (d.h == d'.h) = true
        · by_cases e5 : L.same d.e d'.e = true
          · (try simp only [Bool.not_eq_true] at *)
            go_enter Tryz.func16, Tryz.ntmps16
            go_wp2_with (refine WL.out ?_; (repeat ((refine WL.op ?_ ?_; (exact rfl); intro K hK; (first | ((first | ((with_reducible apply ow_move); exact rfl) | ((with_reducible apply ow_assign); exact rfl)); (go_simp <;> (try simp (disch := omega) only [wrap_id, sub_left, zac]) <;> rfl)) | ((((with_reducible apply ow_load1 st); exact rfl; exact inferInstance; exact rfl; (first | exact get0 | exact get1))); exact rfl) | ((((with_reducible apply ow_box st); exact rfl; (go_simp <;> (try simp (disch := omega) only [wrap_id, sub_left, zac]) <;> rfl); (go_simp <;> (try simp (disch := omega) only [wrap_id, sub_left, zac]) <;> rfl))); (try clear st); intro b w' st) | ((with_reducible apply ow_eval); (go_simp <;> (try simp (disch := omega) only [wrap_id, sub_left, zac]) <;> rfl); first | (with_reducible apply up_value) | ((with_reducible apply up_enter); first | ((go_at_call 30; ((with_reducible refine (SameAces_any A1 A1' n1 n1' c1 c1' B B d.e d'.e _ (H1.out.st st hB1) (H1'.out.st st hB1) ?_ ?_ hn1 hn1').mono ?_); (focus (have := st.size; omega)); (focus (have := st.size; omega)); rintro e w' ⟨rfl, hb⟩; replace st := st.call hb; clear hb; refine ⟨_, rfl, ?_⟩))) | ((go_at_call 30; ((with_reducible refine (SameAces_any A2 A2' n2 n2' c2 c2' B B d.a d'.a _ (H2.out.st st hB1) (H2'.out.st st hB1) ?_ ?_ hn2 hn2').mono ?_); (focus (have := st.size; omega)); (focus (have := st.size; omega)); rintro e w' ⟨rfl, hb⟩; replace st := st.call hb; clear hb; refine ⟨_, rfl, ?_⟩)))))); refine WL.next hK (by simp only [Act.put, zpt, zsz, zss]; exact rfl) ?_; clear hK K))); (try refine WL.nil ?_))
            go_ret
            exact ⟨ret_bool (by rw [hs.out]; simp [*]), st.below⟩
          · (try simp only [Bool.not_eq_true] at *)
            go_enter Tryz.func16, Tryz.ntmps16
            go_wp2_with (refine WL.out ?_; (repeat (first | (refine WL.op ?_ ?_; (exact rfl); intro K hK; (first | ((first | ((with_reducible apply ow_move); exact rfl) | ((with_reducible apply ow_assign); exact rfl)); (go_simp <;> (try simp (disch := omega) only [wrap_id, sub_left, zac]) <;> rfl)) | ((((with_reducible apply ow_load1 st); exact rfl; exact inferInstance; exact rfl; (first | exact get0 | exact get1))); exact rfl) | ((((with_reducible apply ow_box st); exact rfl; (go_simp <;> (try simp (disch := omega) only [wrap_id, sub_left, zac]) <;> rfl); (go_simp <;> (try simp (disch := omega) only [wrap_id, sub_left, zac]) <;> rfl))); (try clear st); intro b w' st) | ((with_reducible apply ow_eval); (go_simp <;> (try simp (disch := omega) only [wrap_id, sub_left, zac]) <;> rfl); first | (with_reducible apply up_value) | ((with_reducible apply up_enter); (((go_at_call 30; ((with_reducible refine (SameAces_any A1 A1' n1 n1' c1 c1' B B d.e d'.e _ (H1.out.st st hB1) (H1'.out.st st hB1) ?_ ?_ hn1 hn1').mono ?_); (focus (have := st.size; omega)); (focus (have := st.size; omega)); rintro e w' ⟨rfl, hb⟩; replace st := st.call hb; clear hb; refine ⟨_, rfl, ?_⟩))))))); refine WL.next hK (by simp only [Act.put, zpt, zsz, zss]; exact rfl) ?_; clear hK K) | (refine WL.skip ?_ (by simp only [Act.put, zpt, zsz, zss]; exact rfl) ?_; (exact rfl)))); (try refine WL.nil ?_))
            go_ret
            exact ⟨ret_bool (by rw [hs.out]; simp [*]), st.below⟩
        · (try simp only [Bool.not_eq_true] at *)
          go_enter Tryz.func16, Tryz.ntmps16
          go_wp2_with (refine WL.out ?_; (repeat (first | (refine WL.op ?_ ?_; (exact rfl); intro K hK; (first | ((first | ((with_reducible apply ow_move); exact rfl) | ((with_reducible apply ow_assign); exact rfl)); (go_simp <;> (try simp (disch := omega) only [wrap_id, sub_left, zac]) <;> rfl)) | ((((with_reducible apply ow_load1 st); exact rfl; exact inferInstance; exact rfl; (first | exact get0 | exact get1))); exact rfl) | ((((with_reducible apply ow_box st); exact rfl; (go_simp <;> (try simp (disch := omega) only [wrap_id, sub_left, zac]) <;> rfl); (go_simp <;> (try simp (disch := omega) only [wrap_id, sub_left, zac]) <;> rfl))); (try clear st); intro b w' st) | ((with_reducible apply ow_eval); (go_simp <;> (try simp (disch := omega) only [wrap_id, sub_left, zac]) <;> rfl); ((with_reducible apply up_value)))); refine WL.next hK (by simp only [Act.put, zpt, zsz, zss]; exact rfl) ?_; clear hK K) | (refine WL.skip ?_ (by simp only [Act.put, zpt, zsz, zss]; exact rfl) ?_; (exact rfl)))); (try refine WL.nil ?_))
          go_ret
          exact ⟨ret_bool (by rw [hs.out]; simp [*]), st.below⟩
      · (try simp only [Bool.not_eq_true] at *)
        go_enter Tryz.func16, Tryz.ntmps16
        go_wp2_with (refine WL.out ?_; (repeat (first | (refine WL.op ?_ ?_; (exact rfl); intro K hK; (first | ((first | ((with_reducible apply ow_move); exact rfl) | ((with_reducible apply ow_assign); exact rfl)); (go_simp <;> (try simp (disch := omega) only [wrap_id, sub_left, zac]) <;> rfl)) | ((((with_reducible apply ow_load1 st); exact rfl; exact inferInstance; exact rfl; (first | exact get0 | exact get1))); exact rfl) | ((((with_reducible apply ow_box st); exact rfl; (go_simp <;> (try simp (disch := omega) only [wrap_id, sub_left, zac]) <;> rfl); (go_simp <;> (try simp (disch := omega) only [wrap_id, sub_left, zac]) <;> rfl))); (try clear st); intro b w' st) | ((with_reducible apply ow_eval); (go_simp <;> (try simp (disch := omega) only [wrap_id, sub_left, zac]) <;> rfl); ((with_reducible apply up_value)))); refine WL.next hK (by simp only [Act.put, zpt, zsz, zss]; exact rfl) ?_; clear hK K) | (refine WL.skip ?_ (by simp only [Act.put, zpt, zsz, zss]; exact rfl) ?_; (exact rfl)))); (try refine WL.nil ?_))
        go_ret
        exact ⟨ret_bool (by rw [hs.out]; simp [*]), st.below⟩
    · (try simp only [Bool.not_eq_true] at *)
      go_enter Tryz.func16, Tryz.ntmps16
      go_wp2_with (refine WL.out ?_; (repeat (first | (refine WL.op ?_ ?_; (exact rfl); intro K hK; (first | ((first | ((with_reducible apply ow_move); exact rfl) | ((with_reducible apply ow_assign); exact rfl)); (go_simp <;> (try simp (disch := omega) only [wrap_id, sub_left, zac]) <;> rfl)) | ((((with_reducible apply ow_load1 st); exact rfl; exact inferInstance; exact rfl; (first | exact get0 | exact get1))); exact rfl) | ((((with_reducible apply ow_box st); exact rfl; (go_simp <;> (try simp (disch := omega) only [wrap_id, sub_left, zac]) <;> rfl); (go_simp <;> (try simp (disch := omega) only [wrap_id, sub_left, zac]) <;> rfl))); (try clear st); intro b w' st) | ((with_reducible apply ow_eval); (go_simp <;> (try simp (disch := omega) only [wrap_id, sub_left, zac]) <;> rfl); ((with_reducible apply up_value)))); refine WL.next hK (by simp only [Act.put, zpt, zsz, zss]; exact rfl) ?_; clear hK K) | (refine WL.skip ?_ (by simp only [Act.put, zpt, zsz, zss]; exact rfl) ?_; (exact rfl)))); (try refine WL.nil ?_))
      go_ret
      exact ⟨ret_bool (by rw [hs.out]; simp [*]), st.below⟩
  · (try simp only [Bool.not_eq_true] at *)
    go_enter Tryz.func16, Tryz.ntmps16
    go_wp2_with (refine WL.out ?_; (repeat (first | (refine WL.op ?_ ?_; (exact rfl); intro K hK; (first | ((first | ((with_reducible apply ow_move); exact rfl) | ((with_reducible apply ow_assign); exact rfl)); (go_simp <;> (try simp (disch := omega) only [wrap_id, sub_left, zac]) <;> rfl)) | ((((with_reducible apply ow_load1 st); exact rfl; exact inferInstance; exact rfl; (first | exact get0 | exact get1))); exact rfl) | ((((with_reducible apply ow_box st); exact rfl; (go_simp <;> (try simp (disch := omega) only [wrap_id, sub_left, zac]) <;> rfl); (go_simp <;> (try simp (disch := omega) only [wrap_id, sub_left, zac]) <;> rfl))); (try clear st); intro b w' st) | ((with_reducible apply ow_eval); (go_simp <;> (try simp (disch := omega) only [wrap_id, sub_left, zac]) <;> rfl); ((with_reducible apply up_value)))); refine WL.next hK (by simp only [Act.put, zpt, zsz, zss]; exact rfl) ?_; clear hK K) | (refine WL.skip ?_ (by simp only [Act.put, zpt, zsz, zss]; exact rfl) ?_; (exact rfl)))); (try refine WL.nil ?_))
    go_ret
    exact ⟨ret_bool (by rw [hs.out]; simp [*]), st.below⟩
end Go.Proofs.YtppjhccdgbheiaaGreatDoor
namespace Go.Proofs.YtppjhccdgbheiaaGreatDoor
open Go.RowKit Go.Hp
namespace L
def auditErr (n1 i : Nat) (a : Ace) : Int := firstErr [aErr a, unles ((a.k == 2) == decide (n1 ≤ i)) 15]
end L
theorem first_st2 {w0 w : World} {rs : List Res} {b t : Nat} {x y : Int} (st : St w0 w (.box b t [.int .i64 x, .int .i64 y] :: rs)) :
    Calls Tryz.prog 44 #[.slice (some ⟨b, 0, none⟩) 2 2] w fun e w' => e = .returned (.int .i64 (L.firstErr [x, y])) ∧ w = w' :=
  first_any b [x, y] w (by simp) fun k hk => by
    rw [st.cell (i := 0) rfl]
    rcases k with _ | _ | k
    · rfl
    · rfl
    · simp at hk; omega
theorem first_st3 {w0 w : World} {rs : List Res} {b t : Nat} {x y z : Int} (st : St w0 w (.box b t [.int .i64 x, .int .i64 y, .int .i64 z] :: rs)) :
    Calls Tryz.prog 44 #[.slice (some ⟨b, 0, none⟩) 3 3] w fun e w' => e = .returned (.int .i64 (L.firstErr [x, y, z])) ∧ w = w' :=
  first_any b [x, y, z] w (by simp) fun k hk => by
    rw [st.cell (i := 0) rfl]
    rcases k with _ | _ | _ | k
    · rfl
    · rfl
    · rfl
    · simp at hk; omega
theorem acesErr1_any (i : Int) (k f m wh : Int) (w : World) :
    Calls Tryz.prog 79 #[.int .i64 i, .agg #[.int .i64 k, .int .i64 f, .int .i64 m, .int .i64 wh]] w fun e w' => e = .returned (.int .i64 (L.aceErr k f m wh)) ∧ Below w.heap.size w w' := by
  have st := St.start w
  go_enter Tryz.func79, Tryz.ntmps79
  go_wp2_with (refine WL.out ?_; (repeat ((refine WL.op ?_ ?_; (exact rfl); intro K hK; (first | ((((with_reducible apply ow_assign); exact rfl)); (go_simp <;> (try simp (disch := omega) only [wrap_id, sub_left, zac]) <;> rfl)) | ((((with_reducible apply ow_loadN st); exact rfl; exact inferInstance; exact rfl; (exact get0); ((try simp only [zta, ztz, zda, zdz, zca, zcn, zan, zsz, zss]) <;> exact rfl))); exact rfl) | ((((with_reducible apply ow_box st); exact rfl; (go_simp <;> (try simp (disch := omega) only [wrap_id, sub_left, zac]) <;> rfl); (go_simp <;> (try simp (disch := omega) only [wrap_id, sub_left, zac]) <;> rfl))); (try clear st); intro b w' st) | ((with_reducible apply ow_eval); (go_simp <;> (try simp (disch := omega) only [wrap_id, sub_left, zac]) <;> rfl); (((with_reducible apply up_enter); ((go_at_call 80; refine (CheckAce_any _ _ _ _ _).mono ?_; rintro e w' ⟨rfl, hb⟩; replace st := st.call hb; clear hb; refine ⟨_, rfl, ?_⟩)))))); refine WL.next hK (by simp only [Act.put, zpt, zsz, zss]; exact rfl) ?_; clear hK K))); (try refine WL.nil ?_))
  go_ret
  exact ⟨rfl, st.below⟩
theorem acesErr_any (A : Option Addr) (n c B : Nat) (l : List L.Ace) (w : World) (h1 : Aces w B A n l) (hB1 : B ≤ w.heap.size) (hn : n ≤ 1000) :
    Calls Tryz.prog 46 #[.slice A n c] w fun e w' => e = .returned (.int .i64 (L.acesErr l)) ∧ Below w.heap.size w w' := by
  have e1 := Lib.hid h1.len
  by_cases hbig : 16 < n
  · have hs : Hid (L.acesErr l = 8) := by unfold L.acesErr; rw [if_pos (by rw [← e1.out]; exact hbig)]; rfl
    go_enter Tryz.func46, Tryz.ntmps46
    go_wp2
    go_ret
    exact ⟨ret_int hs.out.symm, Below.refl _ _⟩
  · have hs : Hid (L.acesErr l = (L.each (fun _ a => L.aErr a) 0 l).2) := by unfold L.acesErr; rw [if_neg (by rw [← e1.out]; exact hbig)]; rfl
    go_enter Tryz.func46, Tryz.ntmps46
    go_wp2_with (go_at_call 78; refine (each1_any (fun _ a => L.aErr a) A n c B l _ h1 hB1 hn ?_).mono ?_; (focus (intro i a W hi ha hb; exact acesErr1_any _ _ _ _ _ _)); rintro e w' ⟨rfl, hb⟩)
    go_ret
    exact ⟨ret_int hs.out.symm, hb⟩
set_option maxHeartbeats 1000000 in
theorem CheckDescriptor1_any (i : Nat) (a : L.Ace) (b n1 c1 : Nat) (A1 : Option Addr) (w : World) (hb : b < w.heap.size) (h4 : w.cell? ⟨b, 4, none⟩ = some (.slice A1 n1 c1)) (hn : n1 ≤ 1000) (hi : i ≤ 1000) :
    Calls Tryz.prog 92 #[.int .i64 i, .agg #[.int .i64 a.k, .int .i64 a.f, .int .i64 a.m, .int .i64 a.w], .pointer (some ⟨b, 0, none⟩)] w fun e w' => e = .returned (.int .i64 (L.auditErr n1 i a)) ∧ Below w.heap.size w w' := by
  have st := St.start w
  go_enter Tryz.func92, Tryz.ntmps92
  go_wp2_with (refine WL.out ?_; (repeat ((refine WL.op ?_ ?_; (exact rfl); intro K hK; (first | ((((with_reducible apply ow_assign); exact rfl)); (go_simp <;> (try simp (disch := omega) only [wrap_id, sub_left, zac]) <;> rfl)) | ((((with_reducible apply ow_box st); exact rfl; (go_simp <;> (try simp (disch := omega) only [wrap_id, sub_left, zac]) <;> rfl); (go_simp <;> (try simp (disch := omega) only [wrap_id, sub_left, zac]) <;> rfl))); (try clear st); intro b w' st)); refine WL.next hK (by simp only [Act.put, zpt, zsz, zss]; exact rfl) ?_; clear hK K))); (try refine WL.nil ?_))
  refine wp_region_plan 12 (by kernel_rfl) (by kernel_rfl) ?_; replace st := st.drew; generalize World.drew _ = W at st ⊢
  (apply Plan.val'; (focus (intro x0 x1 x2 x3 x4 x5 x6 x7 x8 x9 x10 x11 w1 hb; (try simp only [depF, fillA, Act.put, zta, ztz, zpt, zsz, zss, zl0, zls]); (repeat (fail)); have st := st.call hb; ((apply Yphi.loadN st; exact rfl; exact inferInstance; (exact rfl); exact rfl; (exact get0); ((try simp only [zta, ztz, zda, zdz, zca, zcn, zan, zsz, zss]) <;> exact rfl); exact rfl)))); (simp only [zca, zcn] <;> exact rfl))
  (apply Plan.val'; (focus (intro x0 x1 x2 x3 x4 x5 x6 x7 x8 x9 x10 x11 w1 hb; (try simp only [depF, fillA, Act.put, zta, ztz, zpt, zsz, zss, zl0, zls]); (repeat (rintro rfl)); have st := st.call hb; apply Yphi.call; (exact rfl); (go_simp <;> (try simp (disch := omega) only [wrap_id, sub_left, zac]) <;> rfl); exact rfl; refine (CheckAce_any _ _ _ _ _).mono ?_; rintro e w' ⟨rfl, hb'⟩; exact ⟨_, rfl, hb', rfl⟩)); (simp only [zca, zcn] <;> exact rfl))
  iterate 9 (apply Plan.val'; (focus (intro x0 x1 x2 x3 x4 x5 x6 x7 x8 x9 x10 x11 w1 hb; (try simp only [depF, fillA, Act.put, zta, ztz, zpt, zsz, zss, zl0, zls]); (repeat (rintro rfl)); have st := st.call hb; (first | (apply Yphi.run; (exact rfl); (go_simp <;> (try simp (disch := omega) only [wrap_id, sub_left, zac]) <;> rfl); exact rfl) | (apply Yphi.load1 st; exact rfl; exact inferInstance; (exact rfl); exact rfl; (exact get0); exact rfl) | (apply Yphi.old1 st; exact rfl; exact inferInstance; (exact rfl); exact rfl; assumption; assumption)))); (simp only [zca, zcn] <;> exact rfl))
  (apply Plan.val'; (focus (intro x0 x1 x2 x3 x4 x5 x6 x7 x8 x9 x10 x11 w1 hb; (try simp only [depF, fillA, Act.put, zta, ztz, zpt, zsz, zss, zl0, zls]); (repeat (rintro rfl)); have st := st.call hb; apply Yphi.call; (exact rfl); (go_simp <;> (try simp (disch := omega) only [wrap_id, sub_left, zac]) <;> rfl); exact rfl; refine (unles_any _ _ _).mono ?_; rintro e w' ⟨rfl, rfl⟩; exact ⟨_, rfl, Below.refl _ _, rfl⟩)); (simp only [zca, zcn] <;> exact rfl))
  intro x0 x1 x2 x3 x4 x5 x6 x7 x8 x9 x10 x11 lo hi w1 hb hap
  rintro rfl rfl rfl rfl rfl rfl rfl rfl rfl rfl rfl rfl
  simp only [allPhi, fillA, Act.put, zta, ztz, zpt, zsz, zss, zda, zdz]
  have st := st.call hb
  go_wp2_with (refine WL.out ?_; (repeat ((refine WL.op ?_ ?_; (exact rfl); intro K hK; (first | ((((with_reducible apply ow_assign); exact rfl)); (go_simp <;> (try simp (disch := omega) only [wrap_id, sub_left, zac]) <;> rfl)) | ((((with_reducible apply ow_newSlice st); exact rfl; (go_simp <;> (try simp (disch := omega) only [wrap_id, sub_left, zac]) <;> rfl); exact rfl)); (try clear st); intro b w' st) | ((with_reducible apply ow_eval); (go_simp <;> (try simp (disch := omega) only [wrap_id, sub_left, zac]) <;> rfl); (((with_reducible apply up_enter); ((go_at_call 44; refine (first_st2 st).mono ?_; rintro e w' ⟨rfl, rfl⟩; refine ⟨_, rfl, ?_⟩)))))); refine WL.next hK (by simp only [Act.put, zpt, zsz, zss]; exact rfl) ?_; clear hK K))); (try refine WL.nil ?_))
  go_ret
  exact ⟨rfl, st.below⟩
def RetRoom (w : World) (e : Ending) (w' : World) : Prop := ∃ A c, e = .returned (.slice A 0 c) ∧ St w w' [aceRow (.slice A 0 c) 0 []]
set_option maxHeartbeats 1000000 in
theorem Grow_any (k : Nat) (w : World) (hk : k ≤ 1000) :
    Calls Tryz.prog 84 #[.slice none 0 0, .int .i64 k] w (RetRoom w) := by
  have st := St.start w
  rcases Nat.eq_zero_or_pos k with rfl | h0
  · go_enter Tryz.func84, Tryz.ntmps84
    go_wp2
    go_ret
    exact ⟨_, _, rfl, (St.start w).nilRow _ _⟩
  · go_enter Tryz.func84, Tryz.ntmps84
    go_wp2_with (refine WL.out ?_; (repeat ((refine WL.op ?_ ?_; (exact rfl); intro K hK; (first | ((first | ((with_reducible apply ow_move); exact rfl) | ((with_reducible apply ow_assign); exact rfl)); (go_simp <;> (try simp (disch := omega) only [wrap_id, sub_left, zac]) <;> rfl)) | ((with_reducible apply ow_zeros (n := k) (kn := .i64) st); exact rfl; exact inferInstance; (focus (kernel_rfl)); exact rfl; exact rfl; (focus omega); (focus (unfold maxLen; omega)); (focus omega); (try clear st); intro b c w' st) | ((with_reducible apply ow_eval); (go_simp <;> (try simp (disch := omega) only [wrap_id, sub_left, zac]) <;> rfl); ((with_reducible apply up_value)))); refine WL.next hK (by simp only [Act.put, zpt, zsz, zss]; exact rfl) ?_; clear hK K))); (try refine WL.nil ?_))
    go_ret
    exact ⟨_, _, rfl, by have h := st.reslice (m := 0) (Nat.zero_le _); simpa [aceRow, L.cellsOf] using h⟩
set_option maxHeartbeats 1000000 in
theorem Concat_any (b n1 n2 c1 c2 B : Nat) (A1 A2 : Option Addr) (l1 l2 : List L.Ace) (w : World) (hb : b < w.heap.size) (h0 : w.cell? ⟨b, 0, none⟩ = some (.slice A1 n1 c1)) (h1 : w.cell? ⟨b, 1, none⟩ = some (.slice A2 n2 c2))
    (a1 : Aces w B A1 n1 l1) (a2 : Aces w B A2 n2 l2) (hB : B ≤ w.heap.size) (hn1 : n1 ≤ 100) (hn2 : n2 ≤ 100) :
    Calls Tryz.prog 51 #[.slice (some ⟨b, 0, none⟩) 2 2] w (RetAces w (l1 ++ l2)) := by
  have H1 := Lib.hid a1
  have H2 := Lib.hid a2
  clear a1 a2
  have st := St.start w
  go_enter Tryz.func51, Tryz.ntmps51
  go_wp2
  go_loop [3, 11] (fun s i => ∃ k : Nat, k ≤ 2 ∧ i = .int .i64 k ∧ s = .int .i64 ((if k = 0 then 0 else if k = 1 then n1 else n1 + n2 : Nat) : Int)) (fun _ i => 2 - (intOf i).toNat)
  case atStart => exact ⟨0, by omega, rfl, rfl⟩
  case round =>
    obtain ⟨k, hk, rfl, rfl⟩ := hrel
    rcases (by omega : k = 0 ∨ k = 1 ∨ k = 2) with rfl | rfl | rfl
    · simp only [if_true]
      go_wp2_with (refine WL.out ?_; (repeat ((refine WL.op ?_ ?_; (exact rfl); intro K hK; (first | ((first | ((with_reducible apply ow_move); exact rfl) | ((with_reducible apply ow_assign); exact rfl)); (go_simp <;> (try simp (disch := omega) only [wrap_id, sub_left, zac]) <;> rfl)) | ((with_reducible apply ow_old1 st); exact rfl; exact inferInstance; exact rfl; assumption; assumption) | ((with_reducible apply ow_eval); (go_simp <;> (try simp (disch := omega) only [wrap_id, sub_left, zac]) <;> rfl); ((with_reducible apply up_value)))); refine WL.next hK (by simp only [Act.put, zpt, zsz, zss]; exact rfl) ?_; clear hK K))); (try refine WL.nil ?_))
      exact ⟨⟨1, by omega, rfl, rfl⟩, by simp [intOf]⟩
    · simp only [Nat.one_ne_zero, if_false, if_true]
      go_wp2_with (refine WL.out ?_; (repeat ((refine WL.op ?_ ?_; (exact rfl); intro K hK; (first | ((first | ((with_reducible apply ow_move); exact rfl) | ((with_reducible apply ow_assign); exact rfl)); (go_simp <;> (try simp (disch := omega) only [wrap_id, sub_left, zac]) <;> rfl)) | ((with_reducible apply ow_old1 st); exact rfl; exact inferInstance; exact rfl; assumption; assumption) | ((with_reducible apply ow_eval); (go_simp <;> (try simp (disch := omega) only [wrap_id, sub_left, zac]) <;> rfl); ((with_reducible apply up_value)))); refine WL.next hK (by simp only [Act.put, zpt, zsz, zss]; exact rfl) ?_; clear hK K))); (try refine WL.nil ?_))
      exact ⟨⟨2, by omega, rfl, by simp⟩, by simp [intOf]⟩
    · simp only [Nat.reduceEqDiff, if_false]
      go_wp2_with (refine WL.out ?_; (repeat ((refine WL.op ?_ ?_; (exact rfl); intro K hK; (first | ((first | ((with_reducible apply ow_move); exact rfl) | ((with_reducible apply ow_assign); exact rfl)); (go_simp <;> (try simp (disch := omega) only [wrap_id, sub_left, zac]) <;> rfl)) | ((with_reducible apply ow_eval); (go_simp <;> (try simp (disch := omega) only [wrap_id, sub_left, zac]) <;> rfl); first | (with_reducible apply up_value) | ((with_reducible apply up_enter); ((go_at_call 84; refine (Grow_any (n1 + n2) _ (by omega)).mono ?_; rintro e w' ⟨A0, c0, rfl, st'⟩; replace st := st.join st'; clear st'; refine ⟨_, rfl, ?_⟩))))); refine WL.next hK (by simp only [Act.put, zpt, zsz, zss]; exact rfl) ?_; clear hK K))); (try refine WL.nil ?_))
      go_loopw [6, 27] (fun v i wr => ∃ (k : Nat) (A' : Option Addr) (m c' : Nat), k ≤ 2 ∧ i = .int .i64 k ∧ v = .slice A' m c' ∧ St w wr [aceRow (.slice A' m c') m (if k = 0 then [] else if k = 1 then l1 else l1 ++ l2)]) (fun _ i _ => 2 - (intOf i).toNat)
      case atStart => exact ⟨0, _, _, _, by omega, rfl, rfl, st⟩
      case round =>
        obtain ⟨k, A', m, c', hk, rfl, rfl, st⟩ := hrel
        have hm : m ≤ 200 := by
          have h := St.len st (i := 0) rfl
          have e1 := H1.out.len
          have e2 := H2.out.len
          split at h
          · simp at h; omega
          · split at h
            · omega
            · simp at h; omega
        rcases (by omega : k = 0 ∨ k = 1 ∨ k = 2) with rfl | rfl | rfl
        · simp only [if_true] at st
          go_wp2_with (refine WL.out ?_; (repeat ((refine WL.op ?_ ?_; (exact rfl); intro K hK; (first | ((first | ((with_reducible apply ow_move); exact rfl) | ((with_reducible apply ow_assign); exact rfl)); (go_simp <;> (try simp (disch := omega) only [wrap_id, sub_left, zac]) <;> rfl)) | ((with_reducible apply ow_old1 st); exact rfl; exact inferInstance; exact rfl; assumption; assumption) | ((with_reducible apply ow_append 0 st); exact rfl; exact inferInstance; exact rfl; exact rfl; exact rfl; exact (H1.out.st st hB).rd; (focus (exact cells_one _)); (focus (unfold maxLen; omega)); (focus omega); (try clear st); intro A' c' w' st; (try simp only [List.set_cons_zero, List.set_cons_succ, Nat.zero_add, List.nil_append] at st)) | ((with_reducible apply ow_eval); (go_simp <;> (try simp (disch := omega) only [wrap_id, sub_left, zac]) <;> rfl); ((with_reducible apply up_value)))); refine WL.next hK (by simp only [Act.put, zpt, zsz, zss]; exact rfl) ?_; clear hK K))); (try refine WL.nil ?_))
          exact ⟨⟨1, _, _, _, by omega, rfl, rfl, st⟩, by simp [intOf]⟩
        · simp only [Nat.one_ne_zero, if_false, if_true] at st
          go_wp2_with (refine WL.out ?_; (repeat ((refine WL.op ?_ ?_; (exact rfl); intro K hK; (first | ((first | ((with_reducible apply ow_move); exact rfl) | ((with_reducible apply ow_assign); exact rfl)); (go_simp <;> (try simp (disch := omega) only [wrap_id, sub_left, zac]) <;> rfl)) | ((with_reducible apply ow_old1 st); exact rfl; exact inferInstance; exact rfl; assumption; assumption) | ((with_reducible apply ow_append 0 st); exact rfl; exact inferInstance; exact rfl; exact rfl; exact rfl; exact (H2.out.st st hB).rd; (focus (exact cells_one _)); (focus (unfold maxLen; omega)); (focus omega); (try clear st); intro A' c' w' st; (try simp only [List.set_cons_zero, List.set_cons_succ, Nat.zero_add, List.nil_append] at st)) | ((with_reducible apply ow_eval); (go_simp <;> (try simp (disch := omega) only [wrap_id, sub_left, zac]) <;> rfl); ((with_reducible apply up_value)))); refine WL.next hK (by simp only [Act.put, zpt, zsz, zss]; exact rfl) ?_; clear hK K))); (try refine WL.nil ?_))
          exact ⟨⟨2, _, _, _, by omega, rfl, rfl, by simpa [aceRow, L.cellsOf_append] using st⟩, by simp [intOf]⟩
        · simp only [Nat.reduceEqDiff, if_false] at st
          go_wp2_with (refine WL.out ?_; (repeat ((refine WL.op ?_ ?_; (exact rfl); intro K hK; (((with_reducible apply ow_eval); (go_simp <;> (try simp (disch := omega) only [wrap_id, sub_left, zac]) <;> rfl); ((with_reducible apply up_value)))); refine WL.next hK (by simp only [Act.put, zpt, zsz, zss]; exact rfl) ?_; clear hK K))); (try refine WL.nil ?_))
          go_ret
          exact ⟨_, _, _, rfl, st⟩
end Go.Proofs.YtppjhccdgbheiaaGreatDoor
namespace Go.Proofs.YtppjhccdgbheiaaGreatDoor
open Go.RowKit Go.Hp
namespace L
def Desc.headErr (d : Desc) : Int := firstErr [holdersErr d.o d.g, unles (decide (max d.e.length d.a.length ≤ 16)) 8, unles (d.h || decide (d.e.length = 0)) 3]
def Desc.err (d : Desc) : Int × Int := if d.headErr = 0 then each (fun i a => auditErr d.e.length i a) 0 (d.e ++ d.a) else (0, d.headErr)
end L
theorem max_le16 (n1 n2 : Nat) : decide ((if n1 < n2 then (n2 : Int) else (n1 : Int)) ≤ 16) = decide (max n1 n2 ≤ 16) := by
  rw [Bool.eq_iff_iff]
  simp only [decide_eq_true_eq]
  split <;> omega
theorem beq0 (n : Nat) : ((n : Int) == 0) = decide (n = 0) := by
  rw [Bool.eq_iff_iff]; simp
set_option maxHeartbeats 2000000 in
theorem CheckDescriptor_any (d : L.Desc) (A1 A2 : Option Addr) (n1 n2 c1 c2 B : Nat) (w : World) (h1 : Aces w B A1 n1 d.e) (h2 : Aces w B A2 n2 d.a) (hB1 : B ≤ w.heap.size) (hn1 : n1 ≤ 100) (hn2 : n2 ≤ 100) :
    Calls Tryz.prog 62 #[.agg #[.int .i64 d.o, .int .i64 d.g, .bool d.p, .bool d.h, .slice A1 n1 c1, .slice A2 n2 c2]] w fun e w' => e = .returned (.tuple #[.int .i64 d.err.1, .int .i64 d.err.2]) ∧ Below w.heap.size w w' := by
  have H1 := Lib.hid h1
  have H2 := Lib.hid h2
  clear h1 h2
  have st := St.start w
  have hq : Hid (d.headErr = L.firstErr [L.holdersErr d.o d.g, L.unles (decide (max n1 n2 ≤ 16)) 8, L.unles (d.h || decide (n1 = 0)) 3]) := Lib.hid (by unfold L.Desc.headErr; rw [← H1.out.len, ← H2.out.len])
  by_cases hh : d.h = true
  · have hh' := hh
    go_enter Tryz.func62, Tryz.ntmps62
    go_wp2_with (refine WL.out ?_; (repeat ((refine WL.op ?_ ?_; (exact rfl); intro K hK; (first | ((((with_reducible apply ow_assign); exact rfl)); (go_simp <;> (try simp (disch := omega) only [wrap_id, sub_left, zac]) <;> rfl)) | ((((with_reducible apply ow_box st); exact rfl; (go_simp <;> (try simp (disch := omega) only [wrap_id, sub_left, zac]) <;> rfl); (go_simp <;> (try simp (disch := omega) only [wrap_id, sub_left, zac]) <;> rfl))); (try clear st); intro b w' st)); refine WL.next hK (by simp only [Act.put, zpt, zsz, zss]; exact rfl) ?_; clear hK K))); (try refine WL.nil ?_))
    refine wp_region_plan 23 (by kernel_rfl) (by kernel_rfl) ?_; replace st := st.drew; generalize World.drew _ = W at st ⊢
    iterate 4 (apply Plan.val'; (focus (intro x0 x1 x2 x3 x4 x5 x6 x7 x8 x9 x10 x11 x12 x13 x14 x15 x16 x17 x18 x19 x20 x21 x22 w1 hb; (try simp only [depF, fillA, Act.put, zta, ztz, zpt, zsz, zss, zl0, zls]); (repeat (rintro rfl)); have st := st.call hb; (first | (apply Yphi.run; (exact rfl); (go_simp <;> (try simp (disch := omega) only [wrap_id, sub_left, zac]) <;> rfl); exact rfl) | (apply Yphi.load1 st; exact rfl; exact inferInstance; (exact rfl); exact rfl; (exact get0); exact rfl)))); (simp only [zca, zcn] <;> exact rfl))
    (apply Plan.val'; (focus (intro x0 x1 x2 x3 x4 x5 x6 x7 x8 x9 x10 x11 x12 x13 x14 x15 x16 x17 x18 x19 x20 x21 x22 w1 hb; (try simp only [depF, fillA, Act.put, zta, ztz, zpt, zsz, zss, zl0, zls]); (repeat (rintro rfl)); have st := st.call hb; apply Yphi.call; (exact rfl); (go_simp <;> (try simp (disch := omega) only [wrap_id, sub_left, zac]) <;> rfl); exact rfl; refine (holdersErr_any _ _ _).mono ?_; rintro e w' ⟨rfl, rfl⟩; exact ⟨_, rfl, Below.refl _ _, rfl⟩)); (simp only [zca, zcn] <;> exact rfl))
    iterate 8 (apply Plan.val'; (focus (intro x0 x1 x2 x3 x4 x5 x6 x7 x8 x9 x10 x11 x12 x13 x14 x15 x16 x17 x18 x19 x20 x21 x22 w1 hb; (try simp only [depF, fillA, Act.put, zta, ztz, zpt, zsz, zss, zl0, zls]); (repeat (rintro rfl)); have st := st.call hb; (first | (apply Yphi.run; (exact rfl); (go_simp <;> (try simp (disch := omega) only [wrap_id, sub_left, zac]) <;> rfl); exact rfl) | (apply Yphi.load1 st; exact rfl; exact inferInstance; (exact rfl); exact rfl; (exact get0); exact rfl)))); (simp only [zca, zcn] <;> exact rfl))
    (apply Plan.val'; (focus (intro x0 x1 x2 x3 x4 x5 x6 x7 x8 x9 x10 x11 x12 x13 x14 x15 x16 x17 x18 x19 x20 x21 x22 w1 hb; (try simp only [depF, fillA, Act.put, zta, ztz, zpt, zsz, zss, zl0, zls]); (repeat (rintro rfl)); have st := st.call hb; apply Yphi.call; (exact rfl); (go_simp <;> (try simp (disch := omega) only [wrap_id, sub_left, zac]) <;> rfl); exact rfl; refine (unles_any _ _ _).mono ?_; rintro e w' ⟨rfl, rfl⟩; exact ⟨_, rfl, Below.refl _ _, rfl⟩)); (simp only [zca, zcn] <;> exact rfl))
    iterate 3 (apply Plan.val'; (focus (intro x0 x1 x2 x3 x4 x5 x6 x7 x8 x9 x10 x11 x12 x13 x14 x15 x16 x17 x18 x19 x20 x21 x22 w1 hb; (try simp only [depF, fillA, Act.put, zta, ztz, zpt, zsz, zss, zl0, zls]); (repeat (rintro rfl)); have st := st.call hb; (first | (apply Yphi.run; (exact rfl); (go_simp <;> (try simp (disch := omega) only [wrap_id, sub_left, zac]) <;> rfl); exact rfl) | (apply Yphi.load1 st; exact rfl; exact inferInstance; (exact rfl); exact rfl; (exact get0); exact rfl)))); (simp only [zca, zcn] <;> exact rfl))
    iterate 4 (apply Plan.val'; (focus (intro x0 x1 x2 x3 x4 x5 x6 x7 x8 x9 x10 x11 x12 x13 x14 x15 x16 x17 x18 x19 x20 x21 x22 w1 hb; (try simp only [depF, fillA, Act.put, zta, ztz, zpt, zsz, zss, zl0, zls]); (repeat (rintro rfl)); have st := st.call hb; apply Yphi.skip; (exact rfl))); (simp only [zca, zcn] <;> exact rfl))
    (apply Plan.val'; (focus (intro x0 x1 x2 x3 x4 x5 x6 x7 x8 x9 x10 x11 x12 x13 x14 x15 x16 x17 x18 x19 x20 x21 x22 w1 hb; (try simp only [depF, fillA, Act.put, zta, ztz, zpt, zsz, zss, zl0, zls]); (repeat (rintro rfl)); have st := st.call hb; ((apply Yphi.run; (exact rfl); (go_simp <;> (try simp (disch := omega) only [wrap_id, sub_left, zac]) <;> rfl); exact rfl)))); (simp only [zca, zcn] <;> exact rfl))
    (apply Plan.val'; (focus (intro x0 x1 x2 x3 x4 x5 x6 x7 x8 x9 x10 x11 x12 x13 x14 x15 x16 x17 x18 x19 x20 x21 x22 w1 hb; (try simp only [depF, fillA, Act.put, zta, ztz, zpt, zsz, zss, zl0, zls]); (repeat (rintro rfl)); have st := st.call hb; apply Yphi.call; (exact rfl); (go_simp <;> (try simp (disch := omega) only [wrap_id, sub_left, zac]) <;> rfl); exact rfl; refine (unles_any _ _ _).mono ?_; rintro e w' ⟨rfl, rfl⟩; exact ⟨_, rfl, Below.refl _ _, rfl⟩)); (simp only [zca, zcn] <;> exact rfl))
    intro x0 x1 x2 x3 x4 x5 x6 x7 x8 x9 x10 x11 x12 x13 x14 x15 x16 x17 x18 x19 x20 x21 x22 lo hi w1 hb hap
    rintro rfl rfl rfl rfl rfl rfl rfl rfl rfl rfl rfl rfl rfl rfl rfl rfl rfl rfl rfl rfl rfl rfl rfl
    simp only [allPhi, fillA, Act.put, zta, ztz, zpt, zsz, zss, zda, zdz]
    generalize hM : (if n1 < n2 then (n2 : Int) else (n1 : Int)) = M
    replace hM := Lib.hid hM
    have st := st.call hb
    go_wp2_with (refine WL.out ?_; (repeat ((refine WL.op ?_ ?_; (exact rfl); intro K hK; (first | ((((with_reducible apply ow_assign); exact rfl)); (go_simp <;> (try simp (disch := omega) only [wrap_id, sub_left, zac]) <;> rfl)) | ((((with_reducible apply ow_load1 st); exact rfl; exact inferInstance; exact rfl; (exact get1))); exact rfl) | ((((with_reducible apply ow_newSlice st); exact rfl; (go_simp <;> (try simp (disch := omega) only [wrap_id, sub_left, zac]) <;> rfl); exact rfl)); (try clear st); intro b w' st) | ((with_reducible apply ow_eval); (go_simp <;> (try simp (disch := omega) only [wrap_id, sub_left, zac]) <;> rfl); first | (with_reducible apply up_value) | ((with_reducible apply up_enter); first | (go_at_call 44; refine (first_st3 st).mono ?_; rintro e w' ⟨rfl, rfl⟩; generalize hE0 : L.firstErr _ = E0; replace hE0 := Lib.hid hE0; refine ⟨_, rfl, ?_⟩) | (go_at_call 51; refine (Concat_any _ n1 n2 c1 c2 B A1 A2 d.e d.a _ (Res.holds_lt (st.get (i := 0) rfl) rfl).2 (st.cell (i := 0) rfl 0) (st.cell (i := 0) rfl 1) (H1.out.st st hB1) (H2.out.st st hB1) (Nat.le_trans hB1 st.size) hn1 hn2).mono ?_; rintro e w' ⟨A0, m0, c0, rfl, st'⟩; replace st := st.join st'; clear st'; simp only [List.cons_append, List.nil_append] at st; refine ⟨_, rfl, ?_⟩) | (go_at_call 78; refine (each2_any _ (fun i a => L.auditErr n1 i a) _ _ _ _ (d.e ++ d.a) _ (St.aces st (i := 0) rfl) (Nat.le_refl _) ?_ ?_).mono ?_; (focus (have h1 := H1.out.len; have h2 := H2.out.len; have h3 := St.len st (i := 0) rfl; simp only [List.length_append] at h3; omega)); (focus (intro i a W hi ha hbW; exact CheckDescriptor1_any i a _ n1 c1 A1 W (Nat.lt_of_lt_of_le (Res.holds_lt (st.get (i := 3) rfl) rfl).2 hbW.size) ((hbW.cell (p := ⟨_, 4, none⟩) (Res.holds_lt (st.get (i := 3) rfl) rfl).2).trans (st.cell (i := 3) rfl 4)) (by omega) (by have h1 := H1.out.len; have h2 := H2.out.len; have h3 := St.len st (i := 0) rfl; simp only [List.length_append] at h3; omega))); rintro e w' ⟨rfl, hb⟩; replace st := st.call hb; clear hb; refine ⟨_, rfl, ?_⟩)))); refine WL.next hK (by simp only [Act.put, zpt, zsz, zss]; exact rfl) ?_; clear hK K))); (try refine WL.nil ?_))
    · go_ret2
      have h1 : d.headErr = E0 := by rw [hq.out, ← max_le16, hM.out, hh, ← hE0.out]; simp [beq0]
      exact ⟨ret_pair (by unfold L.Desc.err; rw [h1, if_neg (by simp_all)]), st.below⟩
    · go_ret2
      have h1 : d.headErr = E0 := by rw [hq.out, ← max_le16, hM.out, hh, ← hE0.out]; simp [beq0]
      exact ⟨ret_pair (by unfold L.Desc.err; rw [h1, if_pos (by simp_all), ← H1.out.len]), st.below⟩
  · simp only [Bool.not_eq_true] at hh
    go_enter Tryz.func62, Tryz.ntmps62
    go_wp2_with (refine WL.out ?_; (repeat ((refine WL.op ?_ ?_; (exact rfl); intro K hK; (first | ((((with_reducible apply ow_assign); exact rfl)); (go_simp <;> (try simp (disch := omega) only [wrap_id, sub_left, zac]) <;> rfl)) | ((((with_reducible apply ow_box st); exact rfl; (go_simp <;> (try simp (disch := omega) only [wrap_id, sub_left, zac]) <;> rfl); (go_simp <;> (try simp (disch := omega) only [wrap_id, sub_left, zac]) <;> rfl))); (try clear st); intro b w' st)); refine WL.next hK (by simp only [Act.put, zpt, zsz, zss]; exact rfl) ?_; clear hK K))); (try refine WL.nil ?_))
    refine wp_region_plan 23 (by kernel_rfl) (by kernel_rfl) ?_; replace st := st.drew; generalize World.drew _ = W at st ⊢
    iterate 4 (apply Plan.val'; (focus (intro x0 x1 x2 x3 x4 x5 x6 x7 x8 x9 x10 x11 x12 x13 x14 x15 x16 x17 x18 x19 x20 x21 x22 w1 hb; (try simp only [depF, fillA, Act.put, zta, ztz, zpt, zsz, zss, zl0, zls]); (repeat (rintro rfl)); have st := st.call hb; (first | (apply Yphi.run; (exact rfl); (go_simp <;> (try simp (disch := omega) only [wrap_id, sub_left, zac]) <;> rfl); exact rfl) | (apply Yphi.load1 st; exact rfl; exact inferInstance; (exact rfl); exact rfl; (exact get0); exact rfl)))); (simp only [zca, zcn] <;> exact rfl))
    (apply Plan.val'; (focus (intro x0 x1 x2 x3 x4 x5 x6 x7 x8 x9 x10 x11 x12 x13 x14 x15 x16 x17 x18 x19 x20 x21 x22 w1 hb; (try simp only [depF, fillA, Act.put, zta, ztz, zpt, zsz, zss, zl0, zls]); (repeat (rintro rfl)); have st := st.call hb; apply Yphi.call; (exact rfl); (go_simp <;> (try simp (disch := omega) only [wrap_id, sub_left, zac]) <;> rfl); exact rfl; refine (holdersErr_any _ _ _).mono ?_; rintro e w' ⟨rfl, rfl⟩; exact ⟨_, rfl, Below.refl _ _, rfl⟩)); (simp only [zca, zcn] <;> exact rfl))
    iterate 8 (apply Plan.val'; (focus (intro x0 x1 x2 x3 x4 x5 x6 x7 x8 x9 x10 x11 x12 x13 x14 x15 x16 x17 x18 x19 x20 x21 x22 w1 hb; (try simp only [depF, fillA, Act.put, zta, ztz, zpt, zsz, zss, zl0, zls]); (repeat (rintro rfl)); have st := st.call hb; (first | (apply Yphi.run; (exact rfl); (go_simp <;> (try simp (disch := omega) only [wrap_id, sub_left, zac]) <;> rfl); exact rfl) | (apply Yphi.load1 st; exact rfl; exact inferInstance; (exact rfl); exact rfl; (exact get0); exact rfl)))); (simp only [zca, zcn] <;> exact rfl))
    (apply Plan.val'; (focus (intro x0 x1 x2 x3 x4 x5 x6 x7 x8 x9 x10 x11 x12 x13 x14 x15 x16 x17 x18 x19 x20 x21 x22 w1 hb; (try simp only [depF, fillA, Act.put, zta, ztz, zpt, zsz, zss, zl0, zls]); (repeat (rintro rfl)); have st := st.call hb; apply Yphi.call; (exact rfl); (go_simp <;> (try simp (disch := omega) only [wrap_id, sub_left, zac]) <;> rfl); exact rfl; refine (unles_any _ _ _).mono ?_; rintro e w' ⟨rfl, rfl⟩; exact ⟨_, rfl, Below.refl _ _, rfl⟩)); (simp only [zca, zcn] <;> exact rfl))
    iterate 3 (apply Plan.val'; (focus (intro x0 x1 x2 x3 x4 x5 x6 x7 x8 x9 x10 x11 x12 x13 x14 x15 x16 x17 x18 x19 x20 x21 x22 w1 hb; (try simp only [depF, fillA, Act.put, zta, ztz, zpt, zsz, zss, zl0, zls]); (repeat (rintro rfl)); have st := st.call hb; (first | (apply Yphi.run; (exact rfl); (go_simp <;> (try simp (disch := omega) only [wrap_id, sub_left, zac]) <;> rfl); exact rfl) | (apply Yphi.load1 st; exact rfl; exact inferInstance; (exact rfl); exact rfl; (exact get0); exact rfl)))); (simp only [zca, zcn] <;> exact rfl))
    iterate 5 (apply Plan.val'; (focus (intro x0 x1 x2 x3 x4 x5 x6 x7 x8 x9 x10 x11 x12 x13 x14 x15 x16 x17 x18 x19 x20 x21 x22 w1 hb; (try simp only [depF, fillA, Act.put, zta, ztz, zpt, zsz, zss, zl0, zls]); (repeat (rintro rfl)); have st := st.call hb; (first | (apply Yphi.run; (exact rfl); (go_simp <;> (try simp (disch := omega) only [wrap_id, sub_left, zac]) <;> rfl); exact rfl) | (apply Yphi.load1 st; exact rfl; exact inferInstance; (exact rfl); exact rfl; (exact get0); exact rfl)))); (simp only [zca, zcn] <;> exact rfl))
    (apply Plan.val'; (focus (intro x0 x1 x2 x3 x4 x5 x6 x7 x8 x9 x10 x11 x12 x13 x14 x15 x16 x17 x18 x19 x20 x21 x22 w1 hb; (try simp only [depF, fillA, Act.put, zta, ztz, zpt, zsz, zss, zl0, zls]); (repeat (rintro rfl)); have st := st.call hb; apply Yphi.call; (exact rfl); (go_simp <;> (try simp (disch := omega) only [wrap_id, sub_left, zac]) <;> rfl); exact rfl; refine (unles_any _ _ _).mono ?_; rintro e w' ⟨rfl, rfl⟩; exact ⟨_, rfl, Below.refl _ _, rfl⟩)); (simp only [zca, zcn] <;> exact rfl))
    intro x0 x1 x2 x3 x4 x5 x6 x7 x8 x9 x10 x11 x12 x13 x14 x15 x16 x17 x18 x19 x20 x21 x22 lo hi w1 hb hap
    rintro rfl rfl rfl rfl rfl rfl rfl rfl rfl rfl rfl rfl rfl rfl rfl rfl rfl rfl rfl rfl rfl rfl rfl
    simp only [allPhi, fillA, Act.put, zta, ztz, zpt, zsz, zss, zda, zdz]
    generalize hM : (if n1 < n2 then (n2 : Int) else (n1 : Int)) = M
    replace hM := Lib.hid hM
    have st := st.call hb
    go_wp2_with (refine WL.out ?_; (repeat ((refine WL.op ?_ ?_; (exact rfl); intro K hK; (first | ((((with_reducible apply ow_assign); exact rfl)); (go_simp <;> (try simp (disch := omega) only [wrap_id, sub_left, zac]) <;> rfl)) | ((((with_reducible apply ow_load1 st); exact rfl; exact inferInstance; exact rfl; (exact get1))); exact rfl) | ((((with_reducible apply ow_newSlice st); exact rfl; (go_simp <;> (try simp (disch := omega) only [wrap_id, sub_left, zac]) <;> rfl); exact rfl)); (try clear st); intro b w' st) | ((with_reducible apply ow_eval); (go_simp <;> (try simp (disch := omega) only [wrap_id, sub_left, zac]) <;> rfl); first | (with_reducible apply up_value) | ((with_reducible apply up_enter); first | (go_at_call 44; refine (first_st3 st).mono ?_; rintro e w' ⟨rfl, rfl⟩; generalize hE0 : L.firstErr _ = E0; replace hE0 := Lib.hid hE0; refine ⟨_, rfl, ?_⟩) | (go_at_call 51; refine (Concat_any _ n1 n2 c1 c2 B A1 A2 d.e d.a _ (Res.holds_lt (st.get (i := 0) rfl) rfl).2 (st.cell (i := 0) rfl 0) (st.cell (i := 0) rfl 1) (H1.out.st st hB1) (H2.out.st st hB1) (Nat.le_trans hB1 st.size) hn1 hn2).mono ?_; rintro e w' ⟨A0, m0, c0, rfl, st'⟩; replace st := st.join st'; clear st'; simp only [List.cons_append, List.nil_append] at st; refine ⟨_, rfl, ?_⟩) | (go_at_call 78; refine (each2_any _ (fun i a => L.auditErr n1 i a) _ _ _ _ (d.e ++ d.a) _ (St.aces st (i := 0) rfl) (Nat.le_refl _) ?_ ?_).mono ?_; (focus (have h1 := H1.out.len; have h2 := H2.out.len; have h3 := St.len st (i := 0) rfl; simp only [List.length_append] at h3; omega)); (focus (intro i a W hi ha hbW; exact CheckDescriptor1_any i a _ n1 c1 A1 W (Nat.lt_of_lt_of_le (Res.holds_lt (st.get (i := 3) rfl) rfl).2 hbW.size) ((hbW.cell (p := ⟨_, 4, none⟩) (Res.holds_lt (st.get (i := 3) rfl) rfl).2).trans (st.cell (i := 3) rfl 4)) (by omega) (by have h1 := H1.out.len; have h2 := H2.out.len; have h3 := St.len st (i := 0) rfl; simp only [List.length_append] at h3; omega))); rintro e w' ⟨rfl, hb⟩; replace st := st.call hb; clear hb; refine ⟨_, rfl, ?_⟩)))); refine WL.next hK (by simp only [Act.put, zpt, zsz, zss]; exact rfl) ?_; clear hK K))); (try refine WL.nil ?_))
    · go_ret2
      have h1 : d.headErr = E0 := by rw [hq.out, ← max_le16, hM.out, hh, ← hE0.out]; simp [beq0]
      exact ⟨ret_pair (by unfold L.Desc.err; rw [h1, if_neg (by simp_all)]), st.below⟩
    · go_ret2
      have h1 : d.headErr = E0 := by rw [hq.out, ← max_le16, hM.out, hh, ← hE0.out]; simp [beq0]
      exact ⟨ret_pair (by unfold L.Desc.err; rw [h1, if_pos (by simp_all), ← H1.out.len]), st.below⟩
end Go.Proofs.YtppjhccdgbheiaaGreatDoor
namespace Go.Proofs.YtppjhccdgbheiaaGreatDoor
open Go.RowKit Go.Hp
namespace L
def rAuditErr (n1 i : Nat) (a : Ace) : Int := if rErr a = 0 then (if (a.k == 2) != decide (n1 ≤ i) then 15 else 0) else rErr a
def Desc.rErrs (d : Desc) : Int × Int :=
  if rPairErr d.o d.g = 0 then
    if 16 < d.e.length ∨ 16 < d.a.length then (0, 8)
    else if 0 < d.e.length ∧ d.h = false then (0, 3)
    else each (fun i a => rAuditErr d.e.length i a) 0 (d.e ++ d.a)
  else (0, rPairErr d.o d.g)
theorem ax_left (l m : List Ace) (k : Nat) (h : k < l.length) : ax (l ++ m) k = ax l k := by
  rw [ax_eq _ _ (by simp; omega), ax_eq _ _ h, List.getElem_append_left h]
theorem ax_right (l m : List Ace) (j : Nat) (h : j < m.length) : ax (l ++ m) (l.length + j) = ax m j := by
  rw [ax_eq _ _ (by simp; omega), ax_eq _ _ h, List.getElem_append_right (by omega)]
  congr 1
  omega
end L
theorem descriptorErr_any (d : L.Desc) (A1 A2 : Option Addr) (n1 n2 c1 c2 B : Nat) (w : World) (h1 : Aces w B A1 n1 d.e) (h2 : Aces w B A2 n2 d.a) (hB1 : B ≤ w.heap.size) (hn1 : n1 ≤ 100) (hn2 : n2 ≤ 100) :
    Calls Tryz.prog 37 #[.agg #[.int .i64 d.o, .int .i64 d.g, .bool d.p, .bool d.h, .slice A1 n1 c1, .slice A2 n2 c2]] w fun e w' => e = .returned (.int .i64 d.err.2) ∧ Below w.heap.size w w' := by
  have H1 := Lib.hid h1
  have H2 := Lib.hid h2
  clear h1 h2
  have st := St.start w
  go_enter Tryz.func37, Tryz.ntmps37
  go_wp2_with (refine WL.out ?_; (repeat ((refine WL.op ?_ ?_; (exact rfl); intro K hK; (first | ((first | ((with_reducible apply ow_move); exact rfl) | ((with_reducible apply ow_assign); exact rfl)); (go_simp <;> (try simp (disch := omega) only [wrap_id, sub_left, zac]) <;> rfl)) | ((((with_reducible apply ow_loadN st); exact rfl; exact inferInstance; exact rfl; (exact get0); ((try simp only [zta, ztz, zda, zdz, zca, zcn, zan, zsz, zss]) <;> exact rfl))); exact rfl) | ((((with_reducible apply ow_box st); exact rfl; (go_simp <;> (try simp (disch := omega) only [wrap_id, sub_left, zac]) <;> rfl); (go_simp <;> (try simp (disch := omega) only [wrap_id, sub_left, zac]) <;> rfl))); (try clear st); intro b w' st) | ((with_reducible apply ow_eval); (go_simp <;> (try simp (disch := omega) only [wrap_id, sub_left, zac]) <;> rfl); first | (with_reducible apply up_value) | ((with_reducible apply up_enter); ((go_at_call 62; refine (CheckDescriptor_any d A1 A2 n1 n2 c1 c2 B _ (H1.out.st st hB1) (H2.out.st st hB1) (Nat.le_trans hB1 st.size) hn1 hn2).mono ?_; rintro e w' ⟨rfl, hb⟩; replace st := st.call hb; clear hb; refine ⟨_, rfl, ?_⟩))))); refine WL.next hK (by simp only [Act.put, zpt, zsz, zss]; exact rfl) ?_; clear hK K))); (try refine WL.nil ?_))
  go_ret
  exact ⟨rfl, st.below⟩
set_option maxHeartbeats 2000000 in
theorem rCheckDescriptor_any (d : L.Desc) (A1 A2 : Option Addr) (n1 n2 c1 c2 B : Nat) (w : World) (h1 : Aces w B A1 n1 d.e) (h2 : Aces w B A2 n2 d.a) (hB1 : B ≤ w.heap.size) (hn1 : n1 ≤ 100) (hn2 : n2 ≤ 100) :
    Calls Tryz.prog 34 #[.agg #[.int .i64 d.o, .int .i64 d.g, .bool d.p, .bool d.h, .slice A1 n1 c1, .slice A2 n2 c2]] w fun e w' => e = .returned (.tuple #[.int .i64 d.rErrs.1, .int .i64 d.rErrs.2]) ∧ Below w.heap.size w w' := by
  have H1 := Lib.hid h1
  have H2 := Lib.hid h2
  clear h1 h2
  have st := St.start w
  have hq : Hid (d.rErrs = if L.rPairErr d.o d.g = 0 then if 16 < n1 ∨ 16 < n2 then (0, 8) else if 0 < n1 ∧ d.h = false then (0, 3) else L.each (fun i a => L.rAuditErr n1 i a) 0 (d.e ++ d.a) else (0, L.rPairErr d.o d.g)) :=
    Lib.hid (by unfold L.Desc.rErrs; rw [← H1.out.len, ← H2.out.len])
  by_cases p1 : (L.rPairErr d.o d.g != 0) = true
  · go_enter Tryz.func34, Tryz.ntmps34
    go_wp2_with (refine WL.out ?_; (repeat ((refine WL.op ?_ ?_; (exact rfl); intro K hK; (first | ((((with_reducible apply ow_assign); exact rfl)); (go_simp <;> (try simp (disch := omega) only [wrap_id, sub_left, zac]) <;> rfl)) | ((((with_reducible apply ow_load1 st); exact rfl; exact inferInstance; exact rfl; (exact get0))); exact rfl) | ((((with_reducible apply ow_box st); exact rfl; (go_simp <;> (try simp (disch := omega) only [wrap_id, sub_left, zac]) <;> rfl); (go_simp <;> (try simp (disch := omega) only [wrap_id, sub_left, zac]) <;> rfl))); (try clear st); intro b w' st) | ((with_reducible apply ow_eval); (go_simp <;> (try simp (disch := omega) only [wrap_id, sub_left, zac]) <;> rfl); first | (with_reducible apply up_value) | ((with_reducible apply up_enter); ((go_at_call 57; refine (rPairErr_any _ _ _).mono ?_; rintro e w' ⟨rfl, rfl⟩; refine ⟨_, rfl, ?_⟩))))); refine WL.next hK (by simp only [Act.put, zpt, zsz, zss]; exact rfl) ?_; clear hK K))); (try refine WL.nil ?_))
    go_ret2
    exact ⟨ret_pair (by rw [hq.out, if_neg (by simpa using p1)]), st.below⟩
  have p1' : Hid (L.rPairErr d.o d.g = 0) := Lib.hid (by simpa using p1)
  simp only [Bool.not_eq_true] at p1
  by_cases p2 : 16 < n1
  · go_enter Tryz.func34, Tryz.ntmps34
    go_wp2_with (refine WL.out ?_; (repeat (first | (refine WL.op ?_ ?_; (exact rfl); intro K hK; (first | ((first | ((with_reducible apply ow_move); exact rfl) | ((with_reducible apply ow_assign); exact rfl)); (go_simp <;> (try simp (disch := omega) only [wrap_id, sub_left, zac]) <;> rfl)) | ((((with_reducible apply ow_load1 st); exact rfl; exact inferInstance; exact rfl; (exact get0))); exact rfl) | ((((with_reducible apply ow_box st); exact rfl; (go_simp <;> (try simp (disch := omega) only [wrap_id, sub_left, zac]) <;> rfl); (go_simp <;> (try simp (disch := omega) only [wrap_id, sub_left, zac]) <;> rfl))); (try clear st); intro b w' st) | ((with_reducible apply ow_eval); (go_simp <;> (try simp (disch := omega) only [wrap_id, sub_left, zac]) <;> rfl); first | (with_reducible apply up_value) | ((with_reducible apply up_enter); ((go_at_call 57; refine (rPairErr_any _ _ _).mono ?_; rintro e w' ⟨rfl, rfl⟩; refine ⟨_, rfl, ?_⟩))))); refine WL.next hK (by simp only [Act.put, zpt, zsz, zss]; exact rfl) ?_; clear hK K) | (refine WL.skip ?_ (by simp only [Act.put, zpt, zsz, zss]; exact rfl) ?_; ((simp [Region.wanted, yielded] <;> omega))))); (try refine WL.nil ?_))
    go_ret2
    exact ⟨ret_pair (by rw [hq.out, if_pos p1'.out, if_pos (.inl p2)]), st.below⟩
  by_cases p3 : 16 < n2
  · go_enter Tryz.func34, Tryz.ntmps34
    go_wp2_with (refine WL.out ?_; (repeat ((refine WL.op ?_ ?_; (first | exact rfl | (simp [Region.wanted, yielded] <;> omega)); intro K hK; (first | ((first | ((with_reducible apply ow_move); exact rfl) | ((with_reducible apply ow_assign); exact rfl)); (go_simp <;> (try simp (disch := omega) only [wrap_id, sub_left, zac]) <;> rfl)) | ((((with_reducible apply ow_load1 st); exact rfl; exact inferInstance; exact rfl; (exact get0))); exact rfl) | ((((with_reducible apply ow_box st); exact rfl; (go_simp <;> (try simp (disch := omega) only [wrap_id, sub_left, zac]) <;> rfl); (go_simp <;> (try simp (disch := omega) only [wrap_id, sub_left, zac]) <;> rfl))); (try clear st); intro b w' st) | ((with_reducible apply ow_eval); (go_simp <;> (try simp (disch := omega) only [wrap_id, sub_left, zac]) <;> rfl); first | (with_reducible apply up_value) | ((with_reducible apply up_enter); ((go_at_call 57; refine (rPairErr_any _ _ _).mono ?_; rintro e w' ⟨rfl, rfl⟩; refine ⟨_, rfl, ?_⟩))))); refine WL.next hK (by simp only [Act.put, zpt, zsz, zss]; exact rfl) ?_; clear hK K))); (try refine WL.nil ?_))
    go_ret2
    exact ⟨ret_pair (by rw [hq.out, if_pos p1'.out, if_pos (.inr p3)]), st.below⟩
  by_cases p4 : 0 < n1 ∧ d.h = false
  · obtain ⟨p4, p5⟩ := p4
    go_enter Tryz.func34, Tryz.ntmps34
    go_wp2_with (refine WL.out ?_; (repeat ((refine WL.op ?_ ?_; (first | exact rfl | (simp [Region.wanted, yielded] <;> omega)); intro K hK; (first | ((first | ((with_reducible apply ow_move); exact rfl) | ((with_reducible apply ow_assign); exact rfl)); (go_simp <;> (try simp (disch := omega) only [wrap_id, sub_left, zac]) <;> rfl)) | ((((with_reducible apply ow_load1 st); exact rfl; exact inferInstance; exact rfl; (exact get0))); exact rfl) | ((((with_reducible apply ow_box st); exact rfl; (go_simp <;> (try simp (disch := omega) only [wrap_id, sub_left, zac]) <;> rfl); (go_simp <;> (try simp (disch := omega) only [wrap_id, sub_left, zac]) <;> rfl))); (try clear st); intro b w' st) | ((with_reducible apply ow_eval); (go_simp <;> (try simp (disch := omega) only [wrap_id, sub_left, zac]) <;> rfl); first | (with_reducible apply up_value) | ((with_reducible apply up_enter); ((go_at_call 57; refine (rPairErr_any _ _ _).mono ?_; rintro e w' ⟨rfl, rfl⟩; refine ⟨_, rfl, ?_⟩))))); refine WL.next hK (by simp only [Act.put, zpt, zsz, zss]; exact rfl) ?_; clear hK K))); (try refine WL.nil ?_))
    go_ret2
    exact ⟨ret_pair (by rw [hq.out, if_pos p1'.out, if_neg (by omega), if_pos ⟨p4, p5⟩]), st.below⟩
  have hq' : Hid (d.rErrs = L.each (fun i a => L.rAuditErr n1 i a) 0 (d.e ++ d.a)) := Lib.hid (by rw [hq.out, if_pos p1'.out, if_neg (by omega), if_neg p4])
  have p5 : (0 < n1 ∧ d.h = true) ∨ ¬ 0 < n1 := by
    by_cases h : 0 < n1
    · refine .inl ⟨h, ?_⟩
      by_cases h' : d.h = true
      · exact h'
      · exact absurd ⟨h, by simpa using h'⟩ p4
    · exact .inr h
  clear p4
  rcases p5 with ⟨p4, p5⟩ | p4
  all_goals
    go_enter Tryz.func34, Tryz.ntmps34
    go_wp2_with (refine WL.out ?_; (repeat (first | (refine WL.op ?_ ?_; (first | exact rfl | (simp [Region.wanted, yielded] <;> omega)); intro K hK; (first | ((first | ((with_reducible apply ow_move); exact rfl) | ((with_reducible apply ow_assign); exact rfl)); (go_simp <;> (try simp (disch := omega) only [wrap_id, sub_left, zac]) <;> rfl)) | ((((with_reducible apply ow_load1 st); exact rfl; exact inferInstance; exact rfl; (exact get0))); exact rfl) | ((((with_reducible apply ow_box st); exact rfl; (go_simp <;> (try simp (disch := omega) only [wrap_id, sub_left, zac]) <;> rfl); (go_simp <;> (try simp (disch := omega) only [wrap_id, sub_left, zac]) <;> rfl))); (try clear st); intro b w' st) | ((with_reducible apply ow_eval); (go_simp <;> (try simp (disch := omega) only [wrap_id, sub_left, zac]) <;> rfl); first | (with_reducible apply up_value) | ((with_reducible apply up_enter); ((go_at_call 57; refine (rPairErr_any _ _ _).mono ?_; rintro e w' ⟨rfl, rfl⟩; refine ⟨_, rfl, ?_⟩))))); refine WL.next hK (by simp only [Act.put, zpt, zsz, zss]; exact rfl) ?_; clear hK K) | (refine WL.skip ?_ (by simp only [Act.put, zpt, zsz, zss]; exact rfl) ?_; (exact rfl)))); (try refine WL.nil ?_))
    go_loopw [5] (fun i wr => ∃ k : Nat, k ≤ n1 + n2 ∧ i = .int .i64 k ∧ St w wr [.box b 25 [.int .i64 d.o, .int .i64 d.g, .bool d.p, .bool d.h, .slice A1 n1 c1, .slice A2 n2 c2]] ∧ Hid (L.each (fun i a => L.rAuditErr n1 i a) 0 (d.e ++ d.a) = L.each (fun i a => L.rAuditErr n1 i a) k ((d.e ++ d.a).drop k))) (fun i _ => n1 + n2 - (intOf i).toNat)
    case atStart => exact ⟨0, by omega, rfl, by simpa [*] using st, rfl⟩
    case round =>
      clear st
      obtain ⟨k, hk, rfl, st, hs⟩ := hrel
      by_cases hlt : k < n1 + n2
      · have hl : Hid ((d.e ++ d.a).length = n1 + n2) := Lib.hid (by rw [List.length_append, ← H1.out.len, ← H2.out.len])
        have hst := Lib.hid (L.each_step (fun i a => L.rAuditErr n1 i a) (d.e ++ d.a) k (by rw [hl.out]; exact hlt))
        by_cases hk1 : k < n1
        · have hax := Lib.hid (L.ax_left d.e d.a k (by rw [← H1.out.len]; exact hk1))
          obtain ⟨b1, o1, rfl, hb1, hc1⟩ := H1.out.at_ (by omega)
          have hb1 := Nat.lt_of_lt_of_le hb1 hB1
          obtain ⟨f1, f2, f3, f4⟩ := hc1 k hk1
          clear hc1
          have hau : Hid (decide (n1 ≤ k) = false) := Lib.hid (by simp; omega)
          have hau1 : ¬ n1 ≤ k := by omega
          by_cases he : (L.rAceErr (L.ax d.e k).k (L.ax d.e k).f (L.ax d.e k).m (L.ax d.e k).w != 0) = true
          · have he0 : ¬ L.rErr (L.ax d.e k) = 0 := by simpa [L.rErr] using he
            have hE : L.rAuditErr n1 k (L.ax d.e k) = L.rErr (L.ax d.e k) := by unfold L.rAuditErr; exact if_neg he0
            have hs' : Hid (d.rErrs = (((k : Nat) : Int), L.rErr (L.ax d.e k))) := Lib.hid (by rw [hq'.out, hs.out, hst.out, hax.out, hE]; exact if_neg (he0))
            clear hE he0
            go_wp2_with (refine WL.out ?_; (repeat ((refine WL.op ?_ ?_; (exact rfl); intro K hK; (first | ((first | ((with_reducible apply ow_move); exact rfl) | ((with_reducible apply ow_assign); exact rfl)); (go_simp <;> (try simp (disch := omega) only [wrap_id, sub_left, zac]) <;> rfl)) | ((first | ((with_reducible apply ow_load1 st); exact rfl; exact inferInstance; exact rfl; (first | exact get0 | exact get1)) | ((with_reducible apply ow_loadN st); exact rfl; exact inferInstance; exact rfl; (exact get0); ((try simp only [zta, ztz, zda, zdz, zca, zcn, zan, zsz, zss]) <;> exact rfl))); exact rfl) | ((((with_reducible apply ow_alloc st); exact rfl; exact inferInstance; (go_simp <;> (try simp (disch := omega) only [wrap_id, sub_left, zac]) <;> rfl))); (try clear st); intro b w' st) | ((((with_reducible apply ow_storeN' st); exact rfl; exact inferInstance; exact rfl; (exact get0); exact rfl)); exact rfl; exact rfl; (simp <;> done); ((try simp only [zta, ztz, zda, zdz, zca, zcn, zan, zsz, zss]) <;> exact rfl); (try clear st); intro w' st) | ((with_reducible apply ow_old4 st); exact rfl; exact inferInstance; exact rfl; assumption; assumption; assumption; assumption; assumption) | ((with_reducible apply ow_eval); (go_simp <;> (try simp (disch := omega) only [wrap_id, sub_left, zac]) <;> rfl); first | (with_reducible apply up_value) | ((with_reducible apply up_enter); ((go_at_call 58; refine (AceErr_any _ _ _ _ _).mono ?_; rintro e w' ⟨rfl, hb⟩; replace st := st.call hb; clear hb; refine ⟨_, rfl, ?_⟩))))); refine WL.next hK (by simp only [Act.put, zpt, zsz, zss]; exact rfl) ?_; clear hK K))); (try refine WL.nil ?_))
            all_goals go_ret2
            all_goals exact ⟨ret_pair hs'.out, st.below⟩
          have he0 : Hid (L.rErr (L.ax d.e k) = 0) := Lib.hid (by simpa [L.rErr] using he)
          simp only [Bool.not_eq_true] at he
          by_cases he2 : ((L.ax d.e k).k == 2) = true
          · have hE : L.rAuditErr n1 k (L.ax d.e k) = 15 := by unfold L.rAuditErr; rw [if_pos he0.out, he2, hau.out]; rfl
            have hs' : Hid (d.rErrs = (((k : Nat) : Int), 15)) := Lib.hid (by rw [hq'.out, hs.out, hst.out, hax.out, hE]; exact if_neg (by decide))
            clear hE
            go_wp2_with (refine WL.out ?_; (repeat ((refine WL.op ?_ ?_; (exact rfl); intro K hK; (first | ((first | ((with_reducible apply ow_move); exact rfl) | ((with_reducible apply ow_assign); exact rfl)); (go_simp <;> (try simp (disch := omega) only [wrap_id, sub_left, zac]) <;> rfl)) | ((first | ((with_reducible apply ow_load1 st); exact rfl; exact inferInstance; exact rfl; (first | exact get0 | exact get1)) | ((with_reducible apply ow_loadN st); exact rfl; exact inferInstance; exact rfl; (exact get0); ((try simp only [zta, ztz, zda, zdz, zca, zcn, zan, zsz, zss]) <;> exact rfl))); exact rfl) | ((((with_reducible apply ow_alloc st); exact rfl; exact inferInstance; (go_simp <;> (try simp (disch := omega) only [wrap_id, sub_left, zac]) <;> rfl))); (try clear st); intro b w' st) | ((((with_reducible apply ow_storeN' st); exact rfl; exact inferInstance; exact rfl; (exact get0); exact rfl)); exact rfl; exact rfl; (simp <;> done); ((try simp only [zta, ztz, zda, zdz, zca, zcn, zan, zsz, zss]) <;> exact rfl); (try clear st); intro w' st) | ((with_reducible apply ow_old4 st); exact rfl; exact inferInstance; exact rfl; assumption; assumption; assumption; assumption; assumption) | ((with_reducible apply ow_eval); (go_simp <;> (try simp (disch := omega) only [wrap_id, sub_left, zac]) <;> rfl); first | (with_reducible apply up_value) | ((with_reducible apply up_enter); ((go_at_call 58; refine (AceErr_any _ _ _ _ _).mono ?_; rintro e w' ⟨rfl, hb⟩; replace st := st.call hb; clear hb; refine ⟨_, rfl, ?_⟩))))); refine WL.next hK (by simp only [Act.put, zpt, zsz, zss]; exact rfl) ?_; clear hK K))); (try refine WL.nil ?_))
            all_goals go_ret2
            all_goals exact ⟨ret_pair hs'.out, st.below⟩
          · simp only [Bool.not_eq_true] at he2
            have hE : L.rAuditErr n1 k (L.ax d.e k) = 0 := by unfold L.rAuditErr; rw [if_pos he0.out, he2, hau.out]; rfl
            have hs' : Hid (L.each (fun i a => L.rAuditErr n1 i a) 0 (d.e ++ d.a) = L.each (fun i a => L.rAuditErr n1 i a) (k + 1) ((d.e ++ d.a).drop (k + 1))) := Lib.hid (by rw [hs.out, hst.out, hax.out, hE]; exact if_pos rfl)
            clear hE
            go_wp2_with (refine WL.out ?_; (repeat ((refine WL.op ?_ ?_; (exact rfl); intro K hK; (first | ((first | ((with_reducible apply ow_move); exact rfl) | ((with_reducible apply ow_assign); exact rfl)); (go_simp <;> (try simp (disch := omega) only [wrap_id, sub_left, zac]) <;> rfl)) | ((first | ((with_reducible apply ow_load1 st); exact rfl; exact inferInstance; exact rfl; (first | exact get0 | exact get1)) | ((with_reducible apply ow_loadN st); exact rfl; exact inferInstance; exact rfl; (exact get0); ((try simp only [zta, ztz, zda, zdz, zca, zcn, zan, zsz, zss]) <;> exact rfl))); exact rfl) | ((((with_reducible apply ow_alloc st); exact rfl; exact inferInstance; (go_simp <;> (try simp (disch := omega) only [wrap_id, sub_left, zac]) <;> rfl))); (try clear st); intro b w' st) | ((((with_reducible apply ow_storeN' st); exact rfl; exact inferInstance; exact rfl; (exact get0); exact rfl)); exact rfl; exact rfl; (simp <;> done); ((try simp only [zta, ztz, zda, zdz, zca, zcn, zan, zsz, zss]) <;> exact rfl); (try clear st); intro w' st) | ((with_reducible apply ow_old4 st); exact rfl; exact inferInstance; exact rfl; assumption; assumption; assumption; assumption; assumption) | ((with_reducible apply ow_eval); (go_simp <;> (try simp (disch := omega) only [wrap_id, sub_left, zac]) <;> rfl); first | (with_reducible apply up_value) | ((with_reducible apply up_enter); ((go_at_call 58; refine (AceErr_any _ _ _ _ _).mono ?_; rintro e w' ⟨rfl, hb⟩; replace st := st.call hb; clear hb; refine ⟨_, rfl, ?_⟩))))); refine WL.next hK (by simp only [Act.put, zpt, zsz, zss]; exact rfl) ?_; clear hK K))); (try refine WL.nil ?_))
            all_goals exact ⟨⟨k + 1, by omega, by go_num, st.tail, hs'⟩, by simp [intOf]; omega⟩
        · obtain ⟨j, rfl⟩ : ∃ j, k = n1 + j := ⟨k - n1, by omega⟩
          have hax := Lib.hid (L.ax_right d.e d.a j (by rw [← H2.out.len]; omega))
          rw [← H1.out.len] at hax
          obtain ⟨b2, o2, rfl, hb2, hc2⟩ := H2.out.at_ (by omega)
          have hb2 := Nat.lt_of_lt_of_le hb2 hB1
          obtain ⟨f1, f2, f3, f4⟩ := hc2 j (by omega)
          clear hc2
          have hau : Hid (decide (n1 ≤ n1 + j) = true) := Lib.hid (by simp)
          have hau1 : (n1 : Int) ≤ n1 + j := by omega
          have hj : j < n2 := by omega
          by_cases he : (L.rAceErr (L.ax d.a j).k (L.ax d.a j).f (L.ax d.a j).m (L.ax d.a j).w != 0) = true
          · have he0 : ¬ L.rErr (L.ax d.a j) = 0 := by simpa [L.rErr] using he
            have hE : L.rAuditErr n1 (n1 + j) (L.ax d.a j) = L.rErr (L.ax d.a j) := by unfold L.rAuditErr; exact if_neg he0
            have hs' : Hid (d.rErrs = ((((n1 + j) : Nat) : Int), L.rErr (L.ax d.a j))) := Lib.hid (by rw [hq'.out, hs.out, hst.out, hax.out, hE]; exact if_neg (he0))
            clear hE he0
            go_wp2_with (refine WL.out ?_; (repeat ((refine WL.op ?_ ?_; (exact rfl); intro K hK; (first | ((first | ((with_reducible apply ow_move); exact rfl) | ((with_reducible apply ow_assign); exact rfl)); (go_simp <;> (try simp (disch := omega) only [wrap_id, sub_left, zac]) <;> rfl)) | ((first | ((with_reducible apply ow_load1 st); exact rfl; exact inferInstance; exact rfl; (first | exact get0 | exact get1)) | ((with_reducible apply ow_loadN st); exact rfl; exact inferInstance; exact rfl; (exact get0); ((try simp only [zta, ztz, zda, zdz, zca, zcn, zan, zsz, zss]) <;> exact rfl))); exact rfl) | ((((with_reducible apply ow_alloc st); exact rfl; exact inferInstance; (go_simp <;> (try simp (disch := omega) only [wrap_id, sub_left, zac]) <;> rfl))); (try clear st); intro b w' st) | ((((with_reducible apply ow_storeN' st); exact rfl; exact inferInstance; exact rfl; (exact get0); exact rfl)); exact rfl; exact rfl; (simp <;> done); ((try simp only [zta, ztz, zda, zdz, zca, zcn, zan, zsz, zss]) <;> exact rfl); (try clear st); intro w' st) | ((with_reducible apply ow_old4 st); exact rfl; exact inferInstance; exact rfl; assumption; assumption; assumption; assumption; assumption) | ((with_reducible apply ow_eval); (go_simp <;> (try simp (disch := omega) only [wrap_id, sub_left, zac]) <;> rfl); first | (with_reducible apply up_value) | ((with_reducible apply up_enter); ((go_at_call 58; refine (AceErr_any _ _ _ _ _).mono ?_; rintro e w' ⟨rfl, hb⟩; replace st := st.call hb; clear hb; refine ⟨_, rfl, ?_⟩))))); refine WL.next hK (by simp only [Act.put, zpt, zsz, zss]; exact rfl) ?_; clear hK K))); (try refine WL.nil ?_))
            all_goals go_ret2
            all_goals exact ⟨ret_pair hs'.out, st.below⟩
          have he0 : Hid (L.rErr (L.ax d.a j) = 0) := Lib.hid (by simpa [L.rErr] using he)
          simp only [Bool.not_eq_true] at he
          by_cases he2 : ((L.ax d.a j).k == 2) = true
          · have hE : L.rAuditErr n1 (n1 + j) (L.ax d.a j) = 0 := by unfold L.rAuditErr; rw [if_pos he0.out, he2, hau.out]; rfl
            have hs' : Hid (L.each (fun i a => L.rAuditErr n1 i a) 0 (d.e ++ d.a) = L.each (fun i a => L.rAuditErr n1 i a) ((n1 + j) + 1) ((d.e ++ d.a).drop ((n1 + j) + 1))) := Lib.hid (by rw [hs.out, hst.out, hax.out, hE]; exact if_pos rfl)
            clear hE
            go_wp2_with (refine WL.out ?_; (repeat ((refine WL.op ?_ ?_; (exact rfl); intro K hK; (first | ((first | ((with_reducible apply ow_move); exact rfl) | ((with_reducible apply ow_assign); exact rfl)); (go_simp <;> (try simp (disch := omega) only [wrap_id, sub_left, zac]) <;> rfl)) | ((first | ((with_reducible apply ow_load1 st); exact rfl; exact inferInstance; exact rfl; (first | exact get0 | exact get1)) | ((with_reducible apply ow_loadN st); exact rfl; exact inferInstance; exact rfl; (exact get0); ((try simp only [zta, ztz, zda, zdz, zca, zcn, zan, zsz, zss]) <;> exact rfl))); exact rfl) | ((((with_reducible apply ow_alloc st); exact rfl; exact inferInstance; (go_simp <;> (try simp (disch := omega) only [wrap_id, sub_left, zac]) <;> rfl))); (try clear st); intro b w' st) | ((((with_reducible apply ow_storeN' st); exact rfl; exact inferInstance; exact rfl; (exact get0); exact rfl)); exact rfl; exact rfl; (simp <;> done); ((try simp only [zta, ztz, zda, zdz, zca, zcn, zan, zsz, zss]) <;> exact rfl); (try clear st); intro w' st) | ((with_reducible apply ow_old4 st); exact rfl; exact inferInstance; exact rfl; assumption; assumption; assumption; assumption; assumption) | ((with_reducible apply ow_eval); (go_simp <;> (try simp (disch := omega) only [wrap_id, sub_left, zac]) <;> rfl); first | (with_reducible apply up_value) | ((with_reducible apply up_enter); ((go_at_call 58; refine (AceErr_any _ _ _ _ _).mono ?_; rintro e w' ⟨rfl, hb⟩; replace st := st.call hb; clear hb; refine ⟨_, rfl, ?_⟩))))); refine WL.next hK (by simp only [Act.put, zpt, zsz, zss]; exact rfl) ?_; clear hK K))); (try refine WL.nil ?_))
            all_goals exact ⟨⟨(n1 + j) + 1, by omega, by go_num, st.tail, hs'⟩, by simp [intOf]; omega⟩
          · simp only [Bool.not_eq_true] at he2
            have hE : L.rAuditErr n1 (n1 + j) (L.ax d.a j) = 15 := by unfold L.rAuditErr; rw [if_pos he0.out, he2, hau.out]; rfl
            have hs' : Hid (d.rErrs = ((((n1 + j) : Nat) : Int), 15)) := Lib.hid (by rw [hq'.out, hs.out, hst.out, hax.out, hE]; exact if_neg (by decide))
            clear hE
            go_wp2_with (refine WL.out ?_; (repeat ((refine WL.op ?_ ?_; (exact rfl); intro K hK; (first | ((first | ((with_reducible apply ow_move); exact rfl) | ((with_reducible apply ow_assign); exact rfl)); (go_simp <;> (try simp (disch := omega) only [wrap_id, sub_left, zac]) <;> rfl)) | ((first | ((with_reducible apply ow_load1 st); exact rfl; exact inferInstance; exact rfl; (first | exact get0 | exact get1)) | ((with_reducible apply ow_loadN st); exact rfl; exact inferInstance; exact rfl; (exact get0); ((try simp only [zta, ztz, zda, zdz, zca, zcn, zan, zsz, zss]) <;> exact rfl))); exact rfl) | ((((with_reducible apply ow_alloc st); exact rfl; exact inferInstance; (go_simp <;> (try simp (disch := omega) only [wrap_id, sub_left, zac]) <;> rfl))); (try clear st); intro b w' st) | ((((with_reducible apply ow_storeN' st); exact rfl; exact inferInstance; exact rfl; (exact get0); exact rfl)); exact rfl; exact rfl; (simp <;> done); ((try simp only [zta, ztz, zda, zdz, zca, zcn, zan, zsz, zss]) <;> exact rfl); (try clear st); intro w' st) | ((with_reducible apply ow_old4 st); exact rfl; exact inferInstance; exact rfl; assumption; assumption; assumption; assumption; assumption) | ((with_reducible apply ow_eval); (go_simp <;> (try simp (disch := omega) only [wrap_id, sub_left, zac]) <;> rfl); first | (with_reducible apply up_value) | ((with_reducible apply up_enter); ((go_at_call 58; refine (AceErr_any _ _ _ _ _).mono ?_; rintro e w' ⟨rfl, hb⟩; replace st := st.call hb; clear hb; refine ⟨_, rfl, ?_⟩))))); refine WL.next hK (by simp only [Act.put, zpt, zsz, zss]; exact rfl) ?_; clear hK K))); (try refine WL.nil ?_))
            all_goals go_ret2
            all_goals exact ⟨ret_pair hs'.out, st.below⟩
      · go_wp2_with (refine WL.out ?_; (repeat ((refine WL.op ?_ ?_; (exact rfl); intro K hK; (first | ((((with_reducible apply ow_load1 st); exact rfl; exact inferInstance; exact rfl; (exact get0))); exact rfl) | ((with_reducible apply ow_eval); (go_simp <;> (try simp (disch := omega) only [wrap_id, sub_left, zac]) <;> rfl); ((with_reducible apply up_value)))); refine WL.next hK (by simp only [Act.put, zpt, zsz, zss]; exact rfl) ?_; clear hK K))); (try refine WL.nil ?_))
        go_ret2
        exact ⟨ret_pair (by rw [hq'.out, hs.out, L.each_nil _ _ _ (by rw [List.length_append, ← H1.out.len, ← H2.out.len]; omega)]), st.below⟩
theorem rDescriptorErr_any (d : L.Desc) (A1 A2 : Option Addr) (n1 n2 c1 c2 B : Nat) (w : World) (h1 : Aces w B A1 n1 d.e) (h2 : Aces w B A2 n2 d.a) (hB1 : B ≤ w.heap.size) (hn1 : n1 ≤ 100) (hn2 : n2 ≤ 100) :
    Calls Tryz.prog 14 #[.agg #[.int .i64 d.o, .int .i64 d.g, .bool d.p, .bool d.h, .slice A1 n1 c1, .slice A2 n2 c2]] w fun e w' => e = .returned (.int .i64 d.rErrs.2) ∧ Below w.heap.size w w' := by
  have H1 := Lib.hid h1
  have H2 := Lib.hid h2
  clear h1 h2
  have st := St.start w
  go_enter Tryz.func14, Tryz.ntmps14
  go_wp2_with (refine WL.out ?_; (repeat ((refine WL.op ?_ ?_; (exact rfl); intro K hK; (first | ((first | ((with_reducible apply ow_move); exact rfl) | ((with_reducible apply ow_assign); exact rfl)); (go_simp <;> (try simp (disch := omega) only [wrap_id, sub_left, zac]) <;> rfl)) | ((((with_reducible apply ow_loadN st); exact rfl; exact inferInstance; exact rfl; (exact get0); ((try simp only [zta, ztz, zda, zdz, zca, zcn, zan, zsz, zss]) <;> exact rfl))); exact rfl) | ((((with_reducible apply ow_box st); exact rfl; (go_simp <;> (try simp (disch := omega) only [wrap_id, sub_left, zac]) <;> rfl); (go_simp <;> (try simp (disch := omega) only [wrap_id, sub_left, zac]) <;> rfl))); (try clear st); intro b w' st) | ((with_reducible apply ow_eval); (go_simp <;> (try simp (disch := omega) only [wrap_id, sub_left, zac]) <;> rfl); first | (with_reducible apply up_value) | ((with_reducible apply up_enter); ((go_at_call 34; refine (rCheckDescriptor_any d A1 A2 n1 n2 c1 c2 B _ (H1.out.st st hB1) (H2.out.st st hB1) (Nat.le_trans hB1 st.size) hn1 hn2).mono ?_; rintro e w' ⟨rfl, hb⟩; replace st := st.call hb; clear hb; refine ⟨_, rfl, ?_⟩))))); refine WL.next hK (by simp only [Act.put, zpt, zsz, zss]; exact rfl) ?_; clear hK K))); (try refine WL.nil ?_))
  go_ret
  exact ⟨rfl, st.below⟩
end Go.Proofs.YtppjhccdgbheiaaGreatDoor
namespace Go.Proofs.YtppjhccdgbheiaaGreatDoor
open Go.RowKit Go.Hp
namespace L
def inherit (dir : Bool) (o g : Int) (a : Ace) : List Ace :=
  if (hflags dir a.f).2 = false then []
  else if isCreator a.w = false ∨ band (hflags dir a.f).1 8 ≠ 0 then [⟨a.k, (hflags dir a.f).1, a.m, a.w⟩]
  else if (hflags dir a.f).1 = 16 then [⟨a.k, 16, a.m, if a.w = 3 then g else o⟩]
  else [⟨a.k, 16, a.m, if a.w = 3 then g else o⟩, ⟨a.k, bor (hflags dir a.f).1 8, a.m, a.w⟩]
end L
theorem RetAces.one {w w' : World} {b : Nat} {rs : List Res} {l : List L.Ace} {cs : List Value} (st : St w w' (.box b 37 cs :: rs)) (n : Nat) (hn : n ≤ 100) (hc : cs = L.cellsOf l) (hl : n = l.length) : RetAces w l (.returned (.slice (some ⟨b, 0, none⟩) n n)) w' := by
  subst hc
  exact ⟨_, _, _, rfl, (st.toRow (n := n) (size := 4) (by rw [L.cellsOf_length, hl]) (by unfold maxLen; omega)).sub (.cons_cons _ (List.nil_sublist _))⟩
set_option maxHeartbeats 2000000 in
theorem inherit_any (dir : Bool) (o g : Int) (a : L.Ace) (w : World) (h0 : 0 ≤ a.f) (h1 : a.f ≤ 31) :
    Calls Tryz.prog 83 #[.agg #[.bool dir, .int .i64 o, .int .i64 g], .agg #[.int .i64 a.k, .int .i64 a.f, .int .i64 a.m, .int .i64 a.w]] w (RetAces w (L.inherit dir o g a)) := by
  have st := St.start w
  obtain ⟨F, hF⟩ : ∃ F, F = (L.hflags dir a.f).1 := ⟨_, rfl⟩
  obtain ⟨I, hI⟩ : ∃ I, I = (L.hflags dir a.f).2 := ⟨_, rfl⟩
  have hs : Hid (L.inherit dir o g a = if I = false then [] else if L.isCreator a.w = false ∨ L.band F 8 ≠ 0 then [⟨a.k, F, a.m, a.w⟩] else if F = 16 then [⟨a.k, 16, a.m, if a.w = 3 then g else o⟩] else [⟨a.k, 16, a.m, if a.w = 3 then g else o⟩, ⟨a.k, L.bor F 8, a.m, a.w⟩]) := Lib.hid (by rw [hF, hI]; rfl)
  have hflags : ∀ W : World, Calls Tryz.prog 114 #[.agg #[.bool dir, .int .i64 o, .int .i64 g], .int .i64 a.f] W fun e w' => e = .returned (.tuple #[.int .i64 F, .bool I]) ∧ Below W.heap.size W w' := fun W => by rw [hF, hI]; exact flags_any dir o g a.f W h0 h1
  have hfl := Lib.hid hflags
  clear hflags hF hI
  cases I with
  | false =>
    have hs' : Hid (L.inherit dir o g a = []) := Lib.hid (by rw [hs.out, if_pos rfl])
    go_enter Tryz.func83, Tryz.ntmps83
    go_wp2_with (refine WL.out ?_; (repeat ((refine WL.op ?_ ?_; (exact rfl); intro K hK; (first | ((first | ((with_reducible apply ow_move); exact rfl) | ((with_reducible apply ow_assign); exact rfl)); (go_simp <;> (try simp (disch := omega) only [wrap_id, sub_left, zac]) <;> rfl)) | ((first | ((with_reducible apply ow_load1 st); exact rfl; exact inferInstance; exact rfl; (exact get0)) | ((with_reducible apply ow_loadN st); exact rfl; exact inferInstance; exact rfl; (exact get1); ((try simp only [zta, ztz, zda, zdz, zca, zcn, zan, zsz, zss]) <;> exact rfl))); exact rfl) | ((((with_reducible apply ow_box st); exact rfl; (go_simp <;> (try simp (disch := omega) only [wrap_id, sub_left, zac]) <;> rfl); (go_simp <;> (try simp (disch := omega) only [wrap_id, sub_left, zac]) <;> rfl))); (try clear st); intro b w' st) | ((with_reducible apply ow_eval); (go_simp <;> (try simp (disch := omega) only [wrap_id, sub_left, zac]) <;> rfl); first | (with_reducible apply up_value) | ((with_reducible apply up_enter); ((go_at_call 114; refine (hfl.out _).mono ?_; rintro e w' ⟨rfl, hb⟩; replace st := st.call hb; clear hb; refine ⟨_, rfl, ?_⟩))))); refine WL.next hK (by simp only [Act.put, zpt, zsz, zss]; exact rfl) ?_; clear hK K))); (try refine WL.nil ?_))
    go_ret
    exact ⟨_, _, _, rfl, by rw [hs'.out]; exact ((st.sub (List.nil_sublist _)).nilRow _ _)⟩
  | true =>
    by_cases c2 : L.isCreator a.w = false
    · have hs' : Hid (L.inherit dir o g a = [⟨a.k, F, a.m, a.w⟩]) := Lib.hid (by rw [hs.out, if_neg (by decide), if_pos (.inl c2)])
      go_enter Tryz.func83, Tryz.ntmps83
      go_wp2_with (refine WL.out ?_; (repeat (first | (refine WL.op ?_ ?_; (exact rfl); intro K hK; (first | ((first | ((with_reducible apply ow_move); exact rfl) | ((with_reducible apply ow_assign); exact rfl)); (go_simp <;> (try simp (disch := omega) only [wrap_id, sub_left, zac]) <;> rfl)) | ((first | ((with_reducible apply ow_load1 st); exact rfl; exact inferInstance; exact rfl; (exact get0)) | ((with_reducible apply ow_loadN st); exact rfl; exact inferInstance; exact rfl; (first | exact get0 | exact get1); ((try simp only [zta, ztz, zda, zdz, zca, zcn, zan, zsz, zss]) <;> exact rfl))); exact rfl) | ((first | ((with_reducible apply ow_box st); exact rfl; (go_simp <;> (try simp (disch := omega) only [wrap_id, sub_left, zac]) <;> rfl); (go_simp <;> (try simp (disch := omega) only [wrap_id, sub_left, zac]) <;> rfl)) | ((with_reducible apply ow_newSlice st); exact rfl; (go_simp <;> (try simp (disch := omega) only [wrap_id, sub_left, zac]) <;> rfl); exact rfl)); (try clear st); intro b w' st) | ((((with_reducible apply ow_store1' st); exact rfl; exact inferInstance; exact rfl; (exact get0); (go_simp <;> (try simp (disch := omega) only [wrap_id, sub_left, zac]) <;> rfl))); exact rfl; exact rfl; (simp <;> done); ((try simp only [zta, ztz, zda, zdz, zca, zcn, zan, zsz, zss]) <;> exact rfl); (try clear st); intro w' st) | ((with_reducible apply ow_eval); (go_simp <;> (try simp (disch := omega) only [wrap_id, sub_left, zac]) <;> rfl); first | (with_reducible apply up_value) | ((with_reducible apply up_enter); first | (go_at_call 114; refine (hfl.out _).mono ?_; rintro e w' ⟨rfl, hb⟩; replace st := st.call hb; clear hb; refine ⟨_, rfl, ?_⟩) | (go_at_call 113; refine (isCreator_any _ _).mono ?_; rintro e w' ⟨rfl, rfl⟩; refine ⟨_, rfl, ?_⟩)))); refine WL.next hK (by simp only [Act.put, zpt, zsz, zss]; exact rfl) ?_; clear hK K) | (refine WL.skip ?_ (by simp only [Act.put, zpt, zsz, zss]; exact rfl) ?_; (exact rfl)))); (try refine WL.nil ?_))
      go_ret
      exact RetAces.one st 1 (by decide) (by rw [hs'.out]; rfl) (by rw [hs'.out]; rfl)
    · simp only [Bool.not_eq_false] at c2
      by_cases c3 : (bits BinOp.and IntKind.i64 F 8 != 0) = true
      · have hs' : Hid (L.inherit dir o g a = [⟨a.k, F, a.m, a.w⟩]) := Lib.hid (by rw [hs.out, if_neg (by decide), if_pos (.inr (by simpa [L.band] using c3))])
        go_enter Tryz.func83, Tryz.ntmps83
        go_wp2_with (refine WL.out ?_; (repeat ((refine WL.op ?_ ?_; (exact rfl); intro K hK; (first | ((first | ((with_reducible apply ow_move); exact rfl) | ((with_reducible apply ow_assign); exact rfl)); (go_simp <;> (try simp (disch := omega) only [wrap_id, sub_left, zac]) <;> rfl)) | ((first | ((with_reducible apply ow_load1 st); exact rfl; exact inferInstance; exact rfl; (exact get0)) | ((with_reducible apply ow_loadN st); exact rfl; exact inferInstance; exact rfl; (first | exact get0 | exact get1); ((try simp only [zta, ztz, zda, zdz, zca, zcn, zan, zsz, zss]) <;> exact rfl))); exact rfl) | ((first | ((with_reducible apply ow_box st); exact rfl; (go_simp <;> (try simp (disch := omega) only [wrap_id, sub_left, zac]) <;> rfl); (go_simp <;> (try simp (disch := omega) only [wrap_id, sub_left, zac]) <;> rfl)) | ((with_reducible apply ow_newSlice st); exact rfl; (go_simp <;> (try simp (disch := omega) only [wrap_id, sub_left, zac]) <;> rfl); exact rfl)); (try clear st); intro b w' st) | ((((with_reducible apply ow_store1' st); exact rfl; exact inferInstance; exact rfl; (exact get0); (go_simp <;> (try simp (disch := omega) only [wrap_id, sub_left, zac]) <;> rfl))); exact rfl; exact rfl; (simp <;> done); ((try simp only [zta, ztz, zda, zdz, zca, zcn, zan, zsz, zss]) <;> exact rfl); (try clear st); intro w' st) | ((with_reducible apply ow_eval); (go_simp <;> (try simp (disch := omega) only [wrap_id, sub_left, zac]) <;> rfl); first | (with_reducible apply up_value) | ((with_reducible apply up_enter); first | (go_at_call 114; refine (hfl.out _).mono ?_; rintro e w' ⟨rfl, hb⟩; replace st := st.call hb; clear hb; refine ⟨_, rfl, ?_⟩) | (go_at_call 113; refine (isCreator_any _ _).mono ?_; rintro e w' ⟨rfl, rfl⟩; refine ⟨_, rfl, ?_⟩)))); refine WL.next hK (by simp only [Act.put, zpt, zsz, zss]; exact rfl) ?_; clear hK K))); (try refine WL.nil ?_))
        go_ret
        exact RetAces.one st 1 (by decide) (by rw [hs'.out]; rfl) (by rw [hs'.out]; rfl)
      · have hs2 : Hid (L.inherit dir o g a = if F = 16 then [⟨a.k, 16, a.m, if a.w = 3 then g else o⟩] else [⟨a.k, 16, a.m, if a.w = 3 then g else o⟩, ⟨a.k, L.bor F 8, a.m, a.w⟩]) := Lib.hid (by rw [hs.out, if_neg (by decide), if_neg (by simpa [c2, L.band] using c3)])
        simp only [Bool.not_eq_true] at c3
        clear hs
        go_enter Tryz.func83, Tryz.ntmps83
        go_wp2_with (refine WL.out ?_; (repeat ((refine WL.op ?_ ?_; (exact rfl); intro K hK; (first | ((first | ((with_reducible apply ow_move); exact rfl) | ((with_reducible apply ow_assign); exact rfl)); (go_simp <;> (try simp (disch := omega) only [wrap_id, sub_left, zac]) <;> rfl)) | ((first | ((with_reducible apply ow_load1 st); exact rfl; exact inferInstance; exact rfl; (exact get0)) | ((with_reducible apply ow_loadN st); exact rfl; exact inferInstance; exact rfl; (first | exact get0 | exact get1); ((try simp only [zta, ztz, zda, zdz, zca, zcn, zan, zsz, zss]) <;> exact rfl))); exact rfl) | ((first | ((with_reducible apply ow_box st); exact rfl; (go_simp <;> (try simp (disch := omega) only [wrap_id, sub_left, zac]) <;> rfl); (go_simp <;> (try simp (disch := omega) only [wrap_id, sub_left, zac]) <;> rfl)) | ((with_reducible apply ow_alloc st); exact rfl; exact inferInstance; (go_simp <;> (try simp (disch := omega) only [wrap_id, sub_left, zac]) <;> rfl))); (try clear st); intro b w' st) | ((first | ((with_reducible apply ow_store1' st); exact rfl; exact inferInstance; exact rfl; (exact get0); (go_simp <;> (try simp (disch := omega) only [wrap_id, sub_left, zac]) <;> rfl)) | ((with_reducible apply ow_storeN' st); exact rfl; exact inferInstance; exact rfl; (exact get0); exact rfl)); exact rfl; exact rfl; (simp <;> done); ((try simp only [zta, ztz, zda, zdz, zca, zcn, zan, zsz, zss]) <;> exact rfl); (try clear st); intro w' st) | ((with_reducible apply ow_eval); (go_simp <;> (try simp (disch := omega) only [wrap_id, sub_left, zac]) <;> rfl); first | (with_reducible apply up_value) | ((with_reducible apply up_enter); first | (go_at_call 114; refine (hfl.out _).mono ?_; rintro e w' ⟨rfl, hb⟩; replace st := st.call hb; clear hb; refine ⟨_, rfl, ?_⟩) | (go_at_call 113; refine (isCreator_any _ _).mono ?_; rintro e w' ⟨rfl, rfl⟩; refine ⟨_, rfl, ?_⟩)))); refine WL.next hK (by simp only [Act.put, zpt, zsz, zss]; exact rfl) ?_; clear hK K))); (try refine WL.nil ?_))
        (replace st := st.drew; apply wp_region_st 6 rfl (by kernel_rfl); (focus (refine WA.two (i := 0) (j := 2) (by kernel_rfl) ?_ ?_; (apply WO.at; (exact nth0); (exact rfl); intro K hK; (((with_reducible apply ow_eval); (go_simp <;> (try simp (disch := omega) only [wrap_id, sub_left, zac]) <;> rfl); (with_reducible apply up_value))); refine WA.next hK (by simp only [Act.put, zpt, zsz, zss]; exact rfl) ?_; clear hK K); refine WA.two (i := 1) (j := 2) (by kernel_rfl) ?_ ?_; (apply WO.at; (exact nth1); (exact rfl); intro K hK; (((((with_reducible apply ow_load1 st); exact rfl; exact inferInstance; exact rfl; (exact get2))); exact rfl)); refine WA.next hK (by simp only [Act.put, zpt, zsz, zss]; exact rfl) ?_; clear hK K); refine WA.one (i := 2) (by kernel_rfl) ?_; (apply WO.at; (exact nth2); (exact rfl); intro K hK; (((with_reducible apply ow_eval); (go_simp <;> (try simp (disch := omega) only [wrap_id, sub_left, zac]) <;> rfl); (with_reducible apply up_value))); refine WA.next hK (by simp only [Act.put, zpt, zsz, zss]; exact rfl) ?_; clear hK K); refine WA.one (i := 3) (by kernel_rfl) ?_; (apply WO.at; (exact nth3); (exact rfl); intro K hK; (((((with_reducible apply ow_store1' st); exact rfl; exact inferInstance; exact rfl; (exact get0); (go_simp <;> (try simp (disch := omega) only [wrap_id, sub_left, zac]) <;> rfl))); exact rfl; exact rfl; (simp <;> done); ((try simp only [zta, ztz, zda, zdz, zca, zcn, zan, zsz, zss]) <;> exact rfl); (try clear st); intro w' st)); refine WA.next hK (by simp only [Act.put, zpt, zsz, zss]; exact rfl) ?_; clear hK K); refine WA.one (i := 4) (by kernel_rfl) ?_; (apply WO.at; (exact nth4); (exact rfl); intro K hK; (((with_reducible apply ow_eval); (go_simp <;> (try simp (disch := omega) only [wrap_id, sub_left, zac]) <;> rfl); (with_reducible apply up_value))); refine WA.next hK (by simp only [Act.put, zpt, zsz, zss]; exact rfl) ?_; clear hK K); refine WA.one (i := 5) (by kernel_rfl) ?_; (apply WO.at; (exact nth5); (exact rfl); intro K hK; (((((with_reducible apply ow_store1' st); exact rfl; exact inferInstance; exact rfl; (exact get0); (go_simp <;> (try simp (disch := omega) only [wrap_id, sub_left, zac]) <;> rfl))); exact rfl; exact rfl; (simp <;> done); ((try simp only [zta, ztz, zda, zdz, zca, zcn, zan, zsz, zss]) <;> exact rfl); (try clear st); intro w' st)); refine WA.next hK (by simp only [Act.put, zpt, zsz, zss]; exact rfl) ?_; clear hK K); (refine WA.done (by kernel_rfl) ?_; exact ⟨rfl, rfl, st⟩); (apply WO.at; (exact nth2); (exact rfl); intro K hK; (((with_reducible apply ow_eval); (go_simp <;> (try simp (disch := omega) only [wrap_id, sub_left, zac]) <;> rfl); (with_reducible apply up_value))); refine WA.next hK (by simp only [Act.put, zpt, zsz, zss]; exact rfl) ?_; clear hK K); refine WA.two (i := 1) (j := 3) (by kernel_rfl) ?_ ?_; (apply WO.at; (exact nth1); (exact rfl); intro K hK; (((((with_reducible apply ow_load1 st); exact rfl; exact inferInstance; exact rfl; (exact get2))); exact rfl)); refine WA.next hK (by simp only [Act.put, zpt, zsz, zss]; exact rfl) ?_; clear hK K); refine WA.one (i := 3) (by kernel_rfl) ?_; (apply WO.at; (exact nth3); (exact rfl); intro K hK; (((((with_reducible apply ow_store1' st); exact rfl; exact inferInstance; exact rfl; (exact get0); (go_simp <;> (try simp (disch := omega) only [wrap_id, sub_left, zac]) <;> rfl))); exact rfl; exact rfl; (simp <;> done); ((try simp only [zta, ztz, zda, zdz, zca, zcn, zan, zsz, zss]) <;> exact rfl); (try clear st); intro w' st)); refine WA.next hK (by simp only [Act.put, zpt, zsz, zss]; exact rfl) ?_; clear hK K); refine WA.one (i := 4) (by kernel_rfl) ?_; (apply WO.at; (exact nth4); (exact rfl); intro K hK; (((with_reducible apply ow_eval); (go_simp <;> (try simp (disch := omega) only [wrap_id, sub_left, zac]) <;> rfl); (with_reducible apply up_value))); refine WA.next hK (by simp only [Act.put, zpt, zsz, zss]; exact rfl) ?_; clear hK K); refine WA.one (i := 5) (by kernel_rfl) ?_; (apply WO.at; (exact nth5); (exact rfl); intro K hK; (((((with_reducible apply ow_store1' st); exact rfl; exact inferInstance; exact rfl; (exact get0); (go_simp <;> (try simp (disch := omega) only [wrap_id, sub_left, zac]) <;> rfl))); exact rfl; exact rfl; (simp <;> done); ((try simp only [zta, ztz, zda, zdz, zca, zcn, zan, zsz, zss]) <;> exact rfl); (try clear st); intro w' st)); refine WA.next hK (by simp only [Act.put, zpt, zsz, zss]; exact rfl) ?_; clear hK K); (refine WA.done (by kernel_rfl) ?_; exact ⟨rfl, rfl, st⟩); (apply WO.at; (exact nth3); (exact rfl); intro K hK; (((((with_reducible apply ow_store1' st); exact rfl; exact inferInstance; exact rfl; (exact get0); (go_simp <;> (try simp (disch := omega) only [wrap_id, sub_left, zac]) <;> rfl))); exact rfl; exact rfl; (simp <;> done); ((try simp only [zta, ztz, zda, zdz, zca, zcn, zan, zsz, zss]) <;> exact rfl); (try clear st); intro w' st)); refine WA.next hK (by simp only [Act.put, zpt, zsz, zss]; exact rfl) ?_; clear hK K); refine WA.one (i := 1) (by kernel_rfl) ?_; (apply WO.at; (exact nth1); (exact rfl); intro K hK; (((((with_reducible apply ow_load1 st); exact rfl; exact inferInstance; exact rfl; (exact get2))); exact rfl)); refine WA.next hK (by simp only [Act.put, zpt, zsz, zss]; exact rfl) ?_; clear hK K); refine WA.one (i := 4) (by kernel_rfl) ?_; (apply WO.at; (exact nth4); (exact rfl); intro K hK; (((with_reducible apply ow_eval); (go_simp <;> (try simp (disch := omega) only [wrap_id, sub_left, zac]) <;> rfl); (with_reducible apply up_value))); refine WA.next hK (by simp only [Act.put, zpt, zsz, zss]; exact rfl) ?_; clear hK K); refine WA.one (i := 5) (by kernel_rfl) ?_; (apply WO.at; (exact nth5); (exact rfl); intro K hK; (((((with_reducible apply ow_store1' st); exact rfl; exact inferInstance; exact rfl; (exact get0); (go_simp <;> (try simp (disch := omega) only [wrap_id, sub_left, zac]) <;> rfl))); exact rfl; exact rfl; (simp <;> done); ((try simp only [zta, ztz, zda, zdz, zca, zcn, zan, zsz, zss]) <;> exact rfl); (try clear st); intro w' st)); refine WA.next hK (by simp only [Act.put, zpt, zsz, zss]; exact rfl) ?_; clear hK K); (refine WA.done (by kernel_rfl) ?_; exact ⟨rfl, rfl, st⟩); (apply WO.at; (exact nth2); (exact rfl); intro K hK; (((with_reducible apply ow_eval); (go_simp <;> (try simp (disch := omega) only [wrap_id, sub_left, zac]) <;> rfl); (with_reducible apply up_value))); refine WA.next hK (by simp only [Act.put, zpt, zsz, zss]; exact rfl) ?_; clear hK K); refine WA.two (i := 0) (j := 3) (by kernel_rfl) ?_ ?_; (apply WO.at; (exact nth0); (exact rfl); intro K hK; (((with_reducible apply ow_eval); (go_simp <;> (try simp (disch := omega) only [wrap_id, sub_left, zac]) <;> rfl); (with_reducible apply up_value))); refine WA.next hK (by simp only [Act.put, zpt, zsz, zss]; exact rfl) ?_; clear hK K); refine WA.two (i := 1) (j := 3) (by kernel_rfl) ?_ ?_; (apply WO.at; (exact nth1); (exact rfl); intro K hK; (((((with_reducible apply ow_load1 st); exact rfl; exact inferInstance; exact rfl; (exact get2))); exact rfl)); refine WA.next hK (by simp only [Act.put, zpt, zsz, zss]; exact rfl) ?_; clear hK K); refine WA.one (i := 3) (by kernel_rfl) ?_; (apply WO.at; (exact nth3); (exact rfl); intro K hK; (((((with_reducible apply ow_store1' st); exact rfl; exact inferInstance; exact rfl; (exact get0); (go_simp <;> (try simp (disch := omega) only [wrap_id, sub_left, zac]) <;> rfl))); exact rfl; exact rfl; (simp <;> done); ((try simp only [zta, ztz, zda, zdz, zca, zcn, zan, zsz, zss]) <;> exact rfl); (try clear st); intro w' st)); refine WA.next hK (by simp only [Act.put, zpt, zsz, zss]; exact rfl) ?_; clear hK K); refine WA.one (i := 4) (by kernel_rfl) ?_; (apply WO.at; (exact nth4); (exact rfl); intro K hK; (((with_reducible apply ow_eval); (go_simp <;> (try simp (disch := omega) only [wrap_id, sub_left, zac]) <;> rfl); (with_reducible apply up_value))); refine WA.next hK (by simp only [Act.put, zpt, zsz, zss]; exact rfl) ?_; clear hK K); refine WA.one (i := 5) (by kernel_rfl) ?_; (apply WO.at; (exact nth5); (exact rfl); intro K hK; (((((with_reducible apply ow_store1' st); exact rfl; exact inferInstance; exact rfl; (exact get0); (go_simp <;> (try simp (disch := omega) only [wrap_id, sub_left, zac]) <;> rfl))); exact rfl; exact rfl; (simp <;> done); ((try simp only [zta, ztz, zda, zdz, zca, zcn, zan, zsz, zss]) <;> exact rfl); (try clear st); intro w' st)); refine WA.next hK (by simp only [Act.put, zpt, zsz, zss]; exact rfl) ?_; clear hK K); (refine WA.done (by kernel_rfl) ?_; exact ⟨rfl, rfl, st⟩); (apply WO.at; (exact nth3); (exact rfl); intro K hK; (((((with_reducible apply ow_store1' st); exact rfl; exact inferInstance; exact rfl; (exact get0); (go_simp <;> (try simp (disch := omega) only [wrap_id, sub_left, zac]) <;> rfl))); exact rfl; exact rfl; (simp <;> done); ((try simp only [zta, ztz, zda, zdz, zca, zcn, zan, zsz, zss]) <;> exact rfl); (try clear st); intro w' st)); refine WA.next hK (by simp only [Act.put, zpt, zsz, zss]; exact rfl) ?_; clear hK K); refine WA.one (i := 1) (by kernel_rfl) ?_; (apply WO.at; (exact nth1); (exact rfl); intro K hK; (((((with_reducible apply ow_load1 st); exact rfl; exact inferInstance; exact rfl; (exact get2))); exact rfl)); refine WA.next hK (by simp only [Act.put, zpt, zsz, zss]; exact rfl) ?_; clear hK K); refine WA.one (i := 4) (by kernel_rfl) ?_; (apply WO.at; (exact nth4); (exact rfl); intro K hK; (((with_reducible apply ow_eval); (go_simp <;> (try simp (disch := omega) only [wrap_id, sub_left, zac]) <;> rfl); (with_reducible apply up_value))); refine WA.next hK (by simp only [Act.put, zpt, zsz, zss]; exact rfl) ?_; clear hK K); refine WA.one (i := 5) (by kernel_rfl) ?_; (apply WO.at; (exact nth5); (exact rfl); intro K hK; (((((with_reducible apply ow_store1' st); exact rfl; exact inferInstance; exact rfl; (exact get0); (go_simp <;> (try simp (disch := omega) only [wrap_id, sub_left, zac]) <;> rfl))); exact rfl; exact rfl; (simp <;> done); ((try simp only [zta, ztz, zda, zdz, zca, zcn, zan, zsz, zss]) <;> exact rfl); (try clear st); intro w' st)); refine WA.next hK (by simp only [Act.put, zpt, zsz, zss]; exact rfl) ?_; clear hK K); (refine WA.done (by kernel_rfl) ?_; exact ⟨rfl, rfl, st⟩); (apply WO.at; (exact nth3); (exact rfl); intro K hK; (((((with_reducible apply ow_store1' st); exact rfl; exact inferInstance; exact rfl; (exact get0); (go_simp <;> (try simp (disch := omega) only [wrap_id, sub_left, zac]) <;> rfl))); exact rfl; exact rfl; (simp <;> done); ((try simp only [zta, ztz, zda, zdz, zca, zcn, zan, zsz, zss]) <;> exact rfl); (try clear st); intro w' st)); refine WA.next hK (by simp only [Act.put, zpt, zsz, zss]; exact rfl) ?_; clear hK K); refine WA.one (i := 0) (by kernel_rfl) ?_; (apply WO.at; (exact nth0); (exact rfl); intro K hK; (((with_reducible apply ow_eval); (go_simp <;> (try simp (disch := omega) only [wrap_id, sub_left, zac]) <;> rfl); (with_reducible apply up_value))); refine WA.next hK (by simp only [Act.put, zpt, zsz, zss]; exact rfl) ?_; clear hK K); refine WA.one (i := 1) (by kernel_rfl) ?_; (apply WO.at; (exact nth1); (exact rfl); intro K hK; (((((with_reducible apply ow_load1 st); exact rfl; exact inferInstance; exact rfl; (exact get2))); exact rfl)); refine WA.next hK (by simp only [Act.put, zpt, zsz, zss]; exact rfl) ?_; clear hK K); refine WA.one (i := 4) (by kernel_rfl) ?_; (apply WO.at; (exact nth4); (exact rfl); intro K hK; (((with_reducible apply ow_eval); (go_simp <;> (try simp (disch := omega) only [wrap_id, sub_left, zac]) <;> rfl); (with_reducible apply up_value))); refine WA.next hK (by simp only [Act.put, zpt, zsz, zss]; exact rfl) ?_; clear hK K); refine WA.one (i := 5) (by kernel_rfl) ?_; (apply WO.at; (exact nth5); (exact rfl); intro K hK; (((((with_reducible apply ow_store1' st); exact rfl; exact inferInstance; exact rfl; (exact get0); (go_simp <;> (try simp (disch := omega) only [wrap_id, sub_left, zac]) <;> rfl))); exact rfl; exact rfl; (simp <;> done); ((try simp only [zta, ztz, zda, zdz, zca, zcn, zan, zsz, zss]) <;> exact rfl); (try clear st); intro w' st)); refine WA.next hK (by simp only [Act.put, zpt, zsz, zss]; exact rfl) ?_; clear hK K); (refine WA.done (by kernel_rfl) ?_; exact ⟨rfl, rfl, st⟩))); (try clear st); intro w' st)
        by_cases c4 : (a.w == 3) = true
        · by_cases c5 : (F == 16) = true
          · have hs' : Hid (L.inherit dir o g a = [⟨a.k, 16, a.m, g⟩]) := Lib.hid (by rw [hs2.out, if_pos (by simpa using c5), if_pos (by simpa using c4)])
            go_wp2_with (refine WL.out ?_; (repeat ((refine WL.op ?_ ?_; (exact rfl); intro K hK; (first | ((((with_reducible apply ow_assign); exact rfl)); (go_simp <;> (try simp (disch := omega) only [wrap_id, sub_left, zac]) <;> rfl)) | ((first | ((with_reducible apply ow_load1 st); exact rfl; exact inferInstance; exact rfl; (first | exact get1 | exact get2)) | ((with_reducible apply ow_loadN st); exact rfl; exact inferInstance; exact rfl; (exact get0); ((try simp only [zta, ztz, zda, zdz, zca, zcn, zan, zsz, zss]) <;> exact rfl))); exact rfl) | ((((with_reducible apply ow_newSlice st); exact rfl; (go_simp <;> (try simp (disch := omega) only [wrap_id, sub_left, zac]) <;> rfl); exact rfl)); (try clear st); intro b w' st) | ((((with_reducible apply ow_store1' st); exact rfl; exact inferInstance; exact rfl; (exact get0); (go_simp <;> (try simp (disch := omega) only [wrap_id, sub_left, zac]) <;> rfl))); exact rfl; exact rfl; (simp <;> done); ((try simp only [zta, ztz, zda, zdz, zca, zcn, zan, zsz, zss]) <;> exact rfl); (try clear st); intro w' st) | ((with_reducible apply ow_eval); (go_simp <;> (try simp (disch := omega) only [wrap_id, sub_left, zac]) <;> rfl); ((with_reducible apply up_value)))); refine WL.next hK (by simp only [Act.put, zpt, zsz, zss]; exact rfl) ?_; clear hK K))); (try refine WL.nil ?_))
            go_ret
            exact RetAces.one st 1 (by decide) (by rw [hs'.out]; rfl) (by rw [hs'.out]; rfl)
          · have hs' : Hid (L.inherit dir o g a = [⟨a.k, 16, a.m, g⟩, ⟨a.k, bits BinOp.or IntKind.i64 F 8, a.m, a.w⟩]) := Lib.hid (by rw [hs2.out, if_neg (by simpa using c5), if_pos (by simpa using c4)]; rfl)
            go_wp2_with (refine WL.out ?_; (repeat ((refine WL.op ?_ ?_; (exact rfl); intro K hK; (first | ((((with_reducible apply ow_assign); exact rfl)); (go_simp <;> (try simp (disch := omega) only [wrap_id, sub_left, zac]) <;> rfl)) | ((first | ((with_reducible apply ow_load1 st); exact rfl; exact inferInstance; exact rfl; (first | exact get1 | exact get2)) | ((with_reducible apply ow_loadN st); exact rfl; exact inferInstance; exact rfl; (first | exact get0 | exact get1); ((try simp only [zta, ztz, zda, zdz, zca, zcn, zan, zsz, zss]) <;> exact rfl))); exact rfl) | ((((with_reducible apply ow_newSlice st); exact rfl; (go_simp <;> (try simp (disch := omega) only [wrap_id, sub_left, zac]) <;> rfl); exact rfl)); (try clear st); intro b w' st) | ((((with_reducible apply ow_store1' st); exact rfl; exact inferInstance; exact rfl; (first | exact get0 | exact get1); (go_simp <;> (try simp (disch := omega) only [wrap_id, sub_left, zac]) <;> rfl))); exact rfl; exact rfl; (simp <;> done); ((try simp only [zta, ztz, zda, zdz, zca, zcn, zan, zsz, zss]) <;> exact rfl); (try clear st); intro w' st) | ((with_reducible apply ow_eval); (go_simp <;> (try simp (disch := omega) only [wrap_id, sub_left, zac]) <;> rfl); ((with_reducible apply up_value)))); refine WL.next hK (by simp only [Act.put, zpt, zsz, zss]; exact rfl) ?_; clear hK K))); (try refine WL.nil ?_))
            go_ret
            exact RetAces.one st 2 (by decide) (by rw [hs'.out]; rfl) (by rw [hs'.out]; rfl)
        · by_cases c5 : (F == 16) = true
          · have hs' : Hid (L.inherit dir o g a = [⟨a.k, 16, a.m, o⟩]) := Lib.hid (by rw [hs2.out, if_pos (by simpa using c5), if_neg (by simpa using c4)])
            go_wp2_with (refine WL.out ?_; (repeat ((refine WL.op ?_ ?_; (exact rfl); intro K hK; (first | ((((with_reducible apply ow_assign); exact rfl)); (go_simp <;> (try simp (disch := omega) only [wrap_id, sub_left, zac]) <;> rfl)) | ((first | ((with_reducible apply ow_load1 st); exact rfl; exact inferInstance; exact rfl; (exact get1)) | ((with_reducible apply ow_loadN st); exact rfl; exact inferInstance; exact rfl; (exact get0); ((try simp only [zta, ztz, zda, zdz, zca, zcn, zan, zsz, zss]) <;> exact rfl))); exact rfl) | ((((with_reducible apply ow_newSlice st); exact rfl; (go_simp <;> (try simp (disch := omega) only [wrap_id, sub_left, zac]) <;> rfl); exact rfl)); (try clear st); intro b w' st) | ((with_reducible apply ow_eval); (go_simp <;> (try simp (disch := omega) only [wrap_id, sub_left, zac]) <;> rfl); ((with_reducible apply up_value)))); refine WL.next hK (by simp only [Act.put, zpt, zsz, zss]; exact rfl) ?_; clear hK K))); (try refine WL.nil ?_))
            go_ret
            exact RetAces.one st 1 (by decide) (by rw [hs'.out]; rfl) (by rw [hs'.out]; rfl)
          · have hs' : Hid (L.inherit dir o g a = [⟨a.k, 16, a.m, o⟩, ⟨a.k, bits BinOp.or IntKind.i64 F 8, a.m, a.w⟩]) := Lib.hid (by rw [hs2.out, if_neg (by simpa using c5), if_neg (by simpa using c4)]; rfl)
            go_wp2_with (refine WL.out ?_; (repeat ((refine WL.op ?_ ?_; (exact rfl); intro K hK; (first | ((((with_reducible apply ow_assign); exact rfl)); (go_simp <;> (try simp (disch := omega) only [wrap_id, sub_left, zac]) <;> rfl)) | ((first | ((with_reducible apply ow_load1 st); exact rfl; exact inferInstance; exact rfl; (exact get1)) | ((with_reducible apply ow_loadN st); exact rfl; exact inferInstance; exact rfl; (first | exact get0 | exact get1); ((try simp only [zta, ztz, zda, zdz, zca, zcn, zan, zsz, zss]) <;> exact rfl))); exact rfl) | ((((with_reducible apply ow_newSlice st); exact rfl; (go_simp <;> (try simp (disch := omega) only [wrap_id, sub_left, zac]) <;> rfl); exact rfl)); (try clear st); intro b w' st) | ((((with_reducible apply ow_store1' st); exact rfl; exact inferInstance; exact rfl; (exact get1); (go_simp <;> (try simp (disch := omega) only [wrap_id, sub_left, zac]) <;> rfl))); exact rfl; exact rfl; (simp <;> done); ((try simp only [zta, ztz, zda, zdz, zca, zcn, zan, zsz, zss]) <;> exact rfl); (try clear st); intro w' st) | ((with_reducible apply ow_eval); (go_simp <;> (try simp (disch := omega) only [wrap_id, sub_left, zac]) <;> rfl); ((with_reducible apply up_value)))); refine WL.next hK (by simp only [Act.put, zpt, zsz, zss]; exact rfl) ?_; clear hK K))); (try refine WL.nil ?_))
            go_ret
            exact RetAces.one st 2 (by decide) (by rw [hs'.out]; rfl) (by rw [hs'.out]; rfl)
end Go.Proofs.YtppjhccdgbheiaaGreatDoor
