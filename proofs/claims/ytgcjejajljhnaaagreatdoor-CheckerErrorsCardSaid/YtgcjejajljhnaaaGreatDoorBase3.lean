/- Own text, part Base 3: walks of the package acl and of its reference, and the plain laws that they lean on; no statement of the seat is here. -/
import Derived.Test.YtgcjejajljhnaaaGreatDoorBase2
import Derived.Maps.AppendAt
import Derived.Lib.AppendZeros
import Derived.Lib.Hide
import Derived.Deep.AppendSrc
import Derived.Test.YtgcjejajljhnaaaGreatDoorProg
import Derived.WalkSpells
import Derived.WalkLawsBesides
import Derived.Deep.QuietTactic
import Derived.Deep.CutRange
import Derived.BigQuiet
import Derived.Laws.StructEq
import Derived.Laws.IdiomStrings
import Derived.Laws.IdiomCopy
set_option linter.all false
namespace Go.Hp
open Go.RowKit
def Rd (w : World) (B size : Nat) (A : Option Addr) (n : Nat) (xs : List Value) : Prop :=
  xs.length = n * size ∧ (0 < n → ∃ b o, A = some ⟨b, o, none⟩ ∧ b < B ∧ ∀ j u, xs[j]? = some u → w.cell? ⟨b, o + j, none⟩ = some u)
section
variable {w w' : World} {B B' size n : Nat} {A : Option Addr} {xs : List Value}
theorem Rd.nil (A : Option Addr) : Rd w B size A 0 [] := ⟨by simp, fun h => absurd h (by omega)⟩
theorem Rd.keep (h : Rd w B size A n xs) (hk : ∀ b o, b < B → w'.cell? ⟨b, o, none⟩ = w.cell? ⟨b, o, none⟩) : Rd w' B size A n xs := by
  refine ⟨h.1, fun hn => ?_⟩
  obtain ⟨b, o, hA, hb, hc⟩ := h.2 hn
  exact ⟨b, o, hA, hb, fun j u hj => (hk _ _ hb).trans (hc j u hj)⟩
theorem Rd.below (h : Rd w B size A n xs) (hb : Below B' w w') (hB : B ≤ B') : Rd w' B size A n xs := h.keep fun b o hbo => hb.cell (p := ⟨b, o, none⟩) (by simp; omega)
theorem Rd.more (h : Rd w B size A n xs) (hB : B ≤ B') : Rd w B' size A n xs := by
  refine ⟨h.1, fun hn => ?_⟩
  obtain ⟨b, o, hA, hb, hc⟩ := h.2 hn
  exact ⟨b, o, hA, by omega, hc⟩
theorem Rd.of_row {base : Nat} {e : TypeId} {c : Nat} (h : w.ownsRow base e size (.slice A n c) n xs) : Rd w w.heap.size size A n xs := by
  refine ⟨h.1, fun hn => ?_⟩
  rcases h.2 with ⟨hv, h0⟩ | ⟨g, cap, cur, hv, hbase, hg, hnc, hcap, hsz, htake⟩
  · omega
  · injection hv with hA
    subst hA
    refine ⟨g, 0, rfl, (Array.getElem?_eq_some_iff.1 hg).1, fun j u hj => ?_⟩
    rw [Nat.zero_add, cell_of_row w g j cur e (0, 0) hg]
    rw [← htake, List.getElem?_take] at hj
    split at hj
    · simpa using hj
    · cases hj
end
class SliceT (P : Program) (t : TypeId) (e : outParam TypeId) (z : outParam Value) (size bytes : outParam Nat) : Prop where
  under : P.underlying t = some (.slice e)
  info : (P.info? e).map (fun i => (i.zero, i.size, i.bytes)) = some (some z, size, bytes)
  cells : z.cells.size = size
  pos : 0 < size
section
variable {P : Program} {ops : Array Oper} {rest : List Oper} {o : Oper} {a : Act} {w0 w : World} {rs : List Res} {Q : Exit → Act → World → Prop}
theorem St.nilRow (st : St w0 w rs) (e : TypeId) (size : Nat) : St w0 w (.row e size (.slice none 0 0) 0 [] :: rs) :=
  st.cons (World.ownsRow_nil w _ e size) fun s _ k hk _ => by cases hk
theorem St.rd {i e size n c : Nat} {A : Option Addr} {xs : List Value} (st : St w0 w rs) (hi : rs[i]? = some (.row e size (.slice A n c) n xs)) : Rd w w.heap.size size A n xs := Rd.of_row (st.get hi)
theorem St.rdBox {i b n size : Nat} {t : TypeId} {cs : List Value} (st : St w0 w rs) (hi : rs[i]? = some (.box b t cs)) (hn : cs.length = n * size) : Rd w w.heap.size size (some ⟨b, 0, none⟩) n cs :=
  ⟨hn, fun _ => ⟨b, 0, rfl, (Res.holds_lt (st.get hi) rfl).2, fun j u hj => by rw [Nat.zero_add, st.cell hi]; exact hj⟩⟩
theorem box_row {B b n size : Nat} {t : TypeId} {cs : List Value} (h : (Res.box b t cs).holds B w) (hn : cs.length = n * size) (hm : n ≤ maxLen) : w.ownsRow B t size (.slice (some ⟨b, 0, none⟩) n n) n cs :=
  ⟨hn, .inr ⟨b, n, cs.toArray, rfl, h.1, h.2, Nat.le_refl _, hm, by simpa using hn, by rw [← hn]; simp⟩⟩
theorem St.toRow {b n size : Nat} {t : TypeId} {cs : List Value} (st : St w0 w (.box b t cs :: rs)) (hn : cs.length = n * size) (hm : n ≤ maxLen) : St w0 w (.row t size (.slice (some ⟨b, 0, none⟩) n n) n cs :: rs) :=
  st.tail.cons (box_row (st.holds _ (List.mem_cons_self ..)) hn hm) fun s hs k hk => (List.pairwise_cons.1 st.apart).1 s hs k hk
theorem run_append_of_none (t ty e : TypeId) (i : TypeInfo) (base size : Nat) (ht : P.underlying t = some (.slice e)) (hi : P.info? e = some i) (v : Value) (n : Nat) (xs : List Value) (hown : w.ownsRow base e size v n xs) (c : Nat) :
    (Builtin.append_ #[t, t] ty #[v, .slice none 0 c]).run P w = .ok v w := by
  rcases hown.2 with ⟨rfl, rfl⟩ | ⟨g, cap, cur, rfl, _, _, hnc, _⟩
  · simp [Builtin.append_, run_underlying ht, sizeOf, typeInfo, hi, Builtin.lenOf, Builtin.firstCells]
  · simp [Builtin.append_, run_underlying ht, sizeOf, typeInfo, hi, Builtin.lenOf, Builtin.firstCells, hnc, storeCells]
theorem run_append_rd (base n m B c2 t ty e : Nat) {z : Value} {size bytes : Nat} (hT : SliceT P t e z size bytes) (v : Value) (A : Option Addr) (xs news : List Value) (hown : w.ownsRow base e size v n xs) (hs : Rd w B size A m news)
    (h1 : ∀ u ∈ news, u.oneCell' = true) (h63 : n + m ≤ maxLen) (hbytes : (n + m) * bytes ≤ 140737488355328) (hbase : base ≤ w.heap.size) :
    ∃ A' c' w', (Builtin.append_ #[t, t] ty #[v, .slice A m c2]).run P w = .ok (.slice A' (n + m) c') w' ∧ w'.ownsRow base e size (.slice A' (n + m) c') (n + m) (xs ++ news) ∧ w.grownBy w' v.ownBlock ∧
      ∀ k, (Value.slice A' (n + m) c').ownBlock = some k → v.ownBlock = some k ∨ w.heap.size ≤ k := by
  obtain ⟨i0, hi, hz0, hz1, hz2⟩ := info_parts hT.info
  have form : ∀ {v' : Value} {w' : World} {k : Nat} {ys : List Value}, w'.ownsRow base e size v' k ys → ∃ A' c', v' = .slice A' k c' := by
    intro v' w' k ys h
    rcases h.2 with ⟨rfl, rfl⟩ | ⟨g, cap, cur, rfl, _⟩
    · exact ⟨none, 0, rfl⟩
    · exact ⟨_, cap, rfl⟩
  rcases A with _ | ad
  · have hm : m = 0 := by
      rcases Nat.eq_zero_or_pos m with h0 | h0
      · exact h0
      · obtain ⟨b, o, hA, _⟩ := hs.2 h0
        cases hA
    subst hm
    have hl : news = [] := List.eq_nil_of_length_eq_zero (by simpa using hs.1)
    subst hl
    obtain ⟨A', c', rfl⟩ := form hown
    exact ⟨A', c', w, run_append_of_none t ty e i0 base size hT.under hi _ n xs hown c2, by simpa using hown, World.grownBy.refl w _, fun k hk => .inl hk⟩
  · have hcells : ∀ j u, news[j]? = some u → w.cell? (ad.add j) = some u := by
      intro j u hu
      have hj : j < news.length := (List.getElem?_eq_some_iff.1 hu).1
      rw [hs.1] at hj
      have hm0 : 0 < m := by
        rcases Nat.eq_zero_or_pos m with h0 | h0
        · subst h0; simp at hj
        · exact h0
      obtain ⟨b, o, hA, _, hc⟩ := hs.2 hm0
      obtain rfl := Option.some.inj hA
      rw [add_lit]
      exact hc j u hu
    obtain ⟨v', w', hrun, h2, h3, _, h5⟩ := run_append_own_at (P := P) w base t ty e i0 z size bytes hT.under hi hz0 hz1 hz2 hT.cells hT.pos v n xs hown ad m c2 news hs.1 hcells h1 h63 hbytes hbase
    obtain ⟨A', c', rfl⟩ := form h2
    refine ⟨A', c', w', hrun, h2, h3, fun k hk => ?_⟩
    rcases h5 with h5 | h5
    · exact .inl (h5 ▸ hk)
    · rw [h5] at hk
      cases hk
      exact .inr (Nat.le_refl _)
theorem wp_append {t e : TypeId} {z : Value} {size bytes : Nat} (i : Nat) {s x : Operand} {n m c2 B : Nat} {v : Value} {A : Option Addr} {xs news : List Value} {K : Act → World → Prop} (st : St w0 w rs)
    (ho : o.op = .call { callee := .builtin .append, args := #[s, x], argTypes := #[t, t] }) (hT : SliceT P t e z size bytes) (hi : rs[i]? = some (.row e size v n xs)) (hv : a.eval s = v) (hx : a.eval x = .slice A m c2)
    (hs : Rd w B size A m news) (h1 : ∀ u ∈ news, u.oneCell' = true) (h63 : n + m ≤ maxLen) (hbytes : (n + m) * bytes ≤ 140737488355328)
    (h : ∀ A' c' w', St w0 w' (rs.set i (.row e size (.slice A' (n + m) c') (n + m) (xs ++ news))) → K (a.put o.dst (.slice A' (n + m) c')) w') : o.wp P a w K Q := by
  obtain ⟨A', c', w', hrun, h2, h3, h4⟩ := run_append_rd w0.heap.size n m B c2 t o.type e hT v A xs news (st.get hi) hs h1 h63 hbytes st.size
  exact Lib.wp_append_run w s x t t ho _ _ hv hx _ _ hrun (h A' c' w' (st.upd hi h3 h2 h4))
theorem ow_append {t e : TypeId} {z : Value} {size bytes : Nat} (i : Nat) {s x : Operand} {n m c2 B : Nat} {v : Value} {A : Option Addr} {xs news : List Value} {K : Act → World → Prop} (st : St w0 w rs)
    (ho : o.op = .call { callee := .builtin .append, args := #[s, x], argTypes := #[t, t] }) (hT : SliceT P t e z size bytes) (hi : rs[i]? = some (.row e size v n xs)) (hv : a.eval s = v) (hx : a.eval x = .slice A m c2)
    (hs : Rd w B size A m news) (h1 : ∀ u ∈ news, u.oneCell' = true) (h63 : n + m ≤ maxLen) (hbytes : (n + m) * bytes ≤ 140737488355328)
    (h : ∀ A' c' w', St w0 w' (rs.set i (.row e size (.slice A' (n + m) c') (n + m) (xs ++ news))) → K (a.put o.dst (.slice A' (n + m) c')) w') : OW P o a w K Q := OW.mk (wp_append i st ho hT hi hv hx hs h1 h63 hbytes h)
theorem wp_rowN {t n : Nat} {x : Operand} {K : Act → World → Prop} {b p : Nat} {vs : List Value} (ho : o.op = .load t x) (hT : AggT P t n) (hx : a.eval x = .pointer (some ⟨b, p, none⟩)) (hn : vs.length = n) (hc : ∀ j v, vs[j]? = some v → w.cell? ⟨b, p + j, none⟩ = some v)
    (h : K (a.put o.dst (.agg vs.toArray)) w) : o.wp P a w K Q := by
  refine wp_value ?_ h
  have := run_loadN (P := P) (t := t) (hT := hT) (w := w) (b := b) (o := p) hn hc
  simp [execOp, ho, hx, this]
theorem Res.row_reslice {B e size n m c : Nat} {xs : List Value} {A : Option Addr} (h : (Res.row e size (.slice A n c) n xs).holds B w) (hm : m ≤ n) : (Res.row e size (.slice A m c) m (xs.take (m * size))).holds B w := by
  have hl := h.1
  have hms : m * size ≤ n * size := Nat.mul_le_mul_right _ hm
  refine ⟨by rw [List.length_take, hl]; omega, ?_⟩
  rcases h.2 with ⟨hv, h0⟩ | ⟨g, cap, cur, hv, hbase, hg, hnc, hcap, hsz, htake⟩
  · injection hv with h1 h2 h3
    subst h1; subst h3
    have : m = 0 := by omega
    subst this
    exact .inl ⟨rfl, rfl⟩
  · injection hv with h1 h2 h3
    subst h1; subst h3
    exact .inr ⟨g, _, cur, rfl, hbase, hg, by omega, hcap, hsz, by rw [← htake, List.take_take]; congr 1; omega⟩
theorem Res.holds_mono {B B' : Nat} {r : Res} (h : r.holds B w) (hB : B' ≤ B) : r.holds B' w := by
  cases r with
  | box b t cs => exact ⟨Nat.le_trans hB h.1, h.2⟩
  | row e size v n xs =>
    refine ⟨h.1, ?_⟩
    rcases h.2 with hn | ⟨g, cap, cur, hv, hb, rest⟩
    · exact .inl hn
    · exact .inr ⟨g, cap, cur, hv, Nat.le_trans hB hb, rest⟩
  | obj b o => exact ⟨Nat.le_trans hB h.1, h.2⟩
  | room n => exact h
theorem St.join {w' : World} {rs' : List Res} (st : St w0 w rs) (st' : St w w' rs') : St w0 w' (rs' ++ rs) := by
  have h := st.call st'.below
  refine ⟨h.below, fun r hr => ?_, List.pairwise_append.2 ⟨st'.apart, st.apart, fun r hr s hs k hk hk' => ?_⟩⟩
  · rcases List.mem_append.1 hr with hr | hr
    · exact Res.holds_mono (st'.holds r hr) st.size
    · exact h.holds r hr
  · have h1 := (Res.holds_lt (st'.holds r hr) hk).1
    have h2 := (Res.holds_lt (st.holds s hs) hk').2
    omega
theorem sub_left (a b : Int) : a + b - a = b := by omega
theorem wrap_id {n : Int} (h0 : -9223372036854775808 ≤ n) (h1 : n < 9223372036854775808) : IntKind.i64.wrap n = n := by rw [IntKind.wrap_i64]; omega
theorem St.reslice {e size n m c : Nat} {xs : List Value} {A : Option Addr} (st : St w0 w (.row e size (.slice A n c) n xs :: rs)) (hm : m ≤ n) : St w0 w (.row e size (.slice A m c) m (xs.take (m * size)) :: rs) :=
  st.tail.cons (Res.row_reslice (st.holds _ (List.mem_cons_self ..)) hm) fun s hs k hk => (List.pairwise_cons.1 st.apart).1 s hs k (by cases A <;> exact hk)
theorem ow_zeros {t tn e : TypeId} {z : Value} {size bytes : Nat} {k kn : IntKind} {s x : Operand} {n : Nat} {K : Act → World → Prop} (st : St w0 w rs)
    (ho : o.op = .call { callee := .builtin .append, args := #[s, x], argTypes := #[t, tn] }) (hT : SliceT P t e z size bytes) (htn : P.underlying tn = some (.int kn)) (hv : a.eval s = .slice none 0 0) (hx : a.eval x = .int k n)
    (h0 : 0 < n) (hn : n ≤ maxLen) (hb : n * bytes ≤ 281474976710656)
    (h : ∀ b c w', St w0 w' (.row e size (.slice (some ⟨b, 0, none⟩) n c) n (Builtin.zeroCells z.cells n).toList :: rs) → K (a.put o.dst (.slice (some ⟨b, 0, none⟩) n c)) w') : OW P o a w K Q := by
  obtain ⟨i0, hi, hz0, hz1, hz2⟩ := info_parts hT.info
  have hc := hT.cells
  have hp := hT.pos
  unfold maxLen at hn
  have h1 := grownCap_ge w n 0 e
  have h2 := grownCap_le_maxLen w n 0 e (by unfold maxLen; omega)
  have hrun := Lib.run_append_nil_zeros (P := P) w t tn o.type e i0 z k kn hT.under htn hi hz0 n h0 (by omega) (by omega) (by rw [hz2]; exact hb)
  refine OW.mk (Lib.wp_append_run w s x t tn ho _ _ hv hx _ _ hrun (h _ _ _ ?_))
  have hzl : ∀ m, (Builtin.zeroCells z.cells m).size = m * size := fun m => by simp [Builtin.zeroCells, hc]
  refine st.drew.fresh ((Below.refl _ _).alloc (Nat.le_refl _) _) ⟨by rw [Array.length_toList, hzl], .inr ⟨_, _, _, rfl, Nat.le_refl _, heap_alloc_new _ _, h1, h2, ?_, ?_⟩⟩
  · rw [Array.size_append, hzl, hzl, ← Nat.add_mul]; congr 1; omega
  · rw [Array.toList_append, List.take_append_of_le_length (by rw [Array.length_toList, hzl]; exact Nat.le_refl _), List.take_of_length_le (by rw [Array.length_toList, hzl]; exact Nat.le_refl _)]
end
end Go.Hp
namespace Go.Hp
open Go.RowKit
inductive MixK where
  | val (x : Value)
  | fact (φ : Phi)
  | free (x : Value)
  | store
def MixK.phi : MixK → Phi
  | .val x => isV x
  | .fact φ => φ
  | .free x => isV x
  | .store => fun _ _ _ _ => True
def MixK.isFree : MixK → Bool
  | .free _ => true
  | _ => false
def MixK.isStore : MixK → Bool
  | .store => true
  | _ => false
def fixF : List MixK → List Value → List Value
  | .free x :: Φ, _ :: xs => x :: fixF Φ xs
  | .val _ :: Φ, y :: xs => y :: fixF Φ xs
  | .fact _ :: Φ, y :: xs => y :: fixF Φ xs
  | .store :: Φ, y :: xs => y :: fixF Φ xs
  | [], xs => xs
  | _ :: _, [] => []
theorem fixF_eq : ∀ (Φ : List MixK) (xs ys : List Value), ys.length = xs.length → xs.length = Φ.length → (∀ (k : Nat) (x : Value), Φ[k]? = some (.free x) → ys.getD k undef = x) →
    (∀ (k : Nat) (φ : MixK), Φ[k]? = some φ → φ.isFree = false → ys.getD k undef = xs.getD k undef) → fixF Φ xs = ys
  | [], [], [], _, _, _, _ => rfl
  | [], x :: xs, _, _, h, _, _ => by simp at h
  | φ :: Φ, [], _, _, h, _, _ => by simp at h
  | φ :: Φ, x :: xs, [], h, _, _, _ => by simp at h
  | φ :: Φ, x :: xs, y :: ys, h1, h2, hf, hn => by
    have ih := fixF_eq Φ xs ys (by simpa using h1) (by simpa using h2) (fun k x hk => by have := hf (k + 1) x (by simpa using hk); simpa using this) (fun k φ hk hfr => by have := hn (k + 1) φ (by simpa using hk) hfr; simpa using this)
    cases φ with
    | free z =>
      have := hf 0 z rfl
      simp only [List.getD_cons_zero] at this
      subst this
      simp only [fixF, ih]
    | val z =>
      have := hn 0 _ rfl rfl
      simp only [List.getD_cons_zero] at this
      subst this
      simp only [fixF, ih]
    | fact z =>
      have := hn 0 _ rfl rfl
      simp only [List.getD_cons_zero] at this
      subst this
      simp only [fixF, ih]
    | store =>
      have := hn 0 _ rfl rfl
      simp only [List.getD_cons_zero] at this
      subst this
      simp only [fixF, ih]
section
variable {P : Program} {Q : Exit → Act → World → Prop} {a : Act} {w : World} {l : List Oper} {n s : Nat} {Φ : List MixK}
def MixDeps (l : List Oper) (n : Nat) (Φ : List MixK) (B i : Nat) (xs : List Value) (w1 : World) : Prop :=
  ∀ k φ, k < n → Region.waitsFor .any l.toArray i k = true → Φ[k]? = some φ → ∃ lo hi, B ≤ lo ∧ hi ≤ w1.heap.size ∧ φ.phi lo hi (xs.getD k undef) w1
structure MixPre (l : List Oper) (n s : Nat) (Φ : List MixK) (a : Act) (w : World) (L : Array Bool) (a' : Act) (w1 : World) : Prop where
  phi : PhiInv l n (Φ.map MixK.phi) a w L a' w1
  not : L.getD s false = false
def SameBelow (n₀ : Nat) (w w2 : World) : Prop := ∀ b o, b < n₀ → w2.cell? ⟨b, o, none⟩ = w.cell? ⟨b, o, none⟩
theorem SameBelow.of_below {n₀ B : Nat} {w w2 : World} (h : Below B w w2) (hn : n₀ ≤ B) : SameBelow n₀ w w2 := fun b o hb => h.cell (p := ⟨b, o, none⟩) (show b < B by omega)
theorem SameBelow.of_st {w0 w w2 : World} {rs rs' : List Res} (st : St w0 w rs) (st' : St w0 w2 rs') : SameBelow w0.heap.size w w2 := fun b o hb => (st'.old hb).trans (st.old hb).symm
structure MixPost (n₀ : Nat) (P : Program) (Q : Exit → Act → World → Prop) (l : List Oper) (n s : Nat) (Φ : List MixK) (a : Act) (w : World) (L : Array Bool) (a' : Act) (w2 : World) : Prop where
  inv : HeadInv .any l.toArray n L
  low : SameBelow n₀ w w2
  is : L.getD s false = true
  all : ∀ k φ, k < n → Φ[k]? = some φ → φ.isFree = false → L.getD k false = true
  ex : ∃ (xs : List Value) (w1 : World), xs.length = n ∧ a' = fillA (l.take n) xs a ∧ Below w.heap.size w w1 ∧
    (∀ (k : Nat) (φ : MixK), Φ[k]? = some φ → φ.isFree = false → ∃ lo hi, w.heap.size ≤ lo ∧ hi ≤ w1.heap.size ∧ φ.phi lo hi (xs.getD k undef) w1) ∧
    (∀ (k : Nat) (x : Value), Φ[k]? = some (.free x) → L.getD k false = true → xs.getD k undef = x) ∧
    (∀ ys : List Value, ys.length = n → (∀ (k : Nat) (x : Value), Φ[k]? = some (.free x) → ys.getD k undef = x) → (∀ (k : Nat) (φ : MixK), Φ[k]? = some φ → φ.isFree = false → ys.getD k undef = xs.getD k undef) →
      wpList P l.toArray Q (l.drop n) (fillA (l.take n) ys a) w2)
theorem wp_region_mix0 {id n₀ : Nat} (hn₀ : n₀ ≤ w.drew.heap.size) (hm : P.follows .mixedOrders = true) (hB : phiB l n = true) (hΦ : Φ.length = n) (hs : s < n) (hst : Φ[s]? = some .store) (one : ∀ k, Φ[k]? = some .store → k = s) (stable : ∀ φ ∈ Φ, φ.phi.stable)
    (waits : ∀ (k : Nat) (φ : MixK), k < n → k ≠ s → Φ[k]? = some φ → φ.isFree = false → ∃ j, k < j ∧ j ≤ s ∧ Region.waitsFor .any l.toArray j k = true ∧ (j = s ∨ ∃ φj, Φ[j]? = some φj ∧ φj.isFree = false))
    (step : ∀ i o φ, i < n → i ≠ s → l[i]? = some o → Φ[i]? = some φ → φ.isFree = false → ∀ xs : List Value, xs.length = n → ∀ w1, Below w.drew.heap.size w.drew w1 → MixDeps l n Φ w.drew.heap.size i xs w1 → Yphi P l.toArray o (fillA (l.take n) xs a) w1 φ.phi)
    (free : ∀ i o x, i < n → l[i]? = some o → Φ[i]? = some (.free x) → ∀ xs : List Value, xs.length = n → ∀ w1, Below w.drew.heap.size w.drew w1 → MixDeps l n Φ w.drew.heap.size i xs w1 → ∀ w2, SameBelow n₀ w.drew w2 → YX P l.toArray o (fillA (l.take n) xs a) w2 x)
    (store : ∀ o, l[s]? = some o → ∀ (xs : List Value) (lo hi : Nat → Nat) w1, xs.length = n → Below w.drew.heap.size w.drew w1 →
      (∀ (k : Nat) (φ : MixK), Φ[k]? = some φ → φ.isFree = false → φ.isStore = false → w.drew.heap.size ≤ lo k ∧ hi k ≤ w1.heap.size ∧ φ.phi (lo k) (hi k) (xs.getD k undef) w1) →
      (∀ j k, j < n → k < n → j ≠ k → hi j ≤ lo k ∨ hi k ≤ lo j) →
      Region.wanted o (yielded l.toArray (fillA (l.take n) xs a).tmps) = true ∧ o.wp P (fillA (l.take n) xs a) w1 (fun a' w2 => ∃ v, a' = (fillA (l.take n) xs a).put o.dst v ∧ SameBelow n₀ w.drew w2 ∧ wpList P l.toArray Q (l.drop n) (fillA (l.take n) (fixF Φ (xs.set s v)) a) w2) (fun _ _ _ => False)) :
    (Code.region id l.toArray true).wp P Q a w := by
  have hB' := hB
  simp only [phiB, Bool.and_eq_true, decide_eq_true_eq, Bool.or_eq_true] at hB'
  obtain ⟨⟨⟨⟨hdist, hn⟩, hback⟩, _⟩, _⟩ := hB'
  have htl : (l.take n).length = n := by simp; omega
  have getD_step : ∀ (xs : List Value) (i k : Nat) (v : Value), xs.length = n → i < n → (xs.set i v).getD k undef = if k = i then v else xs.getD k undef := by
    intro xs i k v hl hi
    split
    · rename_i h; subst h; simp [List.getD, hl, hi]
    · rename_i h; simp [List.getD, List.getElem?_set_ne (Ne.symm h)]
  refine wp_region_head hm hB (fun L a1 w1 => MixPre l n s Φ a w.drew L a1 w1 ∨ MixPost n₀ P Q l n s Φ a w.drew L a1 w1) (fun L a1 w1 h => ?_) (fun L a1 w1 i o hI hin hun ho hdeps => ?_) (fun L a1 w1 hI hall => ?_) (.inl ⟨⟨start_inv, Below.refl _ _,
      ⟨(l.take n).map (fun o => match o.dst with | some d => a.tmps.getD d undef | none => undef), fun _ => 0, fun _ => 0, by simp; omega, (fillA_self _ a).symm, fun k φ _ hl => (by rw [getD_replicate_false] at hl; cases hl), fun j k _ hj _ => (by rw [getD_replicate_false] at hj; cases hj)⟩⟩, getD_replicate_false _ _⟩)
  · rcases h with h | h
    · exact h.phi.inv
    · exact h.inv
  · have hsz : L.size = l.length := by rcases hI with h | h; simpa using h.phi.inv.size; simpa using h.inv.size
    have hlt : i < L.size := by omega
    have hrdy : i ∈ Region.ready .any l.toArray L := mem_ready.2 ⟨getD_in hlt hun, o, by simpa using ho, hdeps⟩
    have hφ : ∃ φ, Φ[i]? = some φ := ⟨Φ[i]'(by omega), List.getElem?_eq_getElem (by omega)⟩
    obtain ⟨φ, hφ⟩ := hφ
    have hdep : ∀ k, Region.waitsFor .any l.toArray i k = true → L.getD k false = true := fun k hwt => by
      obtain ⟨o2, ho2, e, he, hb, hon⟩ := Region.waitsFor_spec hwt
      have : o2 = o := Option.some.inj (ho2.symm.trans (by simpa using ho))
      subst this
      have := hdeps e he hb
      rwa [hon] at this
    have htrue : (L.setIfInBounds i true).getD i false = true := by simp [hlt]
    rcases hI with hI | hI
    · obtain ⟨xs, lo, hi, hlen, rfl, h1, h2⟩ := hI.phi.ex
      have hb0 := hI.phi.below.size
      have hfact : ∀ (k : Nat) (φk : MixK), Φ[k]? = some φk → L.getD k false = true → w.drew.heap.size ≤ lo k ∧ hi k ≤ w1.heap.size ∧ φk.phi (lo k) (hi k) (xs.getD k undef) w1 := fun k φk hk hl =>
        h1 k φk.phi (by rw [List.getElem?_map, hk]; rfl) hl
      have hD : MixDeps l n Φ w.drew.heap.size i xs w1 := fun k φk hk hwt hφk => ⟨lo k, hi k, hfact k φk hφk (hdep k hwt)⟩
      by_cases his : i = s
      · subst his
        have hnf0 : ∀ (m k : Nat) (φk : MixK), i - k ≤ m → k < n → k ≠ i → Φ[k]? = some φk → φk.isFree = false → L.getD k false = true := by
          intro m
          induction m with
          | zero =>
            intro k φk hm hk hne hφk hf
            obtain ⟨j, h1, h2, _⟩ := waits k φk hk hne hφk hf
            omega
          | succ m ihm =>
            intro k φk hm hk hne hφk hf
            obtain ⟨j, h1, h2, h3, h4⟩ := waits k φk hk hne hφk hf
            by_cases hji : j = i
            · subst hji; exact hdep k h3
            · obtain ⟨φj, hφj, hfj⟩ := h4.resolve_left hji
              have hjl := ihm j φj (by omega) (by omega) hji hφj hfj
              obtain ⟨o2, ho2, e, he, hb, hon⟩ := Region.waitsFor_spec h3
              have := hI.phi.inv.closed j o2 ho2 hjl e he hb
              rwa [hon] at this
        have hnf : ∀ (k : Nat) (φk : MixK), k < n → k ≠ i → Φ[k]? = some φk → φk.isFree = false → L.getD k false = true := fun k φk => hnf0 (i - k) k φk (Nat.le_refl _)
        have hlo : ∀ (k : Nat) (φk : MixK), Φ[k]? = some φk → φk.isFree = false → φk.isStore = false → k ≠ i ∧ L.getD k false = true := fun k φk hk hf hst' => by
          have hne : k ≠ i := fun e => by
            subst e
            have : φk = .store := Option.some.inj (hk.symm.trans hst)
            subst this
            cases hst'
          exact ⟨hne, hnf k φk (by rw [← hΦ]; exact (List.getElem?_eq_some_iff.1 hk).1) hne hk hf⟩
        obtain ⟨hw, hy⟩ := store o ho xs (fun k => if L.getD k false then lo k else w1.heap.size) (fun k => if L.getD k false then hi k else 0) w1 hlen hI.phi.below
          (fun k φk hk hf hst' => by
            obtain ⟨_, hl⟩ := hlo k φk hk hf hst'
            simp only [hl, if_true]
            exact hfact k φk hk hl)
          (fun j k hj hk hjk => by
            cases hlj : L.getD j false with
            | false => left; simp
            | true =>
              cases hlk : L.getD k false with
              | false => right; simp
              | true => simpa using h2 j k hjk hlj hlk)
        refine .inl ⟨hw, wp_strong (fun a2 w2 ⟨v, e, hlow, h3⟩ => .inr ?_) hy⟩
        subst e
        refine ⟨hI.phi.inv.set hrdy hin, hlow, htrue, fun k φk hk hφk hf => ?_, xs.set i v, w1, by simpa using hlen, fillA_put (l.take n) xs a i o v hdist (by rw [List.getElem?_take, if_pos hin]; exact ho) (by rw [hlen, htl]), hI.phi.below, fun k φk hφk hf => ?_, fun k x hφk hl => ?_, fun ys hy1 hy2 hy3 => ?_⟩
        · by_cases hki : k = i
          · subst hki; exact htrue
          · rw [getD_set_ne false (Ne.symm hki)]
            exact hnf k φk hk hki hφk hf
        · by_cases hki : k = i
          · subst hki
            have : φk = .store := Option.some.inj (hφk.symm.trans hst)
            subst this
            exact ⟨_, 0, Nat.le_refl _, Nat.zero_le _, True.intro⟩
          · rw [getD_step xs i k v hlen hin, if_neg hki]
            exact ⟨lo k, hi k, hfact k φk hφk (hnf k φk (by rw [← hΦ]; exact (List.getElem?_eq_some_iff.1 hφk).1) hki hφk hf)⟩
        · by_cases hki : k = i
          · subst hki
            rw [hst] at hφk
            cases hφk
          · rw [getD_set_ne false (Ne.symm hki)] at hl
            rw [getD_step xs i k v hlen hin, if_neg hki]
            exact (hfact k _ hφk hl).2.2
        · rw [← fixF_eq Φ (xs.set i v) ys (by rw [hy1, List.length_set, hlen]) (by rw [List.length_set, hlen, hΦ]) hy2 hy3]
          exact h3
      · have hnext : ∀ v w2, Below w1.heap.size w1 w2 → φ.phi w1.heap.size w2.heap.size v w2 → MixPre l n s Φ a w.drew (L.setIfInBounds i true) ((fillA (l.take n) xs a).put o.dst v) w2 := by
          intro v w2 hb hv
          refine ⟨⟨hI.phi.inv.set hrdy hin, hI.phi.below.trans (hb.mono hb0), xs.set i v, fun k => if k = i then w1.heap.size else lo k, fun k => if k = i then w2.heap.size else hi k, by simpa using hlen, ?_, ?_, ?_⟩, ?_⟩
          · exact fillA_put (l.take n) xs a i o v hdist (by rw [List.getElem?_take, if_pos hin]; exact ho) (by rw [hlen, htl])
          · intro k ψ hk hlk
            rw [List.getElem?_map] at hk
            obtain ⟨φk, hφk, rfl⟩ := Option.map_eq_some_iff.1 hk
            rw [getD_step xs i k v hlen hin]
            by_cases hki : k = i
            · subst hki
              have : φk = φ := Option.some.inj (hφk.symm.trans hφ)
              subst this
              simp only [if_true]
              exact ⟨hb0, Nat.le_refl _, hv⟩
            · rw [getD_set_ne false (Ne.symm hki)] at hlk
              obtain ⟨b1, b2, b3⟩ := hfact k φk hφk hlk
              simp only [hki, if_false]
              exact ⟨b1, Nat.le_trans b2 hb.size, stable φk (List.mem_of_getElem? hφk) _ _ _ _ _ hb b2 b3⟩
          · intro j k hjk hj hk
            have hle : ∀ m, m ≠ i → (L.setIfInBounds i true).getD m false = true → hi m ≤ w1.heap.size := fun m hm hml => by
              rw [getD_set_ne false (Ne.symm hm)] at hml
              rcases Nat.lt_or_ge m n with hmn | hmn
              · exact (hfact m (Φ[m]'(by omega)) (List.getElem?_eq_getElem (by omega)) hml).2.1
              · rcases Nat.lt_or_ge m l.length with hm2 | hm2
                · have := hI.phi.inv.tail m hmn (by simpa using hm2)
                  rw [getD_both this] at hml; cases hml
                · simp [Array.getElem?_eq_none (show L.size ≤ m by omega)] at hml
            by_cases hji : j = i
            · subst hji
              simp only [if_true, if_neg (Ne.symm hjk)]
              exact .inr (hle k (Ne.symm hjk) hk)
            · by_cases hki : k = i
              · subst hki
                simp only [if_true, if_neg hji]
                exact .inl (hle j hji hj)
              · simp only [if_neg hji, if_neg hki]
                rw [getD_set_ne false (Ne.symm hji)] at hj
                rw [getD_set_ne false (Ne.symm hki)] at hk
                exact h2 j k hjk hj hk
          · rw [getD_set_ne false his]; exact hI.not
        have hy : Yphi P l.toArray o (fillA (l.take n) xs a) w1 φ.phi := by
          cases hfr : φ.isFree with
          | false => exact step i o φ hin his ho hφ hfr xs hlen w1 hI.phi.below hD
          | true =>
            cases φ with
            | free x =>
              rcases free i o x hin ho hφ xs hlen w1 hI.phi.below hD w1 (SameBelow.of_below hI.phi.below hn₀) with ⟨h3, h4⟩ | ⟨h3, h4⟩
              · refine .inl ⟨h3, wp_strong (fun a2 w2 ⟨e1, e2⟩ => ?_) h4⟩
                subst e1; subst e2
                exact ⟨x, rfl, Below.refl _ _, rfl⟩
              · exact .inr ⟨h3, h4.symm⟩
            | val x => cases hfr
            | fact x => cases hfr
            | store => cases hfr
        rcases hy with ⟨hw, hy⟩ | ⟨hw, hy⟩
        · refine .inl ⟨hw, wp_strong (fun a2 w2 ⟨v, e, hb, hv⟩ => .inl ?_) hy⟩
          subst e
          exact hnext v w2 hb hv
        · exact .inr ⟨hw, .inl (hnext undef w1 (Below.refl _ _) hy)⟩
    · obtain ⟨xs, w0, hlen, rfl, hb, h1, h2, h3⟩ := hI.ex
      have hfree : ∃ x, φ = .free x := by
        cases φ with
        | free x => exact ⟨x, rfl⟩
        | val x => have := hI.all i _ hin hφ rfl; rw [hun] at this; cases this
        | fact x => have := hI.all i _ hin hφ rfl; rw [hun] at this; cases this
        | store => have := hI.all i _ hin hφ rfl; rw [hun] at this; cases this
      obtain ⟨x, rfl⟩ := hfree
      have hD : MixDeps l n Φ w.drew.heap.size i xs w0 := fun k φk hk hwt hφk => by
        cases hfr : φk.isFree with
        | false => exact h1 k φk hφk hfr
        | true =>
          cases φk with
          | free y => exact ⟨_, 0, Nat.le_refl _, Nat.zero_le _, h2 k y hφk (hdep k hwt)⟩
          | val y => cases hfr
          | fact y => cases hfr
          | store => cases hfr
      have hnext : MixPost n₀ P Q l n s Φ a w.drew (L.setIfInBounds i true) ((fillA (l.take n) xs a).put o.dst x) w1 := by
        have his : i ≠ s := fun e => by subst e; rw [hst] at hφ; cases hφ
        refine ⟨hI.inv.set hrdy hin, hI.low, by rw [getD_set_ne false his]; exact hI.is, fun k φk hk hφk hf => ?_, xs.set i x, w0, by simpa using hlen, ?_, hb, fun k φk hφk hf => ?_, fun k y hφk hl => ?_, fun ys hy1 hy2 hy3 => ?_⟩
        · by_cases hki : k = i
          · subst hki; exact htrue
          · rw [getD_set_ne false (Ne.symm hki)]; exact hI.all k φk hk hφk hf
        · exact fillA_put (l.take n) xs a i o x hdist (by rw [List.getElem?_take, if_pos hin]; exact ho) (by rw [hlen, htl])
        · rw [getD_step xs i k x hlen hin]
          have hki : k ≠ i := fun e => by
            subst e
            have : φk = .free x := Option.some.inj (hφk.symm.trans hφ)
            subst this
            cases hf
          rw [if_neg hki]
          exact h1 k φk hφk hf
        · rw [getD_step xs i k x hlen hin]
          by_cases hki : k = i
          · subst hki
            rw [if_pos rfl]
            have := Option.some.inj (hφk.symm.trans hφ)
            injection this with h
            exact h.symm
          · rw [if_neg hki]
            rw [getD_set_ne false (Ne.symm hki)] at hl
            exact h2 k y hφk hl
        · refine h3 ys hy1 hy2 fun k φk hφk hf => ?_
          have := hy3 k φk hφk hf
          rw [getD_step xs i k x hlen hin] at this
          have hki : k ≠ i := fun e => by
            subst e
            have : φk = .free x := Option.some.inj (hφk.symm.trans hφ)
            subst this
            cases hf
          rwa [if_neg hki] at this
      rcases free i o x hin ho hφ xs hlen w0 hb hD w1 hI.low with ⟨hw, hy⟩ | ⟨hw, hy⟩
      · refine .inl ⟨hw, wp_strong (fun a2 w2 ⟨e1, e2⟩ => .inr ?_) hy⟩
        subst e1; subst e2
        exact hnext
      · exact .inr ⟨hw, .inr (hy ▸ hnext)⟩
  · rcases hI with hI | hI
    · have := hall s hs
      rw [hI.not] at this
      cases this
    · obtain ⟨xs, w0, hlen, rfl, hb, h1, h2, h3⟩ := hI.ex
      exact h3 xs hlen (fun k x hk => h2 k x hk (hall k (by rw [← hΦ]; exact (List.getElem?_eq_some_iff.1 hk).1))) (fun _ _ _ _ => rfl)
end
end Go.Hp
namespace Go.Hp
open Go.RowKit
def depM (Φ : List MixK) (B : Nat) (xs : List Value) (w1 : World) (G : Prop) : List Edge → Prop
  | [] => G
  | e :: es =>
    match Region.binds .any e, Φ[e.on]? with
    | true, some (.val x) => xs.getD e.on undef = x → depM Φ B xs w1 G es
    | true, some (.free x) => xs.getD e.on undef = x → depM Φ B xs w1 G es
    | true, some (.fact φ) => ∀ lo hi, B ≤ lo → hi ≤ w1.heap.size → φ lo hi (xs.getD e.on undef) w1 → depM Φ B xs w1 G es
    | _, _ => depM Φ B xs w1 G es
theorem depM_spec {Φ : List MixK} {B : Nat} {xs : List Value} {w1 : World} {G : Prop} : ∀ (es : List Edge), depM Φ B xs w1 G es →
    (∀ e ∈ es, Region.binds .any e = true → ∀ k, Φ[e.on]? = some k → ∃ lo hi, B ≤ lo ∧ hi ≤ w1.heap.size ∧ k.phi lo hi (xs.getD e.on undef) w1) → G
  | [], h, _ => h
  | e :: es, h, hd => by
    have ht := fun h' => depM_spec (Φ := Φ) (B := B) (xs := xs) (w1 := w1) (G := G) es h' (fun e' he' => hd e' (List.mem_cons_of_mem _ he'))
    unfold depM at h
    split at h
    · rename_i x hb hk
      obtain ⟨_, _, _, _, h3⟩ := hd e (List.mem_cons_self ..) hb _ hk
      exact ht (h h3)
    · rename_i x hb hk
      obtain ⟨_, _, _, _, h3⟩ := hd e (List.mem_cons_self ..) hb _ hk
      exact ht (h h3)
    · rename_i φ hb hk
      obtain ⟨lo, hi, h1, h2, h3⟩ := hd e (List.mem_cons_self ..) hb _ hk
      exact ht (h lo hi h1 h2 h3)
    · exact ht h
section
variable {P : Program} {Q : Exit → Act → World → Prop} {a : Act} {w : World} {l : List Oper} {n s n₀ : Nat}
def mixOb (n₀ : Nat) (P : Program) (l : List Oper) (n s : Nat) (a : Act) (w : World) (i : Nat) (Φ : List MixK) (k : MixK) : Prop :=
  match l[i]? with
  | some o => (match k with
    | .store => decide (i = s) = true
    | .free x => allV n fun xs => ∀ w1, Below w.heap.size w w1 → depM Φ w.heap.size xs w1 (∀ w2, SameBelow n₀ w w2 → YX P l.toArray o (fillA (l.take n) xs a) w2 x) o.after.toList
    | .val x => allV n fun xs => ∀ w1, Below w.heap.size w w1 → depM Φ w.heap.size xs w1 (Yphi P l.toArray o (fillA (l.take n) xs a) w1 (isV x)) o.after.toList
    | .fact φ => allV n fun xs => ∀ w1, Below w.heap.size w w1 → depM Φ w.heap.size xs w1 (Yphi P l.toArray o (fillA (l.take n) xs a) w1 φ) o.after.toList)
  | none => False
def allMix (B : Nat) (lo hi : Nat → Nat) (w1 : World) : Nat → List MixK → List Value → Prop → Prop
  | k, .val x :: Φ, y :: ys, G => y = x → allMix B lo hi w1 (k + 1) Φ ys G
  | k, .fact φ :: Φ, y :: ys, G => B ≤ lo k → hi k ≤ w1.heap.size → φ (lo k) (hi k) y w1 → allMix B lo hi w1 (k + 1) Φ ys G
  | k, .free _ :: Φ, _ :: ys, G => allMix B lo hi w1 (k + 1) Φ ys G
  | k, .store :: Φ, _ :: ys, G => allMix B lo hi w1 (k + 1) Φ ys G
  | _, [], _, G => G
  | _, _ :: _, [], G => G
theorem allMix_spec {B : Nat} {lo hi : Nat → Nat} {w1 : World} {G : Prop} : ∀ (Φ : List MixK) (k : Nat) (ys : List Value), allMix B lo hi w1 k Φ ys G → ys.length = Φ.length →
    (∀ j x, Φ[j]? = some x → x.isFree = false → x.isStore = false → B ≤ lo (k + j) ∧ hi (k + j) ≤ w1.heap.size ∧ x.phi (lo (k + j)) (hi (k + j)) (ys.getD j undef) w1) → G
  | [], k, ys, h, _, _ => by unfold allMix at h; exact h
  | x :: Φ, k, [], _, hl, _ => by simp at hl
  | .val x :: Φ, k, y :: ys, h, hl, hd => by
    unfold allMix at h
    have h0 := (hd 0 _ rfl rfl rfl).2.2
    exact allMix_spec Φ (k + 1) ys (h h0) (by simpa using hl) (fun j x hj hf hs => by have := hd (j + 1) x (by simpa using hj) hf hs; rw [show k + 1 + j = k + (j + 1) by omega]; simpa using this)
  | .fact φ :: Φ, k, y :: ys, h, hl, hd => by
    unfold allMix at h
    obtain ⟨h1, h2, h3⟩ := hd 0 _ rfl rfl rfl
    exact allMix_spec Φ (k + 1) ys (h h1 h2 h3) (by simpa using hl) (fun j x hj hf hs => by have := hd (j + 1) x (by simpa using hj) hf hs; rw [show k + 1 + j = k + (j + 1) by omega]; simpa using this)
  | .free x :: Φ, k, y :: ys, h, hl, hd => by
    unfold allMix at h
    exact allMix_spec Φ (k + 1) ys h (by simpa using hl) (fun j x hj hf hs => by have := hd (j + 1) x (by simpa using hj) hf hs; rw [show k + 1 + j = k + (j + 1) by omega]; simpa using this)
  | .store :: Φ, k, y :: ys, h, hl, hd => by
    unfold allMix at h
    exact allMix_spec Φ (k + 1) ys h (by simpa using hl) (fun j x hj hf hs => by have := hd (j + 1) x (by simpa using hj) hf hs; rw [show k + 1 + j = k + (j + 1) by omega]; simpa using this)
def mixWaits (l : List Oper) (n s : Nat) (Φ : List MixK) : Bool :=
  (List.range n).all fun k => decide (k = s) || (match Φ[k]? with | some φ => φ.isFree | none => false) || (List.range (s + 1)).any fun j => decide (k < j) && (Region.waitsFor .any l.toArray j k && (decide (j = s) || (match Φ[j]? with | some φ => !φ.isFree | none => false)))
def mixStore (s : Nat) (Φ : List MixK) : Bool := match Φ[s]? with | some φ => φ.isStore | none => false
def mixFin (n₀ : Nat) (P : Program) (l : List Oper) (n s : Nat) (a : Act) (w : World) (Q : Exit → Act → World → Prop) (Φ : List MixK) : Prop :=
  mixWaits l n s Φ = true ∧ mixStore s Φ = true ∧
  match l[s]? with
  | some o => allV n fun xs => ∀ (lo hi : Nat → Nat) (w1 : World), Below w.heap.size w w1 → (∀ j k, j < n → k < n → j ≠ k → hi j ≤ lo k ∨ hi k ≤ lo j) →
      allMix w.heap.size lo hi w1 0 Φ xs (Region.wanted o (yielded l.toArray (fillA (l.take n) xs a).tmps) = true ∧ OW P o (fillA (l.take n) xs a) w1 (fun a' w2 => ∃ v, a' = (fillA (l.take n) xs a).put o.dst v ∧ SameBelow n₀ w w2 ∧ WL P l.toArray Q (l.drop n) (fillA (l.take n) (fixF Φ (xs.set s v)) a) w2) (fun _ _ _ => False))
  | none => False
def Mix (n₀ : Nat) (P : Program) (l : List Oper) (n s : Nat) (a : Act) (w : World) (Q : Exit → Act → World → Prop) : Nat → List MixK → Prop
  | 0, Φ => mixFin n₀ P l n s a w Q Φ
  | r + 1, Φ => ∃ k : MixK, k.phi.stable ∧ mixOb n₀ P l n s a w Φ.length Φ k ∧ Mix n₀ P l n s a w Q r (Φ ++ [k])
theorem Mix.val' {r : Nat} {Φ Φ' : List MixK} {x : Value} (h : mixOb n₀ P l n s a w Φ.length Φ (.val x)) (hΦ : Φ ++ [.val x] = Φ') (h' : Mix n₀ P l n s a w Q r Φ') : Mix n₀ P l n s a w Q (r + 1) Φ := ⟨.val x, isV_stable x, h, hΦ ▸ h'⟩
theorem Mix.free' {r : Nat} {Φ Φ' : List MixK} {x : Value} (h : mixOb n₀ P l n s a w Φ.length Φ (.free x)) (hΦ : Φ ++ [.free x] = Φ') (h' : Mix n₀ P l n s a w Q r Φ') : Mix n₀ P l n s a w Q (r + 1) Φ := ⟨.free x, isV_stable x, h, hΦ ▸ h'⟩
theorem Mix.fact' {r : Nat} {Φ Φ' : List MixK} (φ : Phi) (hs : φ.stable) (h : mixOb n₀ P l n s a w Φ.length Φ (.fact φ)) (hΦ : Φ ++ [.fact φ] = Φ') (h' : Mix n₀ P l n s a w Q r Φ') : Mix n₀ P l n s a w Q (r + 1) Φ := ⟨.fact φ, hs, h, hΦ ▸ h'⟩
theorem Mix.store' {r : Nat} {Φ Φ' : List MixK} (h : mixOb n₀ P l n s a w Φ.length Φ .store) (hΦ : Φ ++ [.store] = Φ') (h' : Mix n₀ P l n s a w Q r Φ') : Mix n₀ P l n s a w Q (r + 1) Φ := ⟨.store, fun _ _ _ _ _ _ _ _ => True.intro, h, hΦ ▸ h'⟩
theorem Mix.fin {Φ : List MixK} {o : Oper} (h1 : mixWaits l n s Φ = true) (h2 : mixStore s Φ = true) (ho : l[s]? = some o)
    (h : allV n fun xs => ∀ (lo hi : Nat → Nat) (w1 : World), Below w.heap.size w w1 → (∀ j k, j < n → k < n → j ≠ k → hi j ≤ lo k ∨ hi k ≤ lo j) →
      allMix w.heap.size lo hi w1 0 Φ xs (Region.wanted o (yielded l.toArray (fillA (l.take n) xs a).tmps) = true ∧ OW P o (fillA (l.take n) xs a) w1 (fun a' w2 => ∃ v, a' = (fillA (l.take n) xs a).put o.dst v ∧ SameBelow n₀ w w2 ∧ WL P l.toArray Q (l.drop n) (fillA (l.take n) (fixF Φ (xs.set s v)) a) w2) (fun _ _ _ => False))) : Mix n₀ P l n s a w Q 0 Φ := by
  show mixFin n₀ P l n s a w Q Φ
  unfold mixFin
  rw [ho]
  exact ⟨h1, h2, h⟩
theorem Mix.all : ∀ (r : Nat) (Φ : List MixK), Mix n₀ P l n s a w Q r Φ → (∀ k ∈ Φ, k.phi.stable) → (∀ i k, Φ[i]? = some k → mixOb n₀ P l n s a w i (Φ.take i) k) →
    ∃ Ψ : List MixK, Ψ.length = Φ.length + r ∧ (∀ k ∈ Ψ, k.phi.stable) ∧ (∀ i k, Ψ[i]? = some k → mixOb n₀ P l n s a w i (Ψ.take i) k) ∧ mixFin n₀ P l n s a w Q Ψ
  | 0, Φ, h, h1, h2 => ⟨Φ, rfl, h1, h2, h⟩
  | r + 1, Φ, ⟨k, hk, hs, h⟩, h1, h2 => by
    obtain ⟨Ψ, a1, a2, a3, a4⟩ := Mix.all r (Φ ++ [k]) h (fun x hx => by
      rcases List.mem_append.1 hx with hx | hx
      · exact h1 x hx
      · rw [List.mem_singleton.1 hx]; exact hk) (fun i x hx => by
      rcases Nat.lt_or_ge i Φ.length with hi | hi
      · rw [List.getElem?_append_left hi] at hx
        rw [List.take_append_of_le_length (by omega)]
        exact h2 i x hx
      · rw [List.getElem?_append_right hi] at hx
        have hi0 : i - Φ.length = 0 := by
          rcases Nat.eq_zero_or_pos (i - Φ.length) with h0 | h0
          · exact h0
          · rw [List.getElem?_eq_none (by simp; omega)] at hx; cases hx
        rw [hi0] at hx
        simp only [List.getElem?_cons_zero, Option.some.injEq] at hx
        have : i = Φ.length := by omega
        subst this
        rw [List.take_append_of_le_length (Nat.le_refl _), List.take_length, ← hx]
        exact hs)
    exact ⟨Ψ, by rw [a1]; simp; omega, a2, a3, a4⟩
theorem wp_region_mix {id : Nat} (n s : Nat) (hm : P.follows .mixedOrders = true) (hB : phiB l n = true) (hs : s < n) (hn₀ : n₀ ≤ w.heap.size) (h : Mix n₀ P l n s a w.drew Q n []) : (Code.region id l.toArray true).wp P Q a w := by
  obtain ⟨Ψ, hlen, hst, hstep, hfin⟩ := Mix.all n [] h (fun _ h => by cases h) (fun i k hk => by simp at hk)
  simp only [List.length_nil, Nat.zero_add] at hlen
  obtain ⟨hwt, hms, hfin⟩ := hfin
  have hB' := hB
  simp only [phiB, Bool.and_eq_true, decide_eq_true_eq, Bool.or_eq_true] at hB'
  obtain ⟨⟨⟨⟨_, hn⟩, hback⟩, _⟩, _⟩ := hB'
  have hdep : ∀ i o (xs : List Value) w1, i < n → l[i]? = some o → MixDeps l n Ψ w.drew.heap.size i xs w1 → ∀ e ∈ o.after.toList, Region.binds .any e = true → ∀ k, (Ψ.take i)[e.on]? = some k → ∃ lo hi, w.drew.heap.size ≤ lo ∧ hi ≤ w1.heap.size ∧ k.phi lo hi (xs.getD e.on undef) w1 := by
    intro i o xs w1 hi ho hD e he hb k hk
    have hon : e.on < i := by
      have := List.all_eq_true.1 hback i (List.mem_range.2 hi)
      simp only [List.getElem?_toArray, ho] at this
      have := Array.all_eq_true_iff_forall_mem.1 this e (by simpa using he)
      simpa [hb] using this
    rw [List.getElem?_take, if_pos hon] at hk
    refine hD e.on k (by omega) ?_ hk
    unfold Region.waitsFor
    simp only [List.getElem?_toArray, ho]
    exact Array.any_eq_true'.2 ⟨e, by simpa using he, by simp [hb]⟩
  have hstore : Ψ[s]? = some .store := by
    unfold mixStore at hms
    split at hms
    · rename_i φ hφ
      cases φ with
      | store => exact hφ
      | val x => cases hms
      | fact x => cases hms
      | free x => cases hms
    · cases hms
  refine wp_region_mix0 (Φ := Ψ) (n₀ := n₀) hn₀ hm hB hlen hs hstore (fun k hk => ?_) hst (fun k φ hk hne hφ hf => ?_) (fun i o φ hi hne ho hφ hf xs hxs w1 hb hD => ?_) (fun i o x hi ho hφ xs hxs w1 hb hD => ?_) (fun o ho xs lo hi w1 hxs hb hall hap => ?_)
  · have := hstep k _ hk
    unfold mixOb at this
    split at this
    · simpa using this
    · exact this.elim
  · have := List.all_eq_true.1 hwt k (List.mem_range.2 hk)
    simp only [hφ, hf, Bool.or_false, Bool.or_eq_true, decide_eq_true_eq] at this
    rcases this with h | h
    · exact absurd h hne
    · obtain ⟨j, hj, h⟩ := List.any_eq_true.1 h
      simp only [Bool.and_eq_true, Bool.or_eq_true, decide_eq_true_eq] at h
      refine ⟨j, h.1, by have := List.mem_range.1 hj; omega, h.2.1, ?_⟩
      rcases h.2.2 with h3 | h3
      · exact .inl h3
      · split at h3
        · rename_i φj hφj
          exact .inr ⟨φj, hφj, by simpa using h3⟩
        · cases h3
  · have hs' := hstep i φ hφ
    unfold mixOb at hs'
    rw [ho] at hs'
    cases φ with
    | val x => exact depM_spec _ (allV_spec n _ hs' xs hxs w1 hb) (hdep i o xs w1 hi ho hD)
    | fact x => exact depM_spec _ (allV_spec n _ hs' xs hxs w1 hb) (hdep i o xs w1 hi ho hD)
    | free x => cases hf
    | store =>
      simp only [decide_eq_true_eq] at hs'
      exact absurd hs' hne
  · have hs' := hstep i _ hφ
    unfold mixOb at hs'
    rw [ho] at hs'
    exact depM_spec _ (allV_spec n _ hs' xs hxs w1 hb) (hdep i o xs w1 hi ho hD)
  · rw [ho] at hfin
    have := allMix_spec Ψ 0 xs (allV_spec n _ hfin xs hxs lo hi w1 hb hap) (by rw [hxs, hlen]) (fun j x hj hf hst => by rw [Nat.zero_add]; exact hall j x hj hf hst)
    exact ⟨this.1, wp_strong (fun a2 w2 ⟨v, e, hl, h⟩ => ⟨v, e, hl, h.out⟩) this.2.out⟩
end
section
variable {P : Program} {ops : Array Oper} {o : Oper} {a : Act} {w0 w : World} {rs : List Res}
def freshBox (t : TypeId) (cs : List Value) : Phi := fun lo hi v w => ∃ b, v = .pointer (some ⟨b, 0, none⟩) ∧ (Res.box b t cs).holds lo w ∧ b < hi
theorem freshBox_stable (t : TypeId) (cs : List Value) : (freshBox t cs).stable := by
  rintro lo hi v w1 w2 hb hh ⟨b, rfl, ho, hk⟩
  exact ⟨b, rfl, Res.holds_keep ho hb.size (fun k h => hb.block k (by cases h; omega)), hk⟩
theorem Yphi.alloc {t : TypeId} {z : Value} {cs : List Value} (ho : o.op = .alloc t) (hT : ZeroT P t z) (hv : z.cells.toList = cs) (hw : Region.wanted o (yielded ops a.tmps) = true) : Yphi P ops o a w (freshBox t cs) := by
  refine .inl ⟨hw, wp_alloc (St.start w) ho hT hv fun b w' st => ⟨_, rfl, st.below, b, rfl, st.get (i := 0) rfl, (Res.holds_lt (st.get (i := 0) rfl) rfl).2⟩⟩
theorem Yphi.known {φ : Phi} {v : Value} {r : Result Next} (hw : Region.wanted o (yielded ops a.tmps) = true) (hr : (execOp a.eval o).run P w = r) (hv : r = .ok (.value v) w) (hφ : φ w.heap.size w.heap.size v w) : Yphi P ops o a w φ :=
  .inl ⟨hw, wp_value (hr.trans hv) ⟨v, rfl, Below.refl _ _, hφ⟩⟩
def Res.within (lo hi : Nat) (r : Res) : Prop := ∀ k, r.blk = some k → lo ≤ k ∧ k < hi
theorem Res.apart {r s : Res} {lo1 hi1 lo2 hi2 : Nat} (h1 : r.within lo1 hi1) (h2 : s.within lo2 hi2) (hd : hi1 ≤ lo2 ∨ hi2 ≤ lo1) : r.ne s := fun k hk hk' => by
  have a1 := h1 k hk
  have a2 := h2 k hk'
  omega
theorem Res.within_row {w : World} {lo hi e size n c : Nat} {A : Option Addr} {xs : List Value} (h : w.ownsRow lo e size (.slice A n c) n xs) (hk : ∀ k, (Value.slice A n c).ownBlock = some k → k < hi) : (Res.row e size (.slice A n c) n xs).within lo hi :=
  fun k hb => ⟨(World.ownsRow.lt h k hb).1, hk k hb⟩
theorem St.also {r : Res} {w' : World} {lo hi : Nat} (st : St w0 w' rs) (old : w0.heap.size ≤ lo) (h : r.holds lo w') (hn : ∀ s ∈ rs, r.ne s) : St w0 w' (r :: rs) :=
  st.cons (Res.holds_mono h old) hn
end
end Go.Hp
namespace Go.Hp
open Go.RowKit
section
variable {P : Program} {o : Oper} {a : Act} {w0 w : World} {rs : List Res} {Q : Exit → Act → World → Prop} {K : Act → World → Prop}
theorem St.toBox {e size n c : Nat} {A : Option Addr} {xs : List Value} (st : St w0 w (.row e size (.slice A n c) n xs :: rs)) (hn : 0 < n) :
    ∃ g R, A = some ⟨g, 0, none⟩ ∧ xs.length = n * size ∧ (xs ++ R).length = c * size ∧ n ≤ c ∧ c ≤ maxLen ∧ St w0 w (.box g e (xs ++ R) :: rs) := by
  have h := st.holds _ (List.mem_cons_self ..)
  have hl := h.1
  rcases h.2 with ⟨hv, h0⟩ | ⟨g, cap, cur, hv, hbase, hg, hnc, hcap, hsz, htake⟩
  · omega
  · injection hv with h1 h2 h3
    subst h1; subst h3
    have hxs : xs ++ cur.toList.drop (n * size) = cur.toList := by rw [← htake, List.take_append_drop]
    refine ⟨g, cur.toList.drop (n * size), rfl, hl, by rw [hxs, Array.length_toList, hsz], hnc, hcap, st.tail.cons ⟨hbase, by rw [hxs]; exact hg⟩ fun s hs k hk => (List.pairwise_cons.1 st.apart).1 s hs k hk⟩
theorem St.ofBox {e size n c g : Nat} {xs R : List Value} (st : St w0 w (.box g e (xs ++ R) :: rs)) (hl : xs.length = n * size) (hc : (xs ++ R).length = c * size) (hn : n ≤ c) (hm : c ≤ maxLen) : St w0 w (.row e size (.slice (some ⟨g, 0, none⟩) n c) n xs :: rs) := by
  have h := st.holds _ (List.mem_cons_self ..)
  refine st.tail.cons ⟨hl, .inr ⟨g, c, (xs ++ R).toArray, rfl, h.1, h.2, hn, hm, by simpa using hc, ?_⟩⟩ fun s hs k hk => (List.pairwise_cons.1 st.apart).1 s hs k hk
  rw [← hl]
  simp
theorem run_clear_box {t e b p n c bt : Nat} {z : Value} {size bytes : Nat} {cs : List Value} (hT : SliceT P t e z size bytes) (hZ : ZeroT P e z) (ty : TypeId) (hn : 0 < n) (hb : w.heap[b]? = some (.cells cs.toArray bt (0, 0))) (hp : p + n * size ≤ cs.length) (h1 : ∀ u ∈ (Builtin.zeroCells z.cells n).toList, u.oneCell' = true) :
    (Builtin.clear_ #[t] ty #[.slice (some ⟨b, p, none⟩) n c]).run P w = .ok (.tuple #[]) (w.setRow b (cs.take p ++ (Builtin.zeroCells z.cells n).toList ++ cs.drop (p + n * size)).toArray) := by
  have hzl : (Builtin.zeroCells z.cells n).toList.length = n * size := by simp [Builtin.zeroCells, hT.cells]
  have hst := run_storeCells_at P b p bt (Builtin.zeroCells z.cells n).toList 0 cs.toArray w hb (by rw [hzl]; simpa using hp) h1
  simp only [Nat.add_zero, hzl] at hst
  have hn0 : n ≠ 0 := by omega
  obtain ⟨m, rfl⟩ : ∃ m, n = m + 1 := ⟨n - 1, by omega⟩
  simp [Builtin.clear_, run_underlying hT.under, hZ.zero, hst]
theorem ow_clear {t e : TypeId} {z : Value} {size bytes i b p n c bt : Nat} {cs : List Value} {rs' : List Res} {x : Operand} (st : St w0 w rs) (ho : o.op = .call { callee := .builtin .clear, args := #[x], argTypes := #[t] }) (hT : SliceT P t e z size bytes) (hZ : ZeroT P e z)
    (hx : a.eval x = .slice (some ⟨b, p, none⟩) n c) (hi : rs[i]? = some (.box b bt cs)) (hn : 0 < n) (hp : p + n * size ≤ cs.length) (h1 : ∀ u ∈ (Builtin.zeroCells z.cells n).toList, u.oneCell' = true)
    (hrs : rs.set i (.box b bt (cs.take p ++ (Builtin.zeroCells z.cells n).toList ++ cs.drop (p + n * size))) = rs') (h : ∀ w', St w0 w' rs' → K (a.put o.dst (.tuple #[])) w') : OW P o a w K Q := by
  have hrun := run_clear_box (P := P) (w := w) (c := c) hT hZ o.type hn (st.blk hi) hp h1
  refine OW.mk ?_
  unfold Oper.wp execOp
  simp only [ho, resolve, invoke, builtin, Sem.run_bind, Sem.run_pure, Result.andThen_ok, List.map_toArray, List.map_cons, List.map_nil, hx, hrun]
  exact h _ (hrs ▸ st.store (o := p) (n := n * size) (vs := (Builtin.zeroCells z.cells n).toList) hi)
end
end Go.Hp
namespace Ck
def goE (E : Nat → Int) : Nat → Int
  | 0 => 0
  | k + 1 => if goE E k = 0 then E k else goE E k
theorem goE_stop (E : Nat → Int) {k : Nat} (h : goE E k = 0) (hE : E k ≠ 0) : ∀ n, k < n → goE E n = E k
  | 0, hn => by omega
  | n + 1, hn => by
    show (if goE E n = 0 then E n else goE E n) = E k
    by_cases hkn : k = n
    · subst hkn
      rw [if_pos h]
    · rw [goE_stop E h hE n (by omega), if_neg hE]
theorem goE_next (E : Nat → Int) {k : Nat} (h : goE E k = 0) : goE E (k + 1) = E k := if_pos h
theorem goE_zero (E : Nat → Int) : ∀ n, (∀ k, k < n → E k = 0) → goE E n = 0
  | 0, _ => rfl
  | n + 1, h => by rw [goE_next E (goE_zero E n fun k hk => h k (by omega))]; exact h n (by omega)
theorem goE_all (E : Nat → Int) : ∀ n, goE E n = 0 → ∀ k, k < n → E k = 0
  | 0, _, k, hk => by omega
  | n + 1, h, k, hk => by
    by_cases h0 : goE E n = 0
    · rw [goE_next E h0] at h
      by_cases hkn : k = n
      · rw [hkn]; exact h
      · exact goE_all E n h0 k (by omega)
    · exact absurd h (by show (if goE E n = 0 then E n else goE E n) ≠ 0; rw [if_neg h0]; exact h0)
theorem goE_congr {E F : Nat → Int} : ∀ n, (∀ k, k < n → E k = F k) → goE E n = goE F n
  | 0, _ => rfl
  | n + 1, h => by
    show (if goE E n = 0 then E n else goE E n) = (if goE F n = 0 then F n else goE F n)
    rw [goE_congr n fun k hk => h k (by omega), h n (by omega)]
def goI (E : Nat → Int) : Nat → Int
  | 0 => 0
  | k + 1 => if goE E k = 0 then (if E k = 0 then 0 else k) else goI E k
theorem goI_stop (E : Nat → Int) {k : Nat} (h : goE E k = 0) (hE : E k ≠ 0) : ∀ n, k < n → goI E n = k
  | 0, hn => by omega
  | n + 1, hn => by
    show (if goE E n = 0 then (if E n = 0 then 0 else (n : Int)) else goI E n) = k
    by_cases hkn : k = n
    · subst hkn
      rw [if_pos h, if_neg hE]
    · rw [goE_stop E h hE n (by omega), if_neg hE]
      exact goI_stop E h hE n (by omega)
theorem goI_zero (E : Nat → Int) : ∀ n, goE E n = 0 → goI E n = 0
  | 0, _ => rfl
  | n + 1, h => by
    show (if goE E n = 0 then (if E n = 0 then 0 else (n : Int)) else goI E n) = 0
    by_cases h0 : goE E n = 0
    · rw [goE_next E h0] at h
      rw [if_pos h0, if_pos h]
    · exact absurd h (by show (if goE E n = 0 then E n else goE E n) ≠ 0; rw [if_neg h0]; exact h0)
def it {S : Type} (f : S → Nat → S) (s : S) : Nat → S
  | 0 => s
  | k + 1 => f (it f s k) k
def wi (n lo hi : Int) : Bool := decide (lo ≤ n) && decide (n ≤ hi)
def first : List Int → Int
  | [] => 0
  | e :: l => if e = 0 then first l else e
structure Run where
  s : Int
  l : Int
  deriving DecidableEq
structure Ref where
  r : Int
  q : Int
  deriving DecidableEq
structure Nm where
  d : Ref
  n : List UInt8
  deriving DecidableEq
structure En where
  n : List UInt8
  f : Ref
  z : Int
  deriving DecidableEq
structure Sm where
  r : List Run
  z : Int
  deriving DecidableEq
structure Rc where
  u : Bool
  q : Int
  k : Int
  b : Ref
  ln : Int
  ds : Int
  ns : List Nm
  ss : List Sm
  es : List En
  deriving DecidableEq
structure Pt where
  c : Int
  al : List Run
  rs : List Rc
  ds : List Int
  mp : List UInt8
  deriving DecidableEq
structure Fd where
  k : Int
  r : Int
  i : Int
  deriving DecidableEq
def Ref.o : Ref := ⟨0, 0⟩
def Run.o : Run := ⟨0, 0⟩
def Nm.o : Nm := ⟨Ref.o, []⟩
def En.o : En := ⟨[], Ref.o, 0⟩
def Sm.o : Sm := ⟨[], 0⟩
def Rc.o : Rc := ⟨false, 0, 0, Ref.o, 0, 0, [], [], []⟩
def Fd.o : Fd := ⟨0, 0, 0⟩
def at_ {α : Type} (o : α) (l : List α) (i : Nat) : α := l[i]?.getD o
theorem at_eq {α : Type} (o : α) (l : List α) (i : Nat) (h : i < l.length) : at_ o l i = l[i] := by unfold at_; rw [List.getElem?_eq_getElem h]; rfl
theorem at_mem {α : Type} (o : α) (l : List α) (i : Nat) (h : i < l.length) : at_ o l i ∈ l := by rw [at_eq o l i h]; exact List.getElem_mem h
theorem at_map {α β : Type} (f : α → β) (o : α) (o' : β) (l : List α) (i : Nat) (h : i < l.length) : at_ o' (l.map f) i = f (at_ o l i) := by
  rw [at_eq o l i h, at_eq o' _ i (by rw [List.length_map]; exact h), List.getElem_map]
theorem take_at {α : Type} (o : α) (l : List α) (i : Nat) (h : i < l.length) : l.take (i + 1) = l.take i ++ [at_ o l i] := by rw [at_eq o l i h, List.take_succ_eq_append_getElem h]
theorem drop_at {α : Type} (o : α) (l : List α) (i : Nat) (h : i < l.length) : l.drop i = at_ o l i :: l.drop (i + 1) := by rw [at_eq o l i h, List.drop_eq_getElem_cons h]
theorem at_set_same {α : Type} (o : α) (l : List α) (i : Nat) (x : α) (h : i < l.length) : at_ o (l.set i x) i = x := by
  rw [at_eq o _ i (by rw [List.length_set]; exact h), List.getElem_set_self]
theorem at_set_ne {α : Type} (o : α) (l : List α) (i j : Nat) (x : α) (h : i ≠ j) : at_ o (l.set i x) j = at_ o l j := by
  unfold at_; rw [List.getElem?_set_ne h]
def refErr (r : Ref) : Int := if wi r.r 0 95 && wi r.q 1 65535 then 0 else 2
def num (n : Int) : Bool := wi n 0 2147483647
def legalB (c : UInt8) : Bool := decide (32 ≤ c.toNat) && decide (c.toNat ≤ 126) && !([34, 42, 47, 58, 60, 62, 63, 92, 124].contains c)
def legal (s : List UInt8) : Bool := s != [] && decide (s.length ≤ 32) && s.all legalB && s != [46, 46] && s.getLast? != some 32 && s.getLast? != some 46
def nameErr (s : List UInt8) : Int := if 32 < s.length then 8 else if legal s then 0 else 4
def nmErr (x : Nm) : Int := if refErr x.d = 0 then nameErr x.n else refErr x.d
def enErr (x : En) : Int := if nameErr x.n = 0 then (if refErr x.f = 0 then (if num x.z then 0 else 2) else refErr x.f) else nameErr x.n
def badRun (r : Run) : Bool := !(wi r.s (-1) 2147483647) || !(wi r.l 1 512)
def smErr (x : Sm) : Int := if 24 < x.r.length then 8 else if !(x.r.any badRun) && num x.z then 0 else 2
def most (d : Int) : Nat := if d = 5 then 700 else 200
def nmsErr (x : Rc) : Int := goE (fun i => nmErr (at_ Nm.o x.ns i)) x.ns.length
def smsErr (x : Rc) : Int := goE (fun i => smErr (at_ Sm.o x.ss i)) x.ss.length
def ensErr (x : Rc) : Int := goE (fun i => enErr (at_ En.o x.es i)) x.es.length
def Rc.parts (x : Rc) : Nat := x.ns.length + x.ss.length + x.es.length
def headErr (i : Int) (x : Rc) : Int :=
  if !(wi x.q 1 65535) || !(wi x.k 0 3) || !(num x.ln) || !(num x.ds) then 2
  else if !x.u && (x.b != Ref.o || decide (0 < x.ln + x.ds + x.parts + x.k)) then 3
  else if (if x.k = 3 then refErr x.b else if x.b = Ref.o then 0 else 2) ≠ 0 then 2
  else if 8 < x.ns.length ∨ 8 < x.ss.length ∨ most i < x.es.length then 8
  else if (0 < x.es.length ∧ x.k ≠ 0) ∨ (0 < x.ns.length ∧ (x.k = 3 ∨ i < 16)) then 3
  else 0
def recErr (i : Int) (x : Rc) : Int := first [headErr i x, nmsErr x, smsErr x, ensErr x]
def alErr (c : Int) (r : Run) : Int := if wi r.s 0 (c - 1) && wi r.l 1 (c - r.s) then 0 else 2
def dsErr (l : List Int) (i : Nat) : Int := if wi (at_ 0 l i) 1 2147483647 then (if 0 < i ∧ at_ 0 l i ≤ at_ 0 l (i - 1) then 9 else 0) else 2
def mapErr (s : List UInt8) (c : Int) : Int :=
  if wi c 0 4096 then (if s.length = ((c + 7) / 8).toNat then (if c % 8 = 0 ∨ (s.getLast?.getD 0).toNat / 2 ^ (c % 8).toNat = 0 then 0 else 3) else 10) else 2
def wholeErr (v : Pt) : Int :=
  first [if wi v.c 64 512 then 0 else 2, if 24 < v.al.length ∨ 96 < v.rs.length ∨ 64 < v.ds.length then 8 else 0, goE (fun i => alErr v.c (at_ Run.o v.al i)) v.al.length, goE (dsErr v.ds) v.ds.length,
    if v.ds.length = 0 then 17 else 0, mapErr v.mp v.c]
def rootErr (v : Pt) : Int := if v.rs.length ≤ 5 ∨ (at_ Rc.o v.rs 5).u = false ∨ (at_ Rc.o v.rs 5).k ≠ 0 then 6 else 0
def recsErr (v : Pt) : Int := goE (fun i => recErr i (at_ Rc.o v.rs i)) v.rs.length
def partsErr (v : Pt) : Int := first [wholeErr v, rootErr v, recsErr v]
def partsIx (v : Pt) : Int := if wholeErr v ≠ 0 then 0 else if rootErr v ≠ 0 then 5 else goI (fun i => recErr i (at_ Rc.o v.rs i)) v.rs.length
def upB (c : UInt8) : UInt8 := if 97 ≤ c.toNat ∧ c.toNat ≤ 122 then c - 32 else c
def fold (s : List UInt8) : List UInt8 := if nameErr s = 0 then s.map upB else []
def same (a b : List UInt8) : Bool := fold a == fold b
def own (x : Rc) : Bool := x.u && x.k != 3
def dir (x : Rc) : Bool := x.u && x.k == 0
def rc (v : Pt) (i : Int) : Rc := at_ Rc.o v.rs i.toNat
def right (v : Pt) (r : Ref) : Bool := wi r.r 0 ((v.rs.length : Int) - 1) && own (rc v r.r) && (rc v r.r).q == r.q
def sizeOf (x : Rc) : Int := if x.k = 1 ∧ 0 < x.ss.length then (at_ Sm.o x.ss 0).z else 0
structure Rp where
  v : Pt
  fd : List Fd
  fl : List Int
  deriving DecidableEq
def Rp.note (p : Rp) (k r i : Int) : Rp := { p with fd := p.fd ++ [⟨k, r, i⟩], fl := p.fl ++ [-1] }
def Rp.setR (p : Rp) (i : Nat) (x : Rc) : Rp := { p with v := { p.v with rs := p.v.rs.set i x } }
def Rp.rc (p : Rp) (i : Int) : Rc := Ck.rc p.v i
def Rp.ref (p : Rp) (i : Int) : Ref := ⟨i, (p.rc i).q⟩
def lostStep (p : Rp) (i : Nat) : Rp :=
  let x := p.rc i
  if x.u && x.k == 3 && !right p.v x.b then (p.note 0 i 0).setR i { Rc.o with q := x.q % 65535 + 1 } else p
def lostParts (p : Rp) : Rp := it lostStep p p.v.rs.length
def fill (t : List Bool) (s : Int) : Nat → List Bool
  | 0 => t
  | k + 1 => (fill t s k).set (s + k).toNat true
def taken (v : Pt) : List Bool := it (fun t i => fill t (at_ Run.o v.al i).s (at_ Run.o v.al i).l.toNat) (List.replicate v.c.toNat false) v.al.length
def take1 (t : List Bool) (s : Int) (k : Nat) : Nat → List Bool × Option Nat
  | 0 => (t, none)
  | n + 1 => if s + k < t.length ∧ at_ false t (s + k).toNat = false then take1 (t.set (s + k).toNat true) s (k + 1) n else (t, some k)
def cutGo (t : List Bool) (acc : List Run) : List Run → List Bool × Option (List Run)
  | [] => (t, none)
  | r :: l =>
    if r.s = -1 then cutGo t (acc ++ [r]) l
    else match take1 t r.s 0 r.l.toNat with
      | (t', none) => cutGo t' (acc ++ [r]) l
      | (t', some k) => (t', some (acc ++ if 0 < k then [⟨r.s, k⟩] else []))
def cut (l : List Run) (t : List Bool) : List Bool × Option (List Run) := cutGo t [] l
def clusters (l : List Run) : Int := it (fun n i => n + (at_ Run.o l i).l) 0 l.length
def cutStep (i : Nat) (s : Rp × List Bool) (k : Nat) : Rp × List Bool :=
  let x := s.1.rc i
  let y := at_ Sm.o x.ss k
  match cut y.r s.2 with
  | (t, none) => (s.1, t)
  | (t, some l) => ((s.1.note 1 i k).setR i { x with ss := x.ss.set k ⟨l, min y.z (clusters l * 256)⟩ }, t)
def badRunsStep (s : Rp × List Bool) (i : Nat) : Rp × List Bool :=
  if (s.1.rc i).u then it (cutStep i) s (s.1.rc i).ss.length else s
def badRuns (p : Rp) : Rp := (it badRunsStep (p, taken p.v) p.v.rs.length).1
def descStep (p : Rp) (i : Nat) : Rp :=
  let x := p.rc i
  if own x && !p.v.ds.contains x.ds then (p.note 2 i 0).setR i { x with ds := at_ 0 p.v.ds 0 } else p
def descriptors (p : Rp) : Rp := it descStep p p.v.rs.length
def isEntry (p : Rp) (d : Int) (before : List En) (x : En) : Bool :=
  !before.any (fun y => same x.n y.n) && right p.v x.f && decide (16 ≤ x.f.r) && (p.rc x.f.r).ns.contains ⟨p.ref d, x.n⟩
def setLast (l : List Int) (n : Int) : List Int := l.set (l.length - 1) n
def entryStep (i : Nat) (es : List En) (s : Rp × List En) (k : Nat) : Rp × List En :=
  let x := at_ En.o es k
  if isEntry s.1 i s.2 x then (s.1, s.2 ++ [x])
  else
    let p := s.1.note 3 i s.2.length
    (if x.f.r < p.v.rs.length ∧ (p.rc x.f.r).q = x.f.q then { p with fl := setLast p.fl x.f.r } else p, s.2)
def badEntriesStep (p : Rp) (i : Nat) : Rp :=
  if dir (p.rc i) then
    let s := it (entryStep i (p.rc i).es) (p, []) (p.rc i).es.length
    s.1.setR i { s.1.rc i with es := s.2 }
  else p
def badEntries (p : Rp) : Rp := it badEntriesStep p p.v.rs.length
def ixE (n : List UInt8) : List En → Option Nat
  | [] => none
  | x :: l => if same x.n n then some 0 else (ixE n l).map (· + 1)
def isName (p : Rp) (r : Nat) (before : List Nm) (n : Nm) : Bool × Bool :=
  if right p.v n.d && (p.rc n.d.r).k == 0 then
    if before.any (fun y => decide (y.d = n.d) && same y.n n.n) then (false, false)
    else if before ≠ [] ∧ (p.rc r).k ≠ 1 then (false, false)
    else match ixE n.n (p.rc n.d.r).es with
      | none => (decide ((p.rc n.d.r).es.length < most n.d.r), false)
      | some k => (decide ((at_ En.o (p.rc n.d.r).es k).f = p.ref r ∧ (at_ En.o (p.rc n.d.r).es k).n = n.n), true)
  else (false, false)
def drop (p : Rp) (r : Nat) (n : Nm) : Rp :=
  if right p.v n.d && (p.rc n.d.r).k == 0 then
    p.setR n.d.r.toNat { p.rc n.d.r with es := (p.rc n.d.r).es.filter fun x => !(decide (x.f = p.ref r) && decide (x.n = n.n)) }
  else p
def enter (p : Rp) (d : Int) (n : List UInt8) (r : Nat) : Rp :=
  p.setR d.toNat { p.rc d with es := (p.rc d).es ++ [⟨n, p.ref r, sizeOf (p.rc r)⟩] }
def nameStep (i : Nat) (all : List Nm) (s : Rp × List Nm) (k : Nat) : Rp × List Nm :=
  let n := at_ Nm.o all k
  if (isName s.1 i s.2 n).1 then
    (if (isName s.1 i s.2 n).2 then s.1 else enter (s.1.note 5 i s.2.length) n.d.r n.n i, s.2 ++ [n])
  else
    let p := s.1.note 4 i s.2.length
    (if !s.2.contains n && !(all.drop (k + 1)).contains n then drop p i n else p, s.2)
def badNames1 (p : Rp) (i : Nat) : Rp :=
  let s := it (nameStep i (p.rc i).ns) (p, []) (p.rc i).ns.length
  s.1.setR i { s.1.rc i with ns := s.2 }
def below (f : Rp → Nat → Rp) (p : Rp) : Rp := it (fun q j => if own (q.rc (16 + j : Nat)) then f q (16 + j) else q) p (p.v.rs.length - 16)
def badNames (p : Rp) : Rp := below badNames1 p
def reachIn (v : Pt) (es : List En) (s : List Bool × List Int) (k : Nat) : List Bool × List Int :=
  let x := at_ En.o es k
  if right v x.f && !at_ false s.1 x.f.r.toNat then (s.1.set x.f.r.toNat true, if dir (rc v x.f.r) then s.2 ++ [x.f.r] else s.2) else s
def reachGo (v : Pt) : Nat → List Bool × List Int → List Bool
  | 0, s => s.1
  | m + 1, s =>
    match s.2 with
    | [] => s.1
    | d :: l => reachGo v m (it (reachIn v (rc v d).es) (s.1, l) (rc v d).es.length)
def reached (v : Pt) : List Bool := reachGo v (v.rs.length + 1) ((List.replicate v.rs.length false).set 5 true, [5])
def digit (n : Nat) : UInt8 := UInt8.ofNat (48 + n % 10)
def dec (n : Nat) : List UInt8 := if n < 10 then [digit n] else dec (n / 10) ++ [digit n]
decreasing_by omega
def found : List UInt8 := [102, 111, 117, 110, 100, 46]
def bringName (r : Nat) : Nat → List UInt8
  | 0 => found ++ dec r
  | k + 1 => found ++ dec r ++ [46] ++ dec (k + 1)
def bringK (es : List En) (r : Nat) (k : Nat) : Nat → Nat
  | 0 => k
  | m + 1 => if es.any (fun x => same x.n (bringName r k)) then bringK es r (k + 1) m else k
def bring (p : Rp) (r : Nat) : Rp :=
  let n := bringName r (bringK (p.rc 5).es r 0 ((p.rc 5).es.length + 1))
  enter (p.setR r { p.rc r with ns := [⟨p.ref 5, n⟩] }) 5 n r
def orphan1 (p : Rp) (i : Nat) : Rp := if (p.rc i).ns.length = 0 then bring (p.note 6 i 0) i else p
def orphans (p : Rp) : Rp := below orphan1 p
def cycleStep (p : Rp) (j : Nat) : Rp :=
  let i := 16 + j
  if dir (p.rc i) && !at_ false (reached p.v) i then
    bring (it (fun q k => drop q i (at_ Nm.o (p.rc i).ns k)) (p.note 7 i 0) (p.rc i).ns.length) i
  else p
def cycles (p : Rp) : Rp := it cycleStep p (p.v.rs.length - 16)
def link1 (p : Rp) (i : Nat) : Rp :=
  if (p.rc i).ln ≠ (p.rc i).ns.length then (p.note 8 i 0).setR i { p.rc i with ln := (p.rc i).ns.length } else p
def links (p : Rp) : Rp := below link1 p
def sizeStep (i : Nat) (p : Rp) (k : Nat) : Rp :=
  let x := at_ En.o (p.rc i).es k
  if right p.v x.f && x.z != sizeOf (p.rc x.f.r) then
    (p.note 9 i k).setR i { p.rc i with es := (p.rc i).es.set k { x with z := sizeOf (p.rc x.f.r) } }
  else p
def sizesStep (p : Rp) (i : Nat) : Rp := if dir (p.rc i) then it (sizeStep i) p (p.rc i).es.length else p
def sizes (p : Rp) : Rp := it sizesStep p p.v.rs.length
def setBit (t : List UInt8) (c : Nat) : List UInt8 := t.set (c / 8) (at_ 0 t (c / 8) ||| UInt8.ofNat (2 ^ (c % 8)))
def mark1 (c : Int) (r : Run) (t : List UInt8) (k : Nat) : List UInt8 := if r.s ≠ -1 ∧ r.s + k < c then setBit t (r.s + k).toNat else t
def mark (c : Int) (l : List Run) (t : List UInt8) : List UInt8 := it (fun t i => it (mark1 c (at_ Run.o l i)) t (at_ Run.o l i).l.toNat) t l.length
def markRec (c : Int) (x : Rc) (t : List UInt8) : List UInt8 := it (fun t k => mark c (at_ Sm.o x.ss k).r t) t x.ss.length
def used (v : Pt) : List UInt8 := it (fun t i => markRec v.c (at_ Rc.o v.rs i) t) (mark v.c v.al (List.replicate ((v.c + 7) / 8).toNat 0)) v.rs.length
def bitAt (t : List UInt8) (c : Nat) : Nat := (at_ 0 t (c / 8)).toNat / 2 ^ (c % 8) % 2
def bitStep (want : List UInt8) (p : Rp) (c : Nat) : Rp := if bitAt want c ≠ bitAt p.v.mp c then p.note 10 c 0 else p
def bits (p : Rp) : Rp :=
  let q := it (bitStep (used p.v)) p p.v.c.toNat
  { q with v := { q.v with mp := used p.v } }
def repaired (v : Pt) : Rp := bits (sizes (links (cycles (orphans (badNames (badEntries (descriptors (badRuns (lostParts ⟨v, [], []⟩)))))))))
def concerns (p : Rp) (r : Int) : Bool := (List.range p.fd.length).any fun i => decide ((at_ Fd.o p.fd i).k ≤ 7) && (decide ((at_ Fd.o p.fd i).r = r) || decide (at_ 0 p.fl i = r))
def reachedIn (v : Pt) : List Int := ((List.range v.rs.length).filter fun i => at_ false (reached v) i).map fun (i : Nat) => (i : Int)
def soundIn (v : Pt) : List Int := ((List.range v.rs.length).filter fun i => decide (16 ≤ i) && own (at_ Rc.o v.rs i) && (at_ Rc.o v.rs i).k != 0 && !concerns (repaired v) i).map fun (i : Nat) => (i : Int)
def walkL (v : Pt) (g : Int → List UInt8 → List (List UInt8) → List (List UInt8) × Bool) (path : List UInt8) : List (List UInt8) → List En → List (List UInt8) × Bool
  | ps, [] => (ps, true)
  | ps, x :: l =>
    if right v x.f then
      if 500 < ps.length + 1 then (ps ++ [path ++ 47 :: x.n], false)
      else if dir (rc v x.f.r) then
        if (g x.f.r (path ++ 47 :: x.n) (ps ++ [path ++ 47 :: x.n])).2 then walkL v g path (g x.f.r (path ++ 47 :: x.n) (ps ++ [path ++ 47 :: x.n])).1 l
        else ((g x.f.r (path ++ 47 :: x.n) (ps ++ [path ++ 47 :: x.n])).1, false)
      else walkL v g path (ps ++ [path ++ 47 :: x.n]) l
    else walkL v g path ps l
def walk (v : Pt) : Nat → Int → List UInt8 → List (List UInt8) → List (List UInt8) × Bool
  | 0, _, _, ps => (ps, true)
  | m + 1, d, path, ps => walkL v (walk v m) path ps (rc v d).es
def pathsIn (v : Pt) : Option (List (List UInt8)) := if (walk v 24 5 [] [[47]]).2 then some (walk v 24 5 [] [[47]]).1 else none
end Ck
namespace Go.Hp
open Go.RowKit
def OldC (w : World) (b p : Nat) (vs : List Value) : Prop := ∀ j v, vs[j]? = some v → w.cell? ⟨b, p + j, none⟩ = some v
section
variable {P : Program} {ops : Array Oper} {o : Oper} {a : Act} {w0 w : World} {rs : List Res} {Q : Exit → Act → World → Prop} {K : Act → World → Prop}
theorem OldC.below {B b p : Nat} {vs : List Value} {w' : World} (h : OldC w b p vs) (hb : Below B w w') (hB : b < B) : OldC w' b p vs := fun j v hj => (hb.cell (p := ⟨b, p + j, none⟩) hB).trans (h j v hj)
theorem ow_oldC {t n : Nat} {x : Operand} {b p : Nat} {vs : List Value} (st : St w0 w rs) (ho : o.op = .load t x) (hT : AggT P t n) (hx : a.eval x = .pointer (some ⟨b, p, none⟩)) (hb : b < w0.heap.size) (hv : OldC w0 b p vs) (hn : vs.length = n)
    (h : K (a.put o.dst (.agg vs.toArray)) w) : OW P o a w K Q := OW.mk (wp_rowN ho hT hx hn (fun j v hj => (st.old hb).trans (hv j v hj)) h)
theorem Yphi.oldC {t n : Nat} {x : Operand} {b p : Nat} {vs : List Value} (st : St w0 w rs) (ho : o.op = .load t x) (hT : AggT P t n) (hw : Region.wanted o (yielded ops a.tmps) = true) (hx : a.eval x = .pointer (some ⟨b, p, none⟩)) (hb : b < w0.heap.size) (hv : OldC w0 b p vs) (hn : vs.length = n) : Yphi P ops o a w (isV (.agg vs.toArray)) :=
  .inl ⟨hw, wp_rowN ho hT hx hn (fun j v hj => (st.old hb).trans (hv j v hj)) ⟨_, rfl, Below.refl _ _, rfl⟩⟩
theorem ow_hereC {t n : Nat} {x : Operand} {b p : Nat} {vs : List Value} (ho : o.op = .load t x) (hT : AggT P t n) (hx : a.eval x = .pointer (some ⟨b, p, none⟩)) (hv : OldC w b p vs) (hn : vs.length = n)
    (h : K (a.put o.dst (.agg vs.toArray)) w) : OW P o a w K Q := OW.mk (wp_rowN ho hT hx hn hv h)
theorem ow_here1 {t : TypeId} {x : Operand} {b p : Nat} {v : Value} (ho : o.op = .load t x) (hT : OneT P t) (hx : a.eval x = .pointer (some ⟨b, p, none⟩)) (hv : w.cell? ⟨b, p, none⟩ = some v)
    (h : K (a.put o.dst v) w) : OW P o a w K Q := by
  refine OW.mk (wp_value ?_ h)
  simp [execOp, ho, hx, run_load1 (P := P) (t := t) (hT := hT) hv]
theorem Yphi.hereC {t n : Nat} {x : Operand} {b p : Nat} {vs : List Value} (ho : o.op = .load t x) (hT : AggT P t n) (hw : Region.wanted o (yielded ops a.tmps) = true) (hx : a.eval x = .pointer (some ⟨b, p, none⟩)) (hv : OldC w b p vs) (hn : vs.length = n) : Yphi P ops o a w (isV (.agg vs.toArray)) :=
  .inl ⟨hw, wp_rowN ho hT hx hn hv ⟨_, rfl, Below.refl _ _, rfl⟩⟩
theorem St.perm {rs' : List Res} (st : St w0 w rs) (h : rs.Perm rs') : St w0 w rs' :=
  ⟨st.below, fun r hr => st.holds r (h.mem_iff.2 hr), (h.pairwise_iff (fun h => Res.ne_symm h)).1 st.apart⟩
theorem St.part {rs' : List Res} (l : List Res) (st : St w0 w rs) (h : rs.Perm (rs' ++ l)) : St w0 w rs' :=
  have st' := st.perm h
  ⟨st'.below, fun r hr => st'.holds r (List.mem_append_left _ hr), (List.pairwise_append.1 st'.apart).1⟩
theorem St.boxC {i b : Nat} {t : TypeId} {cs : List Value} (st : St w0 w rs) (hi : rs[i]? = some (.box b t cs)) : OldC w b 0 cs := fun j v hj => by rw [Nat.zero_add, st.cell hi]; exact hj
theorem St.room0 (st : St w0 w rs) : St w0 w (.room 0 :: rs) := st.cons (Nat.zero_le _) fun s _ k hk => by cases hk
end
class El (α : Type) (n : outParam Nat) where
  cells : α → List Value
  o : α
  len : ∀ a, (cells a).length = n
  one : ∀ a, ∀ u ∈ cells a, u.oneCell' = true
  pos : 0 < n
def El.all {α : Type} {n : Nat} [El α n] (l : List α) : List Value := l.flatMap El.cells
abbrev El.ix {α : Type} {n : Nat} [El α n] (l : List α) (i : Nat) : α := Ck.at_ (El.o) l i
section
variable {α : Type} {n : Nat} [E : El α n]
theorem El.all_length (l : List α) : (El.all l).length = l.length * n := by
  induction l with
  | nil => simp [El.all]
  | cons q l ih =>
    show (El.cells q ++ El.all l).length = _
    rw [List.length_append, ih, List.length_cons, El.len, Nat.add_mul, Nat.one_mul, Nat.add_comm]
theorem El.all_append (a b : List α) : El.all (a ++ b) = El.all a ++ El.all b := List.flatMap_append ..
theorem El.all_one (l : List α) : ∀ u ∈ El.all l, u.oneCell' = true := by
  intro u hu
  obtain ⟨q, _, hq⟩ := List.mem_flatMap.1 hu
  exact El.one q u hq
theorem El.all_get (l : List α) (i : Nat) (h : i < l.length) (j : Nat) (hj : j < n) : (El.all l)[i * n + j]? = (El.cells (El.ix l i))[j]? := by
  induction l generalizing i with
  | nil => simp at h
  | cons q l ih =>
    show (El.cells q ++ El.all l)[i * n + j]? = _
    have hl : (El.cells q).length = n := El.len q
    cases i with
    | zero =>
      rw [List.getElem?_append_left (by omega), Nat.zero_mul, Nat.zero_add]
      rfl
    | succ i =>
      have e : (i + 1) * n + j = n + (i * n + j) := by rw [Nat.add_mul, Nat.one_mul]; omega
      rw [e, List.getElem?_append_right (by omega), hl, Nat.add_sub_cancel_left, ih i (by simpa using h)]
      rfl
theorem El.take (M : List α) (R : List Value) (k : Nat) (h : k < M.length) : ((El.all M ++ R).drop (k * n)).take n = El.cells (El.ix M k) := by
  have hl : (El.cells (El.ix M k)).length = n := El.len _
  have hb : k * n + n ≤ (El.all M).length := by
    rw [El.all_length, ← Nat.succ_mul]
    exact Nat.mul_le_mul_right _ h
  apply List.ext_getElem?
  intro j
  by_cases hj : j < n
  · rw [List.getElem?_take, if_pos hj, List.getElem?_drop, List.getElem?_append_left (by omega), El.all_get M k h j hj]
  · rw [List.getElem?_take, if_neg hj, List.getElem?_eq_none (by omega)]
theorem El.set (M : List α) (R : List Value) (k : Nat) (a : α) (h : k < M.length) : (El.all M ++ R).take (k * n) ++ El.cells a ++ (El.all M ++ R).drop (k * n + n) = El.all (M.set k a) ++ R := by
  have h1 : (El.all (M.take k)).length = k * n := by rw [El.all_length, List.length_take, Nat.min_eq_left (by omega)]
  have h2 : (El.all (M.take (k + 1))).length = k * n + n := by rw [El.all_length, List.length_take, Nat.min_eq_left (by omega), Nat.add_mul, Nat.one_mul]
  have e1 : (El.all M ++ R).take (k * n) = El.all (M.take k) := by
    conv => lhs; rw [← List.take_append_drop k M, El.all_append]
    rw [List.append_assoc, List.take_append_of_le_length (by omega), List.take_of_length_le (by omega)]
  have e2 : (El.all M ++ R).drop (k * n + n) = El.all (M.drop (k + 1)) ++ R := by
    conv => lhs; rw [← List.take_append_drop (k + 1) M, El.all_append]
    rw [List.append_assoc, ← h2, List.drop_left]
  rw [e1, e2, List.set_eq_take_append_cons_drop, if_pos h, El.all_append]
  show _ = (El.all (M.take k) ++ (El.cells a ++ El.all (M.drop (k + 1)))) ++ R
  simp only [List.append_assoc]
theorem El.cell (M : List α) (R : List Value) (k : Nat) (h : k < M.length) (j : Nat) (hj : j < n) : (El.all M ++ R)[k * n + j]? = (El.cells (El.ix M k))[j]? := by
  have hb : k * n + n ≤ (El.all M).length := by
    rw [El.all_length, ← Nat.succ_mul]
    exact Nat.mul_le_mul_right _ h
  rw [List.getElem?_append_left (by omega), El.all_get M k h j hj]
theorem El.set1 (M : List α) (R : List Value) (k : Nat) (h : k < M.length) (j : Nat) (hj : j < n) (v : Value) (a : α) (ha : El.cells a = (El.cells (El.ix M k)).set j v) :
    (El.all M ++ R).take (k * n + j) ++ [v] ++ (El.all M ++ R).drop (k * n + j + 1) = El.all (M.set k a) ++ R := by
  have hb : k * n + n ≤ (El.all M).length := by
    rw [El.all_length, ← Nat.succ_mul]
    exact Nat.mul_le_mul_right _ h
  rw [← El.set M R k a h, ha]
  have hlen : (El.all M ++ R).length = (El.all M).length + R.length := List.length_append
  have hcl : ((El.cells (El.ix M k)).set j v).length = n := by rw [List.length_set]; exact El.len _
  apply List.ext_getElem?
  intro i
  rw [List.append_assoc, List.append_assoc]
  by_cases h1 : i < k * n
  · rw [List.getElem?_append_left (by rw [List.length_take]; omega), List.getElem?_append_left (by rw [List.length_take]; omega), List.getElem?_take, if_pos (by omega), List.getElem?_take, if_pos h1]
  · rw [List.getElem?_append_right (l₁ := (El.all M ++ R).take (k * n)) (by rw [List.length_take]; omega)]
    rw [show ((El.all M ++ R).take (k * n)).length = k * n by rw [List.length_take]; omega]
    by_cases h2 : i < k * n + n
    · rw [List.getElem?_append_left (l₁ := (El.cells (El.ix M k)).set j v) (by omega), List.getElem?_set]
      by_cases h3 : i < k * n + j
      · rw [List.getElem?_append_left (l₁ := (El.all M ++ R).take (k * n + j)) (by rw [List.length_take]; omega), List.getElem?_take, if_pos h3, if_neg (by omega)]
        have := El.cell M R k h (i - k * n) (by omega)
        rw [show k * n + (i - k * n) = i by omega] at this
        exact this
      · rw [List.getElem?_append_right (l₁ := (El.all M ++ R).take (k * n + j)) (by rw [List.length_take]; omega), show ((El.all M ++ R).take (k * n + j)).length = k * n + j by rw [List.length_take]; omega]
        by_cases h4 : i = k * n + j
        · rw [if_pos (by omega), if_pos (by have : (El.cells (El.ix M k)).length = n := El.len _; omega), show i - (k * n + j) = 0 by omega]
          rfl
        · rw [if_neg (by omega), show i - (k * n + j) = (i - (k * n + j) - 1) + 1 by omega]
          show ((El.all M ++ R).drop (k * n + j + 1))[i - (k * n + j) - 1]? = _
          rw [List.getElem?_drop, show k * n + j + 1 + (i - (k * n + j) - 1) = i by omega]
          have := El.cell M R k h (i - k * n) (by omega)
          rw [show k * n + (i - k * n) = i by omega] at this
          exact this
    · rw [List.getElem?_append_right (l₁ := (El.all M ++ R).take (k * n + j)) (by rw [List.length_take]; omega), show ((El.all M ++ R).take (k * n + j)).length = k * n + j by rw [List.length_take]; omega, List.getElem?_append_right (l₁ := (El.cells (El.ix M k)).set j v) (by omega), hcl]
      rw [show i - (k * n + j) = (i - (k * n + j) - 1) + 1 by omega]
      show ((El.all M ++ R).drop (k * n + j + 1))[i - (k * n + j) - 1]? = _
      rw [List.getElem?_drop, List.getElem?_drop]
      congr 1
      omega
def Lst (w : World) (B : Nat) (A : Option Addr) (l : List α) : Prop := Rd w B n A l.length (El.all l)
section
variable {w w' w0 : World} {B B' : Nat} {A : Option Addr} {l : List α} {rs : List Res}
theorem Lst.nil (w : World) (B : Nat) (A : Option Addr) : Lst w B A ([] : List α) := Rd.nil A
theorem Lst.below (h : Lst w B A l) (hb : Below B' w w') (hB : B ≤ B') : Lst w' B A l := Rd.below h hb hB
theorem Lst.more (h : Lst w B A l) (hB : B ≤ B') : Lst w B' A l := Rd.more h hB
theorem Lst.st (h : Lst w0 B A l) (st : St w0 w rs) (hB : B ≤ w0.heap.size) : Lst w B A l := h.below st.below hB
theorem Lst.at_ (h : Lst w B A l) (hn : 0 < l.length) : ∃ b p, A = some ⟨b, p, none⟩ ∧ b < B ∧ ∀ k, k < l.length → OldC w b (p + k * n) (El.cells (El.ix l k)) := by
  obtain ⟨b, o, hA, hb, hc⟩ := h.2 hn
  refine ⟨b, o, hA, hb, fun k hk j v hj => ?_⟩
  have hjn : j < n := by have := (List.getElem?_eq_some_iff.1 hj).1; rw [El.len] at this; exact this
  rw [Nat.add_assoc]
  exact hc _ v (by rw [El.all_get l k hk j hjn]; exact hj)
def own (t : TypeId) (A : Option Addr) (c : Nat) (l : List α) : Res := if l.length = 0 then .room 0 else .row t n (.slice A l.length c) l.length (El.all l)
variable {t : TypeId} {c : Nat}
theorem own_nil (t : TypeId) (A : Option Addr) (c : Nat) : own t A c ([] : List α) = .room 0 := rfl
theorem own_pos (h : 0 < l.length) : own t A c l = .row t n (.slice A l.length c) l.length (El.all l) := if_neg (by omega)
theorem St.own (st : St w0 w (.row t n (.slice A l.length c) l.length (El.all l) :: rs)) : St w0 w (own t A c l :: rs) := by
  unfold Hp.own
  split
  · exact st.tail.room0
  · exact st
theorem St.lst (st : St w0 w rs) (hm : Hp.own t A c l ∈ rs) : Lst w w.heap.size A l := by
  have h := st.holds _ hm
  unfold Hp.own at h
  split at h
  · rename_i h0
    rw [List.eq_nil_of_length_eq_zero h0]
    exact Lst.nil _ _ _
  · exact Rd.of_row h
theorem St.lst_row (st : St w0 w rs) {i : Nat} (hi : rs[i]? = some (.row t n (.slice A l.length c) l.length (El.all l))) : Lst w w.heap.size A l := Rd.of_row (st.get hi)
theorem St.own_at (st : St w0 w rs) (hm : Hp.own t A c l ∈ rs) (hn : 0 < l.length) : ∃ g, A = some ⟨g, 0, none⟩ ∧ w0.heap.size ≤ g ∧ g < w.heap.size := by
  have h := st.holds _ hm
  rw [own_pos hn] at h
  rcases h.2 with ⟨hv, h0⟩ | ⟨g, cap, cur, hv, hbase, hg, hnc, hcap, hsz, htake⟩
  · omega
  · injection hv with h1 h2 h3
    exact ⟨g, h1, hbase, (Array.getElem?_eq_some_iff.1 hg).1⟩
theorem St.own_cells {g : Nat} (st : St w0 w rs) (hm : Hp.own t (some ⟨g, 0, none⟩) c l ∈ rs) (k : Nat) (hk : k < l.length) : OldC w g (k * n) (El.cells (El.ix l k)) := by
  obtain ⟨b, p, hA, _, hc⟩ := (st.lst hm).at_ (by omega)
  injection hA with hA
  injection hA with h1 h2
  subst h1
  have h3 := hc k hk
  rwa [← h2, Nat.zero_add] at h3
theorem St.own_fit (st : St w0 w rs) (hm : Hp.own t A c l ∈ rs) : l.length ≤ maxLen := by
  have h := st.holds _ hm
  unfold Hp.own at h
  split at h
  · omega
  · rcases h.2 with ⟨hv, h0⟩ | ⟨g, cap, cur, hv, hbase, hg, hnc, hcap, hsz, htake⟩
    · omega
    · omega
end
end
section
variable {P : Program} {ops : Array Oper} {rest : List Oper} {o : Oper} {a : Act} {w0 w : World} {rs : List Res} {Q : Exit → Act → World → Prop} {K : Act → World → Prop}
theorem ow_ownC {α : Type} {n : Nat} [El α n] {t e : TypeId} {x : Operand} {c : Nat} {l : List α} {g : Nat} (k : Nat) (st : St w0 w rs) (ho : o.op = .load t x) (hT : AggT P t n) (hx : a.eval x = .pointer (some ⟨g, k * n, none⟩)) (hm : Hp.own e (some ⟨g, 0, none⟩) c l ∈ rs) (hk : k < l.length)
    (h : K (a.put o.dst (.agg (El.cells (El.ix l k)).toArray)) w) : OW P o a w K Q := ow_hereC ho hT hx (st.own_cells hm k hk) (El.len _) h
theorem ow_appendFull {t e : TypeId} {z : Value} {size bytes : Nat} {s x : Operand} {m k c c2 B B2 : Nat} {A A2 : Option Addr} {olds news : List Value} (st : St w0 w rs)
    (ho : o.op = .call { callee := .builtin .append, args := #[s, x], argTypes := #[t, t] }) (hT : SliceT P t e z size bytes) (hv : a.eval s = .slice A m c) (hx : a.eval x = .slice A2 k c2)
    (hs : Rd w B size A m olds) (hs2 : Rd w B2 size A2 k news) (h1 : ∀ u ∈ news, u.oneCell' = true) (hc : c < m + k) (h63 : m + k ≤ maxLen) (hbytes : (m + k) * bytes ≤ 140737488355328)
    (h : ∀ b c' w', St w0 w' (.row e size (.slice (some ⟨b, 0, none⟩) (m + k) c') (m + k) (olds ++ news) :: rs) → K (a.put o.dst (.slice (some ⟨b, 0, none⟩) (m + k) c')) w') : OW P o a w K Q := by
  obtain ⟨i0, hi, hz0, hz1, hz2⟩ := info_parts hT.info
  have hcs := hT.cells
  have hml : m + k ≤ 9223372036854775807 := by unfold maxLen at h63; omega
  have hold : (Builtin.firstCells i0.size m (.slice A m c)).run P w.drew = .ok olds.toArray w.drew := by
    rcases Nat.eq_zero_or_pos m with h0 | h0
    · subst h0
      have : olds = [] := List.eq_nil_of_length_eq_zero (by simpa using hs.1)
      subst this
      cases A with
      | none => exact run_firstCells_none w.drew i0.size 0 0 c
      | some ad => exact run_firstCells_some w.drew i0.size 0 ad 0 c [] (by simp) (fun j u hj => by simp at hj)
    · obtain ⟨b, p, rfl, _, hcell⟩ := hs.2 h0
      exact run_firstCells_some w.drew i0.size m ⟨b, p, none⟩ m c olds (by rw [hz1]; exact hs.1) (fun j u hj => by rw [add_lit]; simpa using hcell j u hj)
  have hsrc : Src P i0.size t (.slice A2 k c2) k news w := by
    cases A2 with
    | none =>
      have : k = 0 := by
        rcases Nat.eq_zero_or_pos k with h0 | h0
        · exact h0
        · obtain ⟨b, p, hA, _⟩ := hs2.2 h0
          cases hA
      subst this
      have : news = [] := List.eq_nil_of_length_eq_zero (by simpa using hs2.1)
      subst this
      exact Src.ofNil w hT.under c2
    | some ad =>
      refine Src.ofSlice w hT.under ad k c2 news (by rw [hz1]; exact hs2.1) (fun j u hj => ?_) h1
      rcases Nat.eq_zero_or_pos k with h0 | h0
      · subst h0
        have : news = [] := List.eq_nil_of_length_eq_zero (by simpa using hs2.1)
        subst this
        simp at hj
      · obtain ⟨b, p, hA, _, hcell⟩ := hs2.2 h0
        injection hA with hA
        subst hA
        rw [add_lit]
        exact hcell j u hj
  have hrun := run_append_grow_src (P := P) w t t o.type e i0 z hT.under hi hz0 A m c olds hold (.slice A2 k c2) k news hsrc hc (by omega) (by rw [hz2]; exact growslice_fits (by omega) hbytes)
  have hge := grownCap_ge w (m + k) c e
  have hle := grownCap_le_maxLen w (m + k) c e h63
  have hol : (olds ++ news).length = (m + k) * size := by rw [List.length_append, hs.1, hs2.1, Nat.add_mul]
  refine OW.mk (Lib.wp_append_run w s x t t ho _ _ hv hx _ _ hrun (h _ _ _ ?_))
  refine st.drew.fresh ((Below.refl _ _).alloc (Nat.le_refl _) _) ⟨hol, .inr ⟨_, _, _, rfl, Nat.le_refl _, heap_alloc_new w.drew _, hge, hle, ?_, ?_⟩⟩
  · rw [Array.size_append, List.size_toArray, hol, size_zeroCells, hcs, ← Nat.add_mul]
    congr 1
    omega
  · rw [Array.toList_append, List.take_append_of_le_length (by rw [List.toList_toArray, hol]; exact Nat.le_refl _), List.toList_toArray, List.take_of_length_le (by rw [hol]; exact Nat.le_refl _)]
end
end Go.Hp
namespace Ck
open Go Go.RowKit Go.Hp
instance elInt : El Int 1 := ⟨fun x => [.int .i64 x], 0, fun _ => rfl, fun _ u hu => by simp at hu; subst hu; rfl, by decide⟩
instance elBool : El Bool 1 := ⟨fun x => [.bool x], false, fun _ => rfl, fun _ u hu => by simp at hu; subst hu; rfl, by decide⟩
instance elByte : El UInt8 1 := ⟨fun x => [.int .u8 x.toNat], 0, fun _ => rfl, fun _ u hu => by simp at hu; subst hu; rfl, by decide⟩
instance elText : El (List UInt8) 1 := ⟨fun x => [.string ⟨x.toArray⟩], [], fun _ => rfl, fun _ u hu => by simp at hu; subst hu; rfl, by decide⟩
instance elRun : El Run 2 := ⟨fun x => [.int .i64 x.s, .int .i64 x.l], Run.o, fun _ => rfl, fun _ u hu => by simp at hu; rcases hu with rfl | rfl <;> rfl, by decide⟩
instance elNm : El Nm 3 := ⟨fun x => [.int .i64 x.d.r, .int .i64 x.d.q, .string ⟨x.n.toArray⟩], Nm.o, fun _ => rfl, fun _ u hu => by simp at hu; rcases hu with rfl | rfl | rfl <;> rfl, by decide⟩
instance elEn : El En 4 := ⟨fun x => [.string ⟨x.n.toArray⟩, .int .i64 x.f.r, .int .i64 x.f.q, .int .i64 x.z], En.o, fun _ => rfl, fun _ u hu => by simp at hu; rcases hu with rfl | rfl | rfl | rfl <;> rfl, by decide⟩
instance elFd : El Fd 3 := ⟨fun x => [.int .i64 x.k, .int .i64 x.r, .int .i64 x.i], Fd.o, fun _ => rfl, fun _ u hu => by simp at hu; rcases hu with rfl | rfl | rfl <;> rfl, by decide⟩
structure VSm where
  r : List Run
  z : Int
  A : Option Addr
  c : Nat
structure VRc where
  u : Bool
  q : Int
  k : Int
  b : Ref
  ln : Int
  ds : Int
  ns : List Nm
  ss : List VSm
  es : List En
  An : Option Addr
  cn : Nat
  As : Option Addr
  cs : Nat
  Ae : Option Addr
  ce : Nat
structure VPt where
  c : Int
  al : List Run
  rs : List VRc
  ds : List Int
  mp : List UInt8
  Aa : Option Addr
  ca : Nat
  Ar : Option Addr
  cr : Nat
  Ad : Option Addr
  cd : Nat
def VSm.p (x : VSm) : Sm := ⟨x.r, x.z⟩
def VRc.p (x : VRc) : Rc := ⟨x.u, x.q, x.k, x.b, x.ln, x.ds, x.ns, x.ss.map VSm.p, x.es⟩
def VPt.p (v : VPt) : Pt := ⟨v.c, v.al, v.rs.map VRc.p, v.ds, v.mp⟩
def VSm.o : VSm := ⟨[], 0, none, 0⟩
def VRc.o : VRc := ⟨false, 0, 0, Ref.o, 0, 0, [], [], [], none, 0, none, 0, none, 0⟩
def VPt.val (v : VPt) : Value := .agg #[.int .i64 v.c, .slice v.Aa v.al.length v.ca, .slice v.Ar v.rs.length v.cr, .slice v.Ad v.ds.length v.cd, .string ⟨v.mp.toArray⟩]
instance elVSm : El VSm 2 := ⟨fun x => [.slice x.A x.r.length x.c, .int .i64 x.z], VSm.o, fun _ => rfl, fun _ u hu => by simp at hu; rcases hu with rfl | rfl <;> rfl, by decide⟩
instance elVRc : El VRc 10 := ⟨fun x => [.bool x.u, .int .i64 x.q, .int .i64 x.k, .int .i64 x.b.r, .int .i64 x.b.q, .int .i64 x.ln, .int .i64 x.ds, .slice x.An x.ns.length x.cn, .slice x.As x.ss.length x.cs, .slice x.Ae x.es.length x.ce], VRc.o, fun _ => rfl, fun _ u hu => by simp at hu; rcases hu with rfl | rfl | rfl | rfl | rfl | rfl | rfl | rfl | rfl | rfl <;> rfl, by decide⟩
def VSm.At (w : World) (B : Nat) (x : VSm) : Prop := Lst w B x.A x.r
structure VRc.At (w : World) (B : Nat) (x : VRc) : Prop where
  ns : Lst w B x.An x.ns
  ss : Lst w B x.As x.ss
  rr : ∀ s ∈ x.ss, s.At w B
  es : Lst w B x.Ae x.es
structure VPt.At (w : World) (B : Nat) (v : VPt) : Prop where
  al : Lst w B v.Aa v.al
  rs : Lst w B v.Ar v.rs
  rcs : ∀ x ∈ v.rs, x.At w B
  ds : Lst w B v.Ad v.ds
structure VRc.Fit (x : VRc) : Prop where
  ns : x.ns.length ≤ 100000
  ss : x.ss.length ≤ 100000
  es : x.es.length ≤ 100000
  rr : ∀ s ∈ x.ss, s.r.length ≤ 100000
  nl : ∀ n ∈ x.ns, n.n.length ≤ 100000
  el : ∀ n ∈ x.es, n.n.length ≤ 100000
structure VPt.Fit (v : VPt) : Prop where
  al : v.al.length ≤ 100000
  rs : v.rs.length ≤ 100000
  rcs : ∀ x ∈ v.rs, x.Fit
  ds : v.ds.length ≤ 100000
section
variable {w w' w0 : World} {B B' : Nat} {rs : List Res} {x : VRc} {v : VPt} {s : VSm}
theorem VRc.At.below (h : x.At w B) (hb : Below B' w w') (hB : B ≤ B') : x.At w' B := ⟨h.ns.below hb hB, h.ss.below hb hB, fun s hs => Lst.below (h.rr s hs) hb hB, h.es.below hb hB⟩
theorem VPt.At.below (h : v.At w B) (hb : Below B' w w') (hB : B ≤ B') : v.At w' B := ⟨h.al.below hb hB, h.rs.below hb hB, fun x hx => (h.rcs x hx).below hb hB, h.ds.below hb hB⟩
theorem VRc.At.st (h : x.At w0 B) (st : St w0 w rs) (hB : B ≤ w0.heap.size) : x.At w B := h.below st.below hB
theorem VPt.At.st (h : v.At w0 B) (st : St w0 w rs) (hB : B ≤ w0.heap.size) : v.At w B := h.below st.below hB
theorem VRc.At.more (h : x.At w B) (hB : B ≤ B') : x.At w B' := ⟨h.ns.more hB, h.ss.more hB, fun s hs => Lst.more (h.rr s hs) hB, h.es.more hB⟩
theorem VPt.At.more (h : v.At w B) (hB : B ≤ B') : v.At w B' := ⟨h.al.more hB, h.rs.more hB, fun x hx => (h.rcs x hx).more hB, h.ds.more hB⟩
end
theorem VPt.rc_at (v : VPt) (i : Nat) (h : i < v.rs.length) : at_ Rc.o v.p.rs i = (at_ VRc.o v.rs i).p := at_map VRc.p VRc.o Rc.o v.rs i h
theorem VRc.sm_at (x : VRc) (i : Nat) (h : i < x.ss.length) : at_ Sm.o x.p.ss i = (at_ VSm.o x.ss i).p := at_map VSm.p VSm.o Sm.o x.ss i h
theorem VPt.p_len (v : VPt) : v.p.rs.length = v.rs.length := List.length_map ..
theorem VRc.p_len (x : VRc) : x.p.ss.length = x.ss.length := List.length_map ..
abbrev rowRun (A : Option Addr) (c : Nat) (l : List Run) : Res := Hp.own 78 A c l
abbrev rowInt (A : Option Addr) (c : Nat) (l : List Int) : Res := Hp.own 3 A c l
abbrev rowNm (A : Option Addr) (c : Nat) (l : List Nm) : Res := Hp.own 71 A c l
abbrev rowEn (A : Option Addr) (c : Nat) (l : List En) : Res := Hp.own 73 A c l
abbrev rowSm (A : Option Addr) (c : Nat) (l : List VSm) : Res := Hp.own 80 A c l
abbrev rowRc (A : Option Addr) (c : Nat) (l : List VRc) : Res := Hp.own 66 A c l
def VSm.res (x : VSm) : Res := rowRun x.A x.c x.r
def VRc.res (x : VRc) : List Res := rowNm x.An x.cn x.ns :: rowEn x.Ae x.ce x.es :: rowSm x.As x.cs x.ss :: x.ss.map VSm.res
def deep (l : List VRc) : List Res := l.flatMap VRc.res
section
variable {w w0 : World} {rs : List Res} {x : VRc} {v : VPt} {l : List VRc}
theorem VRc.at_of (st : St w0 w rs) (h : ∀ r ∈ x.res, r ∈ rs) : x.At w w.heap.size :=
  ⟨st.lst (h _ (List.mem_cons_self ..)), st.lst (h _ (List.mem_cons_of_mem _ (List.mem_cons_of_mem _ (List.mem_cons_self ..)))),
    fun s hs => st.lst (h _ (List.mem_cons_of_mem _ (List.mem_cons_of_mem _ (List.mem_cons_of_mem _ (List.mem_map_of_mem hs))))), st.lst (h _ (List.mem_cons_of_mem _ (List.mem_cons_self ..)))⟩
theorem mem_deep {r : Res} (hx : x ∈ l) (hr : r ∈ x.res) : r ∈ deep l := List.mem_flatMap.2 ⟨x, hx, hr⟩
theorem VPt.at_of (st : St w0 w rs) (h1 : rowRc v.Ar v.cr v.rs ∈ rs) (h2 : rowRun v.Aa v.ca v.al ∈ rs) (h3 : rowInt v.Ad v.cd v.ds ∈ rs) (h4 : ∀ r ∈ deep v.rs, r ∈ rs) : v.At w w.heap.size :=
  ⟨st.lst h2, st.lst h1, fun x hx => VRc.at_of st fun r hr => h4 r (mem_deep hx hr), st.lst h3⟩
theorem deep_append (a b : List VRc) : deep (a ++ b) = deep a ++ deep b := List.flatMap_append ..
theorem deep_split (l : List VRc) (i : Nat) (h : i < l.length) : deep l = deep (l.take i) ++ ((at_ VRc.o l i).res ++ deep (l.drop (i + 1))) := by
  conv => lhs; rw [← List.take_append_drop i l, drop_at VRc.o l i h]
  rw [deep_append]; rfl
theorem deep_set (l : List VRc) (i : Nat) (h : i < l.length) (y : VRc) : deep (l.set i y) = deep (l.take i) ++ (y.res ++ deep (l.drop (i + 1))) := by
  rw [List.set_eq_take_append_cons_drop, if_pos h, deep_append]; rfl
theorem deep_front (l : List VRc) (i : Nat) (h : i < l.length) (H T : List Res) : (H ++ (deep l ++ T)).Perm (H ++ ((at_ VRc.o l i).res ++ (deep (l.take i) ++ (deep (l.drop (i + 1)) ++ T)))) := by
  rw [deep_split l i h]
  refine List.Perm.append_left H ?_
  simp only [List.append_assoc]
  exact List.perm_append_comm_assoc _ _ _
theorem deep_back (l : List VRc) (i : Nat) (h : i < l.length) (y : VRc) (H T : List Res) : (H ++ (y.res ++ (deep (l.take i) ++ (deep (l.drop (i + 1)) ++ T)))).Perm (H ++ (deep (l.set i y) ++ T)) := by
  rw [deep_set l i h]
  refine List.Perm.append_left H ?_
  simp only [List.append_assoc]
  exact List.perm_append_comm_assoc _ _ _
end
end Ck
namespace Go.Hp
section
variable {α : Type} {x y : α} {l m : List α} {n : Nat}
theorem zta : (x :: l).take (n + 1) = x :: l.take n := rfl
theorem ztz : l.take 0 = [] := rfl
theorem zda : (x :: l).drop (n + 1) = l.drop n := rfl
theorem zdz : l.drop 0 = l := rfl
theorem zca : x :: l ++ m = x :: (l ++ m) := rfl
theorem zcn : [] ++ l = l := rfl
theorem zan : l ++ [] = l := List.append_nil l
theorem zsz : (x :: l).set 0 y = y :: l := rfl
theorem zss : (x :: l).set (n + 1) y = x :: l.set n y := rfl
theorem zpt : l.toArray.setIfInBounds n x = (l.set n x).toArray := by simp
theorem zl0 : ([] : List α).length = 0 := rfl
theorem zls : (x :: l).length = l.length + 1 := rfl
end
theorem zac (a b : Int) : a + b - b = a := Int.add_sub_cancel a b
end Go.Hp
namespace Go.Proofs.YtgcjejajljhnaaaGreatDoor
open Go.Hp
instance : OneT Tryz.prog 3 := ⟨fun _ => by kernel_rfl, fun _ => by kernel_rfl⟩
instance : OneT Tryz.prog 4 := ⟨fun _ => by kernel_rfl, fun _ => by kernel_rfl⟩
instance : OneT Tryz.prog 9 := ⟨fun _ => by kernel_rfl, fun _ => by kernel_rfl⟩
instance : OneT Tryz.prog 29 := ⟨fun _ => by kernel_rfl, fun _ => by kernel_rfl⟩
instance : OneT Tryz.prog 117 := ⟨fun _ => by kernel_rfl, fun _ => by kernel_rfl⟩
instance : ZeroT Tryz.prog 3 (.int .i64 0) := ⟨fun _ => by kernel_rfl⟩
end Go.Proofs.YtgcjejajljhnaaaGreatDoor
namespace Go.Proofs.YtgcjejajljhnaaaGreatDoor
open Go.Hp
instance oneT_0 : OneT Tryz.prog 22 := ⟨fun _ => by kernel_rfl, fun _ => by kernel_rfl⟩
instance oneT_1 : OneT Tryz.prog 23 := ⟨fun _ => by kernel_rfl, fun _ => by kernel_rfl⟩
instance oneT_2 : OneT Tryz.prog 62 := ⟨fun _ => by kernel_rfl, fun _ => by kernel_rfl⟩
instance oneT_3 : OneT Tryz.prog 63 := ⟨fun _ => by kernel_rfl, fun _ => by kernel_rfl⟩
instance oneT_4 : OneT Tryz.prog 64 := ⟨fun _ => by kernel_rfl, fun _ => by kernel_rfl⟩
instance oneT_5 : OneT Tryz.prog 41 := ⟨fun _ => by kernel_rfl, fun _ => by kernel_rfl⟩
instance oneT_6 : OneT Tryz.prog 24 := ⟨fun _ => by kernel_rfl, fun _ => by kernel_rfl⟩
instance oneT_7 : OneT Tryz.prog 51 := ⟨fun _ => by kernel_rfl, fun _ => by kernel_rfl⟩
instance oneT_8 : OneT Tryz.prog 35 := ⟨fun _ => by kernel_rfl, fun _ => by kernel_rfl⟩
instance oneT_9 : OneT Tryz.prog 5 := ⟨fun _ => by kernel_rfl, fun _ => by kernel_rfl⟩
instance oneT_10 : OneT Tryz.prog 117 := ⟨fun _ => by kernel_rfl, fun _ => by kernel_rfl⟩
instance oneT_11 : OneT Tryz.prog 29 := ⟨fun _ => by kernel_rfl, fun _ => by kernel_rfl⟩
instance oneT_12 : OneT Tryz.prog 156 := ⟨fun _ => by kernel_rfl, fun _ => by kernel_rfl⟩
instance oneT_13 : OneT Tryz.prog 158 := ⟨fun _ => by kernel_rfl, fun _ => by kernel_rfl⟩
instance oneT_14 : OneT Tryz.prog 186 := ⟨fun _ => by kernel_rfl, fun _ => by kernel_rfl⟩
instance oneT_15 : OneT Tryz.prog 189 := ⟨fun _ => by kernel_rfl, fun _ => by kernel_rfl⟩
instance oneT_16 : OneT Tryz.prog 107 := ⟨fun _ => by kernel_rfl, fun _ => by kernel_rfl⟩
instance oneT_17 : OneT Tryz.prog 99 := ⟨fun _ => by kernel_rfl, fun _ => by kernel_rfl⟩
instance oneT_18 : OneT Tryz.prog 160 := ⟨fun _ => by kernel_rfl, fun _ => by kernel_rfl⟩
instance oneT_19 : OneT Tryz.prog 165 := ⟨fun _ => by kernel_rfl, fun _ => by kernel_rfl⟩
instance aggT_0 : AggT Tryz.prog 61 2 := ⟨fun _ => by kernel_rfl, fun _ => by kernel_rfl⟩
instance zeroT_0 : ZeroT Tryz.prog 61 (.agg #[.int .i64 0, .int .i64 0]) := ⟨fun _ => by kernel_rfl⟩
instance aggT_1 : AggT Tryz.prog 78 2 := ⟨fun _ => by kernel_rfl, fun _ => by kernel_rfl⟩
instance zeroT_1 : ZeroT Tryz.prog 78 (.agg #[.int .i64 0, .int .i64 0]) := ⟨fun _ => by kernel_rfl⟩
instance aggT_2 : AggT Tryz.prog 71 3 := ⟨fun _ => by kernel_rfl, fun _ => by kernel_rfl⟩
instance zeroT_2 : ZeroT Tryz.prog 71 (.agg #[.int .i64 0, .int .i64 0, .string ⟨#[]⟩]) := ⟨fun _ => by kernel_rfl⟩
instance aggT_3 : AggT Tryz.prog 73 4 := ⟨fun _ => by kernel_rfl, fun _ => by kernel_rfl⟩
instance zeroT_3 : ZeroT Tryz.prog 73 (.agg #[.string ⟨#[]⟩, .int .i64 0, .int .i64 0, .int .i64 0]) := ⟨fun _ => by kernel_rfl⟩
instance aggT_4 : AggT Tryz.prog 80 2 := ⟨fun _ => by kernel_rfl, fun _ => by kernel_rfl⟩
instance zeroT_4 : ZeroT Tryz.prog 80 (.agg #[.slice none 0 0, .int .i64 0]) := ⟨fun _ => by kernel_rfl⟩
instance aggT_5 : AggT Tryz.prog 66 10 := ⟨fun _ => by kernel_rfl, fun _ => by kernel_rfl⟩
instance zeroT_5 : ZeroT Tryz.prog 66 (.agg #[.bool false, .int .i64 0, .int .i64 0, .int .i64 0, .int .i64 0, .int .i64 0, .int .i64 0, .slice none 0 0, .slice none 0 0, .slice none 0 0]) := ⟨fun _ => by kernel_rfl⟩
instance aggT_6 : AggT Tryz.prog 26 5 := ⟨fun _ => by kernel_rfl, fun _ => by kernel_rfl⟩
instance zeroT_6 : ZeroT Tryz.prog 26 (.agg #[.int .i64 0, .slice none 0 0, .slice none 0 0, .slice none 0 0, .string ⟨#[]⟩]) := ⟨fun _ => by kernel_rfl⟩
instance aggT_7 : AggT Tryz.prog 86 3 := ⟨fun _ => by kernel_rfl, fun _ => by kernel_rfl⟩
instance zeroT_7 : ZeroT Tryz.prog 86 (.agg #[.int .i64 0, .int .i64 0, .int .i64 0]) := ⟨fun _ => by kernel_rfl⟩
instance aggT_8 : AggT Tryz.prog 106 7 := ⟨fun _ => by kernel_rfl, fun _ => by kernel_rfl⟩
instance zeroT_8 : ZeroT Tryz.prog 106 (.agg #[.int .i64 0, .slice none 0 0, .slice none 0 0, .slice none 0 0, .string ⟨#[]⟩, .slice none 0 0, .slice none 0 0]) := ⟨fun _ => by kernel_rfl⟩
instance aggT_9 : AggT Tryz.prog 53 7 := ⟨fun _ => by kernel_rfl, fun _ => by kernel_rfl⟩
instance zeroT_9 : ZeroT Tryz.prog 53 (.agg #[.int .i64 0, .slice none 0 0, .slice none 0 0, .slice none 0 0, .string ⟨#[]⟩, .slice none 0 0, .slice none 0 0]) := ⟨fun _ => by kernel_rfl⟩
instance aggT_10 : AggT Tryz.prog 101 6 := ⟨fun _ => by kernel_rfl, fun _ => by kernel_rfl⟩
instance zeroT_10 : ZeroT Tryz.prog 101 (.agg #[.int .i64 0, .slice none 0 0, .slice none 0 0, .slice none 0 0, .string ⟨#[]⟩, .slice none 0 0]) := ⟨fun _ => by kernel_rfl⟩
instance aggT_11 : AggT Tryz.prog 125 3 := ⟨fun _ => by kernel_rfl, fun _ => by kernel_rfl⟩
instance zeroT_11 : ZeroT Tryz.prog 125 (.agg #[.int .i64 0, .int .i64 0, .int .i64 0]) := ⟨fun _ => by kernel_rfl⟩
instance zeroT1_0 : ZeroT Tryz.prog 4 (.bool false) := ⟨fun _ => by kernel_rfl⟩
instance zeroT1_1 : ZeroT Tryz.prog 9 (.string ⟨#[]⟩) := ⟨fun _ => by kernel_rfl⟩
instance zeroT1_2 : ZeroT Tryz.prog 22 (.slice none 0 0) := ⟨fun _ => by kernel_rfl⟩
instance zeroT1_3 : ZeroT Tryz.prog 62 (.slice none 0 0) := ⟨fun _ => by kernel_rfl⟩
instance zeroT1_4 : ZeroT Tryz.prog 63 (.slice none 0 0) := ⟨fun _ => by kernel_rfl⟩
instance zeroT1_5 : ZeroT Tryz.prog 64 (.slice none 0 0) := ⟨fun _ => by kernel_rfl⟩
instance zeroT1_6 : ZeroT Tryz.prog 24 (.slice none 0 0) := ⟨fun _ => by kernel_rfl⟩
instance zeroT1_7 : ZeroT Tryz.prog 51 (.slice none 0 0) := ⟨fun _ => by kernel_rfl⟩
instance zeroT1_8 : ZeroT Tryz.prog 35 (.slice none 0 0) := ⟨fun _ => by kernel_rfl⟩
instance zeroT1_9 : ZeroT Tryz.prog 5 (.int .u8 0) := ⟨fun _ => by kernel_rfl⟩
instance zeroT1_10 : ZeroT Tryz.prog 117 (.slice none 0 0) := ⟨fun _ => by kernel_rfl⟩
instance zeroT1_11 : ZeroT Tryz.prog 29 (.int .i64 0) := ⟨fun _ => by kernel_rfl⟩
instance sliceT_0 : SliceT Tryz.prog 22 78 (.agg #[.int .i64 0, .int .i64 0]) 2 16 := ⟨by kernel_rfl, by kernel_rfl, rfl, by decide⟩
instance sliceT_1 : SliceT Tryz.prog 62 71 (.agg #[.int .i64 0, .int .i64 0, .string ⟨#[]⟩]) 3 32 := ⟨by kernel_rfl, by kernel_rfl, rfl, by decide⟩
instance sliceT_2 : SliceT Tryz.prog 64 73 (.agg #[.string ⟨#[]⟩, .int .i64 0, .int .i64 0, .int .i64 0]) 4 40 := ⟨by kernel_rfl, by kernel_rfl, rfl, by decide⟩
instance sliceT_3 : SliceT Tryz.prog 63 80 (.agg #[.slice none 0 0, .int .i64 0]) 2 32 := ⟨by kernel_rfl, by kernel_rfl, rfl, by decide⟩
instance sliceT_4 : SliceT Tryz.prog 23 66 (.agg #[.bool false, .int .i64 0, .int .i64 0, .int .i64 0, .int .i64 0, .int .i64 0, .int .i64 0, .slice none 0 0, .slice none 0 0, .slice none 0 0]) 10 128 := ⟨by kernel_rfl, by kernel_rfl, rfl, by decide⟩
instance sliceT_5 : SliceT Tryz.prog 41 86 (.agg #[.int .i64 0, .int .i64 0, .int .i64 0]) 3 24 := ⟨by kernel_rfl, by kernel_rfl, rfl, by decide⟩
instance sliceT1_0 : SliceT Tryz.prog 24 3 (.int .i64 0) 1 8 := ⟨by kernel_rfl, by kernel_rfl, rfl, by decide⟩
instance sliceT1_1 : SliceT Tryz.prog 51 4 (.bool false) 1 1 := ⟨by kernel_rfl, by kernel_rfl, rfl, by decide⟩
instance sliceT1_2 : SliceT Tryz.prog 35 9 (.string ⟨#[]⟩) 1 16 := ⟨by kernel_rfl, by kernel_rfl, rfl, by decide⟩
instance sliceT1_3 : SliceT Tryz.prog 117 5 (.int .u8 0) 1 1 := ⟨by kernel_rfl, by kernel_rfl, rfl, by decide⟩
end Go.Proofs.YtgcjejajljhnaaaGreatDoor
namespace Ck
def unl (b : Bool) (e : Int) : Int := if b then 0 else e
theorem first_drop (l : List Int) (k : Nat) (hk : k < l.length) (h : first (l.drop k) = first l) (h0 : at_ 0 l k = 0) : first (l.drop (k + 1)) = first l := by
  rw [← h, drop_at 0 l k hk]
  show _ = (if at_ 0 l k = 0 then _ else _)
  rw [if_pos h0]
theorem first_hit (l : List Int) (k : Nat) (hk : k < l.length) (h : first (l.drop k) = first l) (h0 : at_ 0 l k ≠ 0) : first l = at_ 0 l k := by
  rw [← h, drop_at 0 l k hk]
  show (if at_ 0 l k = 0 then _ else _) = _
  rw [if_neg h0]
end Ck
namespace Go.Proofs.YtgcjejajljhnaaaGreatDoor
open Go.RowKit Go.Hp
theorem within_any (n lo hi : Int) (w : World) :
    Calls Tryz.prog 59 #[.int .i64 n, .int .i64 lo, .int .i64 hi] w fun e w' => e = .returned (.bool (Ck.wi n lo hi)) ∧ w = w' := by
  go_enter Tryz.func59, Tryz.ntmps59
  go_wp2
  all_goals (go_ret; exact ⟨by simp [Ck.wi, *]; try omega, rfl⟩)
theorem bwithin_any (n lo hi : Int) (w : World) :
    Calls Tryz.prog 131 #[.int .i64 n, .int .i64 lo, .int .i64 hi] w fun e w' => e = .returned (.bool (Ck.wi n lo hi)) ∧ w = w' := by
  go_enter Tryz.func131, Tryz.ntmps131
  go_wp2
  all_goals (go_ret; exact ⟨by simp [Ck.wi, *]; try omega, rfl⟩)
theorem Within_any (n lo hi : Int) (w : World) :
    Calls Tryz.prog 29 #[.int .i64 n, .int .i64 lo, .int .i64 hi] w fun e w' => e = .returned (.bool (Ck.wi n lo hi)) ∧ w = w' := by
  go_enter Tryz.func29, Tryz.ntmps29
  go_wp2
  all_goals (go_ret; exact ⟨by simp [Ck.wi, *]; try omega, rfl⟩)
theorem unless_any (b : Bool) (n : Int) (w : World) :
    Calls Tryz.prog 58 #[.bool b, .int .i64 n] w fun e w' => e = .returned (.int .i64 (Ck.unl b n)) ∧ w = w' := by
  go_enter Tryz.func58, Tryz.ntmps58
  go_wp2
  all_goals (go_ret; exact ⟨by simp [Ck.unl, *], rfl⟩)
theorem bunless_any (b : Bool) (n : Int) (w : World) :
    Calls Tryz.prog 133 #[.bool b, .int .i64 n] w fun e w' => e = .returned (.int .i64 (Ck.unl b n)) ∧ w = w' := by
  go_enter Tryz.func133, Tryz.ntmps133
  go_wp2
  all_goals (go_ret; exact ⟨by simp [Ck.unl, *], rfl⟩)
theorem nunless_any (b : Bool) (n : Int) (w : World) :
    Calls Tryz.prog 167 #[.bool b, .int .i64 n] w fun e w' => e = .returned (.int .i64 (Ck.unl b n)) ∧ w = w' := by
  go_enter Tryz.func167, Tryz.ntmps167
  go_wp2
  all_goals (go_ret; exact ⟨by simp [Ck.unl, *], rfl⟩)
theorem isNumber_any (n : Int) (w : World) :
    Calls Tryz.prog 89 #[.int .i64 n] w fun e w' => e = .returned (.bool (Ck.num n)) ∧ w = w' := by
  go_enter Tryz.func89, Tryz.ntmps89
  go_wp2_with (go_at_call 59; refine (within_any _ _ _ _).mono ?_; rintro e w' ⟨rfl, rfl⟩)
  go_ret
  exact ⟨rfl, rfl⟩
theorem IsNumber_any (n : Int) (w : World) :
    Calls Tryz.prog 96 #[.int .i64 n] w fun e w' => e = .returned (.bool (Ck.num n)) ∧ w = w' := by
  go_enter Tryz.func96, Tryz.ntmps96
  go_wp2_with (go_at_call 29; refine (Within_any _ _ _ _).mono ?_; rintro e w' ⟨rfl, rfl⟩)
  go_ret
  exact ⟨rfl, rfl⟩
theorem mostEntries_any (d : Int) (w : World) :
    Calls Tryz.prog 91 #[.int .i64 d] w fun e w' => e = .returned (.int .i64 (Ck.most d : Nat)) ∧ w = w' := by
  go_enter Tryz.func91, Tryz.ntmps91
  go_wp2
  all_goals (go_ret; exact ⟨by simp_all [Ck.most], rfl⟩)
theorem most_any (d : Int) (w : World) :
    Calls Tryz.prog 98 #[.int .i64 d] w fun e w' => e = .returned (.int .i64 (Ck.most d : Nat)) ∧ w = w' := by
  go_enter Tryz.func98, Tryz.ntmps98
  go_wp2
  all_goals (go_ret; exact ⟨by simp_all [Ck.most], rfl⟩)
theorem refErr_any (r q : Int) (w : World) :
    Calls Tryz.prog 90 #[.agg #[.int .i64 r, .int .i64 q]] w fun e w' => e = .returned (.int .i64 (Ck.refErr ⟨r, q⟩)) ∧ Below w.heap.size w w' := by
  go_enter Tryz.func90, Tryz.ntmps90
  go_wp2_with (first | (go_at_call 59; refine (within_any _ _ _ _).mono ?_; rintro e w' ⟨rfl, rfl⟩) | (go_at_call 58; refine (unless_any _ _ _).mono ?_; rintro e w' ⟨rfl, rfl⟩))
  all_goals (go_ret; exact ⟨by simp [Ck.refErr, Ck.unl, *], by (focus (repeat (first | exact Below.refl _ _ | (refine Below.alloc ?_ (by (omega)) _))))⟩)
theorem rrefErr_any (r q : Int) (w : World) :
    Calls Tryz.prog 97 #[.agg #[.int .i64 r, .int .i64 q]] w fun e w' => e = .returned (.int .i64 (Ck.refErr ⟨r, q⟩)) ∧ Below w.heap.size w w' := by
  go_enter Tryz.func97, Tryz.ntmps97
  go_wp2_with ((go_at_call 29; refine (Within_any _ _ _ _).mono ?_; rintro e w' ⟨rfl, rfl⟩))
  all_goals (go_ret; exact ⟨by simp_all [Ck.refErr], by (focus (repeat (first | exact Below.refl _ _ | (refine Below.alloc ?_ (by (omega)) _))))⟩)
theorem badRun_any (s l : Int) (w : World) :
    Calls Tryz.prog 135 #[.agg #[.int .i64 s, .int .i64 l]] w fun e w' => e = .returned (.bool (Ck.badRun ⟨s, l⟩)) ∧ Below w.heap.size w w' := by
  go_enter Tryz.func135, Tryz.ntmps135
  go_wp2_with ((go_at_call 59; refine (within_any _ _ _ _).mono ?_; rintro e w' ⟨rfl, rfl⟩))
  all_goals (go_ret; exact ⟨by simp [Ck.badRun, *], by (focus (repeat (first | exact Below.refl _ _ | (refine Below.alloc ?_ (by (omega)) _))))⟩)
set_option maxHeartbeats 400000 in
theorem first_any (b : Nat) (l : List Int) (w : World) (hl : l.length ≤ 100) (hc' : OldC w b 0 (l.map fun x => Value.int .i64 x)) :
    Calls Tryz.prog 57 #[.slice (some ⟨b, 0, none⟩) l.length l.length] w fun e w' => e = .returned (.int .i64 (Ck.first l)) ∧ w = w' := by
  have hc : ∀ k, k < l.length → w.cell? ⟨b, k, none⟩ = some (.int .i64 (Ck.at_ 0 l k)) := fun k hk => by
    have := hc' k (.int .i64 (Ck.at_ 0 l k)) (by rw [List.getElem?_map, Ck.at_eq 0 l k hk, List.getElem?_eq_getElem hk]; rfl)
    rwa [Nat.zero_add] at this
  clear hc'
  go_enter Tryz.func57, Tryz.ntmps57
  go_wp2
  go_loop [7] (fun i => ∃ k : Nat, k ≤ l.length ∧ i = .int .i64 k ∧ Hid (Ck.first (l.drop k) = Ck.first l)) (fun i => l.length - (intOf i).toNat)
  case atStart => exact ⟨0, Nat.zero_le _, rfl, rfl⟩
  case round =>
    obtain ⟨k, hk, rfl, hd⟩ := hrel
    by_cases hlt : k < l.length
    · have hk := hc k hlt
      clear hc
      by_cases h0 : Ck.at_ 0 l k = 0
      · have hb : (Ck.at_ 0 l k == 0) = true := by simpa using h0
        have hb' : (Ck.at_ 0 l k != 0) = false := by simpa using h0
        have hd' := Lib.hid (Ck.first_drop l k hlt hd.out h0)
        clear h0
        go_wp2
        go_round
        case rel => exact ⟨k + 1, by omega, by go_num, hd'⟩
        case measure => simp [intOf]; omega
      · have hb : (Ck.at_ 0 l k == 0) = false := by simpa using h0
        have hb' : (Ck.at_ 0 l k != 0) = true := by simpa using h0
        have hd' := Lib.hid (Ck.first_hit l k hlt hd.out h0)
        clear h0
        go_wp2
        go_ret
        exact ⟨congrArg (fun z => Ending.returned (.int .i64 z)) hd'.out.symm, rfl⟩
    · have he : l.drop k = [] := List.drop_eq_nil_of_le (by omega)
      rw [he] at hd
      go_wp2
      go_ret
      exact ⟨by rw [← hd.out]; rfl, rfl⟩
set_option maxHeartbeats 400000 in
theorem nfirst_any (b : Nat) (l : List Int) (w : World) (hl : l.length ≤ 100) (hc' : OldC w b 0 (l.map fun x => Value.int .i64 x)) :
    Calls Tryz.prog 166 #[.slice (some ⟨b, 0, none⟩) l.length l.length] w fun e w' => e = .returned (.int .i64 (Ck.first l)) ∧ w = w' := by
  have hc : ∀ k, k < l.length → w.cell? ⟨b, k, none⟩ = some (.int .i64 (Ck.at_ 0 l k)) := fun k hk => by
    have := hc' k (.int .i64 (Ck.at_ 0 l k)) (by rw [List.getElem?_map, Ck.at_eq 0 l k hk, List.getElem?_eq_getElem hk]; rfl)
    rwa [Nat.zero_add] at this
  clear hc'
  go_enter Tryz.func166, Tryz.ntmps166
  go_wp2
  go_loop [7] (fun i => ∃ k : Nat, k ≤ l.length ∧ i = .int .i64 k ∧ Hid (Ck.first (l.drop k) = Ck.first l)) (fun i => l.length - (intOf i).toNat)
  case atStart => exact ⟨0, Nat.zero_le _, rfl, rfl⟩
  case round =>
    obtain ⟨k, hk, rfl, hd⟩ := hrel
    by_cases hlt : k < l.length
    · have hk := hc k hlt
      clear hc
      by_cases h0 : Ck.at_ 0 l k = 0
      · have hb : (Ck.at_ 0 l k == 0) = true := by simpa using h0
        have hb' : (Ck.at_ 0 l k != 0) = false := by simpa using h0
        have hd' := Lib.hid (Ck.first_drop l k hlt hd.out h0)
        clear h0
        go_wp2
        go_round
        case rel => exact ⟨k + 1, by omega, by go_num, hd'⟩
        case measure => simp [intOf]; omega
      · have hb : (Ck.at_ 0 l k == 0) = false := by simpa using h0
        have hb' : (Ck.at_ 0 l k != 0) = true := by simpa using h0
        have hd' := Lib.hid (Ck.first_hit l k hlt hd.out h0)
        clear h0
        go_wp2
        go_ret
        exact ⟨congrArg (fun z => Ending.returned (.int .i64 z)) hd'.out.symm, rfl⟩
    · have he : l.drop k = [] := List.drop_eq_nil_of_le (by omega)
      rw [he] at hd
      go_wp2
      go_ret
      exact ⟨by rw [← hd.out]; rfl, rfl⟩
theorem first2_any (b : Nat) (x y : Int) (w : World) (hc : OldC w b 0 [.int .i64 x, .int .i64 y]) :
    Calls Tryz.prog 57 #[.slice (some ⟨b, 0, none⟩) 2 2] w fun e w' => e = .returned (.int .i64 (Ck.first [x, y])) ∧ w = w' := first_any b [x, y] w (by simp) hc
theorem first3_any (b : Nat) (x y z : Int) (w : World) (hc : OldC w b 0 [.int .i64 x, .int .i64 y, .int .i64 z]) :
    Calls Tryz.prog 57 #[.slice (some ⟨b, 0, none⟩) 3 3] w fun e w' => e = .returned (.int .i64 (Ck.first [x, y, z])) ∧ w = w' := first_any b [x, y, z] w (by simp) hc
theorem nfirst2_any (b : Nat) (x y : Int) (w : World) (hc : OldC w b 0 [.int .i64 x, .int .i64 y]) :
    Calls Tryz.prog 166 #[.slice (some ⟨b, 0, none⟩) 2 2] w fun e w' => e = .returned (.int .i64 (Ck.first [x, y])) ∧ w = w' := nfirst_any b [x, y] w (by simp) hc
end Go.Proofs.YtgcjejajljhnaaaGreatDoor
namespace Ck
open Go
def idxF {α : Type} (p : α → Bool) : Nat → List α → Int
  | _, [] => -1
  | i, x :: l => if p x then (i : Int) else idxF p (i + 1) l
section
variable {α : Type} {n : Nat} [Hp.El α n] (p : α → Bool)
theorem idxF_step (l : List α) (k : Nat) (h : k < l.length) : idxF p k (l.drop k) = if p (at_ (Hp.El.o) l k) then (k : Int) else idxF p (k + 1) (l.drop (k + 1)) := by
  rw [drop_at Hp.El.o l k h]; rfl
theorem idxF_end (l : List α) (k : Nat) (h : l.length ≤ k) : idxF p k (l.drop k) = -1 := by
  rw [List.drop_of_length_le h]; rfl
omit [Hp.El α n] in
theorem idxF_any : ∀ (i : Nat) (l : List α), decide (0 ≤ idxF p i l) = l.any p
  | _, [] => rfl
  | i, x :: l => by
    by_cases hp : p x = true
    · show decide (0 ≤ (if p x = true then (i : Int) else idxF p (i + 1) l)) = (p x || l.any p)
      rw [if_pos hp, hp]
      simp
    · show decide (0 ≤ (if p x = true then (i : Int) else idxF p (i + 1) l)) = (p x || l.any p)
      rw [if_neg hp, idxF_any (i + 1) l, Bool.eq_false_iff.2 hp]
      rfl
end
theorem ret_int {k : IntKind} {a b : Int} (h : a = b) : Ending.returned (.int k a) = .returned (.int k b) := by rw [h]
theorem ret_bool {a b : Bool} (h : a = b) : Ending.returned (.bool a) = .returned (.bool b) := by rw [h]
end Ck
namespace Go.Proofs.YtgcjejajljhnaaaGreatDoor
open Go.RowKit Go.Hp
theorem text_eq (a b : List UInt8) : ((ByteArray.mk a.toArray).toList == (ByteArray.mk b.toArray).toList) = decide (a = b) := by
  rw [← beq_toListBytes]
  show ((⟨⟨a⟩⟩ : ByteArray) == ⟨⟨b⟩⟩) = _
  show ((⟨a⟩ : Array UInt8) == ⟨b⟩) = _
  by_cases h : a = b
  · subst h; simp
  · rw [decide_eq_false h]
    exact beq_false_of_ne fun e => h (Array.mk.inj e)
def cRef (a : Ck.Ref) : Value := .agg #[.int .i64 a.r, .int .i64 a.q]
theorem equalIn_ref (d : Nat) (a b : Ck.Ref) (w : World) : (Op.equalIn (d + 2) 61 (.agg #[.int .i64 a.r, .int .i64 a.q]) (.agg #[.int .i64 b.r, .int .i64 b.q])).run Tryz.prog w = .ok (decide (a = b)) w := by
  rw [run_equalIn_agg _ _ _ _ _ (by kernel_rfl) (by kernel_rfl)]
  cases a; cases b
  rename_i a1 a2 b1 b2
  by_cases h1 : a1 = b1 <;> by_cases h2 : a2 = b2 <;> simp [go_sem, Tryz.underlying61, h1, h2]
theorem equalIn_run (d : Nat) (a b : Ck.Run) (w : World) : (Op.equalIn (d + 2) 78 (.agg #[.int .i64 a.s, .int .i64 a.l]) (.agg #[.int .i64 b.s, .int .i64 b.l])).run Tryz.prog w = .ok (decide (a = b)) w := by
  rw [run_equalIn_agg _ _ _ _ _ (by kernel_rfl) (by kernel_rfl)]
  cases a; cases b
  rename_i a1 a2 b1 b2
  by_cases h1 : a1 = b1 <;> by_cases h2 : a2 = b2 <;> simp [go_sem, Tryz.underlying78, h1, h2]
theorem equalIn_fd (d : Nat) (a b : Ck.Fd) (w : World) : (Op.equalIn (d + 2) 86 (.agg #[.int .i64 a.k, .int .i64 a.r, .int .i64 a.i]) (.agg #[.int .i64 b.k, .int .i64 b.r, .int .i64 b.i])).run Tryz.prog w = .ok (decide (a = b)) w := by
  rw [run_equalIn_agg _ _ _ _ _ (by kernel_rfl) (by kernel_rfl)]
  cases a; cases b
  rename_i a1 a2 a3 b1 b2 b3
  by_cases h1 : a1 = b1 <;> by_cases h2 : a2 = b2 <;> by_cases h3 : a3 = b3 <;> simp [go_sem, Tryz.underlying86, h1, h2, h3]
theorem equalIn_nm (d : Nat) (a b : Ck.Nm) (w : World) : (Op.equalIn (d + 3) 71 (.agg #[.int .i64 a.d.r, .int .i64 a.d.q, .string ⟨a.n.toArray⟩]) (.agg #[.int .i64 b.d.r, .int .i64 b.d.q, .string ⟨b.n.toArray⟩])).run Tryz.prog w = .ok (decide (a = b)) w := by
  rw [run_equalIn_agg _ _ _ _ _ (by kernel_rfl) (by kernel_rfl)]
  cases a; cases b
  rename_i a1 a2 b1 b2
  obtain ⟨x1, x2⟩ := a1
  obtain ⟨y1, y2⟩ := b1
  by_cases h1 : x1 = y1 <;> by_cases h3 : x2 = y2 <;> by_cases h2 : a2 = b2 <;> simp [go_sem, Tryz.underlying71, Tryz.underlying61, text_eq, h1, h2, h3]
theorem equalIn_en (d : Nat) (a b : Ck.En) (w : World) : (Op.equalIn (d + 3) 73 (.agg #[.string ⟨a.n.toArray⟩, .int .i64 a.f.r, .int .i64 a.f.q, .int .i64 a.z]) (.agg #[.string ⟨b.n.toArray⟩, .int .i64 b.f.r, .int .i64 b.f.q, .int .i64 b.z])).run Tryz.prog w = .ok (decide (a = b)) w := by
  rw [run_equalIn_agg _ _ _ _ _ (by kernel_rfl) (by kernel_rfl)]
  cases a; cases b
  rename_i a1 a2 a3 b1 b2 b3
  obtain ⟨x1, x2⟩ := a2
  obtain ⟨y1, y2⟩ := b2
  by_cases h1 : a1 = b1 <;> by_cases h2 : x1 = y1 <;> by_cases h4 : x2 = y2 <;> by_cases h3 : a3 = b3 <;> simp [go_sem, Tryz.underlying73, Tryz.underlying61, text_eq, h1, h2, h3, h4]
theorem eql_ref (a b : Ck.Ref) (w : World) : (binOp .eql 61 (.agg #[.int .i64 a.r, .int .i64 a.q]) (.agg #[.int .i64 b.r, .int .i64 b.q])).run Tryz.prog w = .ok (.bool (decide (a = b))) w := by rw [run_eql_struct, equalIn_ref]; rfl
theorem neq_ref (a b : Ck.Ref) (w : World) : (binOp .neq 61 (.agg #[.int .i64 a.r, .int .i64 a.q]) (.agg #[.int .i64 b.r, .int .i64 b.q])).run Tryz.prog w = .ok (.bool (!decide (a = b))) w := by rw [run_neq_struct, equalIn_ref]; rfl
theorem neq_run (a b : Ck.Run) (w : World) : (binOp .neq 78 (.agg #[.int .i64 a.s, .int .i64 a.l]) (.agg #[.int .i64 b.s, .int .i64 b.l])).run Tryz.prog w = .ok (.bool (!decide (a = b))) w := by rw [run_neq_struct, equalIn_run]; rfl
theorem neq_fd (a b : Ck.Fd) (w : World) : (binOp .neq 86 (.agg #[.int .i64 a.k, .int .i64 a.r, .int .i64 a.i]) (.agg #[.int .i64 b.k, .int .i64 b.r, .int .i64 b.i])).run Tryz.prog w = .ok (.bool (!decide (a = b))) w := by rw [run_neq_struct, equalIn_fd]; rfl
theorem eql_nm (a b : Ck.Nm) (w : World) : (binOp .eql 71 (.agg #[.int .i64 a.d.r, .int .i64 a.d.q, .string ⟨a.n.toArray⟩]) (.agg #[.int .i64 b.d.r, .int .i64 b.d.q, .string ⟨b.n.toArray⟩])).run Tryz.prog w = .ok (.bool (decide (a = b))) w := by rw [run_eql_struct, equalIn_nm]; rfl
theorem neq_nm (a b : Ck.Nm) (w : World) : (binOp .neq 71 (.agg #[.int .i64 a.d.r, .int .i64 a.d.q, .string ⟨a.n.toArray⟩]) (.agg #[.int .i64 b.d.r, .int .i64 b.d.q, .string ⟨b.n.toArray⟩])).run Tryz.prog w = .ok (.bool (!decide (a = b))) w := by rw [run_neq_struct, equalIn_nm]; rfl
theorem neq_en (a b : Ck.En) (w : World) : (binOp .neq 73 (.agg #[.string ⟨a.n.toArray⟩, .int .i64 a.f.r, .int .i64 a.f.q, .int .i64 a.z]) (.agg #[.string ⟨b.n.toArray⟩, .int .i64 b.f.r, .int .i64 b.f.q, .int .i64 b.z])).run Tryz.prog w = .ok (.bool (!decide (a = b))) w := by rw [run_neq_struct, equalIn_en]; rfl
end Go.Proofs.YtgcjejajljhnaaaGreatDoor
namespace Go.Hp
open Go.RowKit
section
variable {P : Program} {ops : Array Oper} {o : Oper} {a : Act} {w0 w : World} {rs : List Res} {Q : Exit → Act → World → Prop} {K : Act → World → Prop}
def marked (g : Nat) (t : TypeId) (l : List UInt8) (R : List Value) : Res := .obj g (.cells (El.all l ++ R).toArray t ((El.all l ++ R).length, (El.all l ++ R).length + 1))
theorem El.byte_get (l : List UInt8) (R : List Value) (j : Nat) (hj : j < l.length) : (El.all l ++ R)[j]? = some (.int .u8 (Ck.at_ 0 l j).toNat) := by
  have h := El.cell l R j hj 0 (by decide)
  rw [Nat.mul_one, Nat.add_zero] at h
  exact h
theorem St.marked_lst {t : TypeId} {g : Nat} {l : List UInt8} {R : List Value} (st : St w0 w rs) (hm : marked g t l R ∈ rs) : Lst w w.heap.size (some ⟨g, 0, none⟩) l := by
  have h := st.holds _ hm
  refine ⟨by rw [El.all_length], fun hn => ⟨g, 0, rfl, (Array.getElem?_eq_some_iff.1 h.2).1, fun j u hj => ?_⟩⟩
  rw [Nat.zero_add, cell_of_row w g j _ t _ h.2]
  have hjl : j < (El.all l).length := (List.getElem?_eq_some_iff.1 hj).1
  simp only [List.getElem?_toArray]
  rw [List.getElem?_append_left hjl]
  exact hj
theorem St.marked_cell {t : TypeId} {g i : Nat} {l : List UInt8} {R : List Value} (st : St w0 w rs) (hi : rs[i]? = some (marked g t l R)) (j : Nat) : w.cell? ⟨g, j, none⟩ = (El.all l ++ R)[j]? := by
  rw [cell_of_row w g j _ t _ (st.get hi).2]
  simp
theorem heap_setCell_obj (w : World) (g p : Nat) (cs : Array Value) (t : TypeId) (m : Nat × Nat) (v : Value) (hg : w.heap[g]? = some (.cells cs t m)) : (w.setCell ⟨g, p, none⟩ v).heap[g]? = some (.cells (cs.setIfInBounds p v) t m) := by
  simp [World.setCell, Array.getElem?_modify, hg]
theorem run_storeO {t : TypeId} {g p : Nat} {cs : Array Value} {bt : TypeId} {v : Value} {m : Nat × Nat} (hs : ∀ w, (sizeOf t).run P w = .ok 1 w) (hv : v.cells.toList = [v]) (h1 : v.oneCell' = true) (hb : w.heap[g]? = some (.cells cs bt m)) (hp : p < cs.size) (hm : cs.size ≤ m.1) :
    (Instr.storeAt t (.pointer (some ⟨g, p, none⟩)) v).run P w = .ok () (w.setCell ⟨g, p, none⟩ v) := by
  have hst := run_storeCells_cells (P := P) g p [v] 0 w (fun j hj => by
      simp only [List.length_cons, List.length_nil] at hj
      have : j = 0 := by omega
      subst this
      simp only [Nat.add_zero]
      rw [cell_of_row w g p cs bt m hb]
      simp [hp]) (fun j hj => by
      simp only [List.length_cons, List.length_nil] at hj
      have : j = 0 := by omega
      subst this
      obtain ⟨m1, m2⟩ := m
      simp only [World.frozen?, hb, Nat.add_zero]
      have : ¬ m1 ≤ p := by simp only at hm; omega
      simp [this]) (fun u hu => by simp at hu; subst hu; exact h1)
  simp only [Nat.add_zero] at hst
  have hsz : v.cells.size = 1 := by rw [← Array.length_toList, hv]; rfl
  simp [Instr.storeAt, Instr.sureAddr, storeVar, hs, hsz, hv, hst, World.setCells]
theorem St.setO {g p i : Nat} {cs : Array Value} {t : TypeId} {v : Value} {m : Nat × Nat} (st : St w0 w rs) (hi : rs[i]? = some (.obj g (.cells cs t m))) : St w0 (w.setCell ⟨g, p, none⟩ v) (rs.set i (.obj g (.cells (cs.setIfInBounds p v) t m))) :=
  st.upd hi ⟨rfl, rfl, rfl, by simp [World.setCell], fun k _ hne => heap_setCell_other w ⟨g, p, none⟩ k v (fun e => hne (by rw [e]; rfl))⟩ ⟨(st.get hi).1, heap_setCell_obj w g p cs t m v (st.get hi).2⟩ (fun k hk => .inl hk)
theorem ow_storeB {t bt : TypeId} {x y : Operand} {i g p : Nat} {l : List UInt8} {R : List Value} {b : UInt8} {v : Value} (st : St w0 w rs) (ho : o.op = .store t x y) (hT : OneT P t) (hx : a.eval x = .pointer (some ⟨g, p, none⟩)) (hi : rs[i]? = some (marked g bt l R)) (hp : p < l.length) (hy : a.eval y = v) (hv : v = .int .u8 b.toNat)
    (h : ∀ w', St w0 w' (rs.set i (marked g bt (l.set p b) R)) → K (a.put o.dst undef) w') : OW P o a w K Q := by
  subst hv
  have hlen : (El.all l).length = l.length := by rw [El.all_length, Nat.mul_one]
  have hset : ((El.all l ++ R).toArray.setIfInBounds p (.int .u8 b.toNat)) = (El.all (l.set p b) ++ R).toArray := by
    have h1 := El.set1 l R p hp 0 (by decide) (.int .u8 b.toNat) b rfl
    rw [Nat.mul_one, Nat.add_zero] at h1
    rw [List.setIfInBounds_toArray, ← h1, List.set_eq_take_append_cons_drop, if_pos (by rw [List.length_append]; omega)]
    simp
  have hll : (El.all (l.set p b) ++ R).length = (El.all l ++ R).length := by simp [El.all_length]
  have hrun := run_storeO (P := P) (w := w) (t := t) (p := p) (v := .int .u8 b.toNat) hT.size rfl rfl (st.get hi).2 (by simp; omega) (by simp)
  refine OW.mk (wp_skip_ (w' := w.setCell ⟨g, p, none⟩ (.int .u8 b.toNat)) ?_ (h _ ?_))
  · simp [execOp, ho, hx, hy, hrun]
  · have := St.setO (p := p) (v := .int .u8 b.toNat) st hi
    rw [hset] at this
    unfold marked
    rw [hll]
    exact this
theorem ow_bytes {src dst e : TypeId} (hs : P.underlying src = some .string) (hd : P.underlying dst = some (.slice e)) (he : P.underlying e = some (.int .u8)) {x : Operand} {l : List UInt8} (st : St w0 w rs) (ho : o.op = .convert src dst x) (hx : a.eval x = .string ⟨l.toArray⟩)
    (h : ∀ (g c : Nat) (R : List Value) w', St w0 w' (marked g e l R :: rs) → l.length ≤ c → K (a.put o.dst (.slice (some ⟨g, 0, none⟩) l.length c)) w') : OW P o a w K Q := by
  have hrun := run_bytes_of_string (P := P) w src dst e ⟨l.toArray⟩ hs hd he
  have hsz : (ByteArray.mk l.toArray).size = l.length := by show l.toArray.size = _; simp
  rw [hsz] at hrun
  have hall : ∀ l : List UInt8, El.all l = l.map fun b => Value.int .u8 b.toNat := fun l => by
    induction l with
    | nil => rfl
    | cons b l ih => show El.cells b ++ El.all l = _; rw [ih]; rfl
  have hrow : ∀ c, bytesRow ⟨l.toArray⟩ c = (El.all l ++ List.replicate (c - l.length) (Value.int .u8 0)).toArray := fun c => by
    unfold bytesRow
    rw [hsz, hall]
    simp
  refine OW.mk (wp_value (v := .slice (some ⟨w.heap.size, 0, none⟩) l.length (grownCap w l.length 0 e)) (w' := w.drew.alloc (.cells (bytesRow ⟨l.toArray⟩ (grownCap w l.length 0 e)) e ((bytesRow ⟨l.toArray⟩ (grownCap w l.length 0 e)).size, (bytesRow ⟨l.toArray⟩ (grownCap w l.length 0 e)).size + 1))) ?_ (h w.heap.size _ (List.replicate (grownCap w l.length 0 e - l.length) (Value.int .u8 0)) _ ?_ (grownCap_ge _ _ _ _)))
  · simp [execOp, ho, hx, hrun]
  · refine st.drew.fresh ((Below.refl _ _).alloc (Nat.le_refl _) _) ⟨Nat.le_refl _, ?_⟩
    rw [hrow]
    have := heap_alloc_new w.drew (.cells (El.all l ++ List.replicate (grownCap w l.length 0 e - l.length) (Value.int .u8 0)).toArray e ((El.all l ++ List.replicate (grownCap w l.length 0 e - l.length) (Value.int .u8 0)).length, (El.all l ++ List.replicate (grownCap w l.length 0 e - l.length) (Value.int .u8 0)).length + 1))
    simpa using this
theorem ow_text {src dst e : TypeId} (hs : P.underlying src = some (.slice e)) (he : P.underlying e = some (.int .u8)) (hd : P.underlying dst = some .string) {x : Operand} {b p n c B : Nat} {l : List UInt8} (ho : o.op = .convert src dst x) (hx : a.eval x = .slice (some ⟨b, p, none⟩) n c) (hl : Lst w B (some ⟨b, p, none⟩) l) (hn : n = l.length)
    (h : K (a.put o.dst (.string ⟨l.toArray⟩)) w) : OW P o a w K Q := by
  subst hn
  have hrun := run_convert_bytes_back (P := P) w src dst e ⟨b, p, none⟩ c l hs he hd (fun j hj => by
    obtain ⟨b', p', hA, _, hc⟩ := hl.at_ (by omega)
    injection hA with hA
    injection hA with h1 h2
    subst h1; subst h2
    have := hc j hj 0 _ rfl
    rw [add_lit]
    rw [Nat.mul_one, Nat.add_zero] at this
    rw [this]
    show some (Value.int IntKind.u8 (Ck.at_ El.o l j).toNat) = _
    rw [Ck.at_eq _ l j hj])
  refine OW.mk (wp_value ?_ h)
  simp [execOp, ho, hx, hrun]
end
end Go.Hp
namespace Go.Proofs.YtgcjejajljhnaaaGreatDoor
open Go.RowKit Go.Hp
set_option maxHeartbeats 1000000 in
theorem IndexFuncR_any (A : Option Addr) (c B : Nat) (l : List Ck.Run) (kf : FuncId) (caps : Array Value) (p : Ck.Run → Bool) (w : World) (h1 : Lst w B A l) (hB1 : B ≤ w.heap.size) (hn : l.length ≤ 100000)
    (hk : ∀ (args : Array Value) (W : World), (callFunc kf args).run Tryz.prog W = .ok (.enter kf args) W)
    (hf : ∀ W x, x ∈ l → Below w.heap.size w W → Calls Tryz.prog kf (#[.agg (El.cells x).toArray] ++ caps) W fun e w' => e = .returned (.bool (p x)) ∧ Below W.heap.size W w') :
    Calls Tryz.prog 169 #[.slice A l.length c, .func (.func kf) #[] caps] w fun e w' => e = .returned (.int .i64 (Ck.idxF p 0 l)) ∧ Below w.heap.size w w' := by
  have H1 := Lib.hid h1
  have HF := Lib.hid hf
  clear h1 hf
  obtain ⟨n, en⟩ : ∃ n, n = l.length := ⟨_, rfl⟩
  have e1 := Lib.hid en
  rw [← en] at hn ⊢
  clear en
  have st := St.start w
  go_enter Tryz.func169, Tryz.ntmps169
  go_wp2_with (refine WL.out ?_; (repeat ((refine WL.op ?_ ?_; (exact rfl); intro K hK; (first | ((((with_reducible apply ow_move); exact rfl)); (go_simp <;> (try simp (disch := omega) only [wrap_id, sub_left, zac]) <;> rfl)) | ((with_reducible apply ow_eval); (go_simp <;> (try simp (disch := omega) only [wrap_id, sub_left, zac]) <;> rfl); ((with_reducible apply up_value)))); refine WL.next hK (by simp only [Act.put, zpt, zsz, zss]; exact rfl) ?_; clear hK K))); (try refine WL.nil ?_))
  go_loopw [8] (fun i wr => ∃ k : Nat, k ≤ n ∧ i = .int .i64 k ∧ St w wr [] ∧ Hid (Ck.idxF p 0 l = Ck.idxF p k (l.drop k))) (fun i _ => n - (intOf i).toNat)
  case atStart => exact ⟨0, by omega, rfl, st, rfl⟩
  case round =>
    clear st
    obtain ⟨k, hk, rfl, st, hs⟩ := hrel
    by_cases hlt : k < n
    · have hkl : Hid (k < l.length) := Lib.hid (by rw [← e1.out]; exact hlt)
      have hst := Lib.hid (Ck.idxF_step p l k hkl.out)
      have hmem := Lib.hid (Ck.at_mem El.o l k hkl.out)
      have hlt' := hlt
      rw [e1.out] at hlt
      obtain ⟨b1, o1, rfl, hb1, hc⟩ := H1.out.at_ (by omega)
      have hb1 := Nat.lt_of_lt_of_le hb1 hB1
      have f1 := hc k hlt
      clear hc
      replace hlt := hlt'
      clear hlt'
      obtain ⟨v, hv⟩ : ∃ v, v = p (Ck.at_ El.o l k) := ⟨_, rfl⟩
      have HV := Lib.hid hv
      clear hv
      cases v
      · have hs' : Hid (Ck.idxF p 0 l = Ck.idxF p (k + 1) (l.drop (k + 1))) := Lib.hid (by rw [hs.out, hst.out, ← HV.out]; rfl)
        go_wp2_with (refine WL.out ?_; (repeat ((refine WL.op ?_ ?_; (exact rfl); intro K hK; (first | ((((with_reducible apply ow_move); exact rfl)); (go_simp <;> (try simp (disch := omega) only [wrap_id, sub_left, zac]) <;> rfl)) | ((with_reducible apply ow_oldC st); exact rfl; exact inferInstance; exact rfl; assumption; assumption; exact rfl) | ((with_reducible apply ow_eval); (go_simp <;> (try simp (disch := omega) only [wrap_id, sub_left, zac]) <;> rfl); first | (with_reducible apply up_value) | ((with_reducible apply up_enter); ((refine (HF.out _ _ hmem.out st.below).mono ?_; rw [← HV.out]; rintro e w' ⟨rfl, hb⟩; replace st := st.call hb; clear hb; refine ⟨_, rfl, ?_⟩))))); refine WL.next hK (by simp only [Act.put, zpt, zsz, zss]; exact rfl) ?_; clear hK K))); (try refine WL.nil ?_))
        exact ⟨⟨k + 1, by omega, by go_num, st, hs'⟩, by simp [intOf]; omega⟩
      · have hs' : Hid (Ck.idxF p 0 l = k) := Lib.hid (by rw [hs.out, hst.out, ← HV.out]; rfl)
        go_wp2_with (refine WL.out ?_; (repeat ((refine WL.op ?_ ?_; (exact rfl); intro K hK; (first | ((with_reducible apply ow_oldC st); exact rfl; exact inferInstance; exact rfl; assumption; assumption; exact rfl) | ((with_reducible apply ow_eval); (go_simp <;> (try simp (disch := omega) only [wrap_id, sub_left, zac]) <;> rfl); first | (with_reducible apply up_value) | ((with_reducible apply up_enter); ((refine (HF.out _ _ hmem.out st.below).mono ?_; rw [← HV.out]; rintro e w' ⟨rfl, hb⟩; replace st := st.call hb; clear hb; refine ⟨_, rfl, ?_⟩))))); refine WL.next hK (by simp only [Act.put, zpt, zsz, zss]; exact rfl) ?_; clear hK K))); (try refine WL.nil ?_))
        go_ret
        exact ⟨Ck.ret_int hs'.out.symm, st.below⟩
    · have hs' : Hid (Ck.idxF p 0 l = -1) := Lib.hid (by rw [hs.out]; exact Ck.idxF_end p l k (by rw [← e1.out]; omega))
      go_wp2_with (refine WL.out ?_; (repeat ((refine WL.op ?_ ?_; (exact rfl); intro K hK; (((with_reducible apply ow_eval); (go_simp <;> (try simp (disch := omega) only [wrap_id, sub_left, zac]) <;> rfl); ((with_reducible apply up_value)))); refine WL.next hK (by simp only [Act.put, zpt, zsz, zss]; exact rfl) ?_; clear hK K))); (try refine WL.nil ?_))
      go_ret
      exact ⟨Ck.ret_int hs'.out.symm, st.below⟩
theorem ContainsFuncR_any (A : Option Addr) (c B : Nat) (l : List Ck.Run) (kf : FuncId) (caps : Array Value) (p : Ck.Run → Bool) (w : World) (h1 : Lst w B A l) (hB1 : B ≤ w.heap.size) (hn : l.length ≤ 100000)
    (hk : ∀ (args : Array Value) (W : World), (callFunc kf args).run Tryz.prog W = .ok (.enter kf args) W)
    (hf : ∀ W x, x ∈ l → Below w.heap.size w W → Calls Tryz.prog kf (#[.agg (El.cells x).toArray] ++ caps) W fun e w' => e = .returned (.bool (p x)) ∧ Below W.heap.size W w') :
    Calls Tryz.prog 136 #[.slice A l.length c, .func (.func kf) #[] caps] w fun e w' => e = .returned (.bool (l.any p)) ∧ Below w.heap.size w w' := by
  have H := Lib.hid fun W (hb : Below w.heap.size w W) => IndexFuncR_any A c B l kf caps p W (h1.below hb hB1) (Nat.le_trans hB1 hb.size) hn hk (fun W' x hx hb' => hf W' x hx (hb.trans (hb'.mono hb.size)))
  clear h1 hf hn
  have HA := Lib.hid (Ck.idxF_any p 0 l)
  have st := St.start w
  go_enter Tryz.func136, Tryz.ntmps136
  go_wp2_with (refine WL.out ?_; (repeat ((refine WL.op ?_ ?_; (exact rfl); intro K hK; (first | ((((with_reducible apply ow_assign); exact rfl)); (go_simp <;> (try simp (disch := omega) only [wrap_id, sub_left, zac]) <;> rfl)) | ((with_reducible apply ow_eval); (go_simp <;> (try simp (disch := omega) only [wrap_id, sub_left, zac]) <;> rfl); first | (with_reducible apply up_value) | ((with_reducible apply up_enter); ((go_at_call 169; refine (H.out _ st.below).mono ?_; rintro e w' ⟨rfl, hb⟩; replace st := st.call hb; clear hb; refine ⟨_, rfl, ?_⟩))))); refine WL.next hK (by simp only [Act.put, zpt, zsz, zss]; exact rfl) ?_; clear hK K))); (try refine WL.nil ?_))
  go_ret
  exact ⟨Ck.ret_bool HA.out, st.below⟩
set_option maxHeartbeats 1000000 in
theorem IndexFuncE_any (A : Option Addr) (c B : Nat) (l : List Ck.En) (kf : FuncId) (caps : Array Value) (p : Ck.En → Bool) (w : World) (h1 : Lst w B A l) (hB1 : B ≤ w.heap.size) (hn : l.length ≤ 100000)
    (hk : ∀ (args : Array Value) (W : World), (callFunc kf args).run Tryz.prog W = .ok (.enter kf args) W)
    (hf : ∀ W x, x ∈ l → Below w.heap.size w W → Calls Tryz.prog kf (#[.agg (El.cells x).toArray] ++ caps) W fun e w' => e = .returned (.bool (p x)) ∧ Below W.heap.size W w') :
    Calls Tryz.prog 177 #[.slice A l.length c, .func (.func kf) #[] caps] w fun e w' => e = .returned (.int .i64 (Ck.idxF p 0 l)) ∧ Below w.heap.size w w' := by
  have H1 := Lib.hid h1
  have HF := Lib.hid hf
  clear h1 hf
  obtain ⟨n, en⟩ : ∃ n, n = l.length := ⟨_, rfl⟩
  have e1 := Lib.hid en
  rw [← en] at hn ⊢
  clear en
  have st := St.start w
  go_enter Tryz.func177, Tryz.ntmps177
  go_wp2_with (refine WL.out ?_; (repeat ((refine WL.op ?_ ?_; (exact rfl); intro K hK; (first | ((((with_reducible apply ow_move); exact rfl)); (go_simp <;> (try simp (disch := omega) only [wrap_id, sub_left, zac]) <;> rfl)) | ((with_reducible apply ow_eval); (go_simp <;> (try simp (disch := omega) only [wrap_id, sub_left, zac]) <;> rfl); ((with_reducible apply up_value)))); refine WL.next hK (by simp only [Act.put, zpt, zsz, zss]; exact rfl) ?_; clear hK K))); (try refine WL.nil ?_))
  go_loopw [8] (fun i wr => ∃ k : Nat, k ≤ n ∧ i = .int .i64 k ∧ St w wr [] ∧ Hid (Ck.idxF p 0 l = Ck.idxF p k (l.drop k))) (fun i _ => n - (intOf i).toNat)
  case atStart => exact ⟨0, by omega, rfl, st, rfl⟩
  case round =>
    clear st
    obtain ⟨k, hk, rfl, st, hs⟩ := hrel
    by_cases hlt : k < n
    · have hkl : Hid (k < l.length) := Lib.hid (by rw [← e1.out]; exact hlt)
      have hst := Lib.hid (Ck.idxF_step p l k hkl.out)
      have hmem := Lib.hid (Ck.at_mem El.o l k hkl.out)
      have hlt' := hlt
      rw [e1.out] at hlt
      obtain ⟨b1, o1, rfl, hb1, hc⟩ := H1.out.at_ (by omega)
      have hb1 := Nat.lt_of_lt_of_le hb1 hB1
      have f1 := hc k hlt
      clear hc
      replace hlt := hlt'
      clear hlt'
      obtain ⟨v, hv⟩ : ∃ v, v = p (Ck.at_ El.o l k) := ⟨_, rfl⟩
      have HV := Lib.hid hv
      clear hv
      cases v
      · have hs' : Hid (Ck.idxF p 0 l = Ck.idxF p (k + 1) (l.drop (k + 1))) := Lib.hid (by rw [hs.out, hst.out, ← HV.out]; rfl)
        go_wp2_with (refine WL.out ?_; (repeat ((refine WL.op ?_ ?_; (exact rfl); intro K hK; (first | ((((with_reducible apply ow_move); exact rfl)); (go_simp <;> (try simp (disch := omega) only [wrap_id, sub_left, zac]) <;> rfl)) | ((with_reducible apply ow_oldC st); exact rfl; exact inferInstance; exact rfl; assumption; assumption; exact rfl) | ((with_reducible apply ow_eval); (go_simp <;> (try simp (disch := omega) only [wrap_id, sub_left, zac]) <;> rfl); first | (with_reducible apply up_value) | ((with_reducible apply up_enter); ((refine (HF.out _ _ hmem.out st.below).mono ?_; rw [← HV.out]; rintro e w' ⟨rfl, hb⟩; replace st := st.call hb; clear hb; refine ⟨_, rfl, ?_⟩))))); refine WL.next hK (by simp only [Act.put, zpt, zsz, zss]; exact rfl) ?_; clear hK K))); (try refine WL.nil ?_))
        exact ⟨⟨k + 1, by omega, by go_num, st, hs'⟩, by simp [intOf]; omega⟩
      · have hs' : Hid (Ck.idxF p 0 l = k) := Lib.hid (by rw [hs.out, hst.out, ← HV.out]; rfl)
        go_wp2_with (refine WL.out ?_; (repeat ((refine WL.op ?_ ?_; (exact rfl); intro K hK; (first | ((with_reducible apply ow_oldC st); exact rfl; exact inferInstance; exact rfl; assumption; assumption; exact rfl) | ((with_reducible apply ow_eval); (go_simp <;> (try simp (disch := omega) only [wrap_id, sub_left, zac]) <;> rfl); first | (with_reducible apply up_value) | ((with_reducible apply up_enter); ((refine (HF.out _ _ hmem.out st.below).mono ?_; rw [← HV.out]; rintro e w' ⟨rfl, hb⟩; replace st := st.call hb; clear hb; refine ⟨_, rfl, ?_⟩))))); refine WL.next hK (by simp only [Act.put, zpt, zsz, zss]; exact rfl) ?_; clear hK K))); (try refine WL.nil ?_))
        go_ret
        exact ⟨Ck.ret_int hs'.out.symm, st.below⟩
    · have hs' : Hid (Ck.idxF p 0 l = -1) := Lib.hid (by rw [hs.out]; exact Ck.idxF_end p l k (by rw [← e1.out]; omega))
      go_wp2_with (refine WL.out ?_; (repeat ((refine WL.op ?_ ?_; (exact rfl); intro K hK; (((with_reducible apply ow_eval); (go_simp <;> (try simp (disch := omega) only [wrap_id, sub_left, zac]) <;> rfl); ((with_reducible apply up_value)))); refine WL.next hK (by simp only [Act.put, zpt, zsz, zss]; exact rfl) ?_; clear hK K))); (try refine WL.nil ?_))
      go_ret
      exact ⟨Ck.ret_int hs'.out.symm, st.below⟩
theorem ContainsFuncE_any (A : Option Addr) (c B : Nat) (l : List Ck.En) (kf : FuncId) (caps : Array Value) (p : Ck.En → Bool) (w : World) (h1 : Lst w B A l) (hB1 : B ≤ w.heap.size) (hn : l.length ≤ 100000)
    (hk : ∀ (args : Array Value) (W : World), (callFunc kf args).run Tryz.prog W = .ok (.enter kf args) W)
    (hf : ∀ W x, x ∈ l → Below w.heap.size w W → Calls Tryz.prog kf (#[.agg (El.cells x).toArray] ++ caps) W fun e w' => e = .returned (.bool (p x)) ∧ Below W.heap.size W w') :
    Calls Tryz.prog 171 #[.slice A l.length c, .func (.func kf) #[] caps] w fun e w' => e = .returned (.bool (l.any p)) ∧ Below w.heap.size w w' := by
  have H := Lib.hid fun W (hb : Below w.heap.size w W) => IndexFuncE_any A c B l kf caps p W (h1.below hb hB1) (Nat.le_trans hB1 hb.size) hn hk (fun W' x hx hb' => hf W' x hx (hb.trans (hb'.mono hb.size)))
  clear h1 hf hn
  have HA := Lib.hid (Ck.idxF_any p 0 l)
  have st := St.start w
  go_enter Tryz.func171, Tryz.ntmps171
  go_wp2_with (refine WL.out ?_; (repeat ((refine WL.op ?_ ?_; (exact rfl); intro K hK; (first | ((((with_reducible apply ow_assign); exact rfl)); (go_simp <;> (try simp (disch := omega) only [wrap_id, sub_left, zac]) <;> rfl)) | ((with_reducible apply ow_eval); (go_simp <;> (try simp (disch := omega) only [wrap_id, sub_left, zac]) <;> rfl); first | (with_reducible apply up_value) | ((with_reducible apply up_enter); ((go_at_call 177; refine (H.out _ st.below).mono ?_; rintro e w' ⟨rfl, hb⟩; replace st := st.call hb; clear hb; refine ⟨_, rfl, ?_⟩))))); refine WL.next hK (by simp only [Act.put, zpt, zsz, zss]; exact rfl) ?_; clear hK K))); (try refine WL.nil ?_))
  go_ret
  exact ⟨Ck.ret_bool HA.out, st.below⟩
set_option maxHeartbeats 1000000 in
theorem IndexFuncN_any (A : Option Addr) (c B : Nat) (l : List Ck.Nm) (kf : FuncId) (caps : Array Value) (p : Ck.Nm → Bool) (w : World) (h1 : Lst w B A l) (hB1 : B ≤ w.heap.size) (hn : l.length ≤ 100000)
    (hk : ∀ (args : Array Value) (W : World), (callFunc kf args).run Tryz.prog W = .ok (.enter kf args) W)
    (hf : ∀ W x, x ∈ l → Below w.heap.size w W → Calls Tryz.prog kf (#[.agg (El.cells x).toArray] ++ caps) W fun e w' => e = .returned (.bool (p x)) ∧ Below W.heap.size W w') :
    Calls Tryz.prog 203 #[.slice A l.length c, .func (.func kf) #[] caps] w fun e w' => e = .returned (.int .i64 (Ck.idxF p 0 l)) ∧ Below w.heap.size w w' := by
  have H1 := Lib.hid h1
  have HF := Lib.hid hf
  clear h1 hf
  obtain ⟨n, en⟩ : ∃ n, n = l.length := ⟨_, rfl⟩
  have e1 := Lib.hid en
  rw [← en] at hn ⊢
  clear en
  have st := St.start w
  go_enter Tryz.func203, Tryz.ntmps203
  go_wp2_with (refine WL.out ?_; (repeat ((refine WL.op ?_ ?_; (exact rfl); intro K hK; (first | ((((with_reducible apply ow_move); exact rfl)); (go_simp <;> (try simp (disch := omega) only [wrap_id, sub_left, zac]) <;> rfl)) | ((with_reducible apply ow_eval); (go_simp <;> (try simp (disch := omega) only [wrap_id, sub_left, zac]) <;> rfl); ((with_reducible apply up_value)))); refine WL.next hK (by simp only [Act.put, zpt, zsz, zss]; exact rfl) ?_; clear hK K))); (try refine WL.nil ?_))
  go_loopw [8] (fun i wr => ∃ k : Nat, k ≤ n ∧ i = .int .i64 k ∧ St w wr [] ∧ Hid (Ck.idxF p 0 l = Ck.idxF p k (l.drop k))) (fun i _ => n - (intOf i).toNat)
  case atStart => exact ⟨0, by omega, rfl, st, rfl⟩
  case round =>
    clear st
    obtain ⟨k, hk, rfl, st, hs⟩ := hrel
    by_cases hlt : k < n
    · have hkl : Hid (k < l.length) := Lib.hid (by rw [← e1.out]; exact hlt)
      have hst := Lib.hid (Ck.idxF_step p l k hkl.out)
      have hmem := Lib.hid (Ck.at_mem El.o l k hkl.out)
      have hlt' := hlt
      rw [e1.out] at hlt
      obtain ⟨b1, o1, rfl, hb1, hc⟩ := H1.out.at_ (by omega)
      have hb1 := Nat.lt_of_lt_of_le hb1 hB1
      have f1 := hc k hlt
      clear hc
      replace hlt := hlt'
      clear hlt'
      obtain ⟨v, hv⟩ : ∃ v, v = p (Ck.at_ El.o l k) := ⟨_, rfl⟩
      have HV := Lib.hid hv
      clear hv
      cases v
      · have hs' : Hid (Ck.idxF p 0 l = Ck.idxF p (k + 1) (l.drop (k + 1))) := Lib.hid (by rw [hs.out, hst.out, ← HV.out]; rfl)
        go_wp2_with (refine WL.out ?_; (repeat ((refine WL.op ?_ ?_; (exact rfl); intro K hK; (first | ((((with_reducible apply ow_move); exact rfl)); (go_simp <;> (try simp (disch := omega) only [wrap_id, sub_left, zac]) <;> rfl)) | ((with_reducible apply ow_oldC st); exact rfl; exact inferInstance; exact rfl; assumption; assumption; exact rfl) | ((with_reducible apply ow_eval); (go_simp <;> (try simp (disch := omega) only [wrap_id, sub_left, zac]) <;> rfl); first | (with_reducible apply up_value) | ((with_reducible apply up_enter); ((refine (HF.out _ _ hmem.out st.below).mono ?_; rw [← HV.out]; rintro e w' ⟨rfl, hb⟩; replace st := st.call hb; clear hb; refine ⟨_, rfl, ?_⟩))))); refine WL.next hK (by simp only [Act.put, zpt, zsz, zss]; exact rfl) ?_; clear hK K))); (try refine WL.nil ?_))
        exact ⟨⟨k + 1, by omega, by go_num, st, hs'⟩, by simp [intOf]; omega⟩
      · have hs' : Hid (Ck.idxF p 0 l = k) := Lib.hid (by rw [hs.out, hst.out, ← HV.out]; rfl)
        go_wp2_with (refine WL.out ?_; (repeat ((refine WL.op ?_ ?_; (exact rfl); intro K hK; (first | ((with_reducible apply ow_oldC st); exact rfl; exact inferInstance; exact rfl; assumption; assumption; exact rfl) | ((with_reducible apply ow_eval); (go_simp <;> (try simp (disch := omega) only [wrap_id, sub_left, zac]) <;> rfl); first | (with_reducible apply up_value) | ((with_reducible apply up_enter); ((refine (HF.out _ _ hmem.out st.below).mono ?_; rw [← HV.out]; rintro e w' ⟨rfl, hb⟩; replace st := st.call hb; clear hb; refine ⟨_, rfl, ?_⟩))))); refine WL.next hK (by simp only [Act.put, zpt, zsz, zss]; exact rfl) ?_; clear hK K))); (try refine WL.nil ?_))
        go_ret
        exact ⟨Ck.ret_int hs'.out.symm, st.below⟩
    · have hs' : Hid (Ck.idxF p 0 l = -1) := Lib.hid (by rw [hs.out]; exact Ck.idxF_end p l k (by rw [← e1.out]; omega))
      go_wp2_with (refine WL.out ?_; (repeat ((refine WL.op ?_ ?_; (exact rfl); intro K hK; (((with_reducible apply ow_eval); (go_simp <;> (try simp (disch := omega) only [wrap_id, sub_left, zac]) <;> rfl); ((with_reducible apply up_value)))); refine WL.next hK (by simp only [Act.put, zpt, zsz, zss]; exact rfl) ?_; clear hK K))); (try refine WL.nil ?_))
      go_ret
      exact ⟨Ck.ret_int hs'.out.symm, st.below⟩
theorem ContainsFuncN_any (A : Option Addr) (c B : Nat) (l : List Ck.Nm) (kf : FuncId) (caps : Array Value) (p : Ck.Nm → Bool) (w : World) (h1 : Lst w B A l) (hB1 : B ≤ w.heap.size) (hn : l.length ≤ 100000)
    (hk : ∀ (args : Array Value) (W : World), (callFunc kf args).run Tryz.prog W = .ok (.enter kf args) W)
    (hf : ∀ W x, x ∈ l → Below w.heap.size w W → Calls Tryz.prog kf (#[.agg (El.cells x).toArray] ++ caps) W fun e w' => e = .returned (.bool (p x)) ∧ Below W.heap.size W w') :
    Calls Tryz.prog 175 #[.slice A l.length c, .func (.func kf) #[] caps] w fun e w' => e = .returned (.bool (l.any p)) ∧ Below w.heap.size w w' := by
  have H := Lib.hid fun W (hb : Below w.heap.size w W) => IndexFuncN_any A c B l kf caps p W (h1.below hb hB1) (Nat.le_trans hB1 hb.size) hn hk (fun W' x hx hb' => hf W' x hx (hb.trans (hb'.mono hb.size)))
  clear h1 hf hn
  have HA := Lib.hid (Ck.idxF_any p 0 l)
  have st := St.start w
  go_enter Tryz.func175, Tryz.ntmps175
  go_wp2_with (refine WL.out ?_; (repeat ((refine WL.op ?_ ?_; (exact rfl); intro K hK; (first | ((((with_reducible apply ow_assign); exact rfl)); (go_simp <;> (try simp (disch := omega) only [wrap_id, sub_left, zac]) <;> rfl)) | ((with_reducible apply ow_eval); (go_simp <;> (try simp (disch := omega) only [wrap_id, sub_left, zac]) <;> rfl); first | (with_reducible apply up_value) | ((with_reducible apply up_enter); ((go_at_call 203; refine (H.out _ st.below).mono ?_; rintro e w' ⟨rfl, hb⟩; replace st := st.call hb; clear hb; refine ⟨_, rfl, ?_⟩))))); refine WL.next hK (by simp only [Act.put, zpt, zsz, zss]; exact rfl) ?_; clear hK K))); (try refine WL.nil ?_))
  go_ret
  exact ⟨Ck.ret_bool HA.out, st.below⟩
set_option maxHeartbeats 1000000 in
theorem IndexFuncB_any (A : Option Addr) (c B : Nat) (l : List UInt8) (kf : FuncId) (caps : Array Value) (p : UInt8 → Bool) (w : World) (h1 : Lst w B A l) (hB1 : B ≤ w.heap.size) (hn : l.length ≤ 100000)
    (hk : ∀ (args : Array Value) (W : World), (callFunc kf args).run Tryz.prog W = .ok (.enter kf args) W)
    (hf : ∀ W x, x ∈ l → Below w.heap.size w W → Calls Tryz.prog kf (#[.int .u8 x.toNat] ++ caps) W fun e w' => e = .returned (.bool (p x)) ∧ Below W.heap.size W w') :
    Calls Tryz.prog 229 #[.slice A l.length c, .func (.func kf) #[] caps] w fun e w' => e = .returned (.int .i64 (Ck.idxF p 0 l)) ∧ Below w.heap.size w w' := by
  have H1 := Lib.hid h1
  have HF := Lib.hid hf
  clear h1 hf
  obtain ⟨n, en⟩ : ∃ n, n = l.length := ⟨_, rfl⟩
  have e1 := Lib.hid en
  rw [← en] at hn ⊢
  clear en
  have st := St.start w
  go_enter Tryz.func229, Tryz.ntmps229
  go_wp2_with (refine WL.out ?_; (repeat ((refine WL.op ?_ ?_; (exact rfl); intro K hK; (first | ((((with_reducible apply ow_move); exact rfl)); (go_simp <;> (try simp (disch := omega) only [wrap_id, sub_left, zac]) <;> rfl)) | ((with_reducible apply ow_eval); (go_simp <;> (try simp (disch := omega) only [wrap_id, sub_left, zac]) <;> rfl); ((with_reducible apply up_value)))); refine WL.next hK (by simp only [Act.put, zpt, zsz, zss]; exact rfl) ?_; clear hK K))); (try refine WL.nil ?_))
  go_loopw [8] (fun i wr => ∃ k : Nat, k ≤ n ∧ i = .int .i64 k ∧ St w wr [] ∧ Hid (Ck.idxF p 0 l = Ck.idxF p k (l.drop k))) (fun i _ => n - (intOf i).toNat)
  case atStart => exact ⟨0, by omega, rfl, st, rfl⟩
  case round =>
    clear st
    obtain ⟨k, hk, rfl, st, hs⟩ := hrel
    by_cases hlt : k < n
    · have hkl : Hid (k < l.length) := Lib.hid (by rw [← e1.out]; exact hlt)
      have hst := Lib.hid (Ck.idxF_step p l k hkl.out)
      have hmem := Lib.hid (Ck.at_mem El.o l k hkl.out)
      have hlt' := hlt
      rw [e1.out] at hlt
      obtain ⟨b1, o1, rfl, hb1, hc⟩ := H1.out.at_ (by omega)
      have hb1 := Nat.lt_of_lt_of_le hb1 hB1
      have f1 := hc k hlt
      clear hc
      replace f1 := f1 0 _ rfl
      rw [Nat.add_zero, Nat.mul_one] at f1
      replace hlt := hlt'
      clear hlt'
      obtain ⟨v, hv⟩ : ∃ v, v = p (Ck.at_ El.o l k) := ⟨_, rfl⟩
      have HV := Lib.hid hv
      clear hv
      cases v
      · have hs' : Hid (Ck.idxF p 0 l = Ck.idxF p (k + 1) (l.drop (k + 1))) := Lib.hid (by rw [hs.out, hst.out, ← HV.out]; rfl)
        go_wp2_with (refine WL.out ?_; (repeat ((refine WL.op ?_ ?_; (exact rfl); intro K hK; (first | ((((with_reducible apply ow_move); exact rfl)); (go_simp <;> (try simp (disch := omega) only [wrap_id, sub_left, zac]) <;> rfl)) | ((with_reducible apply ow_old1 st); exact rfl; exact inferInstance; exact rfl; assumption; assumption) | ((with_reducible apply ow_eval); (go_simp <;> (try simp (disch := omega) only [wrap_id, sub_left, zac]) <;> rfl); first | (with_reducible apply up_value) | ((with_reducible apply up_enter); ((refine (HF.out _ _ hmem.out st.below).mono ?_; rw [← HV.out]; rintro e w' ⟨rfl, hb⟩; replace st := st.call hb; clear hb; refine ⟨_, rfl, ?_⟩))))); refine WL.next hK (by simp only [Act.put, zpt, zsz, zss]; exact rfl) ?_; clear hK K))); (try refine WL.nil ?_))
        exact ⟨⟨k + 1, by omega, by go_num, st, hs'⟩, by simp [intOf]; omega⟩
      · have hs' : Hid (Ck.idxF p 0 l = k) := Lib.hid (by rw [hs.out, hst.out, ← HV.out]; rfl)
        go_wp2_with (refine WL.out ?_; (repeat ((refine WL.op ?_ ?_; (exact rfl); intro K hK; (first | ((with_reducible apply ow_old1 st); exact rfl; exact inferInstance; exact rfl; assumption; assumption) | ((with_reducible apply ow_eval); (go_simp <;> (try simp (disch := omega) only [wrap_id, sub_left, zac]) <;> rfl); first | (with_reducible apply up_value) | ((with_reducible apply up_enter); ((refine (HF.out _ _ hmem.out st.below).mono ?_; rw [← HV.out]; rintro e w' ⟨rfl, hb⟩; replace st := st.call hb; clear hb; refine ⟨_, rfl, ?_⟩))))); refine WL.next hK (by simp only [Act.put, zpt, zsz, zss]; exact rfl) ?_; clear hK K))); (try refine WL.nil ?_))
        go_ret
        exact ⟨Ck.ret_int hs'.out.symm, st.below⟩
    · have hs' : Hid (Ck.idxF p 0 l = -1) := Lib.hid (by rw [hs.out]; exact Ck.idxF_end p l k (by rw [← e1.out]; omega))
      go_wp2_with (refine WL.out ?_; (repeat ((refine WL.op ?_ ?_; (exact rfl); intro K hK; (((with_reducible apply ow_eval); (go_simp <;> (try simp (disch := omega) only [wrap_id, sub_left, zac]) <;> rfl); ((with_reducible apply up_value)))); refine WL.next hK (by simp only [Act.put, zpt, zsz, zss]; exact rfl) ?_; clear hK K))); (try refine WL.nil ?_))
      go_ret
      exact ⟨Ck.ret_int hs'.out.symm, st.below⟩
theorem ContainsFuncB_any (A : Option Addr) (c B : Nat) (l : List UInt8) (kf : FuncId) (caps : Array Value) (p : UInt8 → Bool) (w : World) (h1 : Lst w B A l) (hB1 : B ≤ w.heap.size) (hn : l.length ≤ 100000)
    (hk : ∀ (args : Array Value) (W : World), (callFunc kf args).run Tryz.prog W = .ok (.enter kf args) W)
    (hf : ∀ W x, x ∈ l → Below w.heap.size w W → Calls Tryz.prog kf (#[.int .u8 x.toNat] ++ caps) W fun e w' => e = .returned (.bool (p x)) ∧ Below W.heap.size W w') :
    Calls Tryz.prog 218 #[.slice A l.length c, .func (.func kf) #[] caps] w fun e w' => e = .returned (.bool (l.any p)) ∧ Below w.heap.size w w' := by
  have H := Lib.hid fun W (hb : Below w.heap.size w W) => IndexFuncB_any A c B l kf caps p W (h1.below hb hB1) (Nat.le_trans hB1 hb.size) hn hk (fun W' x hx hb' => hf W' x hx (hb.trans (hb'.mono hb.size)))
  clear h1 hf hn
  have HA := Lib.hid (Ck.idxF_any p 0 l)
  have st := St.start w
  go_enter Tryz.func218, Tryz.ntmps218
  go_wp2_with (refine WL.out ?_; (repeat ((refine WL.op ?_ ?_; (exact rfl); intro K hK; (first | ((((with_reducible apply ow_assign); exact rfl)); (go_simp <;> (try simp (disch := omega) only [wrap_id, sub_left, zac]) <;> rfl)) | ((with_reducible apply ow_eval); (go_simp <;> (try simp (disch := omega) only [wrap_id, sub_left, zac]) <;> rfl); first | (with_reducible apply up_value) | ((with_reducible apply up_enter); ((go_at_call 229; refine (H.out _ st.below).mono ?_; rintro e w' ⟨rfl, hb⟩; replace st := st.call hb; clear hb; refine ⟨_, rfl, ?_⟩))))); refine WL.next hK (by simp only [Act.put, zpt, zsz, zss]; exact rfl) ?_; clear hK K))); (try refine WL.nil ?_))
  go_ret
  exact ⟨Ck.ret_bool HA.out, st.below⟩
end Go.Proofs.YtgcjejajljhnaaaGreatDoor
namespace Go.Proofs.YtgcjejajljhnaaaGreatDoor
open Go.RowKit Go.Hp
theorem indexByte_any (all : List UInt8) (c : UInt8) (w : World) : Calls Tryz.prog 220 #[.string ⟨all.toArray⟩, .int .u8 (c.toNat : Int)] w fun e w' => e = .returned (.int .i64 (Lib.indexByte all c)) ∧ w = w' :=
  (Tryz.strings_IndexByte ⟨all.toArray⟩ (c.toNat : Int) w).mono fun e w' ⟨he, hw⟩ => ⟨by rw [he, Int.toNat_natCast]; simp, hw.symm⟩
theorem hasSuffix_any (s p : List UInt8) (w : World) (hs : s.length ≤ 100000) : Calls Tryz.prog 201 #[.string ⟨s.toArray⟩, .string ⟨p.toArray⟩] w fun e w' => e = .returned (.bool (Lib.hasSuffix s p)) ∧ w = w' :=
  (Tryz.strings_HasSuffix ⟨s.toArray⟩ ⟨p.toArray⟩ w (by show s.toArray.size ≤ _; simp; omega)).mono fun e w' ⟨he, hw⟩ => ⟨by rw [he], hw.symm⟩
theorem indexByte_none : ∀ (all : List UInt8) (c : UInt8), decide (Lib.indexByte all c < 0) = !all.contains c
  | [], c => rfl
  | x :: l, c => by
    have ih := indexByte_none l c
    have hge := Lib.indexByte_ge l c
    unfold Lib.indexByte
    rw [List.contains_cons]
    by_cases h : (x == c) = true
    · have h' : (c == x) = true := by simpa using (by simpa using h : x = c).symm
      rw [if_pos h, h']
      rfl
    · have h' : (c == x) = false := by
        rw [Bool.eq_false_iff]
        intro e
        exact h (by simpa using (by simpa using e : c = x).symm)
      rw [if_neg h, h', Bool.false_or, ← ih]
      by_cases h0 : Lib.indexByte l c = -1
      · simp [h0]
      · have : ¬ (Lib.indexByte l c == -1) = true := by simpa using h0
        rw [if_neg this, decide_eq_false (by omega), decide_eq_false (by omega)]
theorem isLegalByte_any (c : UInt8) (w : World) :
    Calls Tryz.prog 200 #[.int .u8 (c.toNat : Int)] w fun e w' => e = .returned (.bool (Ck.legalB c)) ∧ w = w' := by
  have hn := Lib.hid (indexByte_none [34, 42, 47, 58, 60, 62, 63, 92, 124] c)
  by_cases h1 : 32 ≤ (c.toNat : Int)
  · by_cases h2 : (c.toNat : Int) ≤ 126
    · have hr := Lib.hid (show Ck.legalB c = !([34, 42, 47, 58, 60, 62, 63, 92, 124].contains c) by unfold Ck.legalB; rw [decide_eq_true (by omega), decide_eq_true (by omega)]; rfl)
      go_enter Tryz.func200, Tryz.ntmps200
      go_wp2_with (go_at_call 220; refine (indexByte_any [34, 42, 47, 58, 60, 62, 63, 92, 124] c _).mono ?_; rintro e w' ⟨rfl, rfl⟩)
      go_ret
      exact ⟨by rw [hr.out, ← hn.out]; rfl, rfl⟩
    · have hr := Lib.hid (show Ck.legalB c = false by unfold Ck.legalB; rw [decide_eq_false (p := c.toNat ≤ 126) (by omega)]; simp)
      go_enter Tryz.func200, Tryz.ntmps200
      go_wp2
      go_ret
      exact ⟨by rw [hr.out]; rfl, rfl⟩
  · have hr := Lib.hid (show Ck.legalB c = false by unfold Ck.legalB; rw [decide_eq_false (by omega)]; rfl)
    go_enter Tryz.func200, Tryz.ntmps200
    go_wp2
    go_ret
    exact ⟨by rw [hr.out]; rfl, rfl⟩
theorem allBytes1_any (c : UInt8) (b : Nat) (w : World) (h : w.cell? ⟨b, 0, none⟩ = some (.func (.func 200) #[] #[])) :
    Calls Tryz.prog 219 #[.int .u8 (c.toNat : Int), .pointer (some ⟨b, 0, none⟩)] w fun e w' => e = .returned (.bool (!Ck.legalB c)) ∧ w = w' := by
  go_enter Tryz.func219, Tryz.ntmps219
  go_wp2_with (go_at_call 200; refine (isLegalByte_any c _).mono ?_; rintro e w' ⟨rfl, rfl⟩)
  go_ret
  exact ⟨rfl, rfl⟩
theorem all_not (s : List UInt8) : (!s.any fun c => !Ck.legalB c) = s.all Ck.legalB := by
  induction s with
  | nil => rfl
  | cons c s ih => rw [List.any_cons, List.all_cons, Bool.not_or, Bool.not_not, ih]
set_option maxHeartbeats 1000000 in
theorem allBytes_any (s : List UInt8) (w : World) (hs : s.length ≤ 100000) :
    Calls Tryz.prog 199 #[.string ⟨s.toArray⟩, .func (.func 200) #[] #[]] w fun e w' => e = .returned (.bool (s.all Ck.legalB)) ∧ Below w.heap.size w w' := by
  have hn := Lib.hid (all_not s)
  have st := St.start w
  go_enter Tryz.func199, Tryz.ntmps199
  go_wp2_with (refine WL.out ?_; (repeat ((refine WL.op ?_ ?_; (exact rfl); intro K hK; (first | ((((with_reducible apply ow_assign); exact rfl)); (go_simp <;> (try simp (disch := omega) only [wrap_id, sub_left, zac]) <;> rfl)) | ((((with_reducible apply ow_box st); exact rfl; (go_simp <;> (try simp (disch := omega) only [wrap_id, sub_left, zac]) <;> rfl); (go_simp <;> (try simp (disch := omega) only [wrap_id, sub_left, zac]) <;> rfl))); (try clear st); intro b w' st) | ((with_reducible apply ow_bytes Tryz.underlying9 Tryz.underlying117 Tryz.underlying5 st); exact rfl; exact rfl; (try clear st); intro g c1 R w' st hc1) | ((with_reducible apply ow_eval); (go_simp <;> (try simp (disch := omega) only [wrap_id, sub_left, zac]) <;> rfl); first | (with_reducible apply up_value) | ((with_reducible apply up_enter); ((go_at_call 218; (refine (ContainsFuncB_any (some ⟨g, 0, none⟩) c1 _ s 219 #[.pointer (some ⟨b, 0, none⟩)] (fun c => !Ck.legalB c) _ (St.marked_lst st (List.mem_cons_self ..)) (Nat.le_refl _) hs (fun _ _ => by kernel_rfl) (fun W x _ hb => (allBytes1_any x b W ((hb.cell (p := ⟨b, 0, none⟩) (Res.holds_lt (st.get (i := 1) rfl) rfl).2).trans ((st.cell (i := 1) rfl 0).trans rfl))).mono fun e w' ⟨he, hw⟩ => ⟨he, hw ▸ Below.refl _ _⟩)).mono ?_); rintro e w' ⟨rfl, hb⟩; replace st := st.call hb; clear hb; refine ⟨_, rfl, ?_⟩))))); refine WL.next hK (by simp only [Act.put, zpt, zsz, zss]; exact rfl) ?_; clear hK K))); (try refine WL.nil ?_))
  go_ret
  exact ⟨Ck.ret_bool hn.out, st.below⟩
end Go.Proofs.YtgcjejajljhnaaaGreatDoor
namespace Ck
theorem suffix_last (s : List UInt8) (c : UInt8) (h : s ≠ []) : Go.Lib.hasSuffix s [c] = (s.getLast? == some c) := by
  have e : s = s.dropLast ++ [s.getLast h] := (List.dropLast_concat_getLast h).symm
  unfold Go.Lib.hasSuffix
  rw [List.getLast?_eq_some_getLast h]
  by_cases hc : s.getLast h = c
  · rw [hc, beq_self_eq_true]
    rw [List.isSuffixOf_iff_suffix]
    exact ⟨s.dropLast, by rw [← hc]; exact e.symm⟩
  · have h2 : (some (s.getLast h) == some c) = false := by simpa using hc
    rw [h2, Bool.eq_false_iff]
    intro h3
    rw [List.isSuffixOf_iff_suffix] at h3
    obtain ⟨t, ht⟩ := h3
    apply hc
    subst ht
    simp
theorem legal_eq (s : List UInt8) : legal s = (!s.isEmpty && decide (s.length ≤ 32) && s.all legalB && !(s == [46, 46]) && !Go.Lib.hasSuffix s [32] && !Go.Lib.hasSuffix s [46]) := by
  unfold legal
  by_cases h : s = []
  · subst h; rfl
  · rw [suffix_last s 32 h, suffix_last s 46 h]
    have h1 : (s != []) = !s.isEmpty := by cases s <;> rfl
    rw [h1]
    rfl
end Ck
namespace Go.Proofs.YtgcjejajljhnaaaGreatDoor
open Go.RowKit Go.Hp
set_option maxHeartbeats 1000000 in
theorem isLegal_any (s : List UInt8) (w : World) (hs : s.length ≤ 100000) :
    Calls Tryz.prog 168 #[.string ⟨s.toArray⟩] w fun e w' => e = .returned (.bool (Ck.legal s)) ∧ Below w.heap.size w w' := by
  have HR := Lib.hid (Ck.legal_eq s)
  by_cases h0 : s = []
  · subst h0
    (have st := St.start w; go_enter Tryz.func168, Tryz.ntmps168; (go_wp2_with (refine WL.out ?_; (repeat (first | (refine WL.op ?_ ?_; (exact rfl); intro K hK; (first | ((first | ((with_reducible apply ow_move); exact rfl) | ((with_reducible apply ow_assign); exact rfl)); (go_simp <;> (try simp (disch := omega) only [wrap_id, sub_left, zac]) <;> rfl)) | ((with_reducible apply ow_eval); (go_simp <;> (try simp (disch := omega) only [wrap_id, sub_left, zac]) <;> rfl); ((with_reducible apply up_value)))); refine WL.next hK (by simp only [Act.put, zpt, zsz, zss]; exact rfl) ?_; clear hK K) | (refine WL.skip ?_ (by simp only [Act.put, zpt, zsz, zss]; exact rfl) ?_; (exact rfl)))); (try refine WL.nil ?_))); go_ret; exact ⟨Ck.ret_bool (by rw [HR.out]; rfl), st.below⟩)
  · by_cases h32 : (s.length : Int) ≤ 32
    · have h32' : s.length ≤ 32 := by omega
      rcases Bool.eq_false_or_eq_true (s.all Ck.legalB) with ha | ha
      · have HA := Lib.hid ha
        clear ha
        have hall : ∀ W : World, Calls Tryz.prog 199 #[.string ⟨s.toArray⟩, .func (.func 200) #[] #[]] W fun e w' => e = .returned (.bool true) ∧ Below W.heap.size W w' := fun W => by
          have := allBytes_any s W hs
          rwa [HA.out] at this
        by_cases hd : s = [46, 46]
        · subst hd
          clear h0 h32 h32'
          have st := St.start w
          go_enter Tryz.func168, Tryz.ntmps168
          go_wp2_with (refine WL.out ?_; (repeat (first | (refine WL.op ?_ ?_; (exact rfl); intro K hK; (first | ((first | ((with_reducible apply ow_move); exact rfl) | ((with_reducible apply ow_assign); exact rfl)); (go_simp <;> (try simp (disch := omega) only [wrap_id, sub_left, zac]) <;> rfl)) | ((with_reducible apply ow_eval); (go_simp <;> (try simp (disch := omega) only [wrap_id, sub_left, zac]) <;> rfl); first | (with_reducible apply up_value) | ((with_reducible apply up_enter); ((go_at_call 199; refine (hall _).mono ?_; rintro e w' ⟨rfl, hb⟩; replace st := st.call hb; clear hb; refine ⟨_, rfl, ?_⟩))))); refine WL.next hK (by simp only [Act.put, zpt, zsz, zss]; exact rfl) ?_; clear hK K) | (refine WL.skip ?_ (by simp only [Act.put, zpt, zsz, zss]; exact rfl) ?_; (exact rfl)))); (try refine WL.nil ?_))
          go_ret
          exact ⟨Ck.ret_bool (by rw [HR.out]; rfl), st.below⟩
        · have HD := Lib.hid (show (s == [46, 46]) = false from beq_false_of_ne hd)
          rcases Bool.eq_false_or_eq_true (Lib.hasSuffix s [32]) with h1 | h1
          · (have st := St.start w; go_enter Tryz.func168, Tryz.ntmps168; (go_wp2_with (refine WL.out ?_; (repeat (first | (refine WL.op ?_ ?_; (first | exact rfl | (simp [Region.wanted, yielded, *] <;> done)); intro K hK; (first | ((first | ((with_reducible apply ow_move); exact rfl) | ((with_reducible apply ow_assign); exact rfl)); (go_simp <;> (try simp (disch := omega) only [wrap_id, sub_left, zac]) <;> rfl)) | ((with_reducible apply ow_eval); (go_simp <;> (try simp (disch := omega) only [wrap_id, sub_left, zac]) <;> rfl); first | (with_reducible apply up_value) | ((with_reducible apply up_enter); first | (go_at_call 199; refine (hall _).mono ?_; rintro e w' ⟨rfl, hb⟩; replace st := st.call hb; clear hb; refine ⟨_, rfl, ?_⟩) | (go_at_call 201; ((with_reducible refine (hasSuffix_any s [32] _ hs).mono ?_); rintro e5 w' ⟨rfl, rfl⟩; refine ⟨_, rfl, ?_⟩))))); refine WL.next hK (by simp only [Act.put, zpt, zsz, zss]; exact rfl) ?_; clear hK K) | (refine WL.skip ?_ (by simp only [Act.put, zpt, zsz, zss]; exact rfl) ?_; (exact rfl)))); (try refine WL.nil ?_))); go_ret; exact ⟨Ck.ret_bool (by rw [HR.out, HA.out, HD.out, decide_eq_true h32', h1]; simp [h0]), st.below⟩)
          · (have st := St.start w; go_enter Tryz.func168, Tryz.ntmps168; (go_wp2_with (refine WL.out ?_; (repeat ((refine WL.op ?_ ?_; (first | exact rfl | (simp [Region.wanted, yielded, *] <;> done)); intro K hK; (first | ((first | ((with_reducible apply ow_move); exact rfl) | ((with_reducible apply ow_assign); exact rfl)); (go_simp <;> (try simp (disch := omega) only [wrap_id, sub_left, zac]) <;> rfl)) | ((with_reducible apply ow_eval); (go_simp <;> (try simp (disch := omega) only [wrap_id, sub_left, zac]) <;> rfl); first | (with_reducible apply up_value) | ((with_reducible apply up_enter); first | (go_at_call 199; refine (hall _).mono ?_; rintro e w' ⟨rfl, hb⟩; replace st := st.call hb; clear hb; refine ⟨_, rfl, ?_⟩) | (go_at_call 201; ((with_reducible refine (hasSuffix_any s [32] _ hs).mono ?_); rintro e5 w' ⟨rfl, rfl⟩; refine ⟨_, rfl, ?_⟩)) | (go_at_call 201; ((with_reducible refine (hasSuffix_any s [46] _ hs).mono ?_); rintro e5 w' ⟨rfl, rfl⟩; refine ⟨_, rfl, ?_⟩))))); refine WL.next hK (by simp only [Act.put, zpt, zsz, zss]; exact rfl) ?_; clear hK K))); (try refine WL.nil ?_))); go_ret; exact ⟨Ck.ret_bool (by rw [HR.out, HA.out, HD.out, decide_eq_true h32', h1]; simp [h0]), st.below⟩)
      · have HA := Lib.hid ha
        clear ha
        have hall : ∀ W : World, Calls Tryz.prog 199 #[.string ⟨s.toArray⟩, .func (.func 200) #[] #[]] W fun e w' => e = .returned (.bool false) ∧ Below W.heap.size W w' := fun W => by
          have := allBytes_any s W hs
          rwa [HA.out] at this
        (have st := St.start w; go_enter Tryz.func168, Tryz.ntmps168; (go_wp2_with (refine WL.out ?_; (repeat (first | (refine WL.op ?_ ?_; (first | exact rfl | (simp [Region.wanted, yielded, *] <;> done)); intro K hK; (first | ((first | ((with_reducible apply ow_move); exact rfl) | ((with_reducible apply ow_assign); exact rfl)); (go_simp <;> (try simp (disch := omega) only [wrap_id, sub_left, zac]) <;> rfl)) | ((with_reducible apply ow_eval); (go_simp <;> (try simp (disch := omega) only [wrap_id, sub_left, zac]) <;> rfl); first | (with_reducible apply up_value) | ((with_reducible apply up_enter); ((go_at_call 199; refine (hall _).mono ?_; rintro e w' ⟨rfl, hb⟩; replace st := st.call hb; clear hb; refine ⟨_, rfl, ?_⟩))))); refine WL.next hK (by simp only [Act.put, zpt, zsz, zss]; exact rfl) ?_; clear hK K) | (refine WL.skip ?_ (by simp only [Act.put, zpt, zsz, zss]; exact rfl) ?_; (exact rfl)))); (try refine WL.nil ?_))); go_ret; exact ⟨Ck.ret_bool (by rw [HR.out, HA.out]; simp [h0]), st.below⟩)
    · have h32' := Lib.hid (show decide (s.length ≤ 32) = false from decide_eq_false (by omega))
      (have st := St.start w; go_enter Tryz.func168, Tryz.ntmps168; (go_wp2_with (refine WL.out ?_; (repeat (first | (refine WL.op ?_ ?_; (first | exact rfl | (simp [Region.wanted, yielded, *] <;> done)); intro K hK; (first | ((first | ((with_reducible apply ow_move); exact rfl) | ((with_reducible apply ow_assign); exact rfl)); (go_simp <;> (try simp (disch := omega) only [wrap_id, sub_left, zac]) <;> rfl)) | ((with_reducible apply ow_eval); (go_simp <;> (try simp (disch := omega) only [wrap_id, sub_left, zac]) <;> rfl); ((with_reducible apply up_value)))); refine WL.next hK (by simp only [Act.put, zpt, zsz, zss]; exact rfl) ?_; clear hK K) | (refine WL.skip ?_ (by simp only [Act.put, zpt, zsz, zss]; exact rfl) ?_; (exact rfl)))); (try refine WL.nil ?_))); go_ret; exact ⟨Ck.ret_bool (by rw [HR.out, h32'.out]; cases s.isEmpty <;> rfl), st.below⟩)
theorem CheckName_any (s : List UInt8) (w : World) (hs : s.length ≤ 100000) :
    Calls Tryz.prog 134 #[.string ⟨s.toArray⟩] w fun e w' => e = .returned (.int .i64 (Ck.nameErr s)) ∧ Below w.heap.size w w' := by
  have HR := Lib.hid (show Ck.nameErr s = Ck.first [Ck.unl (decide ((s.length : Int) ≤ 32)) 8, Ck.unl (Ck.legal s) 4] by
    unfold Ck.nameErr Ck.unl
    by_cases h : 32 < s.length
    · rw [if_pos h, decide_eq_false (by omega)]; rfl
    · rw [if_neg h, decide_eq_true (by omega)]
      cases Ck.legal s <;> rfl)
  have st := St.start w
  go_enter Tryz.func134, Tryz.ntmps134
  go_wp2_with (refine WL.out ?_; (repeat ((refine WL.op ?_ ?_; (exact rfl); intro K hK; (first | ((first | ((with_reducible apply ow_move); exact rfl) | ((with_reducible apply ow_assign); exact rfl)); (go_simp <;> (try simp (disch := omega) only [wrap_id, sub_left, zac]) <;> rfl)) | ((((with_reducible apply ow_newSlice st); exact rfl; (go_simp <;> (try simp (disch := omega) only [wrap_id, sub_left, zac]) <;> rfl); exact rfl)); (try clear st); intro b w' st) | ((with_reducible apply ow_eval); (go_simp <;> (try simp (disch := omega) only [wrap_id, sub_left, zac]) <;> rfl); first | (with_reducible apply up_value) | ((with_reducible apply up_enter); first | (go_at_call 167; refine (nunless_any _ _ _).mono ?_; rintro e w' ⟨rfl, rfl⟩; refine ⟨_, rfl, ?_⟩) | (go_at_call 168; refine (isLegal_any s _ hs).mono ?_; rintro e w' ⟨rfl, hb⟩; replace st := st.call hb; clear hb; refine ⟨_, rfl, ?_⟩) | (go_at_call 166; refine (nfirst2_any _ _ _ _ (st.boxC (i := 0) rfl)).mono ?_; rintro e w' ⟨rfl, rfl⟩; refine ⟨_, rfl, ?_⟩)))); refine WL.next hK (by simp only [Act.put, zpt, zsz, zss]; exact rfl) ?_; clear hK K))); (try refine WL.nil ?_))
  go_ret
  exact ⟨Ck.ret_int HR.out.symm, st.below⟩
end Go.Proofs.YtgcjejajljhnaaaGreatDoor
namespace Ck
theorem nmErr_eq (x : Nm) : nmErr x = first [refErr x.d, nameErr x.n] := by
  unfold nmErr first first first
  by_cases h : refErr x.d = 0
  · rw [if_pos h, if_pos h]
    by_cases h2 : nameErr x.n = 0
    · rw [if_pos h2, h2]
    · rw [if_neg h2]
  · rw [if_neg h, if_neg h]
theorem enErr_eq (x : En) : enErr x = first [nameErr x.n, refErr x.f, unl (num x.z) 2] := by
  unfold enErr unl first first first first
  by_cases h : nameErr x.n = 0
  · rw [if_pos h, if_pos h]
    by_cases h2 : refErr x.f = 0
    · rw [if_pos h2, if_pos h2]
      cases num x.z <;> rfl
    · rw [if_neg h2, if_neg h2]
  · rw [if_neg h, if_neg h]
end Ck
namespace Go.Proofs.YtgcjejajljhnaaaGreatDoor
open Go.RowKit Go.Hp
set_option maxHeartbeats 1000000 in
theorem nameErr_any (x : Ck.Nm) (w : World) (hs : x.n.length ≤ 100000) :
    Calls Tryz.prog 92 #[.agg #[.int .i64 x.d.r, .int .i64 x.d.q, .string ⟨x.n.toArray⟩]] w fun e w' => e = .returned (.int .i64 (Ck.nmErr x)) ∧ Below w.heap.size w w' := by
  have HR := Lib.hid (Ck.nmErr_eq x)
  have st := St.start w
  go_enter Tryz.func92, Tryz.ntmps92
  go_wp2_with (refine WL.out ?_; (repeat ((refine WL.op ?_ ?_; (exact rfl); intro K hK; (first | ((((with_reducible apply ow_assign); exact rfl)); (go_simp <;> (try simp (disch := omega) only [wrap_id, sub_left, zac]) <;> rfl)) | ((((with_reducible apply ow_box st); exact rfl; (go_simp <;> (try simp (disch := omega) only [wrap_id, sub_left, zac]) <;> rfl); (go_simp <;> (try simp (disch := omega) only [wrap_id, sub_left, zac]) <;> rfl))); (try clear st); intro b w' st)); refine WL.next hK (by simp only [Act.put, zpt, zsz, zss]; exact rfl) ?_; clear hK K))); (try refine WL.nil ?_))
  refine wp_region_plan 6 (by kernel_rfl) (by kernel_rfl) ?_; replace st := st.drew; generalize World.drew _ = W at st ⊢
  (apply Plan.val'; (focus (intro x0 x1 x2 x3 x4 x5 w1 hb; (try simp only [depF, fillA, Act.put, zta, ztz, zpt, zsz, zss, zl0, zls]); (repeat (fail)); have st := st.call hb; ((apply Yphi.run; (exact rfl); (go_simp <;> (try simp (disch := omega) only [wrap_id, sub_left, zac]) <;> rfl); exact rfl)))); (simp only [zca, zcn] <;> exact rfl))
  (apply Plan.val'; (focus (intro x0 x1 x2 x3 x4 x5 w1 hb; (try simp only [depF, fillA, Act.put, zta, ztz, zpt, zsz, zss, zl0, zls]); (repeat (rintro rfl)); have st := st.call hb; ((apply Yphi.loadN st; exact rfl; exact inferInstance; (exact rfl); exact rfl; (exact get0); ((try simp only [zta, ztz, zda, zdz, zca, zcn, zan, zsz, zss]) <;> exact rfl); exact rfl)))); (simp only [zca, zcn] <;> exact rfl))
  (apply Plan.val'; (focus (intro x0 x1 x2 x3 x4 x5 w1 hb; (try simp only [depF, fillA, Act.put, zta, ztz, zpt, zsz, zss, zl0, zls]); (repeat (rintro rfl)); have st := st.call hb; apply Yphi.call; (exact rfl); (go_simp <;> (try simp (disch := omega) only [wrap_id, sub_left, zac]) <;> rfl); exact rfl; refine (refErr_any x.d.r x.d.q _).mono ?_; rintro e w' ⟨rfl, hb'⟩; exact ⟨_, rfl, hb', rfl⟩)); (simp only [zca, zcn] <;> exact rfl))
  (apply Plan.val'; (focus (intro x0 x1 x2 x3 x4 x5 w1 hb; (try simp only [depF, fillA, Act.put, zta, ztz, zpt, zsz, zss, zl0, zls]); (repeat (fail)); have st := st.call hb; ((apply Yphi.run; (exact rfl); (go_simp <;> (try simp (disch := omega) only [wrap_id, sub_left, zac]) <;> rfl); exact rfl)))); (simp only [zca, zcn] <;> exact rfl))
  (apply Plan.val'; (focus (intro x0 x1 x2 x3 x4 x5 w1 hb; (try simp only [depF, fillA, Act.put, zta, ztz, zpt, zsz, zss, zl0, zls]); (repeat (rintro rfl)); have st := st.call hb; ((apply Yphi.load1 st; exact rfl; exact inferInstance; (exact rfl); exact rfl; (exact get0); exact rfl)))); (simp only [zca, zcn] <;> exact rfl))
  (apply Plan.val'; (focus (intro x0 x1 x2 x3 x4 x5 w1 hb; (try simp only [depF, fillA, Act.put, zta, ztz, zpt, zsz, zss, zl0, zls]); (repeat (rintro rfl)); have st := st.call hb; apply Yphi.call; (exact rfl); (go_simp <;> (try simp (disch := omega) only [wrap_id, sub_left, zac]) <;> rfl); exact rfl; refine (CheckName_any x.n _ hs).mono ?_; rintro e w' ⟨rfl, hb'⟩; exact ⟨_, rfl, hb', rfl⟩)); (simp only [zca, zcn] <;> exact rfl))
  intro x0 x1 x2 x3 x4 x5 lo hi w1 hb hap
  rintro rfl rfl rfl rfl rfl rfl
  simp only [allPhi, fillA, Act.put, zta, ztz, zpt, zsz, zss, zda, zdz]
  have st := st.call hb
  clear hap hb
  go_wp2_with (refine WL.out ?_; (repeat ((refine WL.op ?_ ?_; (exact rfl); intro K hK; (first | ((((with_reducible apply ow_assign); exact rfl)); (go_simp <;> (try simp (disch := omega) only [wrap_id, sub_left, zac]) <;> rfl)) | ((((with_reducible apply ow_newSlice st); exact rfl; (go_simp <;> (try simp (disch := omega) only [wrap_id, sub_left, zac]) <;> rfl); exact rfl)); (try clear st); intro b w' st) | ((with_reducible apply ow_eval); (go_simp <;> (try simp (disch := omega) only [wrap_id, sub_left, zac]) <;> rfl); (((with_reducible apply up_enter); ((go_at_call 57; refine (first2_any _ _ _ _ (st.boxC (i := 0) rfl)).mono ?_; rintro e w' ⟨rfl, rfl⟩; refine ⟨_, rfl, ?_⟩)))))); refine WL.next hK (by simp only [Act.put, zpt, zsz, zss]; exact rfl) ?_; clear hK K))); (try refine WL.nil ?_))
  go_ret
  exact ⟨Ck.ret_int HR.out.symm, st.below⟩
set_option maxHeartbeats 1000000 in
theorem entryErr_any (x : Ck.En) (w : World) (hs : x.n.length ≤ 100000) :
    Calls Tryz.prog 94 #[.agg #[.string ⟨x.n.toArray⟩, .int .i64 x.f.r, .int .i64 x.f.q, .int .i64 x.z]] w fun e w' => e = .returned (.int .i64 (Ck.enErr x)) ∧ Below w.heap.size w w' := by
  have HR := Lib.hid (Ck.enErr_eq x)
  have st := St.start w
  go_enter Tryz.func94, Tryz.ntmps94
  go_wp2_with (refine WL.out ?_; (repeat ((refine WL.op ?_ ?_; (exact rfl); intro K hK; (first | ((((with_reducible apply ow_assign); exact rfl)); (go_simp <;> (try simp (disch := omega) only [wrap_id, sub_left, zac]) <;> rfl)) | ((((with_reducible apply ow_box st); exact rfl; (go_simp <;> (try simp (disch := omega) only [wrap_id, sub_left, zac]) <;> rfl); (go_simp <;> (try simp (disch := omega) only [wrap_id, sub_left, zac]) <;> rfl))); (try clear st); intro b w' st)); refine WL.next hK (by simp only [Act.put, zpt, zsz, zss]; exact rfl) ?_; clear hK K))); (try refine WL.nil ?_))
  refine wp_region_plan 10 (by kernel_rfl) (by kernel_rfl) ?_; replace st := st.drew; generalize World.drew _ = W at st ⊢
  (apply Plan.val'; (focus (intro x0 x1 x2 x3 x4 x5 x6 x7 x8 x9 w1 hb; (try simp only [depF, fillA, Act.put, zta, ztz, zpt, zsz, zss, zl0, zls]); (repeat (fail)); have st := st.call hb; ((apply Yphi.run; (exact rfl); (go_simp <;> (try simp (disch := omega) only [wrap_id, sub_left, zac]) <;> rfl); exact rfl)))); (simp only [zca, zcn] <;> exact rfl))
  (apply Plan.val'; (focus (intro x0 x1 x2 x3 x4 x5 x6 x7 x8 x9 w1 hb; (try simp only [depF, fillA, Act.put, zta, ztz, zpt, zsz, zss, zl0, zls]); (repeat (rintro rfl)); have st := st.call hb; ((apply Yphi.load1 st; exact rfl; exact inferInstance; (exact rfl); exact rfl; (exact get0); exact rfl)))); (simp only [zca, zcn] <;> exact rfl))
  (apply Plan.val'; (focus (intro x0 x1 x2 x3 x4 x5 x6 x7 x8 x9 w1 hb; (try simp only [depF, fillA, Act.put, zta, ztz, zpt, zsz, zss, zl0, zls]); (repeat (rintro rfl)); have st := st.call hb; apply Yphi.call; (exact rfl); (go_simp <;> (try simp (disch := omega) only [wrap_id, sub_left, zac]) <;> rfl); exact rfl; refine (CheckName_any x.n _ hs).mono ?_; rintro e w' ⟨rfl, hb'⟩; exact ⟨_, rfl, hb', rfl⟩)); (simp only [zca, zcn] <;> exact rfl))
  (apply Plan.val'; (focus (intro x0 x1 x2 x3 x4 x5 x6 x7 x8 x9 w1 hb; (try simp only [depF, fillA, Act.put, zta, ztz, zpt, zsz, zss, zl0, zls]); (repeat (fail)); have st := st.call hb; ((apply Yphi.run; (exact rfl); (go_simp <;> (try simp (disch := omega) only [wrap_id, sub_left, zac]) <;> rfl); exact rfl)))); (simp only [zca, zcn] <;> exact rfl))
  (apply Plan.val'; (focus (intro x0 x1 x2 x3 x4 x5 x6 x7 x8 x9 w1 hb; (try simp only [depF, fillA, Act.put, zta, ztz, zpt, zsz, zss, zl0, zls]); (repeat (rintro rfl)); have st := st.call hb; ((apply Yphi.loadN st; exact rfl; exact inferInstance; (exact rfl); exact rfl; (exact get0); ((try simp only [zta, ztz, zda, zdz, zca, zcn, zan, zsz, zss]) <;> exact rfl); exact rfl)))); (simp only [zca, zcn] <;> exact rfl))
  (apply Plan.val'; (focus (intro x0 x1 x2 x3 x4 x5 x6 x7 x8 x9 w1 hb; (try simp only [depF, fillA, Act.put, zta, ztz, zpt, zsz, zss, zl0, zls]); (repeat (rintro rfl)); have st := st.call hb; apply Yphi.call; (exact rfl); (go_simp <;> (try simp (disch := omega) only [wrap_id, sub_left, zac]) <;> rfl); exact rfl; refine (refErr_any x.f.r x.f.q _).mono ?_; rintro e w' ⟨rfl, hb'⟩; exact ⟨_, rfl, hb', rfl⟩)); (simp only [zca, zcn] <;> exact rfl))
  (apply Plan.val'; (focus (intro x0 x1 x2 x3 x4 x5 x6 x7 x8 x9 w1 hb; (try simp only [depF, fillA, Act.put, zta, ztz, zpt, zsz, zss, zl0, zls]); (repeat (fail)); have st := st.call hb; ((apply Yphi.run; (exact rfl); (go_simp <;> (try simp (disch := omega) only [wrap_id, sub_left, zac]) <;> rfl); exact rfl)))); (simp only [zca, zcn] <;> exact rfl))
  (apply Plan.val'; (focus (intro x0 x1 x2 x3 x4 x5 x6 x7 x8 x9 w1 hb; (try simp only [depF, fillA, Act.put, zta, ztz, zpt, zsz, zss, zl0, zls]); (repeat (rintro rfl)); have st := st.call hb; ((apply Yphi.load1 st; exact rfl; exact inferInstance; (exact rfl); exact rfl; (exact get0); exact rfl)))); (simp only [zca, zcn] <;> exact rfl))
  (apply Plan.val'; (focus (intro x0 x1 x2 x3 x4 x5 x6 x7 x8 x9 w1 hb; (try simp only [depF, fillA, Act.put, zta, ztz, zpt, zsz, zss, zl0, zls]); (repeat (rintro rfl)); have st := st.call hb; apply Yphi.call; (exact rfl); (go_simp <;> (try simp (disch := omega) only [wrap_id, sub_left, zac]) <;> rfl); exact rfl; refine (isNumber_any x.z _).mono ?_; rintro e w' ⟨rfl, rfl⟩; exact ⟨_, rfl, Below.refl _ _, rfl⟩)); (simp only [zca, zcn] <;> exact rfl))
  (apply Plan.val'; (focus (intro x0 x1 x2 x3 x4 x5 x6 x7 x8 x9 w1 hb; (try simp only [depF, fillA, Act.put, zta, ztz, zpt, zsz, zss, zl0, zls]); (repeat (first | rintro rfl | intro _)); have st := st.call hb; apply Yphi.call; (exact rfl); (go_simp <;> (try simp (disch := omega) only [wrap_id, sub_left, zac]) <;> rfl); exact rfl; refine (unless_any _ _ _).mono ?_; rintro e w' ⟨rfl, rfl⟩; exact ⟨_, rfl, Below.refl _ _, rfl⟩)); (simp only [zca, zcn] <;> exact rfl))
  intro x0 x1 x2 x3 x4 x5 x6 x7 x8 x9 lo hi w1 hb hap
  rintro rfl rfl rfl rfl rfl rfl rfl rfl rfl rfl
  simp only [allPhi, fillA, Act.put, zta, ztz, zpt, zsz, zss, zda, zdz]
  have st := st.call hb
  clear hap hb
  go_wp2_with (refine WL.out ?_; (repeat ((refine WL.op ?_ ?_; (exact rfl); intro K hK; (first | ((((with_reducible apply ow_assign); exact rfl)); (go_simp <;> (try simp (disch := omega) only [wrap_id, sub_left, zac]) <;> rfl)) | ((((with_reducible apply ow_newSlice st); exact rfl; (go_simp <;> (try simp (disch := omega) only [wrap_id, sub_left, zac]) <;> rfl); exact rfl)); (try clear st); intro b w' st) | ((with_reducible apply ow_eval); (go_simp <;> (try simp (disch := omega) only [wrap_id, sub_left, zac]) <;> rfl); (((with_reducible apply up_enter); ((go_at_call 57; refine (first3_any _ _ _ _ _ (st.boxC (i := 0) rfl)).mono ?_; rintro e w' ⟨rfl, rfl⟩; refine ⟨_, rfl, ?_⟩)))))); refine WL.next hK (by simp only [Act.put, zpt, zsz, zss]; exact rfl) ?_; clear hK K))); (try refine WL.nil ?_))
  go_ret
  exact ⟨Ck.ret_int HR.out.symm, st.below⟩
theorem badRun_on (W : World) (x : Ck.Run) : Calls Tryz.prog 135 (#[.agg (El.cells x).toArray] ++ #[]) W fun e w' => e = .returned (.bool (Ck.badRun x)) ∧ Below W.heap.size W w' := badRun_any x.s x.l W
set_option maxHeartbeats 1000000 in
theorem streamErr_any (x : Ck.VSm) (B : Nat) (w : World) (h : x.At w B) (hB : B ≤ w.heap.size) (hr : x.r.length ≤ 100000) :
    Calls Tryz.prog 93 #[.agg #[.slice x.A x.r.length x.c, .int .i64 x.z]] w fun e w' => e = .returned (.int .i64 (Ck.smErr x.p)) ∧ Below w.heap.size w w' := by
  have H := Lib.hid h
  clear h
  obtain ⟨n, en⟩ : ∃ n, n = x.r.length := ⟨_, rfl⟩
  have e1 := Lib.hid en
  rw [← en] at hr ⊢
  clear en
  by_cases h24 : 24 < n
  · have h24' : (24 : Int) < (n : Int) := by omega
    have HR := Lib.hid (show Ck.smErr x.p = 8 by unfold Ck.smErr; exact if_pos (by show 24 < x.r.length; rw [← e1.out]; exact h24))
    have st := St.start w
    go_enter Tryz.func93, Tryz.ntmps93
    go_wp2_with (refine WL.out ?_; (repeat ((refine WL.op ?_ ?_; (exact rfl); intro K hK; (first | ((((with_reducible apply ow_assign); exact rfl)); (go_simp <;> (try simp (disch := omega) only [wrap_id, sub_left, zac]) <;> rfl)) | ((((with_reducible apply ow_load1 st); exact rfl; exact inferInstance; exact rfl; (exact get0))); exact rfl) | ((((with_reducible apply ow_box st); exact rfl; (go_simp <;> (try simp (disch := omega) only [wrap_id, sub_left, zac]) <;> rfl); (go_simp <;> (try simp (disch := omega) only [wrap_id, sub_left, zac]) <;> rfl))); (try clear st); intro b w' st) | ((with_reducible apply ow_eval); (go_simp <;> (try simp (disch := omega) only [wrap_id, sub_left, zac]) <;> rfl); ((with_reducible apply up_value)))); refine WL.next hK (by simp only [Act.put, zpt, zsz, zss]; exact rfl) ?_; clear hK K))); (try refine WL.nil ?_))
    go_ret
    exact ⟨Ck.ret_int HR.out.symm, st.below⟩
  · have h24' : ¬ (24 : Int) < (n : Int) := by omega
    have HR := Lib.hid (show Ck.smErr x.p = if !(x.r.any Ck.badRun) && Ck.num x.z then 0 else 2 by unfold Ck.smErr; exact if_neg (by show ¬ 24 < x.r.length; rw [← e1.out]; exact h24))
    have hc : Hid (∀ W, Below w.heap.size w W → Calls Tryz.prog 136 #[.slice x.A n x.c, .func (.func 135) #[] #[]] W fun e w' => e = .returned (.bool (x.r.any Ck.badRun)) ∧ Below W.heap.size W w') := Lib.hid fun W hb => by
      have := ContainsFuncR_any x.A x.c B x.r 135 #[] Ck.badRun W (Lst.below H.out hb hB) (Nat.le_trans hB hb.size) (by rw [← e1.out]; exact hr) (fun _ _ => by kernel_rfl) (fun W' y _ _ => badRun_on W' y)
      rwa [← e1.out] at this
    rcases Bool.eq_false_or_eq_true (x.r.any Ck.badRun) with ha | ha
    · have HA := Lib.hid ha
      clear ha
      have st := St.start w
      go_enter Tryz.func93, Tryz.ntmps93
      go_wp2_with (refine WL.out ?_; (repeat (first | (refine WL.op ?_ ?_; (exact rfl); intro K hK; (first | ((first | ((with_reducible apply ow_move); exact rfl) | ((with_reducible apply ow_assign); exact rfl)); (go_simp <;> (try simp (disch := omega) only [wrap_id, sub_left, zac]) <;> rfl)) | ((((with_reducible apply ow_load1 st); exact rfl; exact inferInstance; exact rfl; (exact get0))); exact rfl) | ((((with_reducible apply ow_box st); exact rfl; (go_simp <;> (try simp (disch := omega) only [wrap_id, sub_left, zac]) <;> rfl); (go_simp <;> (try simp (disch := omega) only [wrap_id, sub_left, zac]) <;> rfl))); (try clear st); intro b w' st) | ((with_reducible apply ow_eval); (go_simp <;> (try simp (disch := omega) only [wrap_id, sub_left, zac]) <;> rfl); first | (with_reducible apply up_value) | ((with_reducible apply up_enter); first | (go_at_call 136; refine (hc.out _ st.below).mono ?_; rw [HA.out]; rintro e w' ⟨rfl, hb⟩; replace st := st.call hb; clear hb; refine ⟨_, rfl, ?_⟩) | (go_at_call 58; refine (unless_any _ _ _).mono ?_; rintro e w' ⟨rfl, rfl⟩; refine ⟨_, rfl, ?_⟩)))); refine WL.next hK (by simp only [Act.put, zpt, zsz, zss]; exact rfl) ?_; clear hK K) | (refine WL.skip ?_ (by simp only [Act.put, zpt, zsz, zss]; exact rfl) ?_; (exact rfl)))); (try refine WL.nil ?_))
      go_ret
      exact ⟨Ck.ret_int (by rw [HR.out, HA.out]; rfl), st.below⟩
    · have HA := Lib.hid ha
      clear ha
      have st := St.start w
      go_enter Tryz.func93, Tryz.ntmps93
      go_wp2_with (refine WL.out ?_; (repeat ((refine WL.op ?_ ?_; (exact rfl); intro K hK; (first | ((first | ((with_reducible apply ow_move); exact rfl) | ((with_reducible apply ow_assign); exact rfl)); (go_simp <;> (try simp (disch := omega) only [wrap_id, sub_left, zac]) <;> rfl)) | ((((with_reducible apply ow_load1 st); exact rfl; exact inferInstance; exact rfl; (exact get0))); exact rfl) | ((((with_reducible apply ow_box st); exact rfl; (go_simp <;> (try simp (disch := omega) only [wrap_id, sub_left, zac]) <;> rfl); (go_simp <;> (try simp (disch := omega) only [wrap_id, sub_left, zac]) <;> rfl))); (try clear st); intro b w' st) | ((with_reducible apply ow_eval); (go_simp <;> (try simp (disch := omega) only [wrap_id, sub_left, zac]) <;> rfl); first | (with_reducible apply up_value) | ((with_reducible apply up_enter); first | (go_at_call 136; refine (hc.out _ st.below).mono ?_; rw [HA.out]; rintro e w' ⟨rfl, hb⟩; replace st := st.call hb; clear hb; refine ⟨_, rfl, ?_⟩) | (go_at_call 58; refine (unless_any _ _ _).mono ?_; rintro e w' ⟨rfl, rfl⟩; refine ⟨_, rfl, ?_⟩) | (go_at_call 89; refine (isNumber_any x.z _).mono ?_; rintro e w' ⟨rfl, rfl⟩; refine ⟨_, rfl, ?_⟩)))); refine WL.next hK (by simp only [Act.put, zpt, zsz, zss]; exact rfl) ?_; clear hK K))); (try refine WL.nil ?_))
      go_ret
      exact ⟨Ck.ret_int (by rw [HR.out, HA.out]; rfl), st.below⟩
end Go.Proofs.YtgcjejajljhnaaaGreatDoor
namespace Go.Hp
open Go.RowKit
section
variable {P : Program} {ops : Array Oper} {o : Oper} {a : Act} {w0 w : World} {rs : List Res} {Q : Exit → Act → World → Prop} {K : Act → World → Prop}
theorem run_char {t : TypeId} {k : IntKind} {l : List UInt8} {j : Nat} (ht : P.underlying t = some .string) (hj : j < l.length) : (Instr.index t (.string ⟨l.toArray⟩) (.int k (j : Int))).run P w = .ok (.int .u8 (Ck.at_ 0 l j).toNat) w := by
  rw [run_index_string w t _ k _ ht, dif_pos ⟨by omega, by show (j : Int) < ((l.toArray.size : Nat) : Int); simp; omega⟩]
  rw [Ck.at_eq 0 l j hj]
  rfl
theorem ow_char {t : TypeId} {x y : Operand} {k : IntKind} {l : List UInt8} {iv : Int} (j : Nat) (ho : o.op = .index t x y) (ht : P.underlying t = some .string) (hx : a.eval x = .string ⟨l.toArray⟩) (hy : a.eval y = .int k iv) (hi : iv = (j : Int)) (hj : j < l.length)
    (h : K (a.put o.dst (.int .u8 (Ck.at_ 0 l j).toNat)) w) : OW P o a w K Q := by
  subst hi
  refine OW.mk (wp_value ?_ h)
  simp [execOp, ho, hx, hy, run_char (P := P) (k := k) ht hj]
theorem Yphi.chr {t : TypeId} {x y : Operand} {k : IntKind} {l : List UInt8} {iv : Int} (j : Nat) (hw : Region.wanted o (yielded ops a.tmps) = true) (ho : o.op = .index t x y) (ht : P.underlying t = some .string) (hx : a.eval x = .string ⟨l.toArray⟩) (hy : a.eval y = .int k iv) (hi : iv = (j : Int)) (hj : j < l.length) :
    Yphi P ops o a w (isV (.int .u8 (Ck.at_ 0 l j).toNat)) := .inl ⟨hw, (ow_char j ho ht hx hy hi hj ⟨_, rfl, Below.refl _ _, rfl⟩).out⟩
theorem ow_bin {b : BinOp} {t ty : TypeId} {x y : Operand} {xs ys : Array Value} {v : Value} (ho : o.op = .binOp b t x y ty) (hm : P.eqGuardType P.depth t = false) (hx : a.eval x = .agg xs) (hy : a.eval y = .agg ys) (hr : ∀ w, (binOp b t (.agg xs) (.agg ys)).run P w = .ok v w) (h : K (a.put o.dst v) w) : OW P o a w K Q := by
  refine OW.mk (wp_value ?_ h)
  simp [execOp, ho, hx, hy, run_eqGuard_agg _ _ _ _ _ _ _ hm, hr]
theorem Yphi.bin {b : BinOp} {t ty : TypeId} {x y : Operand} {xs ys : Array Value} {v : Value} (hw : Region.wanted o (yielded ops a.tmps) = true) (ho : o.op = .binOp b t x y ty) (hm : P.eqGuardType P.depth t = false) (hx : a.eval x = .agg xs) (hy : a.eval y = .agg ys) (hr : ∀ w, (binOp b t (.agg xs) (.agg ys)).run P w = .ok v w) :
    Yphi P ops o a w (isV v) := .inl ⟨hw, (ow_bin ho hm hx hy hr ⟨_, rfl, Below.refl _ _, rfl⟩).out⟩
end
end Go.Hp
