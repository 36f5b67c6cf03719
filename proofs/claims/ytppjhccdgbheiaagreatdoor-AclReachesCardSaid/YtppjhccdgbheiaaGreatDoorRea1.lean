/- Own text, part Rea 1: walks of the package acl and of its reference, and the plain laws that they lean on; no statement of the seat is here. -/
import Derived.Test.YtppjhccdgbheiaaGreatDoorBase1
import Derived.Test.YtppjhccdgbheiaaGreatDoorBase2
import Derived.Test.YtppjhccdgbheiaaGreatDoorBase3
set_option linter.all false
namespace Go.Hp
open Go.RowKit
def OldC (w : World) (b p : Nat) (vs : List Value) : Prop := ∀ j v, vs[j]? = some v → w.cell? ⟨b, p + j, none⟩ = some v
section
variable {P : Program} {ops : Array Oper} {o : Oper} {a : Act} {w0 w : World} {rs : List Res} {Q : Exit → Act → World → Prop} {K : Act → World → Prop}
theorem OldC.below {B b p : Nat} {vs : List Value} {w' : World} (h : OldC w b p vs) (hb : Below B w w') (hB : b < B) : OldC w' b p vs := fun j v hj => (hb.cell (p := ⟨b, p + j, none⟩) hB).trans (h j v hj)
theorem ow_oldC {t n : Nat} {x : Operand} {b p : Nat} {vs : List Value} (st : St w0 w rs) (ho : o.op = .load t x) (hT : AggT P t n) (hx : a.eval x = .pointer (some ⟨b, p, none⟩)) (hb : b < w0.heap.size) (hv : OldC w0 b p vs) (hn : vs.length = n)
    (h : K (a.put o.dst (.agg vs.toArray)) w) : OW P o a w K Q := OW.mk (wp_rowN ho hT hx hn (fun j v hj => (st.old hb).trans (hv j v hj)) h)
theorem Yphi.oldC {t n : Nat} {x : Operand} {b p : Nat} {vs : List Value} (st : St w0 w rs) (ho : o.op = .load t x) (hT : AggT P t n) (hw : Region.wanted o (yielded ops a.tmps) = true) (hx : a.eval x = .pointer (some ⟨b, p, none⟩)) (hb : b < w0.heap.size) (hv : OldC w0 b p vs) (hn : vs.length = n) : Yphi P ops o a w (isV (.agg vs.toArray)) :=
  .inl ⟨hw, wp_rowN ho hT hx hn (fun j v hj => (st.old hb).trans (hv j v hj)) ⟨_, rfl, Below.refl _ _, rfl⟩⟩
end
end Go.Hp
namespace Go.Proofs.YtppjhccdgbheiaaGreatDoor
open Go.RowKit Go.Hp
namespace L
structure Node where
  a : Int
  k : Bool
  d : Desc
structure Place where
  A1 : Option Addr
  n1 : Nat
  c1 : Nat
  A2 : Option Addr
  n2 : Nat
  c2 : Nat
def Desc.cells (d : Desc) (p : Place) : List Value := [.int .i64 d.o, .int .i64 d.g, .bool d.p, .bool d.h, .slice p.A1 p.n1 p.c1, .slice p.A2 p.n2 p.c2]
def nCells (q : Node × Place) : List Value := .int .i64 q.1.a :: .bool q.1.k :: q.1.d.cells q.2
def nCellsOf (vs : List (Node × Place)) : List Value := vs.flatMap nCells
def q0 : Node × Place := (⟨0, false, Desc.none⟩, ⟨none, 0, 0, none, 0, 0⟩)
def nx (vs : List (Node × Place)) (i : Nat) : Node × Place := vs[i]?.getD q0
theorem nCellsOf_length (vs : List (Node × Place)) : (nCellsOf vs).length = vs.length * 8 := by
  induction vs with
  | nil => rfl
  | cons q vs ih =>
    show (nCells q ++ nCellsOf vs).length = _
    rw [List.length_append, ih, List.length_cons]
    have : (nCells q).length = 8 := rfl
    omega
theorem nCellsOf_append (a b : List (Node × Place)) : nCellsOf (a ++ b) = nCellsOf a ++ nCellsOf b := List.flatMap_append ..
theorem nx_eq (vs : List (Node × Place)) (i : Nat) (h : i < vs.length) : nx vs i = vs[i] := by unfold nx; rw [List.getElem?_eq_getElem h]; rfl
theorem nx_mem (vs : List (Node × Place)) (i : Nat) (h : i < vs.length) : nx vs i ∈ vs := by rw [nx_eq vs i h]; exact List.getElem_mem h
theorem take_succ_nx (vs : List (Node × Place)) (i : Nat) (h : i < vs.length) : vs.take (i + 1) = vs.take i ++ [nx vs i] := by rw [nx_eq vs i h, List.take_succ_eq_append_getElem h]
theorem nCellsOf_get (vs : List (Node × Place)) (i : Nat) (h : i < vs.length) (j : Nat) (hj : j < 8) : (nCellsOf vs)[i * 8 + j]? = (nCells (nx vs i))[j]? := by
  induction vs generalizing i with
  | nil => simp at h
  | cons q vs ih =>
    show (nCells q ++ nCellsOf vs)[i * 8 + j]? = _
    have hl : (nCells q).length = 8 := rfl
    cases i with
    | zero =>
      rw [List.getElem?_append_left (by omega)]
      rw [Nat.zero_mul, Nat.zero_add]
      rfl
    | succ i =>
      rw [List.getElem?_append_right (by omega), hl, show (i + 1) * 8 + j - 8 = i * 8 + j by omega, ih i (by simpa using h)]
      rfl
def few (q : Node × Place) : Bool := decide (q.2.n1 ≤ 20) && decide (q.2.n2 ≤ 20)
end L
structure Nodes (w : World) (B : Nat) (A : Option Addr) (n : Nat) (vs : List (L.Node × L.Place)) : Prop where
  rd : Rd w B 8 A n (L.nCellsOf vs)
  rows : ∀ q ∈ vs, Aces w B q.2.A1 q.2.n1 q.1.d.e ∧ Aces w B q.2.A2 q.2.n2 q.1.d.a
section
variable {w w' w0 : World} {B B' n : Nat} {A : Option Addr} {vs : List (L.Node × L.Place)} {rs : List Res}
theorem Nodes.len (h : Nodes w B A n vs) : n = vs.length := by have := h.rd.1; rw [L.nCellsOf_length] at this; omega
theorem Nodes.below (h : Nodes w B A n vs) (hb : Below B' w w') (hB : B ≤ B') : Nodes w' B A n vs := ⟨h.rd.below hb hB, fun q hq => ⟨(h.rows q hq).1.below hb hB, (h.rows q hq).2.below hb hB⟩⟩
theorem Nodes.more (h : Nodes w B A n vs) (hB : B ≤ B') : Nodes w B' A n vs := ⟨h.rd.more hB, fun q hq => ⟨(h.rows q hq).1.more hB, (h.rows q hq).2.more hB⟩⟩
theorem Nodes.st (h : Nodes w0 B A n vs) (st : St w0 w rs) (hB : B ≤ w0.heap.size) : Nodes w B A n vs := h.below st.below hB
theorem Nodes.at_ (h : Nodes w B A n vs) (hn : 0 < n) : ∃ b o, A = some ⟨b, o, none⟩ ∧ b < B ∧ ∀ k, k < n →
    w.cell? ⟨b, o + k * 8, none⟩ = some (.int .i64 (L.nx vs k).1.a) ∧ w.cell? ⟨b, o + k * 8 + 1, none⟩ = some (.bool (L.nx vs k).1.k) ∧ OldC w b (o + k * 8 + 2) ((L.nx vs k).1.d.cells (L.nx vs k).2) ∧ OldC w b (o + k * 8) (L.nCells (L.nx vs k)) := by
  obtain ⟨b, o, hA, hb, hc⟩ := h.rd.2 hn
  have hl := h.len
  refine ⟨b, o, hA, hb, fun k hk => ?_⟩
  have hg : ∀ j, j < 8 → ∀ u, (L.nCells (L.nx vs k))[j]? = some u → w.cell? ⟨b, o + k * 8 + j, none⟩ = some u := fun j hj u hu => by
    rw [Nat.add_assoc]
    exact hc _ u (by rw [L.nCellsOf_get vs k (by omega) j hj]; exact hu)
  refine ⟨hg 0 (by omega) _ rfl, hg 1 (by omega) _ rfl, fun j v hj => ?_, fun j v hj => ?_⟩
  · have hj6 : j < 6 := (List.getElem?_eq_some_iff.1 hj).1
    rw [Nat.add_assoc (o + k * 8) 2 j, Nat.add_comm 2 j]
    exact hg (j + 2) (by omega) v hj
  · exact hg j (List.getElem?_eq_some_iff.1 hj).1 v hj
end
set_option maxHeartbeats 2000000 in
theorem fewNodes_any (A : Option Addr) (n c B : Nat) (vs : List (L.Node × L.Place)) (w : World) (h1 : Nodes w B A n vs) (hB1 : B ≤ w.heap.size) (hm : ∀ q ∈ vs, q.2.n1 ≤ maxLen ∧ q.2.n2 ≤ maxLen) :
    Calls Tryz.prog 7 #[.slice A n c] w fun e w' => e = .returned (.bool (decide (n ≤ 32) && vs.all L.few)) ∧ Below w.heap.size w w' := by
  have e1 := Lib.hid h1.len
  have HM := Lib.hid hm
  clear hm
  by_cases h32 : n ≤ 32
  · have st := St.start w
    go_enter Tryz.func7, Tryz.ntmps7
    go_wp2_with (refine WL.out ?_; (repeat ((refine WL.op ?_ ?_; (exact rfl); intro K hK; (((with_reducible apply ow_eval); (go_simp <;> (try simp (disch := omega) only [wrap_id, sub_left, zac]) <;> rfl); ((with_reducible apply up_value)))); refine WL.next hK (by simp only [Act.put, zpt, zsz, zss]; exact rfl) ?_; clear hK K))); (try refine WL.nil ?_))
    clear st
    go_loopw [3] (fun i wr => ∃ k : Nat, k ≤ n ∧ i = .int .i64 k ∧ (vs.take k).all L.few = true ∧ St w wr []) (fun i _ => n - (intOf i).toNat)
    case atStart => exact ⟨0, Nat.zero_le _, rfl, rfl, St.start w⟩
    case round =>
      obtain ⟨k, hk, rfl, ha, st⟩ := hrel
      by_cases hlt : k < n
      · have hkl : k < vs.length := by rw [← e1.out]; exact hlt
        have hst := Lib.hid (L.take_succ_nx vs k hkl)
        have hq := HM.out _ (L.nx_mem vs k hkl)
        obtain ⟨b, o, rfl, hb, hc⟩ := h1.at_ (by omega)
        have hb := Nat.lt_of_lt_of_le hb hB1
        obtain ⟨f0, f1, f2, f3⟩ := hc k hlt
        clear hc h1 f3
        have HQ := Lib.hid hq
        have HA := Lib.hid ha
        clear hq ha
        obtain ⟨f, hf⟩ : ∃ f, f = L.few (L.nx vs k) := ⟨_, rfl⟩
        have HF := Lib.hid hf
        clear hf
        go_wp2_with (refine WL.out ?_; (repeat ((refine WL.op ?_ ?_; (exact rfl); intro K hK; (first | ((((with_reducible apply ow_assign); exact rfl)); (go_simp <;> (try simp (disch := omega) only [wrap_id, sub_left, zac]) <;> rfl)) | ((with_reducible apply ow_oldC st); exact rfl; exact inferInstance; exact rfl; assumption; assumption; exact rfl) | ((with_reducible apply ow_eval); (go_simp <;> (try simp (disch := omega) only [wrap_id, sub_left, zac]) <;> rfl); first | (with_reducible apply up_value) | ((with_reducible apply up_enter); ((go_at_call 11; refine (Few_any (L.nx vs k).1.d (L.nx vs k).2.A1 (L.nx vs k).2.A2 (L.nx vs k).2.n1 (L.nx vs k).2.n2 (L.nx vs k).2.c1 (L.nx vs k).2.c2 _ HQ.out.1 HQ.out.2).mono ?_; rw [show (decide ((L.nx vs k).2.n1 ≤ 20) && decide ((L.nx vs k).2.n2 ≤ 20)) = f from HF.out.symm]; rintro e w' ⟨rfl, hb⟩; replace st := st.call hb; clear hb; refine ⟨_, rfl, ?_⟩))))); refine WL.next hK (by simp only [Act.put, zpt, zsz, zss]; exact rfl) ?_; clear hK K))); (try refine WL.nil ?_))
        · go_ret
          refine ⟨ret_bool ?_, st.below⟩
          have hf0 : L.few (L.nx vs k) = false := by rw [← HF.out]; simp_all
          have : vs.all L.few = false := by
            rw [Bool.eq_false_iff]
            intro h
            rw [List.all_eq_true.1 h _ (L.nx_mem vs k hkl)] at hf0
            cases hf0
          rw [this, Bool.and_false]
        · have hf1 : L.few (L.nx vs k) = true := by rw [← HF.out]; simp_all
          have hwr : IntKind.i64.wrap ((k : Int) + 1) = (k : Int) + 1 := by rw [IntKind.wrap_i64]; omega
          exact ⟨⟨k + 1, by omega, by (try rw [hwr]); go_num, by rw [hst.out, List.all_append, HA.out]; simp [hf1], st⟩, by (try simp only [hwr]); simp [intOf]; omega⟩
      · have hs' : vs.take k = vs := List.take_of_length_le (by rw [← e1.out]; omega)
        rw [hs'] at ha
        have HA := Lib.hid ha
        clear ha h1
        go_wp2
        go_ret
        exact ⟨ret_bool (by rw [HA.out]; simp [h32]), st.below⟩
  · have st := St.start w
    go_enter Tryz.func7, Tryz.ntmps7
    go_wp2_with (refine WL.out ?_; (repeat ((refine WL.op ?_ ?_; (exact rfl); intro K hK; (((with_reducible apply ow_eval); (go_simp <;> (try simp (disch := omega) only [wrap_id, sub_left, zac]) <;> rfl); ((with_reducible apply up_value)))); refine WL.next hK (by simp only [Act.put, zpt, zsz, zss]; exact rfl) ?_; clear hK K))); (try refine WL.nil ?_))
    go_ret
    exact ⟨ret_bool (by simp [h32]), st.below⟩
end Go.Proofs.YtppjhccdgbheiaaGreatDoor
namespace Go.Hp
open Go.RowKit
section
variable {P : Program} {Q : Exit → Act → World → Prop} {a : Act} {w : World} {l : List Oper} {n s : Nat} {Φ : List Phi}
theorem wpAny_head (hB : phiB l n = true) (I : Array Bool → Act → World → Prop) (hinv : ∀ L a w, I L a w → HeadInv .any l.toArray n L)
    (step : ∀ L a w i o, I L a w → i < n → L.getD i false = false → l[i]? = some o → (∀ e ∈ o.after, Region.binds .any e = true → L.getD e.on false = true) →
      (Region.wanted o (yielded l.toArray a.tmps) = true ∧ o.wp P a w (fun a' w' => I (L.setIfInBounds i true) a' w') (fun _ _ _ => False)) ∨ (Region.wanted o (yielded l.toArray a.tmps) = false ∧ I (L.setIfInBounds i true) (a.put o.dst undef) w))
    (fin : ∀ L a w, I L a w → (∀ k, k < n → L.getD k false = true) → wpList P l.toArray Q (l.drop n) a w) :
    ∀ (f : Nat) (listed : Array Bool) (a' : Act) (w1 : World), I listed a' w1 → ((List.range n).filter fun k => !listed.getD k false).length = f → wpAny P .any l.toArray Q (f + (l.length - n)) listed a' w1 := by
  simp only [phiB, Bool.and_eq_true, decide_eq_true_eq, Bool.or_eq_true] at hB
  obtain ⟨⟨⟨⟨hdist, hn⟩, hback⟩, htail⟩, hseq⟩ := hB
  have htl : (l.take n).length = n := by simp; omega
  intro f
  induction f with
  | zero =>
    intro listed a' w1 hI hf
    have hall : ∀ k, k < n → listed.getD k false = true := by
      intro k hk
      cases hl : listed.getD k false with
      | true => rfl
      | false =>
        have : k ∈ (List.range n).filter fun k => !listed.getD k false := List.mem_filter.2 ⟨List.mem_range.2 hk, by simp [hl]⟩
        rw [List.length_eq_zero_iff.1 hf] at this
        cases this
    have hls : listed = headListed n l.length := by
      have hsz := (hinv _ _ _ hI).size
      simp only [List.size_toArray] at hsz
      apply Array.ext
      · simp [headListed, hsz]
      · intro k h1 h2
        have hk : k < l.length := by omega
        simp only [headListed, List.getElem_toArray, List.getElem_map, List.getElem_range]
        by_cases hkn : k < n
        · have := hall k hkn
          simp [h1] at this
          simp [this, hkn]
        · have := (hinv _ _ _ hI).tail k (by omega) (by simpa using hk)
          simp [h1] at this
          simp [this, hkn]
    rw [Nat.zero_add, hls]
    have hdl : (l.drop n).length = l.length - n := by simp
    rw [← hdl]
    exact wpAny_of_seq (l.drop n) n _ _ _ (fun j => by simp [List.getElem?_drop]) (by rw [hdl]; exact hseq) (fin _ _ _ hI hall)
  | succ f ih =>
    intro listed a' w1 hI hf
    have hex : ∃ k, k < n ∧ listed.getD k false = false := by
      cases hfl : (List.range n).filter fun k => !listed.getD k false with
      | nil => rw [hfl] at hf; simp at hf
      | cons k r =>
        have hm : k ∈ (List.range n).filter fun k => !listed.getD k false := by rw [hfl]; exact List.mem_cons_self ..
        obtain ⟨hk1, hk2⟩ := List.mem_filter.1 hm
        exact ⟨k, List.mem_range.1 hk1, by simpa using hk2⟩
    have hsz : listed.size = l.length := by have := (hinv _ _ _ hI).size; simpa using this
    have hready : Region.ready .any l.toArray listed ≠ [] := by
      obtain ⟨k, hk⟩ := hex
      induction k using Nat.strongRecOn with
      | _ k ihk =>
        obtain ⟨hkn, hkl⟩ := hk
        by_cases hsm : ∃ j, j < k ∧ listed.getD j false = false
        · obtain ⟨j, hj, hjl⟩ := hsm
          exact ihk j hj ⟨by omega, hjl⟩
        · intro h0
          have hmem : k ∈ Region.ready .any l.toArray listed := by
            have hklt : k < l.length := by omega
            refine mem_ready.2 ⟨getD_in (by omega) hkl, l[k], by simp [hklt], fun e he hb => ?_⟩
            have := List.all_eq_true.1 hback k (List.mem_range.2 hkn)
            simp only [List.getElem?_toArray, List.getElem?_eq_getElem hklt] at this
            have := Array.all_eq_true_iff_forall_mem.1 this e he
            simp only [hb, Bool.not_true, Bool.false_or, decide_eq_true_eq] at this
            cases hle : listed.getD e.on false with
            | true => rfl
            | false => exact absurd ⟨e.on, this, hle⟩ hsm
          rw [h0] at hmem
          cases hmem
    rw [show f + 1 + (l.length - n) = (f + (l.length - n)) + 1 by omega]
    refine ⟨fun h0 => absurd h0 hready, fun i hi => ?_⟩
    have hin : i < n := by
      rcases Nat.lt_or_ge i n with h | h
      · exact h
      · exfalso
        rcases htail with ht | ht
        · obtain ⟨_, o, ho, _⟩ := mem_ready.1 hi
          have := (Array.getElem?_eq_some_iff.1 ho).1
          simp at this
          omega
        · obtain ⟨k, hkn, hkl⟩ := hex
          obtain ⟨_, o, ho, _⟩ := mem_ready.1 hi
          have := (Array.getElem?_eq_some_iff.1 ho).1
          simp at this
          exact tail_waits ht.1 ht.2 (by simp; omega) (hinv _ _ _ hI) _ k rfl hkn (getD_in (by omega) hkl) i h hi
    obtain ⟨hun, o, ho, hdeps⟩ := mem_ready.1 hi
    have ho' : l[i]? = some o := by simpa using ho
    have hcount : ((List.range n).filter fun k => !(listed.setIfInBounds i true).getD k false).length = f := by
      have hlt : i < listed.size := by omega
      have e1 : ((List.range n).filter fun k => !listed.getD k false) = (List.range n).filter (fun k => decide (k = i) || !(listed.setIfInBounds i true).getD k false) := by
        apply List.filter_congr
        intro k _
        by_cases hki : k = i
        · subst hki; simp [getD_both hun]
        · rw [getD_set_ne false (Ne.symm hki)]; simp [hki]
      rw [e1] at hf
      have hnd : (List.range n).Nodup := List.nodup_range
      have e2 : ∀ (m : List Nat), m.Nodup → i ∈ m → (m.filter (fun k => decide (k = i) || !(listed.setIfInBounds i true).getD k false)).length = (m.filter fun k => !(listed.setIfInBounds i true).getD k false).length + 1 := by
        intro m
        induction m with
        | nil => intro _ h; cases h
        | cons x m ihm =>
          intro hnd hm
          obtain ⟨hx, hnd⟩ := List.nodup_cons.1 hnd
          by_cases hxi : x = i
          · subst hxi
            have : (m.filter (fun k => decide (k = x) || !(listed.setIfInBounds x true).getD k false)) = m.filter fun k => !(listed.setIfInBounds x true).getD k false := by
              apply List.filter_congr
              intro k hk
              have : k ≠ x := fun h => hx (h ▸ hk)
              simp [this]
            rw [List.filter_cons, List.filter_cons, this]
            have h3 : (listed.setIfInBounds x true).getD x false = true := by simp [hlt]
            simp [h3]
          · have hm' : i ∈ m := by
              rcases List.mem_cons.1 hm with h | h
              · exact absurd h.symm hxi
              · exact h
            have := ihm hnd hm'
            rw [List.filter_cons, List.filter_cons]
            simp only [hxi, decide_false, Bool.false_or]
            split
            · simp only [List.length_cons]; omega
            · exact this
      have := e2 _ hnd (List.mem_range.2 hin)
      omega
    unfold wpOp
    simp only [ho]
    rcases step _ _ _ i o hI hin (getD_both hun) ho' hdeps with ⟨hw, hy⟩ | ⟨hw, hy⟩
    · rw [if_pos hw]
      exact .inl (wp_strong (fun a2 w2 h2 => ih _ _ _ h2 hcount) hy)
    · rw [hw]
      simp only [Bool.false_eq_true, if_false]
      exact ih _ _ _ hy hcount
theorem start_inv : HeadInv .any l.toArray n (Array.replicate l.length false) :=
  ⟨by simp, fun j oj _ hl => (by rw [getD_replicate_false] at hl; cases hl), fun t _ ht => getD_in (by simpa using ht) (getD_replicate_false _ _)⟩
theorem wp_region_head {id : Nat} (hm : P.follows .mixedOrders = true) (hB : phiB l n = true) (I : Array Bool → Act → World → Prop) (hinv : ∀ L a w, I L a w → HeadInv .any l.toArray n L)
    (step : ∀ L a w i o, I L a w → i < n → L.getD i false = false → l[i]? = some o → (∀ e ∈ o.after, Region.binds .any e = true → L.getD e.on false = true) →
      (Region.wanted o (yielded l.toArray a.tmps) = true ∧ o.wp P a w (fun a' w' => I (L.setIfInBounds i true) a' w') (fun _ _ _ => False)) ∨ (Region.wanted o (yielded l.toArray a.tmps) = false ∧ I (L.setIfInBounds i true) (a.put o.dst undef) w))
    (fin : ∀ L a w, I L a w → (∀ k, k < n → L.getD k false = true) → wpList P l.toArray Q (l.drop n) a w) (h0 : I (Array.replicate l.length false) a w.drew) : (Code.region id l.toArray true).wp P Q a w := by
  have hB' := hB
  simp only [phiB, Bool.and_eq_true, decide_eq_true_eq, Bool.or_eq_true] at hB'
  obtain ⟨⟨⟨⟨_, hn⟩, hback⟩, _⟩, _⟩ := hB'
  refine wp_region_any hm ?_
  have main := wpAny_head hB I hinv step fin n (Array.replicate l.length false) a w.drew h0
    (by
      have : ((List.range n).filter fun k => !(Array.replicate l.length false).getD k false) = List.range n := List.filter_eq_self.2 (fun k _ => by rw [getD_replicate_false]; rfl)
      rw [this]; simp)
  have hsz : l.toArray.size = n + (l.length - n) := by simp; omega
  rw [hsz, show n + (l.length - n) = l.length by omega]
  rw [show n + (l.length - n) = l.length by omega] at main
  exact main
end
end Go.Hp
namespace Go.Hp
open Go.RowKit
inductive MixK where
  | val (x : Value)
  | fact (φ : Phi)
  | free (x : Value)
  | store
def MixK.phi : MixK → Phi
  | .val x => isV x
  | .fact φ => φ
  | .free x => isV x
  | .store => fun _ _ _ _ => True
def MixK.isFree : MixK → Bool
  | .free _ => true
  | _ => false
def MixK.isStore : MixK → Bool
  | .store => true
  | _ => false
def fixF : List MixK → List Value → List Value
  | .free x :: Φ, _ :: xs => x :: fixF Φ xs
  | .val _ :: Φ, y :: xs => y :: fixF Φ xs
  | .fact _ :: Φ, y :: xs => y :: fixF Φ xs
  | .store :: Φ, y :: xs => y :: fixF Φ xs
  | [], xs => xs
  | _ :: _, [] => []
theorem fixF_eq : ∀ (Φ : List MixK) (xs ys : List Value), ys.length = xs.length → xs.length = Φ.length → (∀ (k : Nat) (x : Value), Φ[k]? = some (.free x) → ys.getD k undef = x) →
    (∀ (k : Nat) (φ : MixK), Φ[k]? = some φ → φ.isFree = false → ys.getD k undef = xs.getD k undef) → fixF Φ xs = ys
  | [], [], [], _, _, _, _ => rfl
  | [], x :: xs, _, _, h, _, _ => by simp at h
  | φ :: Φ, [], _, _, h, _, _ => by simp at h
  | φ :: Φ, x :: xs, [], h, _, _, _ => by simp at h
  | φ :: Φ, x :: xs, y :: ys, h1, h2, hf, hn => by
    have ih := fixF_eq Φ xs ys (by simpa using h1) (by simpa using h2) (fun k x hk => by have := hf (k + 1) x (by simpa using hk); simpa using this) (fun k φ hk hfr => by have := hn (k + 1) φ (by simpa using hk) hfr; simpa using this)
    cases φ with
    | free z =>
      have := hf 0 z rfl
      simp only [List.getD_cons_zero] at this
      subst this
      simp only [fixF, ih]
    | val z =>
      have := hn 0 _ rfl rfl
      simp only [List.getD_cons_zero] at this
      subst this
      simp only [fixF, ih]
    | fact z =>
      have := hn 0 _ rfl rfl
      simp only [List.getD_cons_zero] at this
      subst this
      simp only [fixF, ih]
    | store =>
      have := hn 0 _ rfl rfl
      simp only [List.getD_cons_zero] at this
      subst this
      simp only [fixF, ih]
section
variable {P : Program} {Q : Exit → Act → World → Prop} {a : Act} {w : World} {l : List Oper} {n s : Nat} {Φ : List MixK}
def MixDeps (l : List Oper) (n : Nat) (Φ : List MixK) (B i : Nat) (xs : List Value) (w1 : World) : Prop :=
  ∀ k φ, k < n → Region.waitsFor .any l.toArray i k = true → Φ[k]? = some φ → ∃ lo hi, B ≤ lo ∧ hi ≤ w1.heap.size ∧ φ.phi lo hi (xs.getD k undef) w1
structure MixPre (l : List Oper) (n s : Nat) (Φ : List MixK) (a : Act) (w : World) (L : Array Bool) (a' : Act) (w1 : World) : Prop where
  phi : PhiInv l n (Φ.map MixK.phi) a w L a' w1
  not : L.getD s false = false
def SameBelow (n₀ : Nat) (w w2 : World) : Prop := ∀ b o, b < n₀ → w2.cell? ⟨b, o, none⟩ = w.cell? ⟨b, o, none⟩
theorem SameBelow.of_below {n₀ B : Nat} {w w2 : World} (h : Below B w w2) (hn : n₀ ≤ B) : SameBelow n₀ w w2 := fun b o hb => h.cell (p := ⟨b, o, none⟩) (show b < B by omega)
theorem SameBelow.of_st {w0 w w2 : World} {rs rs' : List Res} (st : St w0 w rs) (st' : St w0 w2 rs') : SameBelow w0.heap.size w w2 := fun b o hb => (st'.old hb).trans (st.old hb).symm
structure MixPost (n₀ : Nat) (P : Program) (Q : Exit → Act → World → Prop) (l : List Oper) (n s : Nat) (Φ : List MixK) (a : Act) (w : World) (L : Array Bool) (a' : Act) (w2 : World) : Prop where
  inv : HeadInv .any l.toArray n L
  low : SameBelow n₀ w w2
  is : L.getD s false = true
  all : ∀ k φ, k < n → Φ[k]? = some φ → φ.isFree = false → L.getD k false = true
  ex : ∃ (xs : List Value) (w1 : World), xs.length = n ∧ a' = fillA (l.take n) xs a ∧ Below w.heap.size w w1 ∧
    (∀ (k : Nat) (φ : MixK), Φ[k]? = some φ → φ.isFree = false → ∃ lo hi, w.heap.size ≤ lo ∧ hi ≤ w1.heap.size ∧ φ.phi lo hi (xs.getD k undef) w1) ∧
    (∀ (k : Nat) (x : Value), Φ[k]? = some (.free x) → L.getD k false = true → xs.getD k undef = x) ∧
    (∀ ys : List Value, ys.length = n → (∀ (k : Nat) (x : Value), Φ[k]? = some (.free x) → ys.getD k undef = x) → (∀ (k : Nat) (φ : MixK), Φ[k]? = some φ → φ.isFree = false → ys.getD k undef = xs.getD k undef) →
      wpList P l.toArray Q (l.drop n) (fillA (l.take n) ys a) w2)
theorem wp_region_mix0 {id n₀ : Nat} (hn₀ : n₀ ≤ w.drew.heap.size) (hm : P.follows .mixedOrders = true) (hB : phiB l n = true) (hΦ : Φ.length = n) (hs : s < n) (hst : Φ[s]? = some .store) (one : ∀ k, Φ[k]? = some .store → k = s) (stable : ∀ φ ∈ Φ, φ.phi.stable)
    (waits : ∀ (k : Nat) (φ : MixK), k < n → k ≠ s → Φ[k]? = some φ → φ.isFree = false → ∃ j, k < j ∧ j ≤ s ∧ Region.waitsFor .any l.toArray j k = true ∧ (j = s ∨ ∃ φj, Φ[j]? = some φj ∧ φj.isFree = false))
    (step : ∀ i o φ, i < n → i ≠ s → l[i]? = some o → Φ[i]? = some φ → φ.isFree = false → ∀ xs : List Value, xs.length = n → ∀ w1, Below w.drew.heap.size w.drew w1 → MixDeps l n Φ w.drew.heap.size i xs w1 → Yphi P l.toArray o (fillA (l.take n) xs a) w1 φ.phi)
    (free : ∀ i o x, i < n → l[i]? = some o → Φ[i]? = some (.free x) → ∀ xs : List Value, xs.length = n → ∀ w1, Below w.drew.heap.size w.drew w1 → MixDeps l n Φ w.drew.heap.size i xs w1 → ∀ w2, SameBelow n₀ w.drew w2 → YX P l.toArray o (fillA (l.take n) xs a) w2 x)
    (store : ∀ o, l[s]? = some o → ∀ (xs : List Value) (lo hi : Nat → Nat) w1, xs.length = n → Below w.drew.heap.size w.drew w1 →
      (∀ (k : Nat) (φ : MixK), Φ[k]? = some φ → φ.isFree = false → φ.isStore = false → w.drew.heap.size ≤ lo k ∧ hi k ≤ w1.heap.size ∧ φ.phi (lo k) (hi k) (xs.getD k undef) w1) →
      (∀ j k, j < n → k < n → j ≠ k → hi j ≤ lo k ∨ hi k ≤ lo j) →
      Region.wanted o (yielded l.toArray (fillA (l.take n) xs a).tmps) = true ∧ o.wp P (fillA (l.take n) xs a) w1 (fun a' w2 => ∃ v, a' = (fillA (l.take n) xs a).put o.dst v ∧ SameBelow n₀ w.drew w2 ∧ wpList P l.toArray Q (l.drop n) (fillA (l.take n) (fixF Φ (xs.set s v)) a) w2) (fun _ _ _ => False)) :
    (Code.region id l.toArray true).wp P Q a w := by
  have hB' := hB
  simp only [phiB, Bool.and_eq_true, decide_eq_true_eq, Bool.or_eq_true] at hB'
  obtain ⟨⟨⟨⟨hdist, hn⟩, hback⟩, _⟩, _⟩ := hB'
  have htl : (l.take n).length = n := by simp; omega
  have getD_step : ∀ (xs : List Value) (i k : Nat) (v : Value), xs.length = n → i < n → (xs.set i v).getD k undef = if k = i then v else xs.getD k undef := by
    intro xs i k v hl hi
    split
    · rename_i h; subst h; simp [List.getD, hl, hi]
    · rename_i h; simp [List.getD, List.getElem?_set_ne (Ne.symm h)]
  refine wp_region_head hm hB (fun L a1 w1 => MixPre l n s Φ a w.drew L a1 w1 ∨ MixPost n₀ P Q l n s Φ a w.drew L a1 w1) (fun L a1 w1 h => ?_) (fun L a1 w1 i o hI hin hun ho hdeps => ?_) (fun L a1 w1 hI hall => ?_) (.inl ⟨⟨start_inv, Below.refl _ _,
      ⟨(l.take n).map (fun o => match o.dst with | some d => a.tmps.getD d undef | none => undef), fun _ => 0, fun _ => 0, by simp; omega, (fillA_self _ a).symm, fun k φ _ hl => (by rw [getD_replicate_false] at hl; cases hl), fun j k _ hj _ => (by rw [getD_replicate_false] at hj; cases hj)⟩⟩, getD_replicate_false _ _⟩)
  · rcases h with h | h
    · exact h.phi.inv
    · exact h.inv
  · have hsz : L.size = l.length := by rcases hI with h | h; simpa using h.phi.inv.size; simpa using h.inv.size
    have hlt : i < L.size := by omega
    have hrdy : i ∈ Region.ready .any l.toArray L := mem_ready.2 ⟨getD_in hlt hun, o, by simpa using ho, hdeps⟩
    have hφ : ∃ φ, Φ[i]? = some φ := ⟨Φ[i]'(by omega), List.getElem?_eq_getElem (by omega)⟩
    obtain ⟨φ, hφ⟩ := hφ
    have hdep : ∀ k, Region.waitsFor .any l.toArray i k = true → L.getD k false = true := fun k hwt => by
      obtain ⟨o2, ho2, e, he, hb, hon⟩ := Region.waitsFor_spec hwt
      have : o2 = o := Option.some.inj (ho2.symm.trans (by simpa using ho))
      subst this
      have := hdeps e he hb
      rwa [hon] at this
    have htrue : (L.setIfInBounds i true).getD i false = true := by simp [hlt]
    rcases hI with hI | hI
    · obtain ⟨xs, lo, hi, hlen, rfl, h1, h2⟩ := hI.phi.ex
      have hb0 := hI.phi.below.size
      have hfact : ∀ (k : Nat) (φk : MixK), Φ[k]? = some φk → L.getD k false = true → w.drew.heap.size ≤ lo k ∧ hi k ≤ w1.heap.size ∧ φk.phi (lo k) (hi k) (xs.getD k undef) w1 := fun k φk hk hl =>
        h1 k φk.phi (by rw [List.getElem?_map, hk]; rfl) hl
      have hD : MixDeps l n Φ w.drew.heap.size i xs w1 := fun k φk hk hwt hφk => ⟨lo k, hi k, hfact k φk hφk (hdep k hwt)⟩
      by_cases his : i = s
      · subst his
        have hnf0 : ∀ (m k : Nat) (φk : MixK), i - k ≤ m → k < n → k ≠ i → Φ[k]? = some φk → φk.isFree = false → L.getD k false = true := by
          intro m
          induction m with
          | zero =>
            intro k φk hm hk hne hφk hf
            obtain ⟨j, h1, h2, _⟩ := waits k φk hk hne hφk hf
            omega
          | succ m ihm =>
            intro k φk hm hk hne hφk hf
            obtain ⟨j, h1, h2, h3, h4⟩ := waits k φk hk hne hφk hf
            by_cases hji : j = i
            · subst hji; exact hdep k h3
            · obtain ⟨φj, hφj, hfj⟩ := h4.resolve_left hji
              have hjl := ihm j φj (by omega) (by omega) hji hφj hfj
              obtain ⟨o2, ho2, e, he, hb, hon⟩ := Region.waitsFor_spec h3
              have := hI.phi.inv.closed j o2 ho2 hjl e he hb
              rwa [hon] at this
        have hnf : ∀ (k : Nat) (φk : MixK), k < n → k ≠ i → Φ[k]? = some φk → φk.isFree = false → L.getD k false = true := fun k φk => hnf0 (i - k) k φk (Nat.le_refl _)
        have hlo : ∀ (k : Nat) (φk : MixK), Φ[k]? = some φk → φk.isFree = false → φk.isStore = false → k ≠ i ∧ L.getD k false = true := fun k φk hk hf hst' => by
          have hne : k ≠ i := fun e => by
            subst e
            have : φk = .store := Option.some.inj (hk.symm.trans hst)
            subst this
            cases hst'
          exact ⟨hne, hnf k φk (by rw [← hΦ]; exact (List.getElem?_eq_some_iff.1 hk).1) hne hk hf⟩
        obtain ⟨hw, hy⟩ := store o ho xs (fun k => if L.getD k false then lo k else w1.heap.size) (fun k => if L.getD k false then hi k else 0) w1 hlen hI.phi.below
          (fun k φk hk hf hst' => by
            obtain ⟨_, hl⟩ := hlo k φk hk hf hst'
            simp only [hl, if_true]
            exact hfact k φk hk hl)
          (fun j k hj hk hjk => by
            cases hlj : L.getD j false with
            | false => left; simp
            | true =>
              cases hlk : L.getD k false with
              | false => right; simp
              | true => simpa using h2 j k hjk hlj hlk)
        refine .inl ⟨hw, wp_strong (fun a2 w2 ⟨v, e, hlow, h3⟩ => .inr ?_) hy⟩
        subst e
        refine ⟨hI.phi.inv.set hrdy hin, hlow, htrue, fun k φk hk hφk hf => ?_, xs.set i v, w1, by simpa using hlen, fillA_put (l.take n) xs a i o v hdist (by rw [List.getElem?_take, if_pos hin]; exact ho) (by rw [hlen, htl]), hI.phi.below, fun k φk hφk hf => ?_, fun k x hφk hl => ?_, fun ys hy1 hy2 hy3 => ?_⟩
        · by_cases hki : k = i
          · subst hki; exact htrue
          · rw [getD_set_ne false (Ne.symm hki)]
            exact hnf k φk hk hki hφk hf
        · by_cases hki : k = i
          · subst hki
            have : φk = .store := Option.some.inj (hφk.symm.trans hst)
            subst this
            exact ⟨_, 0, Nat.le_refl _, Nat.zero_le _, True.intro⟩
          · rw [getD_step xs i k v hlen hin, if_neg hki]
            exact ⟨lo k, hi k, hfact k φk hφk (hnf k φk (by rw [← hΦ]; exact (List.getElem?_eq_some_iff.1 hφk).1) hki hφk hf)⟩
        · by_cases hki : k = i
          · subst hki
            rw [hst] at hφk
            cases hφk
          · rw [getD_set_ne false (Ne.symm hki)] at hl
            rw [getD_step xs i k v hlen hin, if_neg hki]
            exact (hfact k _ hφk hl).2.2
        · rw [← fixF_eq Φ (xs.set i v) ys (by rw [hy1, List.length_set, hlen]) (by rw [List.length_set, hlen, hΦ]) hy2 hy3]
          exact h3
      · have hnext : ∀ v w2, Below w1.heap.size w1 w2 → φ.phi w1.heap.size w2.heap.size v w2 → MixPre l n s Φ a w.drew (L.setIfInBounds i true) ((fillA (l.take n) xs a).put o.dst v) w2 := by
          intro v w2 hb hv
          refine ⟨⟨hI.phi.inv.set hrdy hin, hI.phi.below.trans (hb.mono hb0), xs.set i v, fun k => if k = i then w1.heap.size else lo k, fun k => if k = i then w2.heap.size else hi k, by simpa using hlen, ?_, ?_, ?_⟩, ?_⟩
          · exact fillA_put (l.take n) xs a i o v hdist (by rw [List.getElem?_take, if_pos hin]; exact ho) (by rw [hlen, htl])
          · intro k ψ hk hlk
            rw [List.getElem?_map] at hk
            obtain ⟨φk, hφk, rfl⟩ := Option.map_eq_some_iff.1 hk
            rw [getD_step xs i k v hlen hin]
            by_cases hki : k = i
            · subst hki
              have : φk = φ := Option.some.inj (hφk.symm.trans hφ)
              subst this
              simp only [if_true]
              exact ⟨hb0, Nat.le_refl _, hv⟩
            · rw [getD_set_ne false (Ne.symm hki)] at hlk
              obtain ⟨b1, b2, b3⟩ := hfact k φk hφk hlk
              simp only [hki, if_false]
              exact ⟨b1, Nat.le_trans b2 hb.size, stable φk (List.mem_of_getElem? hφk) _ _ _ _ _ hb b2 b3⟩
          · intro j k hjk hj hk
            have hle : ∀ m, m ≠ i → (L.setIfInBounds i true).getD m false = true → hi m ≤ w1.heap.size := fun m hm hml => by
              rw [getD_set_ne false (Ne.symm hm)] at hml
              rcases Nat.lt_or_ge m n with hmn | hmn
              · exact (hfact m (Φ[m]'(by omega)) (List.getElem?_eq_getElem (by omega)) hml).2.1
              · rcases Nat.lt_or_ge m l.length with hm2 | hm2
                · have := hI.phi.inv.tail m hmn (by simpa using hm2)
                  rw [getD_both this] at hml; cases hml
                · simp [Array.getElem?_eq_none (show L.size ≤ m by omega)] at hml
            by_cases hji : j = i
            · subst hji
              simp only [if_true, if_neg (Ne.symm hjk)]
              exact .inr (hle k (Ne.symm hjk) hk)
            · by_cases hki : k = i
              · subst hki
                simp only [if_true, if_neg hji]
                exact .inl (hle j hji hj)
              · simp only [if_neg hji, if_neg hki]
                rw [getD_set_ne false (Ne.symm hji)] at hj
                rw [getD_set_ne false (Ne.symm hki)] at hk
                exact h2 j k hjk hj hk
          · rw [getD_set_ne false his]; exact hI.not
        have hy : Yphi P l.toArray o (fillA (l.take n) xs a) w1 φ.phi := by
          cases hfr : φ.isFree with
          | false => exact step i o φ hin his ho hφ hfr xs hlen w1 hI.phi.below hD
          | true =>
            cases φ with
            | free x =>
              rcases free i o x hin ho hφ xs hlen w1 hI.phi.below hD w1 (SameBelow.of_below hI.phi.below hn₀) with ⟨h3, h4⟩ | ⟨h3, h4⟩
              · refine .inl ⟨h3, wp_strong (fun a2 w2 ⟨e1, e2⟩ => ?_) h4⟩
                subst e1; subst e2
                exact ⟨x, rfl, Below.refl _ _, rfl⟩
              · exact .inr ⟨h3, h4.symm⟩
            | val x => cases hfr
            | fact x => cases hfr
            | store => cases hfr
        rcases hy with ⟨hw, hy⟩ | ⟨hw, hy⟩
        · refine .inl ⟨hw, wp_strong (fun a2 w2 ⟨v, e, hb, hv⟩ => .inl ?_) hy⟩
          subst e
          exact hnext v w2 hb hv
        · exact .inr ⟨hw, .inl (hnext undef w1 (Below.refl _ _) hy)⟩
    · obtain ⟨xs, w0, hlen, rfl, hb, h1, h2, h3⟩ := hI.ex
      have hfree : ∃ x, φ = .free x := by
        cases φ with
        | free x => exact ⟨x, rfl⟩
        | val x => have := hI.all i _ hin hφ rfl; rw [hun] at this; cases this
        | fact x => have := hI.all i _ hin hφ rfl; rw [hun] at this; cases this
        | store => have := hI.all i _ hin hφ rfl; rw [hun] at this; cases this
      obtain ⟨x, rfl⟩ := hfree
      have hD : MixDeps l n Φ w.drew.heap.size i xs w0 := fun k φk hk hwt hφk => by
        cases hfr : φk.isFree with
        | false => exact h1 k φk hφk hfr
        | true =>
          cases φk with
          | free y => exact ⟨_, 0, Nat.le_refl _, Nat.zero_le _, h2 k y hφk (hdep k hwt)⟩
          | val y => cases hfr
          | fact y => cases hfr
          | store => cases hfr
      have hnext : MixPost n₀ P Q l n s Φ a w.drew (L.setIfInBounds i true) ((fillA (l.take n) xs a).put o.dst x) w1 := by
        have his : i ≠ s := fun e => by subst e; rw [hst] at hφ; cases hφ
        refine ⟨hI.inv.set hrdy hin, hI.low, by rw [getD_set_ne false his]; exact hI.is, fun k φk hk hφk hf => ?_, xs.set i x, w0, by simpa using hlen, ?_, hb, fun k φk hφk hf => ?_, fun k y hφk hl => ?_, fun ys hy1 hy2 hy3 => ?_⟩
        · by_cases hki : k = i
          · subst hki; exact htrue
          · rw [getD_set_ne false (Ne.symm hki)]; exact hI.all k φk hk hφk hf
        · exact fillA_put (l.take n) xs a i o x hdist (by rw [List.getElem?_take, if_pos hin]; exact ho) (by rw [hlen, htl])
        · rw [getD_step xs i k x hlen hin]
          have hki : k ≠ i := fun e => by
            subst e
            have : φk = .free x := Option.some.inj (hφk.symm.trans hφ)
            subst this
            cases hf
          rw [if_neg hki]
          exact h1 k φk hφk hf
        · rw [getD_step xs i k x hlen hin]
          by_cases hki : k = i
          · subst hki
            rw [if_pos rfl]
            have := Option.some.inj (hφk.symm.trans hφ)
            injection this with h
            exact h.symm
          · rw [if_neg hki]
            rw [getD_set_ne false (Ne.symm hki)] at hl
            exact h2 k y hφk hl
        · refine h3 ys hy1 hy2 fun k φk hφk hf => ?_
          have := hy3 k φk hφk hf
          rw [getD_step xs i k x hlen hin] at this
          have hki : k ≠ i := fun e => by
            subst e
            have : φk = .free x := Option.some.inj (hφk.symm.trans hφ)
            subst this
            cases hf
          rwa [if_neg hki] at this
      rcases free i o x hin ho hφ xs hlen w0 hb hD w1 hI.low with ⟨hw, hy⟩ | ⟨hw, hy⟩
      · refine .inl ⟨hw, wp_strong (fun a2 w2 ⟨e1, e2⟩ => .inr ?_) hy⟩
        subst e1; subst e2
        exact hnext
      · exact .inr ⟨hw, .inr (hy ▸ hnext)⟩
  · rcases hI with hI | hI
    · have := hall s hs
      rw [hI.not] at this
      cases this
    · obtain ⟨xs, w0, hlen, rfl, hb, h1, h2, h3⟩ := hI.ex
      exact h3 xs hlen (fun k x hk => h2 k x hk (hall k (by rw [← hΦ]; exact (List.getElem?_eq_some_iff.1 hk).1))) (fun _ _ _ _ => rfl)
end
end Go.Hp
namespace Go.Hp
open Go.RowKit
def depM (Φ : List MixK) (B : Nat) (xs : List Value) (w1 : World) (G : Prop) : List Edge → Prop
  | [] => G
  | e :: es =>
    match Region.binds .any e, Φ[e.on]? with
    | true, some (.val x) => xs.getD e.on undef = x → depM Φ B xs w1 G es
    | true, some (.free x) => xs.getD e.on undef = x → depM Φ B xs w1 G es
    | true, some (.fact φ) => ∀ lo hi, B ≤ lo → hi ≤ w1.heap.size → φ lo hi (xs.getD e.on undef) w1 → depM Φ B xs w1 G es
    | _, _ => depM Φ B xs w1 G es
theorem depM_spec {Φ : List MixK} {B : Nat} {xs : List Value} {w1 : World} {G : Prop} : ∀ (es : List Edge), depM Φ B xs w1 G es →
    (∀ e ∈ es, Region.binds .any e = true → ∀ k, Φ[e.on]? = some k → ∃ lo hi, B ≤ lo ∧ hi ≤ w1.heap.size ∧ k.phi lo hi (xs.getD e.on undef) w1) → G
  | [], h, _ => h
  | e :: es, h, hd => by
    have ht := fun h' => depM_spec (Φ := Φ) (B := B) (xs := xs) (w1 := w1) (G := G) es h' (fun e' he' => hd e' (List.mem_cons_of_mem _ he'))
    unfold depM at h
    split at h
    · rename_i x hb hk
      obtain ⟨_, _, _, _, h3⟩ := hd e (List.mem_cons_self ..) hb _ hk
      exact ht (h h3)
    · rename_i x hb hk
      obtain ⟨_, _, _, _, h3⟩ := hd e (List.mem_cons_self ..) hb _ hk
      exact ht (h h3)
    · rename_i φ hb hk
      obtain ⟨lo, hi, h1, h2, h3⟩ := hd e (List.mem_cons_self ..) hb _ hk
      exact ht (h lo hi h1 h2 h3)
    · exact ht h
section
variable {P : Program} {Q : Exit → Act → World → Prop} {a : Act} {w : World} {l : List Oper} {n s n₀ : Nat}
def mixOb (n₀ : Nat) (P : Program) (l : List Oper) (n s : Nat) (a : Act) (w : World) (i : Nat) (Φ : List MixK) (k : MixK) : Prop :=
  match l[i]? with
  | some o => (match k with
    | .store => decide (i = s) = true
    | .free x => allV n fun xs => ∀ w1, Below w.heap.size w w1 → depM Φ w.heap.size xs w1 (∀ w2, SameBelow n₀ w w2 → YX P l.toArray o (fillA (l.take n) xs a) w2 x) o.after.toList
    | .val x => allV n fun xs => ∀ w1, Below w.heap.size w w1 → depM Φ w.heap.size xs w1 (Yphi P l.toArray o (fillA (l.take n) xs a) w1 (isV x)) o.after.toList
    | .fact φ => allV n fun xs => ∀ w1, Below w.heap.size w w1 → depM Φ w.heap.size xs w1 (Yphi P l.toArray o (fillA (l.take n) xs a) w1 φ) o.after.toList)
  | none => False
def allMix (B : Nat) (lo hi : Nat → Nat) (w1 : World) : Nat → List MixK → List Value → Prop → Prop
  | k, .val x :: Φ, y :: ys, G => y = x → allMix B lo hi w1 (k + 1) Φ ys G
  | k, .fact φ :: Φ, y :: ys, G => B ≤ lo k → hi k ≤ w1.heap.size → φ (lo k) (hi k) y w1 → allMix B lo hi w1 (k + 1) Φ ys G
  | k, .free _ :: Φ, _ :: ys, G => allMix B lo hi w1 (k + 1) Φ ys G
  | k, .store :: Φ, _ :: ys, G => allMix B lo hi w1 (k + 1) Φ ys G
  | _, [], _, G => G
  | _, _ :: _, [], G => G
theorem allMix_spec {B : Nat} {lo hi : Nat → Nat} {w1 : World} {G : Prop} : ∀ (Φ : List MixK) (k : Nat) (ys : List Value), allMix B lo hi w1 k Φ ys G → ys.length = Φ.length →
    (∀ j x, Φ[j]? = some x → x.isFree = false → x.isStore = false → B ≤ lo (k + j) ∧ hi (k + j) ≤ w1.heap.size ∧ x.phi (lo (k + j)) (hi (k + j)) (ys.getD j undef) w1) → G
  | [], k, ys, h, _, _ => by unfold allMix at h; exact h
  | x :: Φ, k, [], _, hl, _ => by simp at hl
  | .val x :: Φ, k, y :: ys, h, hl, hd => by
    unfold allMix at h
    have h0 := (hd 0 _ rfl rfl rfl).2.2
    exact allMix_spec Φ (k + 1) ys (h h0) (by simpa using hl) (fun j x hj hf hs => by have := hd (j + 1) x (by simpa using hj) hf hs; rw [show k + 1 + j = k + (j + 1) by omega]; simpa using this)
  | .fact φ :: Φ, k, y :: ys, h, hl, hd => by
    unfold allMix at h
    obtain ⟨h1, h2, h3⟩ := hd 0 _ rfl rfl rfl
    exact allMix_spec Φ (k + 1) ys (h h1 h2 h3) (by simpa using hl) (fun j x hj hf hs => by have := hd (j + 1) x (by simpa using hj) hf hs; rw [show k + 1 + j = k + (j + 1) by omega]; simpa using this)
  | .free x :: Φ, k, y :: ys, h, hl, hd => by
    unfold allMix at h
    exact allMix_spec Φ (k + 1) ys h (by simpa using hl) (fun j x hj hf hs => by have := hd (j + 1) x (by simpa using hj) hf hs; rw [show k + 1 + j = k + (j + 1) by omega]; simpa using this)
  | .store :: Φ, k, y :: ys, h, hl, hd => by
    unfold allMix at h
    exact allMix_spec Φ (k + 1) ys h (by simpa using hl) (fun j x hj hf hs => by have := hd (j + 1) x (by simpa using hj) hf hs; rw [show k + 1 + j = k + (j + 1) by omega]; simpa using this)
def mixWaits (l : List Oper) (n s : Nat) (Φ : List MixK) : Bool :=
  (List.range n).all fun k => decide (k = s) || (match Φ[k]? with | some φ => φ.isFree | none => false) || (List.range (s + 1)).any fun j => decide (k < j) && (Region.waitsFor .any l.toArray j k && (decide (j = s) || (match Φ[j]? with | some φ => !φ.isFree | none => false)))
def mixStore (s : Nat) (Φ : List MixK) : Bool := match Φ[s]? with | some φ => φ.isStore | none => false
def mixFin (n₀ : Nat) (P : Program) (l : List Oper) (n s : Nat) (a : Act) (w : World) (Q : Exit → Act → World → Prop) (Φ : List MixK) : Prop :=
  mixWaits l n s Φ = true ∧ mixStore s Φ = true ∧
  match l[s]? with
  | some o => allV n fun xs => ∀ (lo hi : Nat → Nat) (w1 : World), Below w.heap.size w w1 → (∀ j k, j < n → k < n → j ≠ k → hi j ≤ lo k ∨ hi k ≤ lo j) →
      allMix w.heap.size lo hi w1 0 Φ xs (Region.wanted o (yielded l.toArray (fillA (l.take n) xs a).tmps) = true ∧ OW P o (fillA (l.take n) xs a) w1 (fun a' w2 => ∃ v, a' = (fillA (l.take n) xs a).put o.dst v ∧ SameBelow n₀ w w2 ∧ WL P l.toArray Q (l.drop n) (fillA (l.take n) (fixF Φ (xs.set s v)) a) w2) (fun _ _ _ => False))
  | none => False
def Mix (n₀ : Nat) (P : Program) (l : List Oper) (n s : Nat) (a : Act) (w : World) (Q : Exit → Act → World → Prop) : Nat → List MixK → Prop
  | 0, Φ => mixFin n₀ P l n s a w Q Φ
  | r + 1, Φ => ∃ k : MixK, k.phi.stable ∧ mixOb n₀ P l n s a w Φ.length Φ k ∧ Mix n₀ P l n s a w Q r (Φ ++ [k])
theorem Mix.val' {r : Nat} {Φ Φ' : List MixK} {x : Value} (h : mixOb n₀ P l n s a w Φ.length Φ (.val x)) (hΦ : Φ ++ [.val x] = Φ') (h' : Mix n₀ P l n s a w Q r Φ') : Mix n₀ P l n s a w Q (r + 1) Φ := ⟨.val x, isV_stable x, h, hΦ ▸ h'⟩
theorem Mix.free' {r : Nat} {Φ Φ' : List MixK} {x : Value} (h : mixOb n₀ P l n s a w Φ.length Φ (.free x)) (hΦ : Φ ++ [.free x] = Φ') (h' : Mix n₀ P l n s a w Q r Φ') : Mix n₀ P l n s a w Q (r + 1) Φ := ⟨.free x, isV_stable x, h, hΦ ▸ h'⟩
theorem Mix.fact' {r : Nat} {Φ Φ' : List MixK} (φ : Phi) (hs : φ.stable) (h : mixOb n₀ P l n s a w Φ.length Φ (.fact φ)) (hΦ : Φ ++ [.fact φ] = Φ') (h' : Mix n₀ P l n s a w Q r Φ') : Mix n₀ P l n s a w Q (r + 1) Φ := ⟨.fact φ, hs, h, hΦ ▸ h'⟩
theorem Mix.store' {r : Nat} {Φ Φ' : List MixK} (h : mixOb n₀ P l n s a w Φ.length Φ .store) (hΦ : Φ ++ [.store] = Φ') (h' : Mix n₀ P l n s a w Q r Φ') : Mix n₀ P l n s a w Q (r + 1) Φ := ⟨.store, fun _ _ _ _ _ _ _ _ => True.intro, h, hΦ ▸ h'⟩
theorem Mix.fin {Φ : List MixK} {o : Oper} (h1 : mixWaits l n s Φ = true) (h2 : mixStore s Φ = true) (ho : l[s]? = some o)
    (h : allV n fun xs => ∀ (lo hi : Nat → Nat) (w1 : World), Below w.heap.size w w1 → (∀ j k, j < n → k < n → j ≠ k → hi j ≤ lo k ∨ hi k ≤ lo j) →
      allMix w.heap.size lo hi w1 0 Φ xs (Region.wanted o (yielded l.toArray (fillA (l.take n) xs a).tmps) = true ∧ OW P o (fillA (l.take n) xs a) w1 (fun a' w2 => ∃ v, a' = (fillA (l.take n) xs a).put o.dst v ∧ SameBelow n₀ w w2 ∧ WL P l.toArray Q (l.drop n) (fillA (l.take n) (fixF Φ (xs.set s v)) a) w2) (fun _ _ _ => False))) : Mix n₀ P l n s a w Q 0 Φ := by
  show mixFin n₀ P l n s a w Q Φ
  unfold mixFin
  rw [ho]
  exact ⟨h1, h2, h⟩
theorem Mix.all : ∀ (r : Nat) (Φ : List MixK), Mix n₀ P l n s a w Q r Φ → (∀ k ∈ Φ, k.phi.stable) → (∀ i k, Φ[i]? = some k → mixOb n₀ P l n s a w i (Φ.take i) k) →
    ∃ Ψ : List MixK, Ψ.length = Φ.length + r ∧ (∀ k ∈ Ψ, k.phi.stable) ∧ (∀ i k, Ψ[i]? = some k → mixOb n₀ P l n s a w i (Ψ.take i) k) ∧ mixFin n₀ P l n s a w Q Ψ
  | 0, Φ, h, h1, h2 => ⟨Φ, rfl, h1, h2, h⟩
  | r + 1, Φ, ⟨k, hk, hs, h⟩, h1, h2 => by
    obtain ⟨Ψ, a1, a2, a3, a4⟩ := Mix.all r (Φ ++ [k]) h (fun x hx => by
      rcases List.mem_append.1 hx with hx | hx
      · exact h1 x hx
      · rw [List.mem_singleton.1 hx]; exact hk) (fun i x hx => by
      rcases Nat.lt_or_ge i Φ.length with hi | hi
      · rw [List.getElem?_append_left hi] at hx
        rw [List.take_append_of_le_length (by omega)]
        exact h2 i x hx
      · rw [List.getElem?_append_right hi] at hx
        have hi0 : i - Φ.length = 0 := by
          rcases Nat.eq_zero_or_pos (i - Φ.length) with h0 | h0
          · exact h0
          · rw [List.getElem?_eq_none (by simp; omega)] at hx; cases hx
        rw [hi0] at hx
        simp only [List.getElem?_cons_zero, Option.some.injEq] at hx
        have : i = Φ.length := by omega
        subst this
        rw [List.take_append_of_le_length (Nat.le_refl _), List.take_length, ← hx]
        exact hs)
    exact ⟨Ψ, by rw [a1]; simp; omega, a2, a3, a4⟩
theorem wp_region_mix {id : Nat} (n s : Nat) (hm : P.follows .mixedOrders = true) (hB : phiB l n = true) (hs : s < n) (hn₀ : n₀ ≤ w.heap.size) (h : Mix n₀ P l n s a w.drew Q n []) : (Code.region id l.toArray true).wp P Q a w := by
  obtain ⟨Ψ, hlen, hst, hstep, hfin⟩ := Mix.all n [] h (fun _ h => by cases h) (fun i k hk => by simp at hk)
  simp only [List.length_nil, Nat.zero_add] at hlen
  obtain ⟨hwt, hms, hfin⟩ := hfin
  have hB' := hB
  simp only [phiB, Bool.and_eq_true, decide_eq_true_eq, Bool.or_eq_true] at hB'
  obtain ⟨⟨⟨⟨_, hn⟩, hback⟩, _⟩, _⟩ := hB'
  have hdep : ∀ i o (xs : List Value) w1, i < n → l[i]? = some o → MixDeps l n Ψ w.drew.heap.size i xs w1 → ∀ e ∈ o.after.toList, Region.binds .any e = true → ∀ k, (Ψ.take i)[e.on]? = some k → ∃ lo hi, w.drew.heap.size ≤ lo ∧ hi ≤ w1.heap.size ∧ k.phi lo hi (xs.getD e.on undef) w1 := by
    intro i o xs w1 hi ho hD e he hb k hk
    have hon : e.on < i := by
      have := List.all_eq_true.1 hback i (List.mem_range.2 hi)
      simp only [List.getElem?_toArray, ho] at this
      have := Array.all_eq_true_iff_forall_mem.1 this e (by simpa using he)
      simpa [hb] using this
    rw [List.getElem?_take, if_pos hon] at hk
    refine hD e.on k (by omega) ?_ hk
    unfold Region.waitsFor
    simp only [List.getElem?_toArray, ho]
    exact Array.any_eq_true'.2 ⟨e, by simpa using he, by simp [hb]⟩
  have hstore : Ψ[s]? = some .store := by
    unfold mixStore at hms
    split at hms
    · rename_i φ hφ
      cases φ with
      | store => exact hφ
      | val x => cases hms
      | fact x => cases hms
      | free x => cases hms
    · cases hms
  refine wp_region_mix0 (Φ := Ψ) (n₀ := n₀) hn₀ hm hB hlen hs hstore (fun k hk => ?_) hst (fun k φ hk hne hφ hf => ?_) (fun i o φ hi hne ho hφ hf xs hxs w1 hb hD => ?_) (fun i o x hi ho hφ xs hxs w1 hb hD => ?_) (fun o ho xs lo hi w1 hxs hb hall hap => ?_)
  · have := hstep k _ hk
    unfold mixOb at this
    split at this
    · simpa using this
    · exact this.elim
  · have := List.all_eq_true.1 hwt k (List.mem_range.2 hk)
    simp only [hφ, hf, Bool.or_false, Bool.or_eq_true, decide_eq_true_eq] at this
    rcases this with h | h
    · exact absurd h hne
    · obtain ⟨j, hj, h⟩ := List.any_eq_true.1 h
      simp only [Bool.and_eq_true, Bool.or_eq_true, decide_eq_true_eq] at h
      refine ⟨j, h.1, by have := List.mem_range.1 hj; omega, h.2.1, ?_⟩
      rcases h.2.2 with h3 | h3
      · exact .inl h3
      · split at h3
        · rename_i φj hφj
          exact .inr ⟨φj, hφj, by simpa using h3⟩
        · cases h3
  · have hs' := hstep i φ hφ
    unfold mixOb at hs'
    rw [ho] at hs'
    cases φ with
    | val x => exact depM_spec _ (allV_spec n _ hs' xs hxs w1 hb) (hdep i o xs w1 hi ho hD)
    | fact x => exact depM_spec _ (allV_spec n _ hs' xs hxs w1 hb) (hdep i o xs w1 hi ho hD)
    | free x => cases hf
    | store =>
      simp only [decide_eq_true_eq] at hs'
      exact absurd hs' hne
  · have hs' := hstep i _ hφ
    unfold mixOb at hs'
    rw [ho] at hs'
    exact depM_spec _ (allV_spec n _ hs' xs hxs w1 hb) (hdep i o xs w1 hi ho hD)
  · rw [ho] at hfin
    have := allMix_spec Ψ 0 xs (allV_spec n _ hfin xs hxs lo hi w1 hb hap) (by rw [hxs, hlen]) (fun j x hj hf hst => by rw [Nat.zero_add]; exact hall j x hj hf hst)
    exact ⟨this.1, wp_strong (fun a2 w2 ⟨v, e, hl, h⟩ => ⟨v, e, hl, h.out⟩) this.2.out⟩
end
section
variable {P : Program} {ops : Array Oper} {o : Oper} {a : Act} {w0 w : World} {rs : List Res}
def freshBox (t : TypeId) (cs : List Value) : Phi := fun lo hi v w => ∃ b, v = .pointer (some ⟨b, 0, none⟩) ∧ (Res.box b t cs).holds lo w ∧ b < hi
theorem freshBox_stable (t : TypeId) (cs : List Value) : (freshBox t cs).stable := by
  rintro lo hi v w1 w2 hb hh ⟨b, rfl, ho, hk⟩
  exact ⟨b, rfl, Res.holds_keep ho hb.size (fun k h => hb.block k (by cases h; omega)), hk⟩
theorem Yphi.alloc {t : TypeId} {z : Value} {cs : List Value} (ho : o.op = .alloc t) (hT : ZeroT P t z) (hv : z.cells.toList = cs) (hw : Region.wanted o (yielded ops a.tmps) = true) : Yphi P ops o a w (freshBox t cs) := by
  refine .inl ⟨hw, wp_alloc (St.start w) ho hT hv fun b w' st => ⟨_, rfl, st.below, b, rfl, st.get (i := 0) rfl, (Res.holds_lt (st.get (i := 0) rfl) rfl).2⟩⟩
theorem Yphi.known {φ : Phi} {v : Value} {r : Result Next} (hw : Region.wanted o (yielded ops a.tmps) = true) (hr : (execOp a.eval o).run P w = r) (hv : r = .ok (.value v) w) (hφ : φ w.heap.size w.heap.size v w) : Yphi P ops o a w φ :=
  .inl ⟨hw, wp_value (hr.trans hv) ⟨v, rfl, Below.refl _ _, hφ⟩⟩
def Res.within (lo hi : Nat) (r : Res) : Prop := ∀ k, r.blk = some k → lo ≤ k ∧ k < hi
theorem Res.apart {r s : Res} {lo1 hi1 lo2 hi2 : Nat} (h1 : r.within lo1 hi1) (h2 : s.within lo2 hi2) (hd : hi1 ≤ lo2 ∨ hi2 ≤ lo1) : r.ne s := fun k hk hk' => by
  have a1 := h1 k hk
  have a2 := h2 k hk'
  omega
theorem Res.within_row {w : World} {lo hi e size n c : Nat} {A : Option Addr} {xs : List Value} (h : w.ownsRow lo e size (.slice A n c) n xs) (hk : ∀ k, (Value.slice A n c).ownBlock = some k → k < hi) : (Res.row e size (.slice A n c) n xs).within lo hi :=
  fun k hb => ⟨(World.ownsRow.lt h k hb).1, hk k hb⟩
theorem St.also {r : Res} {w' : World} {lo hi : Nat} (st : St w0 w' rs) (old : w0.heap.size ≤ lo) (h : r.holds lo w') (hn : ∀ s ∈ rs, r.ne s) : St w0 w' (r :: rs) :=
  st.cons (Res.holds_mono h old) hn
end
end Go.Hp
namespace Go.Hp
open Go.RowKit
theorem Res.ne_comm {r s : Res} (h : r.ne s) : s.ne r := Res.ne_symm h
theorem St.perm {w0 w : World} {rs rs' : List Res} (st : St w0 w rs) (h : rs.Perm rs') : St w0 w rs' :=
  ⟨st.below, fun r hr => st.holds r (h.mem_iff.2 hr), (h.pairwise_iff (fun h => Res.ne_symm h)).1 st.apart⟩
section
variable {P : Program} {ops : Array Oper} {o : Oper} {a : Act} {w0 w W : World} {rs : List Res}
theorem Yphi.boxOver {φ : Phi} {t : TypeId} {m : Nat} {cs : List Value} {T : TypeId} {ps : Array (Nat × Operand)} {r : Result Next} (hst : St W w rs) (hw : Region.wanted o (yielded ops a.tmps) = true) (ho : o.op = .buildSlice T m ps) (hr : (execOp a.eval o).run P w = r) (hv : r = .ok (.value (.slice (some ⟨w.heap.size, 0, none⟩) m m)) (w.alloc (.cells cs.toArray t)))
    (hφ : ∀ b w', St W w' (.box b t cs :: rs) → φ w.heap.size w'.heap.size (.slice (some ⟨b, 0, none⟩) m m) w') : Yphi P ops o a w φ :=
  .inl ⟨hw, wp_newSlice (St.start w) ho hr hv fun b w' st' => ⟨_, rfl, st'.below, hφ b w' (hst.join st')⟩⟩
end
end Go.Hp
namespace Go.Proofs.YtppjhccdgbheiaaGreatDoor
open Go.RowKit Go.Hp
instance aggT_node : AggT Tryz.prog 34 8 := ⟨fun _ => by kernel_rfl, fun _ => by kernel_rfl⟩
instance zeroT_node : ZeroT Tryz.prog 34 (.agg #[.int .i64 0, .bool false, .int .i64 0, .int .i64 0, .bool false, .bool false, .slice none 0 0, .slice none 0 0]) := ⟨fun _ => by kernel_rfl⟩
instance sliceT_node : SliceT Tryz.prog 22 34 (.agg #[.int .i64 0, .bool false, .int .i64 0, .int .i64 0, .bool false, .bool false, .slice none 0 0, .slice none 0 0]) 8 88 := ⟨by kernel_rfl, by kernel_rfl, by kernel_rfl, by decide⟩
instance sliceT_int : SliceT Tryz.prog 44 3 (.int .i64 0) 1 8 := ⟨by kernel_rfl, by kernel_rfl, by kernel_rfl, by decide⟩
abbrev nodeRow (v : Value) (n : Nat) (vs : List (L.Node × L.Place)) : Res := .row 34 8 v n (L.nCellsOf vs)
abbrev rowE (q : L.Node × L.Place) : Res := aceRow (.slice q.2.A1 q.2.n1 q.2.c1) q.2.n1 q.1.d.e
abbrev rowA (q : L.Node × L.Place) : Res := aceRow (.slice q.2.A2 q.2.n2 q.2.c2) q.2.n2 q.1.d.a
def Owned (F : List Res) (vs : List (L.Node × L.Place)) : Prop := ∀ q ∈ vs, rowE q ∈ F ∧ rowA q ∈ F
theorem Owned.snoc {F : List Res} {vs : List (L.Node × L.Place)} {q : L.Node × L.Place} (h : Owned F vs) : Owned (rowE q :: rowA q :: F) (vs ++ [q]) := by
  intro x hx
  rcases List.mem_append.1 hx with hx | hx
  · exact ⟨List.mem_cons_of_mem _ (List.mem_cons_of_mem _ (h x hx).1), List.mem_cons_of_mem _ (List.mem_cons_of_mem _ (h x hx).2)⟩
  · rw [List.mem_singleton.1 hx]
    exact ⟨List.mem_cons_self .., List.mem_cons_of_mem _ (List.mem_cons_self ..)⟩
def RetNodes (w : World) (l : List L.Node) (e : Ending) (w' : World) : Prop := ∃ A n c vs F, e = .returned (.slice A n c) ∧ vs.map Prod.fst = l ∧ Owned F vs ∧ St w w' (nodeRow (.slice A n c) n vs :: F)
theorem St.nodes {w0 w : World} {A : Option Addr} {n c : Nat} {vs : List (L.Node × L.Place)} {F : List Res} (st : St w0 w (nodeRow (.slice A n c) n vs :: F)) (h : Owned F vs) : Nodes w w.heap.size A n vs :=
  ⟨st.rd (i := 0) rfl, fun q hq => ⟨Rd.aces (Rd.of_row (st.holds _ (List.mem_cons_of_mem _ (h q hq).1))), Rd.aces (Rd.of_row (st.holds _ (List.mem_cons_of_mem _ (h q hq).2)))⟩⟩
theorem nCells_one (q : L.Node × L.Place) : ∀ u ∈ L.nCells q, u.oneCell' = true := by
  intro u hu
  simp only [L.nCells, L.Desc.cells, List.mem_cons, List.not_mem_nil, or_false] at hu
  rcases hu with rfl | rfl | rfl | rfl | rfl | rfl | rfl | rfl <;> rfl
def descSt (W : World) (d : L.Desc) : Phi := fun _ _ v w => ∃ p : L.Place, v = .agg #[.int .i64 d.o, .int .i64 d.g, .bool d.p, .bool d.h, .slice p.A1 p.n1 p.c1, .slice p.A2 p.n2 p.c2] ∧ St W w [aceRow (.slice p.A1 p.n1 p.c1) p.n1 d.e, aceRow (.slice p.A2 p.n2 p.c2) p.n2 d.a]
theorem descSt_stable (W : World) (d : L.Desc) : (descSt W d).stable := by
  rintro lo hi v w1 w2 hb hh ⟨p, rfl, h⟩
  exact ⟨p, rfl, h.call hb⟩
def nodeSt (W : World) (x : L.Node) : Phi := fun _ _ v w => ∃ p : L.Place, v = .agg #[.int .i64 x.a, .bool x.k, .int .i64 x.d.o, .int .i64 x.d.g, .bool x.d.p, .bool x.d.h, .slice p.A1 p.n1 p.c1, .slice p.A2 p.n2 p.c2] ∧ St W w [rowE (x, p), rowA (x, p)]
theorem nodeSt_stable (W : World) (x : L.Node) : (nodeSt W x).stable := by
  rintro lo hi v w1 w2 hb hh ⟨p, rfl, h⟩
  exact ⟨p, rfl, h.call hb⟩
def nodeBox (W : World) (x : L.Node) : Phi := fun _ _ v w => ∃ (b : Nat) (p : L.Place), v = .slice (some ⟨b, 0, none⟩) 1 1 ∧ St W w [.box b 34 (L.nCells (x, p)), rowE (x, p), rowA (x, p)]
theorem nodeBox_stable (W : World) (x : L.Node) : (nodeBox W x).stable := by
  rintro lo hi v w1 w2 hb hh ⟨b, p, rfl, h⟩
  exact ⟨b, p, rfl, h.call hb⟩
set_option maxHeartbeats 4000000 in
theorem CopyNodes_any (A : Option Addr) (n c B : Nat) (vs : List (L.Node × L.Place)) (w : World) (h1 : Nodes w B A n vs) (hB1 : B ≤ w.heap.size) (hn : n ≤ 100) (hm : ∀ q ∈ vs, q.2.n1 ≤ 1000 ∧ q.2.n2 ≤ 1000) :
    Calls Tryz.prog 10 #[.slice A n c] w (RetNodes w (vs.map Prod.fst)) := by
  have e1 := Lib.hid h1.len
  have HM := Lib.hid hm
  clear hm
  have st := St.start w
  go_enter Tryz.func10, Tryz.ntmps10
  go_wp2_with (refine WL.out ?_; (repeat (fail)); (try refine WL.nil ?_))
  clear st
  go_loopw [3, 4] (fun v i wr => ∃ (k : Nat) (A' : Option Addr) (m c' : Nat) (us : List (L.Node × L.Place)) (F : List Res), k ≤ n ∧ i = .int .i64 k ∧ v = .slice A' m c' ∧ us.map Prod.fst = (vs.take k).map Prod.fst ∧ Owned F us ∧ St w wr (nodeRow (.slice A' m c') m us :: F)) (fun _ i _ => n - (intOf i).toNat)
  case atStart => exact ⟨0, none, 0, 0, [], [], Nat.zero_le _, rfl, rfl, rfl, fun _ h => (by cases h), (St.start w).nilRow _ _⟩
  case round =>
    obtain ⟨k, A', m, c', us, F, hk, rfl, rfl, hus, hF, st⟩ := hrel
    have hm : m ≤ 100 := by
      have h3 := (St.get st (i := 0) rfl).1
      rw [L.nCellsOf_length] at h3
      have h4 := congrArg List.length hus
      rw [List.length_map, List.length_map, List.length_take] at h4
      omega
    by_cases hlt : k < n
    · have hkl : k < vs.length := by rw [← e1.out]; exact hlt
      have hst := Lib.hid (L.take_succ_nx vs k hkl)
      have HQ := Lib.hid (HM.out _ (L.nx_mem vs k hkl))
      have hr := h1.rows _ (L.nx_mem vs k hkl)
      have R1 := Lib.hid hr.1
      have R2 := Lib.hid hr.2
      obtain ⟨b, o, rfl, hb, hc⟩ := h1.at_ (by omega)
      have hb := Nat.lt_of_lt_of_le hb hB1
      obtain ⟨f0, f1, f2, f3⟩ := hc k hlt
      clear hc h1 f3 hr
      have HUS := Lib.hid hus
      have HF := Lib.hid hF
      clear hus hF
      go_wp2_with (refine WL.out ?_; (repeat ((refine WL.op ?_ ?_; (exact rfl); intro K hK; (((with_reducible apply ow_eval); (go_simp <;> (try simp (disch := omega) only [wrap_id, sub_left, zac]) <;> rfl); ((with_reducible apply up_value)))); refine WL.next hK (by simp only [Act.put, zpt, zsz, zss]; exact rfl) ?_; clear hK K))); (try refine WL.nil ?_))
      refine wp_region_plan 19 (by kernel_rfl) (by kernel_rfl) ?_; replace st := st.drew; generalize World.drew _ = W at st ⊢
      iterate 15 (apply Plan.val'; (focus (intro x0 x1 x2 x3 x4 x5 x6 x7 x8 x9 x10 x11 x12 x13 x14 x15 x16 x17 x18 w1 hb; (try simp only [depF, fillA, Act.put, zta, ztz, zpt, zsz, zss, zl0, zls]); (repeat (rintro rfl)); have st := st.call hb; (first | (apply Yphi.run; (exact rfl); (go_simp <;> (try simp (disch := omega) only [wrap_id, sub_left, zac]) <;> rfl); exact rfl) | (apply Yphi.old1 st; exact rfl; exact inferInstance; (exact rfl); exact rfl; assumption; assumption)))); (simp only [zca, zcn] <;> exact rfl))
      (apply Plan.val'; (focus (intro x0 x1 x2 x3 x4 x5 x6 x7 x8 x9 x10 x11 x12 x13 x14 x15 x16 x17 x18 w1 hb; (try simp only [depF, fillA, Act.put, zta, ztz, zpt, zsz, zss, zl0, zls]); (repeat (rintro rfl)); have st := st.call hb; apply Yphi.oldC st; exact rfl; exact inferInstance; (exact rfl); exact rfl; assumption; assumption; exact rfl)); (simp only [zca, zcn] <;> exact rfl))
      (apply Plan.fact' (descSt W (L.nx vs k).1.d) (descSt_stable _ _); (focus (intro x0 x1 x2 x3 x4 x5 x6 x7 x8 x9 x10 x11 x12 x13 x14 x15 x16 x17 x18 w1 hb; (try simp only [depF, fillA, Act.put, zta, ztz, zpt, zsz, zss, zl0, zls]); (repeat (rintro rfl)); have st := st.call hb; apply Yphi.call; (exact rfl); (go_simp <;> (try simp (disch := omega) only [wrap_id, sub_left, zac]) <;> rfl); exact rfl; refine (CopyDescriptor_any (L.nx vs k).1.d (L.nx vs k).2.A1 (L.nx vs k).2.A2 (L.nx vs k).2.n1 (L.nx vs k).2.n2 (L.nx vs k).2.c1 (L.nx vs k).2.c2 B _ (R1.out.st st hB1) (R2.out.st st hB1) (Nat.le_trans hB1 st.size) HQ.out.1 HQ.out.2).mono ?_; rintro e w' ⟨A5, n5, c5, A6, n6, c6, rfl, st'⟩; exact ⟨_, rfl, st'.below, ⟨A5, n5, c5, A6, n6, c6⟩, rfl, ((St.start W).call hb).join st'⟩)); (simp only [zca, zcn] <;> exact rfl))
      (apply Plan.fact' (nodeSt W (L.nx vs k).1) (nodeSt_stable _ _); (focus (intro x0 x1 x2 x3 x4 x5 x6 x7 x8 x9 x10 x11 x12 x13 x14 x15 x16 x17 x18 w1 hb; (try simp only [depF, fillA, Act.put, zta, ztz, zpt, zsz, zss, zl0, zls]); (repeat (first | rintro rfl | intro lo hi hlo hhi hphi)); have st := st.call hb; obtain ⟨p, rfl, hp⟩ := hphi; apply Yphi.known; (exact rfl); (go_simp <;> (try simp (disch := omega) only [wrap_id, sub_left, zac]) <;> rfl); exact rfl; exact ⟨p, rfl, hp⟩)); (simp only [zca, zcn] <;> exact rfl))
      (apply Plan.fact' (nodeBox W (L.nx vs k).1) (nodeBox_stable _ _); (focus (intro x0 x1 x2 x3 x4 x5 x6 x7 x8 x9 x10 x11 x12 x13 x14 x15 x16 x17 x18 w1 hb; (try simp only [depF, fillA, Act.put, zta, ztz, zpt, zsz, zss, zl0, zls]); (repeat (intro lo hi hlo hhi hphi)); have st := st.call hb; obtain ⟨p, rfl, hp⟩ := hphi; apply Yphi.boxOver hp; (exact rfl); exact rfl; (go_simp <;> (try simp (disch := omega) only [wrap_id, sub_left, zac]) <;> rfl); exact rfl; intro b9 w9 st9; exact ⟨b9, p, rfl, st9⟩)); (simp only [zca, zcn] <;> exact rfl))
      intro x0 x1 x2 x3 x4 x5 x6 x7 x8 x9 x10 x11 x12 x13 x14 x15 x16 x17 x18 lo hi w1 hb hap
      rintro rfl rfl rfl rfl rfl rfl rfl rfl rfl rfl rfl rfl rfl rfl rfl rfl - - - - - - - - ⟨b9, p, rfl, st9⟩
      simp only [allPhi, fillA, Act.put, zta, ztz, zpt, zsz, zss, zda, zdz]
      replace st := st.join st9
      clear st9 hap hb
      simp only [List.cons_append, List.nil_append] at st
      go_wp2_with (refine WL.out ?_; (repeat ((refine WL.op ?_ ?_; (exact rfl); intro K hK; (first | ((((with_reducible apply ow_assign); exact rfl)); (go_simp <;> (try simp (disch := omega) only [wrap_id, sub_left, zac]) <;> rfl)) | ((with_reducible apply ow_append 3 st); exact rfl; exact inferInstance; exact rfl; exact rfl; exact rfl; exact st.rdBox (i := 0) (n := 1) (size := 8) rfl rfl; exact nCells_one _; (focus (unfold maxLen; omega)); (focus omega); (try clear st); intro A' c' w' st; (try simp only [List.set_cons_zero, List.set_cons_succ, Nat.zero_add, List.nil_append] at st)) | ((with_reducible apply ow_eval); (go_simp <;> (try simp (disch := omega) only [wrap_id, sub_left, zac]) <;> rfl); ((with_reducible apply up_value)))); refine WL.next hK (by simp only [Act.put, zpt, zsz, zss]; exact rfl) ?_; clear hK K))); (try refine WL.nil ?_))
      have hwr : IntKind.i64.wrap ((k : Int) + 1) = (k : Int) + 1 := by rw [IntKind.wrap_i64]; omega
      refine ⟨⟨k + 1, A', m + 1, c', us ++ [((L.nx vs k).1, p)], rowE ((L.nx vs k).1, p) :: rowA ((L.nx vs k).1, p) :: F, by omega, by (try rw [hwr]); go_num, rfl, by rw [hst.out, List.map_append, List.map_append, HUS.out]; rfl, HF.out.snoc, ?_⟩, by (try simp only [hwr]); simp [intOf]; omega⟩
      refine St.perm (rs := [_, _, _] ++ F) ?_ (List.Perm.append_right F (l₁ := [rowE ((L.nx vs k).1, p), rowA ((L.nx vs k).1, p), nodeRow (.slice A' (m + 1) c') (m + 1) (us ++ [((L.nx vs k).1, p)])]) (l₂ := [nodeRow (.slice A' (m + 1) c') (m + 1) (us ++ [((L.nx vs k).1, p)]), rowE ((L.nx vs k).1, p), rowA ((L.nx vs k).1, p)]) ?_)
      · unfold nodeRow
        rw [L.nCellsOf_append]
        exact st.tail
      · exact (List.perm_append_comm (l₁ := [_, _]) (l₂ := [_]))
    · have hs' : Hid (vs.take k = vs) := Lib.hid (List.take_of_length_le (by rw [← e1.out]; omega))
      rw [hs'.out] at hus
      go_wp2
      go_ret
      exact ⟨A', m, c', us, F, rfl, hus, hF, st⟩
end Go.Proofs.YtppjhccdgbheiaaGreatDoor
namespace Go.Proofs.YtppjhccdgbheiaaGreatDoor
open Go.RowKit Go.Hp
namespace L
def n0 : Node := ⟨0, false, Desc.none⟩
def nn (l : List Node) (i : Nat) : Node := l[i]?.getD n0
theorem nx_fst (vs : List (Node × Place)) (i : Nat) : (nx vs i).1 = nn (vs.map Prod.fst) i := by
  unfold nx nn
  rw [List.getElem?_map]
  cases vs[i]? <;> rfl
def goE (E : Nat → Int) : Nat → Int
  | 0 => 0
  | k + 1 => if goE E k = 0 then E k else goE E k
theorem goE_stop (E : Nat → Int) {k : Nat} (h : goE E k = 0) (hE : E k ≠ 0) : ∀ n, k < n → goE E n = E k
  | 0, hn => by omega
  | n + 1, hn => by
    show (if goE E n = 0 then E n else goE E n) = E k
    by_cases hkn : k = n
    · subst hkn
      rw [if_pos h]
    · rw [goE_stop E h hE n (by omega), if_neg hE]
theorem goE_next (E : Nat → Int) {k : Nat} (h : goE E k = 0) : goE E (k + 1) = E k := if_pos h
def nodeErr (l : List Node) (i : Nat) : Int :=
  if i = 0 then (if (nn l 0).a = -1 then (nn l 0).d.rErrs.2 else 6)
  else if within (nn l i).a 0 ((i : Int) - 1) = true then (if (nn l (nn l i).a.toNat).k = true then (nn l i).d.rErrs.2 else 35) else 6
def rTreeErr (l : List Node) : Int := if 30 < l.length then 8 else goE (nodeErr l) l.length
end L
set_option maxRecDepth 8000 in
set_option maxHeartbeats 4000000 in
theorem TreeErr_any (A : Option Addr) (n c B : Nat) (vs : List (L.Node × L.Place)) (w : World) (h1 : Nodes w B A n vs) (hB1 : B ≤ w.heap.size) (hn : n ≤ 100) (hm : ∀ q ∈ vs, q.2.n1 ≤ 100 ∧ q.2.n2 ≤ 100) :
    Calls Tryz.prog 8 #[.slice A n c] w fun e w' => e = .returned (.int .i64 (L.rTreeErr (vs.map Prod.fst))) ∧ Below w.heap.size w w' := by
  have e1 := Lib.hid h1.len
  have HM := Lib.hid hm
  clear hm
  have hlen : Hid (n = (vs.map Prod.fst).length) := Lib.hid (by rw [List.length_map]; exact e1.out)
  by_cases h30 : 30 < n
  · have HR : Hid (L.rTreeErr (vs.map Prod.fst) = 8) := Lib.hid (by unfold L.rTreeErr; rw [← hlen.out, if_pos h30])
    have h30' : (30 : Int) < (n : Int) := by omega
    clear h1
    have st := St.start w
    go_enter Tryz.func8, Tryz.ntmps8
    go_wp2_with (refine WL.out ?_; (repeat ((refine WL.op ?_ ?_; (exact rfl); intro K hK; (((with_reducible apply ow_eval); (go_simp <;> (try simp (disch := omega) only [wrap_id, sub_left, zac]) <;> rfl); ((with_reducible apply up_value)))); refine WL.next hK (by simp only [Act.put, zpt, zsz, zss]; exact rfl) ?_; clear hK K))); (try refine WL.nil ?_))
    go_ret
    exact ⟨ret_int HR.out.symm, st.below⟩
  · have HR : Hid (L.rTreeErr (vs.map Prod.fst) = L.goE (L.nodeErr (vs.map Prod.fst)) n) := Lib.hid (by unfold L.rTreeErr; rw [← hlen.out, if_neg h30])
    have h30' : ¬ ((30 : Int) < (n : Int)) := by omega
    have st := St.start w
    go_enter Tryz.func8, Tryz.ntmps8
    go_wp2_with (refine WL.out ?_; (repeat ((refine WL.op ?_ ?_; (exact rfl); intro K hK; (((with_reducible apply ow_eval); (go_simp <;> (try simp (disch := omega) only [wrap_id, sub_left, zac]) <;> rfl); ((with_reducible apply up_value)))); refine WL.next hK (by simp only [Act.put, zpt, zsz, zss]; exact rfl) ?_; clear hK K))); (try refine WL.nil ?_))
    clear st
    go_loopw [3] (fun i wr => ∃ k : Nat, k ≤ n ∧ i = .int .i64 k ∧ Hid (L.goE (L.nodeErr (vs.map Prod.fst)) k = 0) ∧ St w wr []) (fun i _ => n - (intOf i).toNat)
    case atStart => exact ⟨0, Nat.zero_le _, rfl, Lib.hid rfl, St.start w⟩
    case round =>
      obtain ⟨k, hk, rfl, hg, st⟩ := hrel
      by_cases hlt : k < n
      · have hkl : k < vs.length := by rw [← e1.out]; exact hlt
        have HQ := Lib.hid (HM.out _ (L.nx_mem vs k hkl))
        have hr := h1.rows _ (L.nx_mem vs k hkl)
        have R1 := Lib.hid hr.1
        have R2 := Lib.hid hr.2
        have HS : ∀ e : Int, L.nodeErr (vs.map Prod.fst) k = e → e ≠ 0 → L.rTreeErr (vs.map Prod.fst) = e := fun e he h0 => by
          rw [HR.out, L.goE_stop _ hg.out (by rw [he]; exact h0) n hlt, he]
        have HT : L.nodeErr (vs.map Prod.fst) k = 0 → L.goE (L.nodeErr (vs.map Prod.fst)) (k + 1) = 0 := fun he => by rw [L.goE_next _ hg.out, he]
        have HS := Lib.hid HS
        have HT := Lib.hid HT
        obtain ⟨b, o, rfl, hb, hc⟩ := h1.at_ (by omega)
        have hb := Nat.lt_of_lt_of_le hb hB1
        obtain ⟨f0, f1, f2, -⟩ := hc k hlt
        have hkI : (k : Int) < (n : Int) := by omega
        obtain ⟨z, hz⟩ : ∃ z, (L.nx vs k).1.d.rErrs.2 = z := ⟨_, rfl⟩
        have HZ := Lib.hid hz
        clear h1 hr hg hz
        by_cases hk0 : k = 0
        · subst hk0
          by_cases ha : (L.nx vs 0).1.a = -1
          · have HE : Hid (L.nodeErr (vs.map Prod.fst) 0 = z) := Lib.hid (by unfold L.nodeErr; rw [if_pos rfl, ← L.nx_fst, if_pos ha, HZ.out])
            rw [ha] at f0
            clear ha hc
            go_wp2_with (refine WL.out ?_; (repeat (first | (refine WL.op ?_ ?_; (exact rfl); intro K hK; (first | ((first | ((with_reducible apply ow_move); exact rfl) | ((with_reducible apply ow_assign); exact rfl)); (go_simp <;> (try simp (disch := omega) only [wrap_id, sub_left, zac]) <;> rfl)) | ((with_reducible apply ow_old1 st); exact rfl; exact inferInstance; exact rfl; assumption; assumption) | ((with_reducible apply ow_oldC st); exact rfl; exact inferInstance; exact rfl; assumption; assumption; exact rfl) | ((with_reducible apply ow_eval); (go_simp <;> (try simp (disch := omega) only [wrap_id, sub_left, zac]) <;> rfl); first | (with_reducible apply up_value) | ((with_reducible apply up_enter); ((go_at_call 14; refine (rDescriptorErr_any (L.nx vs 0).1.d (L.nx vs 0).2.A1 (L.nx vs 0).2.A2 (L.nx vs 0).2.n1 (L.nx vs 0).2.n2 (L.nx vs 0).2.c1 (L.nx vs 0).2.c2 B _ (R1.out.st st hB1) (R2.out.st st hB1) (Nat.le_trans hB1 st.size) HQ.out.1 HQ.out.2).mono ?_; rw [HZ.out]; rintro e w' ⟨rfl, hb⟩; replace st := st.call hb; clear hb; refine ⟨_, rfl, ?_⟩))))); refine WL.next hK (by simp only [Act.put, zpt, zsz, zss]; exact rfl) ?_; clear hK K) | (refine WL.skip ?_ (by simp only [Act.put, zpt, zsz, zss]; exact rfl) ?_; (exact rfl)))); (try refine WL.nil ?_))
            · go_ret
              exact ⟨ret_int (HS.out z HE.out (by simp_all)).symm, st.below⟩
            · have hz0 : z = 0 := by simp_all
              exact ⟨⟨1, by omega, (by (rfl)), Lib.hid (HT.out (by rw [HE.out, hz0])), st⟩, by simp [intOf]; omega⟩
          · have HE : Hid (L.nodeErr (vs.map Prod.fst) 0 = 6) := Lib.hid (by unfold L.nodeErr; rw [if_pos rfl, ← L.nx_fst, if_neg ha])
            have ha' : ((L.nx vs 0).1.a != -1) = true := by simpa using ha
            clear ha hc
            go_wp2_with (refine WL.out ?_; (repeat (first | (refine WL.op ?_ ?_; (exact rfl); intro K hK; (first | ((((with_reducible apply ow_move); exact rfl)); (go_simp <;> (try simp (disch := omega) only [wrap_id, sub_left, zac]) <;> rfl)) | ((with_reducible apply ow_old1 st); exact rfl; exact inferInstance; exact rfl; assumption; assumption) | ((with_reducible apply ow_eval); (go_simp <;> (try simp (disch := omega) only [wrap_id, sub_left, zac]) <;> rfl); ((with_reducible apply up_value)))); refine WL.next hK (by simp only [Act.put, zpt, zsz, zss]; exact rfl) ?_; clear hK K) | (refine WL.skip ?_ (by simp only [Act.put, zpt, zsz, zss]; exact rfl) ?_; (exact rfl)))); (try refine WL.nil ?_))
            go_ret
            exact ⟨ret_int (HS.out 6 HE.out (by decide)).symm, st.below⟩
        · have hk1 : ((k : Int) == 0) = false := by simpa using hk0
          have hk2 : (0 : Int) < (k : Int) := by omega
          have hwk : IntKind.i64.wrap ((k : Int) - 1) = (k : Int) - 1 := wrap_id (by omega) (by omega)
          cases hw : L.within (L.nx vs k).1.a 0 ((k : Int) - 1) with
          | false =>
            have HE : Hid (L.nodeErr (vs.map Prod.fst) k = 6) := Lib.hid (by unfold L.nodeErr; rw [if_neg hk0, ← L.nx_fst, hw]; rfl)
            clear hc
            go_wp2_with (refine WL.out ?_; (repeat (first | (refine WL.op ?_ ?_; (first | exact rfl | (simp [Region.wanted, yielded] <;> omega)); intro K hK; (first | ((((with_reducible apply ow_move); exact rfl)); (go_simp <;> (try simp (disch := omega) only [wrap_id, sub_left, zac]) <;> rfl)) | ((with_reducible apply ow_old1 st); exact rfl; exact inferInstance; exact rfl; assumption; assumption) | ((with_reducible apply ow_eval); (go_simp <;> (try simp (disch := omega) only [wrap_id, sub_left, zac]) <;> rfl); first | (with_reducible apply up_value) | ((with_reducible apply up_enter); ((go_at_call 31; refine (Within_any _ _ _ _).mono ?_; rintro e w' ⟨rfl, rfl⟩; refine ⟨_, rfl, ?_⟩))))); refine WL.next hK (by simp only [Act.put, zpt, zsz, zss]; exact rfl) ?_; clear hK K) | (refine WL.skip ?_ (by simp only [Act.put, zpt, zsz, zss]; exact rfl) ?_; (exact rfl)))); (try refine WL.nil ?_))
            go_ret
            exact ⟨ret_int (HS.out 6 HE.out (by decide)).symm, st.below⟩
          | true =>
            have hw2 := hw
            unfold L.within at hw2
            simp only [Bool.and_eq_true, decide_eq_true_eq] at hw2
            obtain ⟨j, hj⟩ : ∃ j : Nat, (L.nx vs k).1.a = (j : Int) := ⟨(L.nx vs k).1.a.toNat, by omega⟩
            have hjk : j < k := by omega
            have hjn : j < n := by omega
            have hjI : (j : Int) < (n : Int) := by omega
            obtain ⟨-, g1, -, -⟩ := hc j hjn
            have hE0 : L.nodeErr (vs.map Prod.fst) k = if (L.nx vs j).1.k = true then z else 35 := by
              unfold L.nodeErr
              rw [if_neg hk0, ← L.nx_fst, hw, if_pos rfl, ← L.nx_fst, hj, HZ.out]
              rfl
            rw [hj] at f0 hw
            clear hc hw2 hj
            cases hd : (L.nx vs j).1.k with
            | false =>
              have HE : Hid (L.nodeErr (vs.map Prod.fst) k = 35) := Lib.hid (by rw [hE0, hd]; rfl)
              rw [hd] at g1
              clear hE0 hd
              go_wp2_with (refine WL.out ?_; (repeat (first | (refine WL.op ?_ ?_; (first | exact rfl | (simp [Region.wanted, yielded] <;> omega)); intro K hK; (first | ((((with_reducible apply ow_move); exact rfl)); (go_simp <;> (try simp (disch := omega) only [wrap_id, sub_left, zac]) <;> rfl)) | ((with_reducible apply ow_old1 st); exact rfl; exact inferInstance; exact rfl; assumption; assumption) | ((with_reducible apply ow_eval); (go_simp <;> (try simp (disch := omega) only [wrap_id, sub_left, zac]) <;> rfl); first | (with_reducible apply up_value) | ((with_reducible apply up_enter); ((go_at_call 31; refine (Within_any _ _ _ _).mono ?_; rintro e w' ⟨rfl, rfl⟩; refine ⟨_, rfl, ?_⟩))))); refine WL.next hK (by simp only [Act.put, zpt, zsz, zss]; exact rfl) ?_; clear hK K) | (refine WL.skip ?_ (by simp only [Act.put, zpt, zsz, zss]; exact rfl) ?_; (exact rfl)))); (try refine WL.nil ?_))
              go_ret
              exact ⟨ret_int (HS.out 35 HE.out (by decide)).symm, st.below⟩
            | true =>
              have HE : Hid (L.nodeErr (vs.map Prod.fst) k = z) := Lib.hid (by rw [hE0, hd]; rfl)
              rw [hd] at g1
              clear hE0 hd
              go_wp2_with (refine WL.out ?_; (repeat (first | (refine WL.op ?_ ?_; (first | exact rfl | (simp [Region.wanted, yielded] <;> omega)); intro K hK; (first | ((first | ((with_reducible apply ow_move); exact rfl) | ((with_reducible apply ow_assign); exact rfl)); (go_simp <;> (try simp (disch := omega) only [wrap_id, sub_left, zac]) <;> rfl)) | ((with_reducible apply ow_old1 st); exact rfl; exact inferInstance; exact rfl; assumption; assumption) | ((with_reducible apply ow_oldC st); exact rfl; exact inferInstance; exact rfl; assumption; assumption; exact rfl) | ((with_reducible apply ow_eval); (go_simp <;> (try simp (disch := omega) only [wrap_id, sub_left, zac]) <;> rfl); first | (with_reducible apply up_value) | ((with_reducible apply up_enter); first | (go_at_call 31; refine (Within_any _ _ _ _).mono ?_; rintro e w' ⟨rfl, rfl⟩; refine ⟨_, rfl, ?_⟩) | (go_at_call 14; refine (rDescriptorErr_any (L.nx vs k).1.d (L.nx vs k).2.A1 (L.nx vs k).2.A2 (L.nx vs k).2.n1 (L.nx vs k).2.n2 (L.nx vs k).2.c1 (L.nx vs k).2.c2 B _ (R1.out.st st hB1) (R2.out.st st hB1) (Nat.le_trans hB1 st.size) HQ.out.1 HQ.out.2).mono ?_; rw [HZ.out]; rintro e w' ⟨rfl, hb⟩; replace st := st.call hb; clear hb; refine ⟨_, rfl, ?_⟩)))); refine WL.next hK (by simp only [Act.put, zpt, zsz, zss]; exact rfl) ?_; clear hK K) | (refine WL.skip ?_ (by simp only [Act.put, zpt, zsz, zss]; exact rfl) ?_; (exact rfl)))); (try refine WL.nil ?_))
              · go_ret
                exact ⟨ret_int (HS.out z HE.out (by simp_all)).symm, st.below⟩
              · have hz0 : z = 0 := by simp_all
                have hwr : IntKind.i64.wrap ((k : Int) + 1) = (k : Int) + 1 := by rw [IntKind.wrap_i64]; omega
                exact ⟨⟨k + 1, by omega, by (try rw [hwr]); go_num, Lib.hid (HT.out (by rw [HE.out, hz0])), st⟩, by (try simp only [hwr]); simp [intOf]; omega⟩
      · have hkn : k = n := by omega
        subst hkn
        clear h1
        go_wp2
        go_ret
        exact ⟨ret_int (by rw [HR.out, hg.out]), st.below⟩
end Go.Proofs.YtppjhccdgbheiaaGreatDoor
namespace Go.Proofs.YtppjhccdgbheiaaGreatDoor
open Go.RowKit Go.Hp
instance oneT_nodes : OneT Tryz.prog 22 := ⟨fun _ => by kernel_rfl, fun _ => by kernel_rfl⟩
theorem descriptorErr_is {d : L.Desc} {z : Int} (hz : d.rErrs.2 = z) (A1 A2 : Option Addr) (n1 n2 c1 c2 B : Nat) (w : World) (h1 : Aces w B A1 n1 d.e) (h2 : Aces w B A2 n2 d.a) (hB1 : B ≤ w.heap.size) (hn1 : n1 ≤ 100) (hn2 : n2 ≤ 100) :
    Calls Tryz.prog 37 #[.agg #[.int .i64 d.o, .int .i64 d.g, .bool d.p, .bool d.h, .slice A1 n1 c1, .slice A2 n2 c2]] w fun e w' => e = .returned (.int .i64 z) ∧ Below w.heap.size w w' :=
  (descriptorErr_any d A1 A2 n1 n2 c1 c2 B w h1 h2 hB1 hn1 hn2).mono fun e w' h => by rw [L.Desc.err_eq, hz] at h; exact h
set_option maxRecDepth 8000 in
set_option maxHeartbeats 4000000 in
theorem treeErr1_any (A : Option Addr) (n c B Bl k : Nat) (vs : List (L.Node × L.Place)) (w : World) (h1 : Nodes w B A n vs) (hB1 : B ≤ w.heap.size) (hn : n ≤ 100) (hm : ∀ q ∈ vs, q.2.n1 ≤ 100 ∧ q.2.n2 ≤ 100) (hBl : Bl < w.heap.size) (hl : w.cell? ⟨Bl, 0, none⟩ = some (.slice A n c)) (hlt : k < n) :
    Calls Tryz.prog 86 #[.int .i64 k, .agg #[.int .i64 (L.nx vs k).1.a, .bool (L.nx vs k).1.k, .int .i64 (L.nx vs k).1.d.o, .int .i64 (L.nx vs k).1.d.g, .bool (L.nx vs k).1.d.p, .bool (L.nx vs k).1.d.h, .slice (L.nx vs k).2.A1 (L.nx vs k).2.n1 (L.nx vs k).2.c1, .slice (L.nx vs k).2.A2 (L.nx vs k).2.n2 (L.nx vs k).2.c2], .pointer (some ⟨Bl, 0, none⟩)] w fun e w' => e = .returned (.int .i64 (L.nodeErr (vs.map Prod.fst) k)) ∧ Below w.heap.size w w' := by
  have e1 := Lib.hid h1.len
  have hkl : k < vs.length := by rw [← e1.out]; exact hlt
  have HQ := Lib.hid (hm _ (L.nx_mem vs k hkl))
  have hr := h1.rows _ (L.nx_mem vs k hkl)
  have R1 := Lib.hid hr.1
  have R2 := Lib.hid hr.2
  obtain ⟨z, hz⟩ : ∃ z, (L.nx vs k).1.d.rErrs.2 = z := ⟨_, rfl⟩
  have HZ := Lib.hid hz
  clear hm hr hz
  have st := St.start w
  by_cases hk0 : k = 0
  · have hk1 : ((k : Int) == 0) = true := by simpa using hk0
    have HE : Hid (L.nodeErr (vs.map Prod.fst) k = L.firstErr [L.unles ((L.nx vs k).1.a == -1) 6, z]) := Lib.hid (by
      unfold L.nodeErr
      rw [if_pos hk0, ← L.nx_fst]
      subst hk0
      rw [HZ.out]
      by_cases ha : (L.nx vs 0).1.a = -1
      · rw [if_pos ha, ha]
        by_cases hz : z = 0
        · rw [hz]; rfl
        · simp [L.firstErr, L.unles, hz]
      · have hb : ((L.nx vs 0).1.a == -1) = false := by simpa using ha
        rw [if_neg ha, hb]; rfl)
    clear hl h1 hk0
    go_enter Tryz.func86, Tryz.ntmps86
    go_wp2_with (refine WL.out ?_; (repeat ((refine WL.op ?_ ?_; (exact rfl); intro K hK; (first | ((((with_reducible apply ow_assign); exact rfl)); (go_simp <;> (try simp (disch := omega) only [wrap_id, sub_left, zac]) <;> rfl)) | ((((with_reducible apply ow_box st); exact rfl; (go_simp <;> (try simp (disch := omega) only [wrap_id, sub_left, zac]) <;> rfl); (go_simp <;> (try simp (disch := omega) only [wrap_id, sub_left, zac]) <;> rfl))); (try clear st); intro b w' st) | ((with_reducible apply ow_eval); (go_simp <;> (try simp (disch := omega) only [wrap_id, sub_left, zac]) <;> rfl); ((with_reducible apply up_value)))); refine WL.next hK (by simp only [Act.put, zpt, zsz, zss]; exact rfl) ?_; clear hK K))); (try refine WL.nil ?_))
    refine wp_region_plan 7 (by kernel_rfl) (by kernel_rfl) ?_; replace st := st.drew; generalize World.drew _ = W at st ⊢
    iterate 3 (apply Plan.val'; (focus (intro x0 x1 x2 x3 x4 x5 x6 w1 hb; (try simp only [depF, fillA, Act.put, zta, ztz, zpt, zsz, zss, zl0, zls]); (repeat (rintro rfl)); have st := st.call hb; (first | (apply Yphi.run; (exact rfl); (go_simp <;> (try simp (disch := omega) only [wrap_id, sub_left, zac]) <;> rfl); exact rfl) | (apply Yphi.load1 st; exact rfl; exact inferInstance; (exact rfl); exact rfl; (exact get0); exact rfl)))); (simp only [zca, zcn] <;> exact rfl))
    (apply Plan.val'; (focus (intro x0 x1 x2 x3 x4 x5 x6 w1 hb; (try simp only [depF, fillA, Act.put, zta, ztz, zpt, zsz, zss, zl0, zls]); (repeat (rintro rfl)); have st := st.call hb; apply Yphi.call; (exact rfl); (go_simp <;> (try simp (disch := omega) only [wrap_id, sub_left, zac]) <;> rfl); exact rfl; refine (unles_any _ _ _).mono ?_; rintro e w' ⟨rfl, rfl⟩; exact ⟨_, rfl, Below.refl _ _, rfl⟩)); (simp only [zca, zcn] <;> exact rfl))
    iterate 2 (apply Plan.val'; (focus (intro x0 x1 x2 x3 x4 x5 x6 w1 hb; (try simp only [depF, fillA, Act.put, zta, ztz, zpt, zsz, zss, zl0, zls]); (repeat (rintro rfl)); have st := st.call hb; (first | (apply Yphi.run; (exact rfl); (go_simp <;> (try simp (disch := omega) only [wrap_id, sub_left, zac]) <;> rfl); exact rfl) | (apply Yphi.loadN st; exact rfl; exact inferInstance; (exact rfl); exact rfl; (exact get0); ((try simp only [zta, ztz, zda, zdz, zca, zcn, zan, zsz, zss]) <;> exact rfl); exact rfl)))); (simp only [zca, zcn] <;> exact rfl))
    (apply Plan.val'; (focus (intro x0 x1 x2 x3 x4 x5 x6 w1 hb; (try simp only [depF, fillA, Act.put, zta, ztz, zpt, zsz, zss, zl0, zls]); (repeat (rintro rfl)); have st := st.call hb; apply Yphi.call; (exact rfl); (go_simp <;> (try simp (disch := omega) only [wrap_id, sub_left, zac]) <;> rfl); exact rfl; refine (descriptorErr_is HZ.out (L.nx vs k).2.A1 (L.nx vs k).2.A2 (L.nx vs k).2.n1 (L.nx vs k).2.n2 (L.nx vs k).2.c1 (L.nx vs k).2.c2 B _ (R1.out.st st hB1) (R2.out.st st hB1) (Nat.le_trans hB1 st.size) HQ.out.1 HQ.out.2).mono ?_; rintro e w' ⟨rfl, hb'⟩; exact ⟨_, rfl, hb', rfl⟩)); (simp only [zca, zcn] <;> exact rfl))
    intro x0 x1 x2 x3 x4 x5 x6 lo hi w1 hb hap
    rintro rfl rfl rfl rfl rfl rfl rfl
    simp only [allPhi, fillA, Act.put, zta, ztz, zpt, zsz, zss, zda, zdz]
    have st := st.call hb
    clear hap hb
    go_wp2_with (refine WL.out ?_; (repeat ((refine WL.op ?_ ?_; (exact rfl); intro K hK; (first | ((((with_reducible apply ow_assign); exact rfl)); (go_simp <;> (try simp (disch := omega) only [wrap_id, sub_left, zac]) <;> rfl)) | ((((with_reducible apply ow_newSlice st); exact rfl; (go_simp <;> (try simp (disch := omega) only [wrap_id, sub_left, zac]) <;> rfl); exact rfl)); (try clear st); intro b w' st) | ((with_reducible apply ow_eval); (go_simp <;> (try simp (disch := omega) only [wrap_id, sub_left, zac]) <;> rfl); (((with_reducible apply up_enter); ((go_at_call 44; refine (first_st2 st).mono ?_; rintro e w' ⟨rfl, rfl⟩; refine ⟨_, rfl, ?_⟩)))))); refine WL.next hK (by simp only [Act.put, zpt, zsz, zss]; exact rfl) ?_; clear hK K))); (try refine WL.nil ?_))
    go_ret
    exact ⟨ret_int HE.out.symm, st.below⟩
  · have hk1 : ((k : Int) == 0) = false := by simpa using hk0
    have hwk : IntKind.i64.wrap ((k : Int) - 1) = (k : Int) - 1 := wrap_id (by omega) (by omega)
    cases hw : L.within (L.nx vs k).1.a 0 ((k : Int) - 1) with
    | false =>
      have HE : Hid (L.nodeErr (vs.map Prod.fst) k = 6) := Lib.hid (by unfold L.nodeErr; rw [if_neg hk0, ← L.nx_fst, hw]; rfl)
      clear hl h1 hk0
      go_enter Tryz.func86, Tryz.ntmps86
      go_wp2_with (refine WL.out ?_; (repeat ((refine WL.op ?_ ?_; (exact rfl); intro K hK; (first | ((first | ((with_reducible apply ow_move); exact rfl) | ((with_reducible apply ow_assign); exact rfl)); (go_simp <;> (try simp (disch := omega) only [wrap_id, sub_left, zac]) <;> rfl)) | ((((with_reducible apply ow_load1 st); exact rfl; exact inferInstance; exact rfl; (exact get0))); exact rfl) | ((((with_reducible apply ow_box st); exact rfl; (go_simp <;> (try simp (disch := omega) only [wrap_id, sub_left, zac]) <;> rfl); (go_simp <;> (try simp (disch := omega) only [wrap_id, sub_left, zac]) <;> rfl))); (try clear st); intro b w' st) | ((with_reducible apply ow_eval); (go_simp <;> (try simp (disch := omega) only [wrap_id, sub_left, zac]) <;> rfl); first | (with_reducible apply up_value) | ((with_reducible apply up_enter); ((go_at_call 87; refine (within_any _ _ _ _).mono ?_; rintro e w' ⟨rfl, rfl⟩; refine ⟨_, rfl, ?_⟩))))); refine WL.next hK (by simp only [Act.put, zpt, zsz, zss]; exact rfl) ?_; clear hK K))); (try refine WL.nil ?_))
      go_ret
      exact ⟨ret_int HE.out.symm, st.below⟩
    | true =>
      have hw2 := hw
      unfold L.within at hw2
      simp only [Bool.and_eq_true, decide_eq_true_eq] at hw2
      obtain ⟨j, hj⟩ : ∃ j : Nat, (L.nx vs k).1.a = (j : Int) := ⟨(L.nx vs k).1.a.toNat, by omega⟩
      have hjn : j < n := by omega
      have hjI : (j : Int) < (n : Int) := by omega
      obtain ⟨b, o, rfl, hb, hc⟩ := h1.at_ (by omega)
      have hb := Nat.lt_of_lt_of_le hb hB1
      obtain ⟨-, g1, -, -⟩ := hc j hjn
      have HE : Hid (L.nodeErr (vs.map Prod.fst) k = L.firstErr [L.unles (L.nx vs j).1.k 35, z]) := Lib.hid (by
        unfold L.nodeErr
        rw [if_neg hk0, ← L.nx_fst, hw, if_pos rfl, ← L.nx_fst, hj, HZ.out]
        show (if (L.nx vs j).1.k = true then z else 35) = _
        cases (L.nx vs j).1.k with
        | false => rfl
        | true =>
          by_cases hz : z = 0
          · rw [hz]; rfl
          · simp [L.firstErr, L.unles, hz])
      rw [hj] at hw ⊢
      have HC := Lib.hid hl
      have hcl : w.cell? ⟨Bl, 0, none⟩ = some (.slice (some ⟨b, o, none⟩) n c) := hl
      clear hl h1 hk0 hc hw2 hj
      go_enter Tryz.func86, Tryz.ntmps86
      go_wp2_with (refine WL.out ?_; (repeat ((refine WL.op ?_ ?_; (exact rfl); intro K hK; (first | ((first | ((with_reducible apply ow_move); exact rfl) | ((with_reducible apply ow_assign); exact rfl)); (go_simp <;> (try simp (disch := omega) only [wrap_id, sub_left, zac]) <;> rfl)) | ((((with_reducible apply ow_load1 st); exact rfl; exact inferInstance; exact rfl; (exact get0))); exact rfl) | ((((with_reducible apply ow_box st); exact rfl; (go_simp <;> (try simp (disch := omega) only [wrap_id, sub_left, zac]) <;> rfl); (go_simp <;> (try simp (disch := omega) only [wrap_id, sub_left, zac]) <;> rfl))); (try clear st); intro b w' st) | ((with_reducible apply ow_eval); (go_simp <;> (try simp (disch := omega) only [wrap_id, sub_left, zac]) <;> rfl); first | (with_reducible apply up_value) | ((with_reducible apply up_enter); ((go_at_call 87; refine (within_any _ _ _ _).mono ?_; rintro e w' ⟨rfl, rfl⟩; refine ⟨_, rfl, ?_⟩))))); refine WL.next hK (by simp only [Act.put, zpt, zsz, zss]; exact rfl) ?_; clear hK K))); (try refine WL.nil ?_))
      refine wp_region_plan 10 (by kernel_rfl) (by kernel_rfl) ?_; replace st := st.drew; generalize World.drew _ = W at st ⊢
      iterate 6 (apply Plan.val'; (focus (intro x0 x1 x2 x3 x4 x5 x6 x7 x8 x9 w1 hb; (try simp only [depF, fillA, Act.put, zta, ztz, zpt, zsz, zss, zl0, zls]); (repeat (rintro rfl)); have st := st.call hb; (first | (apply Yphi.run; (exact rfl); (go_simp <;> (try simp (disch := omega) only [wrap_id, sub_left, zac]) <;> rfl); exact rfl) | (apply Yphi.load1 st; exact rfl; exact inferInstance; (exact rfl); exact rfl; (exact get0); exact rfl) | (apply Yphi.old1 st; exact rfl; exact inferInstance; (exact rfl); exact rfl; assumption; assumption)))); (simp only [zca, zcn] <;> exact rfl))
      (apply Plan.val'; (focus (intro x0 x1 x2 x3 x4 x5 x6 x7 x8 x9 w1 hb; (try simp only [depF, fillA, Act.put, zta, ztz, zpt, zsz, zss, zl0, zls]); (repeat (rintro rfl)); have st := st.call hb; apply Yphi.call; (exact rfl); (go_simp <;> (try simp (disch := omega) only [wrap_id, sub_left, zac]) <;> rfl); exact rfl; refine (unles_any _ _ _).mono ?_; rintro e w' ⟨rfl, rfl⟩; exact ⟨_, rfl, Below.refl _ _, rfl⟩)); (simp only [zca, zcn] <;> exact rfl))
      iterate 2 (apply Plan.val'; (focus (intro x0 x1 x2 x3 x4 x5 x6 x7 x8 x9 w1 hb; (try simp only [depF, fillA, Act.put, zta, ztz, zpt, zsz, zss, zl0, zls]); (repeat (rintro rfl)); have st := st.call hb; (first | (apply Yphi.run; (exact rfl); (go_simp <;> (try simp (disch := omega) only [wrap_id, sub_left, zac]) <;> rfl); exact rfl) | (apply Yphi.loadN st; exact rfl; exact inferInstance; (exact rfl); exact rfl; (exact get0); ((try simp only [zta, ztz, zda, zdz, zca, zcn, zan, zsz, zss]) <;> exact rfl); exact rfl)))); (simp only [zca, zcn] <;> exact rfl))
      (apply Plan.val'; (focus (intro x0 x1 x2 x3 x4 x5 x6 x7 x8 x9 w1 hb; (try simp only [depF, fillA, Act.put, zta, ztz, zpt, zsz, zss, zl0, zls]); (repeat (rintro rfl)); have st := st.call hb; apply Yphi.call; (exact rfl); (go_simp <;> (try simp (disch := omega) only [wrap_id, sub_left, zac]) <;> rfl); exact rfl; refine (descriptorErr_is HZ.out (L.nx vs k).2.A1 (L.nx vs k).2.A2 (L.nx vs k).2.n1 (L.nx vs k).2.n2 (L.nx vs k).2.c1 (L.nx vs k).2.c2 B _ (R1.out.st st hB1) (R2.out.st st hB1) (Nat.le_trans hB1 st.size) HQ.out.1 HQ.out.2).mono ?_; rintro e w' ⟨rfl, hb'⟩; exact ⟨_, rfl, hb', rfl⟩)); (simp only [zca, zcn] <;> exact rfl))
      intro x0 x1 x2 x3 x4 x5 x6 x7 x8 x9 lo hi w1 hb hap
      rintro rfl rfl rfl rfl rfl rfl rfl rfl rfl rfl
      simp only [allPhi, fillA, Act.put, zta, ztz, zpt, zsz, zss, zda, zdz]
      have st := st.call hb
      clear hap hb
      go_wp2_with (refine WL.out ?_; (repeat ((refine WL.op ?_ ?_; (exact rfl); intro K hK; (first | ((((with_reducible apply ow_assign); exact rfl)); (go_simp <;> (try simp (disch := omega) only [wrap_id, sub_left, zac]) <;> rfl)) | ((((with_reducible apply ow_newSlice st); exact rfl; (go_simp <;> (try simp (disch := omega) only [wrap_id, sub_left, zac]) <;> rfl); exact rfl)); (try clear st); intro b w' st) | ((with_reducible apply ow_eval); (go_simp <;> (try simp (disch := omega) only [wrap_id, sub_left, zac]) <;> rfl); (((with_reducible apply up_enter); ((go_at_call 44; refine (first_st2 st).mono ?_; rintro e w' ⟨rfl, rfl⟩; refine ⟨_, rfl, ?_⟩)))))); refine WL.next hK (by simp only [Act.put, zpt, zsz, zss]; exact rfl) ?_; clear hK K))); (try refine WL.nil ?_))
      go_ret
      exact ⟨ret_int HE.out.symm, st.below⟩
set_option maxRecDepth 8000 in
set_option maxHeartbeats 4000000 in
theorem eachN_any (cp : Value) (E : Nat → Int) (A : Option Addr) (n c B : Nat) (vs : List (L.Node × L.Place)) (w : World) (h1 : Nodes w B A n vs) (hB1 : B ≤ w.heap.size) (hn : n ≤ 100)
    (hE : ∀ (k : Nat) (W : World), k < n → Below w.heap.size w W → Calls Tryz.prog 86 #[.int .i64 k, .agg #[.int .i64 (L.nx vs k).1.a, .bool (L.nx vs k).1.k, .int .i64 (L.nx vs k).1.d.o, .int .i64 (L.nx vs k).1.d.g, .bool (L.nx vs k).1.d.p, .bool (L.nx vs k).1.d.h, .slice (L.nx vs k).2.A1 (L.nx vs k).2.n1 (L.nx vs k).2.c1, .slice (L.nx vs k).2.A2 (L.nx vs k).2.n2 (L.nx vs k).2.c2], cp] W fun e w' => e = .returned (.int .i64 (E k)) ∧ Below W.heap.size W w') :
    Calls Tryz.prog 85 #[.slice A n c, .func (.func 86) #[] #[cp]] w fun e w' => ∃ j, e = .returned (.tuple #[.int .i64 j, .int .i64 (L.goE E n)]) ∧ Below w.heap.size w w' := by
  have e1 := Lib.hid h1.len
  have HE := Lib.hid hE
  clear hE
  have st := St.start w
  go_enter Tryz.func85, Tryz.ntmps85
  go_wp2_with (refine WL.out ?_; (repeat ((refine WL.op ?_ ?_; (exact rfl); intro K hK; (first | ((((with_reducible apply ow_move); exact rfl)); (go_simp <;> (try simp (disch := omega) only [wrap_id, sub_left, zac]) <;> rfl)) | ((with_reducible apply ow_eval); (go_simp <;> (try simp (disch := omega) only [wrap_id, sub_left, zac]) <;> rfl); ((with_reducible apply up_value)))); refine WL.next hK (by simp only [Act.put, zpt, zsz, zss]; exact rfl) ?_; clear hK K))); (try refine WL.nil ?_))
  clear st
  go_loopw [11] (fun i wr => ∃ k : Nat, k ≤ n ∧ i = .int .i64 k ∧ Hid (L.goE E k = 0) ∧ St w wr []) (fun i _ => n - (intOf i).toNat)
  case atStart => exact ⟨0, Nat.zero_le _, rfl, Lib.hid rfl, St.start w⟩
  case round =>
    obtain ⟨k, hk, rfl, hg, st⟩ := hrel
    by_cases hlt : k < n
    · obtain ⟨b, o, rfl, hb, hc⟩ := h1.at_ (by omega)
      have hb := Nat.lt_of_lt_of_le hb hB1
      have f3 : OldC w b (o + k * 8) [.int .i64 (L.nx vs k).1.a, .bool (L.nx vs k).1.k, .int .i64 (L.nx vs k).1.d.o, .int .i64 (L.nx vs k).1.d.g, .bool (L.nx vs k).1.d.p, .bool (L.nx vs k).1.d.h, .slice (L.nx vs k).2.A1 (L.nx vs k).2.n1 (L.nx vs k).2.c1, .slice (L.nx vs k).2.A2 (L.nx vs k).2.n2 (L.nx vs k).2.c2] := (hc k hlt).2.2.2
      have hkI : (k : Int) < (n : Int) := by omega
      clear hc h1
      go_wp2_with (refine WL.out ?_; (repeat ((refine WL.op ?_ ?_; (exact rfl); intro K hK; (first | ((first | ((with_reducible apply ow_move); exact rfl) | ((with_reducible apply ow_assign); exact rfl)); (go_simp <;> (try simp (disch := omega) only [wrap_id, sub_left, zac]) <;> rfl)) | ((((with_reducible apply ow_loadN st); exact rfl; exact inferInstance; exact rfl; (exact get0); ((try simp only [zta, ztz, zda, zdz, zca, zcn, zan, zsz, zss]) <;> exact rfl))); exact rfl) | ((((with_reducible apply ow_alloc st); exact rfl; exact inferInstance; (go_simp <;> (try simp (disch := omega) only [wrap_id, sub_left, zac]) <;> rfl))); (try clear st); intro b w' st) | ((((with_reducible apply ow_storeN' st); exact rfl; exact inferInstance; exact rfl; (exact get0); exact rfl)); exact rfl; exact rfl; (simp <;> done); ((try simp only [zta, ztz, zda, zdz, zca, zcn, zan, zsz, zss]) <;> exact rfl); (try clear st); intro w' st) | ((with_reducible apply ow_oldC st); exact rfl; exact inferInstance; exact rfl; assumption; assumption; exact rfl) | ((with_reducible apply ow_eval); (go_simp <;> (try simp (disch := omega) only [wrap_id, sub_left, zac]) <;> rfl); first | (with_reducible apply up_value) | ((with_reducible apply up_enter); ((go_at_call 86; refine (HE.out k _ hlt st.below).mono ?_; rintro e w' ⟨rfl, hb⟩; replace st := st.call hb; clear hb; generalize hz : E k = z; replace hz := Lib.hid hz; refine ⟨_, rfl, ?_⟩))))); refine WL.next hK (by simp only [Act.put, zpt, zsz, zss]; exact rfl) ?_; clear hK K))); (try refine WL.nil ?_))
      · go_ret2
        exact ⟨k, by rw [L.goE_stop E hg.out (by rw [hz.out]; simp_all) n hlt, hz.out]; rfl, st.below⟩
      · have hz0 : z = 0 := by simp_all
        have hwr : IntKind.i64.wrap ((k : Int) + 1) = (k : Int) + 1 := by rw [IntKind.wrap_i64]; omega
        exact ⟨⟨k + 1, by omega, by (try rw [hwr]); go_num, Lib.hid (by rw [L.goE_next E hg.out, hz.out, hz0]), st.sub (List.nil_sublist _)⟩, by (try simp only [hwr]); simp [intOf]; omega⟩
    · have hkn : k = n := by omega
      subst hkn
      clear h1
      go_wp2
      go_ret2
      exact ⟨0, by rw [hg.out]; rfl, st.below⟩
set_option maxHeartbeats 4000000 in
theorem treeErr_any (A : Option Addr) (n c B : Nat) (vs : List (L.Node × L.Place)) (w : World) (h1 : Nodes w B A n vs) (hB1 : B ≤ w.heap.size) (hn : n ≤ 100) (hm : ∀ q ∈ vs, q.2.n1 ≤ 100 ∧ q.2.n2 ≤ 100) :
    Calls Tryz.prog 53 #[.slice A n c] w fun e w' => e = .returned (.int .i64 (L.rTreeErr (vs.map Prod.fst))) ∧ Below w.heap.size w w' := by
  have hlen : n = (vs.map Prod.fst).length := by rw [List.length_map]; exact h1.len
  have HL := Lib.hid hlen
  have H1 := Lib.hid h1
  have HM := Lib.hid hm
  clear hlen h1 hm
  have st := St.start w
  by_cases h30 : 30 < n
  · have HR : Hid (L.rTreeErr (vs.map Prod.fst) = 8) := Lib.hid (by unfold L.rTreeErr; rw [← HL.out, if_pos h30])
    have h30' : (30 : Int) < (n : Int) := by omega
    go_enter Tryz.func53, Tryz.ntmps53
    go_wp2_with (refine WL.out ?_; (repeat ((refine WL.op ?_ ?_; (exact rfl); intro K hK; (first | ((((with_reducible apply ow_assign); exact rfl)); (go_simp <;> (try simp (disch := omega) only [wrap_id, sub_left, zac]) <;> rfl)) | ((((with_reducible apply ow_load1 st); exact rfl; exact inferInstance; exact rfl; (exact get0))); exact rfl) | ((((with_reducible apply ow_box st); exact rfl; (go_simp <;> (try simp (disch := omega) only [wrap_id, sub_left, zac]) <;> rfl); (go_simp <;> (try simp (disch := omega) only [wrap_id, sub_left, zac]) <;> rfl))); (try clear st); intro b w' st) | ((with_reducible apply ow_eval); (go_simp <;> (try simp (disch := omega) only [wrap_id, sub_left, zac]) <;> rfl); ((with_reducible apply up_value)))); refine WL.next hK (by simp only [Act.put, zpt, zsz, zss]; exact rfl) ?_; clear hK K))); (try refine WL.nil ?_))
    go_ret
    exact ⟨ret_int HR.out.symm, st.below⟩
  · have HR : Hid (L.rTreeErr (vs.map Prod.fst) = L.goE (L.nodeErr (vs.map Prod.fst)) n) := Lib.hid (by unfold L.rTreeErr; rw [← HL.out, if_neg h30])
    have h30' : ¬ ((30 : Int) < (n : Int)) := by omega
    go_enter Tryz.func53, Tryz.ntmps53
    go_wp2_with (refine WL.out ?_; (repeat ((refine WL.op ?_ ?_; (exact rfl); intro K hK; (first | ((first | ((with_reducible apply ow_move); exact rfl) | ((with_reducible apply ow_assign); exact rfl)); (go_simp <;> (try simp (disch := omega) only [wrap_id, sub_left, zac]) <;> rfl)) | ((((with_reducible apply ow_load1 st); exact rfl; exact inferInstance; exact rfl; (exact get0))); exact rfl) | ((((with_reducible apply ow_box st); exact rfl; (go_simp <;> (try simp (disch := omega) only [wrap_id, sub_left, zac]) <;> rfl); (go_simp <;> (try simp (disch := omega) only [wrap_id, sub_left, zac]) <;> rfl))); (try clear st); intro b w' st) | ((with_reducible apply ow_eval); (go_simp <;> (try simp (disch := omega) only [wrap_id, sub_left, zac]) <;> rfl); first | (with_reducible apply up_value) | ((with_reducible apply up_enter); ((go_at_call 85; refine (eachN_any _ (L.nodeErr (vs.map Prod.fst)) A n c B vs _ (H1.out.st st hB1) (Nat.le_trans hB1 st.size) hn (fun k W hk hbW => treeErr1_any A n c B _ k vs W ((H1.out.st st hB1).below hbW (Nat.le_trans hB1 st.size)) (Nat.le_trans hB1 (Nat.le_trans st.size hbW.size)) hn HM.out (Nat.lt_of_lt_of_le (Res.holds_lt (st.get (i := 0) rfl) rfl).2 hbW.size) ((hbW.cell (p := ⟨_, 0, none⟩) (Res.holds_lt (st.get (i := 0) rfl) rfl).2).trans (st.cell (i := 0) rfl 0)) hk)).mono ?_; rintro e w' ⟨j, rfl, hb⟩; replace st := st.call hb; clear hb; refine ⟨_, rfl, ?_⟩))))); refine WL.next hK (by simp only [Act.put, zpt, zsz, zss]; exact rfl) ?_; clear hK K))); (try refine WL.nil ?_))
    go_ret
    exact ⟨ret_int HR.out.symm, st.below⟩
end Go.Proofs.YtppjhccdgbheiaaGreatDoor
namespace Go.Proofs.YtppjhccdgbheiaaGreatDoor
open Go.RowKit Go.Hp
set_option maxHeartbeats 400000 in
theorem Equal_any (A1 A2 : Option Addr) (n1 n2 c1 c2 B1 B2 : Nat) (l m : List L.Ace) (w : World) (h1 : Aces w B1 A1 n1 l) (h2 : Aces w B2 A2 n2 m) (hB1 : B1 ≤ w.heap.size) (hB2 : B2 ≤ w.heap.size) (hn : n1 ≤ 1000) (hn2 : n2 ≤ 1000) :
    Calls Tryz.prog 56 #[.slice A1 n1 c1, .slice A2 n2 c2] w fun e w' => e = .returned (.bool (L.same l m)) ∧ Below w.heap.size w w' := by
  have e1 := Lib.hid h1.len
  have e2 := Lib.hid h2.len
  by_cases hne : n1 = n2
  · subst hne
    have hnn : (((n1 : Int)) != (n1 : Int)) = false := by simp
    go_enter Tryz.func56, Tryz.ntmps56
    go_wp2
    go_loopw [13] (fun i wr => ∃ k : Nat, k ≤ n1 ∧ i = .int .i64 k ∧ Below w.heap.size w wr ∧ Hid (L.same l m = L.same (l.drop k) (m.drop k))) (fun i _ => n1 - (intOf i).toNat)
    case atStart => exact ⟨0, Nat.zero_le _, rfl, Below.refl _ _, rfl⟩
    case round =>
      obtain ⟨k, hk, rfl, hb, hs⟩ := hrel
      by_cases hlt : k < n1
      · have hst := Lib.hid (L.same_step l m k (by rw [← e1.out]; omega) (by rw [← e2.out]; omega))
        obtain ⟨b, o, rfl, _, hc⟩ := (h1.below hb hB1).at_ (by omega)
        obtain ⟨b', o', rfl, _, hc'⟩ := (h2.below hb hB2).at_ (by omega)
        obtain ⟨f1, f2, f3, f4⟩ := hc k hlt
        obtain ⟨g1, g2, g3, g4⟩ := hc' k hlt
        clear hc hc' h1 h2
        have hq := fun W => neq_ace (L.ax l k) (L.ax m k) W
        by_cases hae : L.aeq (L.ax l k) (L.ax m k) = true
        · have hs' : Hid (L.same l m = L.same (l.drop (k + 1)) (m.drop (k + 1))) := by
            rw [hs.out, hst.out, hae]; rfl
          go_wp2
          go_quiet (fail)
          go_wp2
          (exact ⟨⟨k + 1, by omega, by go_num, by (focus (repeat (first | assumption | refine below_drewN ?_ _))), hs'⟩, by simp [intOf]; omega⟩)
        · simp only [Bool.not_eq_true] at hae
          have hs' : Hid (L.same l m = false) := by
            rw [hs.out, hst.out, hae]; rfl
          go_wp2
          go_quiet (fail)
          go_wp2
          go_ret
          exact ⟨ret_bool hs'.out.symm, by (focus (repeat (first | assumption | refine below_drewN ?_ _)))⟩
      · obtain rfl : k = n1 := by omega
        have hs' : Hid (L.same l m = true) := by
          rw [hs.out, List.drop_eq_nil_of_le (by rw [← e1.out]; omega), List.drop_eq_nil_of_le (by rw [← e2.out]; omega)]; rfl
        go_wp2
        go_ret
        exact ⟨ret_bool hs'.out.symm, by (focus (repeat (assumption)))⟩
  · have hnn : (((n1 : Int)) != (n2 : Int)) = true := by rw [bne_iff_ne]; omega
    have hs := Lib.hid (L.same_len l m (by rw [← e1.out, ← e2.out]; exact hne))
    go_enter Tryz.func56, Tryz.ntmps56
    go_wp2
    go_ret
    exact ⟨ret_bool hs.out.symm, by (focus (repeat (exact Below.refl _ _)))⟩
set_option maxHeartbeats 4000000 in
theorem same_any (d d' : L.Desc) (A1 A2 A1' A2' : Option Addr) (n1 n2 n1' n2' c1 c2 c1' c2' B : Nat) (w : World) (h1 : Aces w B A1 n1 d.e) (h2 : Aces w B A2 n2 d.a) (h1' : Aces w B A1' n1' d'.e) (h2' : Aces w B A2' n2' d'.a) (hB1 : B ≤ w.heap.size)
    (hn1 : n1 ≤ 1000) (hn2 : n2 ≤ 1000) (hn1' : n1' ≤ 1000) (hn2' : n2' ≤ 1000) :
    Calls Tryz.prog 33 #[.agg #[.int .i64 d.o, .int .i64 d.g, .bool d.p, .bool d.h, .slice A1 n1 c1, .slice A2 n2 c2], .agg #[.int .i64 d'.o, .int .i64 d'.g, .bool d'.p, .bool d'.h, .slice A1' n1' c1', .slice A2' n2' c2']] w fun e w' => e = .returned (.bool (d.same d')) ∧ Below w.heap.size w w' := by
  have H1 := Lib.hid h1
  have H2 := Lib.hid h2
  have H1' := Lib.hid h1'
  have H2' := Lib.hid h2'
  clear h1 h2 h1' h2'
  have st := St.start w
  have hs : Hid (d.same d' = (d.o == d'.o && (d.g == d'.g && (d.p == d'.p && (d.h == d'.h && (L.same d.e d'.e && L.same d.a d'.a)))))) := rfl
  by_cases e1 : (d.o == d'.o) = true
  · by_cases e2 : (d.g == d'.g) = true
    · by_cases e3 : (d.p == d'.p) = true
      · by_cases e4 : (d.h == d'.h) = true
        · by_cases e5 : L.same d.e d'.e = true
          · (try simp only [Bool.not_eq_true] at *)
            go_enter Tryz.func33, Tryz.ntmps33
            go_wp2_with (refine WL.out ?_; (repeat ((refine WL.op ?_ ?_; (exact rfl); intro K hK; (first | ((first | ((with_reducible apply ow_move); exact rfl) | ((with_reducible apply ow_assign); exact rfl)); (go_simp <;> (try simp (disch := omega) only [wrap_id, sub_left, zac]) <;> rfl)) | ((((with_reducible apply ow_load1 st); exact rfl; exact inferInstance; exact rfl; (first | exact get0 | exact get1))); exact rfl) | ((((with_reducible apply ow_box st); exact rfl; (go_simp <;> (try simp (disch := omega) only [wrap_id, sub_left, zac]) <;> rfl); (go_simp <;> (try simp (disch := omega) only [wrap_id, sub_left, zac]) <;> rfl))); (try clear st); intro b w' st) | ((with_reducible apply ow_eval); (go_simp <;> (try simp (disch := omega) only [wrap_id, sub_left, zac]) <;> rfl); first | (with_reducible apply up_value) | ((with_reducible apply up_enter); first | ((go_at_call 56; ((with_reducible refine (Equal_any A1 A1' n1 n1' c1 c1' B B d.e d'.e _ (H1.out.st st hB1) (H1'.out.st st hB1) ?_ ?_ hn1 hn1').mono ?_); (focus (have := st.size; omega)); (focus (have := st.size; omega)); rintro e w' ⟨rfl, hb⟩; replace st := st.call hb; clear hb; refine ⟨_, rfl, ?_⟩))) | ((go_at_call 56; ((with_reducible refine (Equal_any A2 A2' n2 n2' c2 c2' B B d.a d'.a _ (H2.out.st st hB1) (H2'.out.st st hB1) ?_ ?_ hn2 hn2').mono ?_); (focus (have := st.size; omega)); (focus (have := st.size; omega)); rintro e w' ⟨rfl, hb⟩; replace st := st.call hb; clear hb; refine ⟨_, rfl, ?_⟩)))))); refine WL.next hK (by simp only [Act.put, zpt, zsz, zss]; exact rfl) ?_; clear hK K))); (try refine WL.nil ?_))
            go_ret
            exact ⟨ret_bool (by rw [hs.out]; simp [*]), st.below⟩
          · (try simp only [Bool.not_eq_true] at *)
            go_enter Tryz.func33, Tryz.ntmps33
            go_wp2_with (refine WL.out ?_; (repeat (first | (refine WL.op ?_ ?_; (exact rfl); intro K hK; (first | ((first | ((with_reducible apply ow_move); exact rfl) | ((with_reducible apply ow_assign); exact rfl)); (go_simp <;> (try simp (disch := omega) only [wrap_id, sub_left, zac]) <;> rfl)) | ((((with_reducible apply ow_load1 st); exact rfl; exact inferInstance; exact rfl; (first | exact get0 | exact get1))); exact rfl) | ((((with_reducible apply ow_box st); exact rfl; (go_simp <;> (try simp (disch := omega) only [wrap_id, sub_left, zac]) <;> rfl); (go_simp <;> (try simp (disch := omega) only [wrap_id, sub_left, zac]) <;> rfl))); (try clear st); intro b w' st) | ((with_reducible apply ow_eval); (go_simp <;> (try simp (disch := omega) only [wrap_id, sub_left, zac]) <;> rfl); first | (with_reducible apply up_value) | ((with_reducible apply up_enter); (((go_at_call 56; ((with_reducible refine (Equal_any A1 A1' n1 n1' c1 c1' B B d.e d'.e _ (H1.out.st st hB1) (H1'.out.st st hB1) ?_ ?_ hn1 hn1').mono ?_); (focus (have := st.size; omega)); (focus (have := st.size; omega)); rintro e w' ⟨rfl, hb⟩; replace st := st.call hb; clear hb; refine ⟨_, rfl, ?_⟩))))))); refine WL.next hK (by simp only [Act.put, zpt, zsz, zss]; exact rfl) ?_; clear hK K) | (refine WL.skip ?_ (by simp only [Act.put, zpt, zsz, zss]; exact rfl) ?_; (exact rfl)))); (try refine WL.nil ?_))
            go_ret
            exact ⟨ret_bool (by rw [hs.out]; simp [*]), st.below⟩
        · (try simp only [Bool.not_eq_true] at *)
          go_enter Tryz.func33, Tryz.ntmps33
          go_wp2_with (refine WL.out ?_; (repeat (first | (refine WL.op ?_ ?_; (exact rfl); intro K hK; (first | ((first | ((with_reducible apply ow_move); exact rfl) | ((with_reducible apply ow_assign); exact rfl)); (go_simp <;> (try simp (disch := omega) only [wrap_id, sub_left, zac]) <;> rfl)) | ((((with_reducible apply ow_load1 st); exact rfl; exact inferInstance; exact rfl; (first | exact get0 | exact get1))); exact rfl) | ((((with_reducible apply ow_box st); exact rfl; (go_simp <;> (try simp (disch := omega) only [wrap_id, sub_left, zac]) <;> rfl); (go_simp <;> (try simp (disch := omega) only [wrap_id, sub_left, zac]) <;> rfl))); (try clear st); intro b w' st) | ((with_reducible apply ow_eval); (go_simp <;> (try simp (disch := omega) only [wrap_id, sub_left, zac]) <;> rfl); ((with_reducible apply up_value)))); refine WL.next hK (by simp only [Act.put, zpt, zsz, zss]; exact rfl) ?_; clear hK K) | (refine WL.skip ?_ (by simp only [Act.put, zpt, zsz, zss]; exact rfl) ?_; (exact rfl)))); (try refine WL.nil ?_))
          go_ret
          exact ⟨ret_bool (by rw [hs.out]; simp [*]), st.below⟩
      · (try simp only [Bool.not_eq_true] at *)
        go_enter Tryz.func33, Tryz.ntmps33
        go_wp2_with (refine WL.out ?_; (repeat (first | (refine WL.op ?_ ?_; (exact rfl); intro K hK; (first | ((first | ((with_reducible apply ow_move); exact rfl) | ((with_reducible apply ow_assign); exact rfl)); (go_simp <;> (try simp (disch := omega) only [wrap_id, sub_left, zac]) <;> rfl)) | ((((with_reducible apply ow_load1 st); exact rfl; exact inferInstance; exact rfl; (first | exact get0 | exact get1))); exact rfl) | ((((with_reducible apply ow_box st); exact rfl; (go_simp <;> (try simp (disch := omega) only [wrap_id, sub_left, zac]) <;> rfl); (go_simp <;> (try simp (disch := omega) only [wrap_id, sub_left, zac]) <;> rfl))); (try clear st); intro b w' st) | ((with_reducible apply ow_eval); (go_simp <;> (try simp (disch := omega) only [wrap_id, sub_left, zac]) <;> rfl); ((with_reducible apply up_value)))); refine WL.next hK (by simp only [Act.put, zpt, zsz, zss]; exact rfl) ?_; clear hK K) | (refine WL.skip ?_ (by simp only [Act.put, zpt, zsz, zss]; exact rfl) ?_; (exact rfl)))); (try refine WL.nil ?_))
        go_ret
        exact ⟨ret_bool (by rw [hs.out]; simp [*]), st.below⟩
    · (try simp only [Bool.not_eq_true] at *)
      go_enter Tryz.func33, Tryz.ntmps33
      go_wp2_with (refine WL.out ?_; (repeat (first | (refine WL.op ?_ ?_; (exact rfl); intro K hK; (first | ((first | ((with_reducible apply ow_move); exact rfl) | ((with_reducible apply ow_assign); exact rfl)); (go_simp <;> (try simp (disch := omega) only [wrap_id, sub_left, zac]) <;> rfl)) | ((((with_reducible apply ow_load1 st); exact rfl; exact inferInstance; exact rfl; (first | exact get0 | exact get1))); exact rfl) | ((((with_reducible apply ow_box st); exact rfl; (go_simp <;> (try simp (disch := omega) only [wrap_id, sub_left, zac]) <;> rfl); (go_simp <;> (try simp (disch := omega) only [wrap_id, sub_left, zac]) <;> rfl))); (try clear st); intro b w' st) | ((with_reducible apply ow_eval); (go_simp <;> (try simp (disch := omega) only [wrap_id, sub_left, zac]) <;> rfl); ((with_reducible apply up_value)))); refine WL.next hK (by simp only [Act.put, zpt, zsz, zss]; exact rfl) ?_; clear hK K) | (refine WL.skip ?_ (by simp only [Act.put, zpt, zsz, zss]; exact rfl) ?_; (exact rfl)))); (try refine WL.nil ?_))
      go_ret
      exact ⟨ret_bool (by rw [hs.out]; simp [*]), st.below⟩
  · (try simp only [Bool.not_eq_true] at *)
    go_enter Tryz.func33, Tryz.ntmps33
    go_wp2_with (refine WL.out ?_; (repeat (first | (refine WL.op ?_ ?_; (exact rfl); intro K hK; (first | ((first | ((with_reducible apply ow_move); exact rfl) | ((with_reducible apply ow_assign); exact rfl)); (go_simp <;> (try simp (disch := omega) only [wrap_id, sub_left, zac]) <;> rfl)) | ((((with_reducible apply ow_load1 st); exact rfl; exact inferInstance; exact rfl; (first | exact get0 | exact get1))); exact rfl) | ((((with_reducible apply ow_box st); exact rfl; (go_simp <;> (try simp (disch := omega) only [wrap_id, sub_left, zac]) <;> rfl); (go_simp <;> (try simp (disch := omega) only [wrap_id, sub_left, zac]) <;> rfl))); (try clear st); intro b w' st) | ((with_reducible apply ow_eval); (go_simp <;> (try simp (disch := omega) only [wrap_id, sub_left, zac]) <;> rfl); ((with_reducible apply up_value)))); refine WL.next hK (by simp only [Act.put, zpt, zsz, zss]; exact rfl) ?_; clear hK K) | (refine WL.skip ?_ (by simp only [Act.put, zpt, zsz, zss]; exact rfl) ?_; (exact rfl)))); (try refine WL.nil ?_))
    go_ret
    exact ⟨ret_bool (by rw [hs.out]; simp [*]), st.below⟩
theorem nCellsOf_one (vs : List (L.Node × L.Place)) : ∀ u ∈ L.nCellsOf vs, u.oneCell' = true := by
  intro u hu
  simp only [L.nCellsOf, List.mem_flatMap] at hu
  obtain ⟨q, _, hu⟩ := hu
  exact nCells_one q u hu
set_option maxHeartbeats 4000000 in
theorem CloneN_any (A : Option Addr) (n c B : Nat) (vs : List (L.Node × L.Place)) (w : World) (h1 : Nodes w B A n vs) (hB1 : B ≤ w.heap.size) (hn : n ≤ 1000) :
    Calls Tryz.prog 54 #[.slice A n c] w fun e w' => ∃ A' c', e = .returned (.slice A' n c') ∧ St w w' [nodeRow (.slice A' n c') n vs] := by
  have e1 := h1.len
  have H1 := Lib.hid h1
  clear h1
  have st := St.start w
  have hT : ∀ (A : Option Addr) (n c : Nat) (W : World), (binOp .eql 22 (.slice A n c) (.slice none 0 0)).run Tryz.prog W = .ok (.bool A.isNone) W := fun A n c W => Lib.run_eql_slice_nil W _ 34 A n c 0 0 (by kernel_rfl)
  cases A with
  | none =>
    have h0 : n = 0 := by
      rcases Nat.eq_zero_or_pos n with hn0 | hn0
      · exact hn0
      · obtain ⟨b, o, hA, _⟩ := H1.out.at_ hn0
        cases hA
    subst h0
    have hv : vs = [] := List.eq_nil_of_length_eq_zero e1.symm
    subst hv
    clear e1
    go_enter Tryz.func54, Tryz.ntmps54
    go_wp2_with (refine WL.out ?_; (repeat ((refine WL.op ?_ ?_; (exact rfl); intro K hK; (((with_reducible apply ow_eval); (go_simp <;> (try simp (disch := omega) only [wrap_id, sub_left, zac]) <;> rfl); ((with_reducible apply up_value)))); refine WL.next hK (by simp only [Act.put, zpt, zsz, zss]; exact rfl) ?_; clear hK K))); (try refine WL.nil ?_))
    go_ret
    exact ⟨none, 0, rfl, st.nilRow _ _⟩
  | some ad =>
    clear e1
    go_enter Tryz.func54, Tryz.ntmps54
    go_wp2_with (refine WL.out ?_; (repeat ((refine WL.op ?_ ?_; (exact rfl); intro K hK; (first | ((first | ((with_reducible apply ow_move); exact rfl) | ((with_reducible apply ow_assign); exact rfl)); (go_simp <;> (try simp (disch := omega) only [wrap_id, sub_left, zac]) <;> rfl)) | ((((with_reducible apply ow_newSlice st); exact rfl; (go_simp <;> (try simp (disch := omega) only [wrap_id, sub_left, zac]) <;> rfl); exact rfl)); (try clear st); intro b w' st) | (replace st := st.toRow (n := 0) (size := 8) rfl (by decide); ((with_reducible apply ow_append 0 st); exact rfl; exact inferInstance; exact rfl; exact rfl; exact rfl; exact (H1.out.st st hB1).rd; exact nCellsOf_one _; (focus (unfold maxLen; omega)); (focus omega); (try clear st); intro A' c' w' st; (try simp only [List.set_cons_zero, List.set_cons_succ, Nat.zero_add, List.nil_append] at st))) | ((with_reducible apply ow_eval); (go_simp <;> (try simp (disch := omega) only [wrap_id, sub_left, zac]) <;> rfl); ((with_reducible apply up_value)))); refine WL.next hK (by simp only [Act.put, zpt, zsz, zss]; exact rfl) ?_; clear hK K))); (try refine WL.nil ?_))
    go_ret
    exact ⟨_, _, rfl, st⟩
end Go.Proofs.YtppjhccdgbheiaaGreatDoor
namespace Go.Proofs.YtppjhccdgbheiaaGreatDoor
open Go.RowKit Go.Hp
namespace L
def rBelow (dir : Bool) (o g : Int) (p : Bool) (own above : List Ace) : List Ace := explicit own ++ if p then [] else rInherited dir o g above
def rChild (above own : Desc) (dir : Bool) : Desc × Bool :=
  if (rBelow dir own.o own.g own.p own.e above.e).length ≤ 16 ∧ (rBelow dir own.o own.g own.p own.a above.a).length ≤ 16 then
    (⟨own.o, own.g, own.p, own.h || (above.h && !own.p), canon (rBelow dir own.o own.g own.p own.e above.e), canon (rBelow dir own.o own.g own.p own.a above.a)⟩, true)
  else (Desc.none, false)
theorem explicit_FOk {l : List Ace} (h : Good l) : ∀ a ∈ explicit l, 0 ≤ a.f ∧ a.f ≤ 31 := fun a ha => ⟨(h a (List.mem_filter.1 ha).1).f0, (h a (List.mem_filter.1 ha).1).f1⟩
theorem onOf_bounds (fi di sp : Bool) : 0 ≤ onOf fi di sp ∧ onOf fi di sp ≤ 3 := by
  cases fi <;> cases di <;> cases sp <;> decide
theorem inh1_FOk (dir fi di sp : Bool) (who : Int) (a : Ace) : ∀ x ∈ inh1 dir fi di sp who a, 0 ≤ x.f ∧ x.f ≤ 31 := by
  intro x hx
  have hb := onOf_bounds fi true sp
  cases dir <;> cases di <;> simp only [inh1] at hx
  · split at hx
    · rw [List.mem_singleton.1 hx]; exact ⟨by show (0 : Int) ≤ 16; decide, by show (16 : Int) ≤ 31; decide⟩
    · cases hx
  · split at hx
    · rw [List.mem_singleton.1 hx]; exact ⟨by show (0 : Int) ≤ 16; decide, by show (16 : Int) ≤ 31; decide⟩
    · cases hx
  · split at hx
    · rw [List.mem_singleton.1 hx]; exact ⟨by show (0 : Int) ≤ 25; decide, by show (25 : Int) ≤ 31; decide⟩
    · cases hx
  · split at hx
    · rw [List.mem_singleton.1 hx]; exact ⟨by show (0 : Int) ≤ 16 + onOf fi true sp; omega, by show 16 + onOf fi true sp ≤ (31 : Int); omega⟩
    · rcases List.mem_cons.1 hx with rfl | hx
      · exact ⟨by show (0 : Int) ≤ 16; decide, by show (16 : Int) ≤ 31; decide⟩
      · rw [List.mem_singleton.1 hx]; exact ⟨by show (0 : Int) ≤ 16 + onOf fi true sp + 8; omega, by show 16 + onOf fi true sp + 8 ≤ (31 : Int); omega⟩
theorem rBelow_FOk (dir : Bool) (o g : Int) (p : Bool) {own above : List Ace} (h : Good own) : ∀ a ∈ rBelow dir o g p own above, 0 ≤ a.f ∧ a.f ≤ 31 := by
  intro a ha
  unfold rBelow at ha
  rcases List.mem_append.1 ha with ha | ha
  · exact explicit_FOk h a ha
  · split at ha
    · cases ha
    · obtain ⟨b, _, hx⟩ := List.mem_flatMap.1 ha
      exact inh1_FOk _ _ _ _ _ _ a hx
end L
def RetDescOk (w : World) (p : L.Desc × Bool) (e : Ending) (w' : World) : Prop := ∃ A1 n1 c1 A2 n2 c2, e = .returned (.tuple #[.agg #[.int .i64 p.1.o, .int .i64 p.1.g, .bool p.1.p, .bool p.1.h, .slice A1 n1 c1, .slice A2 n2 c2], .bool p.2]) ∧ St w w' [aceRow (.slice A1 n1 c1) n1 p.1.e, aceRow (.slice A2 n2 c2) n2 p.1.a]
set_option maxRecDepth 8000 in
set_option maxHeartbeats 4000000 in
theorem rChild_true (o g : Int) (h : Bool) (le la : List L.Ace) (o' g' : Int) (p' h' : Bool) (le' la' : List L.Ace) (dir : Bool) (A1 A2 A1' A2' : Option Addr) (n1 n2 n1' n2' c1 c2 c1' c2' B : Nat) (w : World)
    (h1 : Aces w B A1 n1 le) (h2 : Aces w B A2 n2 la) (h1' : Aces w B A1' n1' le') (h2' : Aces w B A2' n2' la') (hB1 : B ≤ w.heap.size) (hn1 : n1 ≤ 20) (hn2 : n2 ≤ 20) (hn1' : n1' ≤ 20) (hn2' : n2' ≤ 20) (hg1 : L.Good le) (hg2 : L.Good la) (hg1' : L.Good le') (hg2' : L.Good la') :
    Calls Tryz.prog 36 #[.agg #[.int .i64 o', .int .i64 g', .bool p', .bool h', .slice A1' n1' c1', .slice A2' n2' c2'], .agg #[.int .i64 o, .int .i64 g, .bool true, .bool h, .slice A1 n1 c1, .slice A2 n2 c2], .bool dir] w
      (RetDescOk w (L.rChild ⟨o', g', p', h', le', la'⟩ ⟨o, g, true, h, le, la⟩ dir)) := by
  have H1 := Lib.hid h1
  have H2 := Lib.hid h2
  have H1' := Lib.hid h1'
  have H2' := Lib.hid h2'
  have HG1 := Lib.hid hg1
  have HG2 := Lib.hid hg2
  have HG1' := Lib.hid hg1'
  have HG2' := Lib.hid hg2'
  clear h1 h2 h1' h2' hg1 hg2 hg1' hg2'
  have st := St.start w
  have eE := Lib.hid (rfl : L.rBelow dir o g true le le' = L.rBelow dir o g true le le')
  generalize hX : L.rBelow dir o g true le le' = X at eE
  generalize hY : L.rBelow dir o g true la la' = Y at eE
  replace hX := Lib.hid hX
  replace hY := Lib.hid hY
  have hR : Hid (L.rChild ⟨o', g', p', h', le', la'⟩ ⟨o, g, true, h, le, la⟩ dir = if X.length ≤ 16 ∧ Y.length ≤ 16 then (⟨o, g, true, h || (h' && !true), L.canon X, L.canon Y⟩, true) else (L.Desc.none, false)) := Lib.hid (by rw [← hX.out, ← hY.out]; rfl)
  clear eE
  have eX : X = L.explicit le := by rw [← hX.out]; unfold L.rBelow; simp
  have eY : Y = L.explicit la := by rw [← hY.out]; unfold L.rBelow; simp
  subst eX eY
  rcases (show h = true ∨ (h = false ∧ h' = false) ∨ (h = false ∧ h' = true) by cases h <;> cases h' <;> simp) with rfl | ⟨rfl, rfl⟩ | ⟨rfl, rfl⟩
  all_goals
    go_enter Tryz.func36, Tryz.ntmps36
    go_wp2_with (refine WL.out ?_; (repeat (first | (refine WL.op ?_ ?_; (exact rfl); intro K hK; (first | ((first | ((with_reducible apply ow_move); exact rfl) | ((with_reducible apply ow_assign); exact rfl)); (go_simp <;> (try simp (disch := omega) only [wrap_id, sub_left, zac]) <;> rfl)) | ((((with_reducible apply ow_load1 st); exact rfl; exact inferInstance; exact rfl; (first | exact get1 | exact get2 | exact get3))); exact rfl) | ((first | ((with_reducible apply ow_box st); exact rfl; (go_simp <;> (try simp (disch := omega) only [wrap_id, sub_left, zac]) <;> rfl); (go_simp <;> (try simp (disch := omega) only [wrap_id, sub_left, zac]) <;> rfl)) | ((with_reducible apply ow_alloc st); exact rfl; exact inferInstance; (go_simp <;> (try simp (disch := omega) only [wrap_id, sub_left, zac]) <;> rfl))); (try clear st); intro b w' st) | ((first | ((with_reducible apply ow_store1' st); exact rfl; exact inferInstance; exact rfl; (exact get0); (go_simp <;> (try simp (disch := omega) only [wrap_id, sub_left, zac]) <;> rfl)) | ((with_reducible apply ow_storeN' st); exact rfl; exact inferInstance; exact rfl; (exact get0); exact rfl)); exact rfl; exact rfl; (simp <;> done); ((try simp only [zta, ztz, zda, zdz, zca, zcn, zan, zsz, zss]) <;> exact rfl); (try clear st); intro w' st) | ((with_reducible apply ow_eval); (go_simp <;> (try simp (disch := omega) only [wrap_id, sub_left, zac]) <;> rfl); ((with_reducible apply up_value)))); refine WL.next hK (by simp only [Act.put, zpt, zsz, zss]; exact rfl) ?_; clear hK K) | (refine WL.skip ?_ (by simp only [Act.put, zpt, zsz, zss]; exact rfl) ?_; (exact rfl)))); (try refine WL.nil ?_))
    refine wp_region_plan 6 (by kernel_rfl) (by kernel_rfl) ?_; replace st := st.drew; generalize World.drew _ = W at st ⊢
    iterate 2 (apply Plan.val'; (focus (intro x0 x1 x2 x3 x4 x5 w1 hb; (try simp only [depF, fillA, Act.put, zta, ztz, zpt, zsz, zss, zl0, zls]); (repeat (rintro rfl)); have st := st.call hb; (first | (apply Yphi.run; (exact rfl); (go_simp <;> (try simp (disch := omega) only [wrap_id, sub_left, zac]) <;> rfl); exact rfl) | (apply Yphi.load1 st; exact rfl; exact inferInstance; (exact rfl); exact rfl; (exact get2); exact rfl)))); (simp only [zca, zcn] <;> exact rfl))
    (apply Plan.fact' (freshRow 37 4 (L.cellsOf (L.explicit le))) (freshRow_stable _ _ _); (focus (intro x0 x1 x2 x3 x4 x5 w1 hb; (try simp only [depF, fillA, Act.put, zta, ztz, zpt, zsz, zss, zl0, zls]); (repeat (rintro rfl)); have st := st.call hb; apply Yphi.call; (exact rfl); (go_simp <;> (try simp (disch := omega) only [wrap_id, sub_left, zac]) <;> rfl); exact rfl; refine (explicit_any A1 n1 c1 B le _ (H1.out.st st hB1) (by have := st.size; omega) (by omega) HG1.out).mono ?_; rintro e w' ⟨A', n', c', rfl, st'⟩; exact ⟨_, rfl, st'.below, freshRow_mk (st'.get (i := 0) rfl)⟩)); (simp only [zca, zcn] <;> exact rfl))
    iterate 2 (apply Plan.val'; (focus (intro x0 x1 x2 x3 x4 x5 w1 hb; (try simp only [depF, fillA, Act.put, zta, ztz, zpt, zsz, zss, zl0, zls]); (repeat (rintro rfl)); have st := st.call hb; (first | (apply Yphi.run; (exact rfl); (go_simp <;> (try simp (disch := omega) only [wrap_id, sub_left, zac]) <;> rfl); exact rfl) | (apply Yphi.load1 st; exact rfl; exact inferInstance; (exact rfl); exact rfl; (exact get2); exact rfl)))); (simp only [zca, zcn] <;> exact rfl))
    (apply Plan.fact' (freshRow 37 4 (L.cellsOf (L.explicit la))) (freshRow_stable _ _ _); (focus (intro x0 x1 x2 x3 x4 x5 w1 hb; (try simp only [depF, fillA, Act.put, zta, ztz, zpt, zsz, zss, zl0, zls]); (repeat (first | rintro rfl | intro lo hi hlo hhi hphi)); have st := st.call hb; apply Yphi.call; (exact rfl); (go_simp <;> (try simp (disch := omega) only [wrap_id, sub_left, zac]) <;> rfl); exact rfl; refine (explicit_any A2 n2 c2 B la _ (H2.out.st st hB1) (by have := st.size; omega) (by omega) HG2.out).mono ?_; rintro e w' ⟨A', n', c', rfl, st'⟩; exact ⟨_, rfl, st'.below, freshRow_mk (st'.get (i := 0) rfl)⟩)); (simp only [zca, zcn] <;> exact rfl))
    intro x0 x1 x2 x3 x4 x5 lo hi w1 hb hap
    rintro rfl rfl hl1 _ ⟨A3, n3, c3, rfl, ho1, hk1⟩ rfl rfl hl2 _ ⟨A4, n4, c4, rfl, ho2, hk2⟩
    simp only [allPhi, fillA, Act.put, zta, ztz, zpt, zsz, zss, zda, zdz]
    have st := rows_two st hb ho1 hk1 hl1 ho2 hk2 hl2 (hap 2 5 (by omega) (by omega) (by omega))
    clear ho1 hk1 hl1 ho2 hk2 hl2 hap hb
    have a1 := Lib.hid (St.len st (i := 0) rfl)
    have a2 := Lib.hid (St.len st (i := 1) rfl)
    by_cases h3 : (n3 : Int) ≤ 16
    · by_cases h4 : (n4 : Int) ≤ 16
      · go_wp2_with (refine WL.out ?_; (repeat ((refine WL.op ?_ ?_; (first | exact rfl | (simp [Region.wanted, yielded, *] <;> done)); intro K hK; (first | ((first | ((with_reducible apply ow_move); exact rfl) | ((with_reducible apply ow_assign); exact rfl)); (go_simp <;> (try simp (disch := omega) only [wrap_id, sub_left, zac]) <;> rfl)) | ((first | ((with_reducible apply ow_load1 st); exact rfl; exact inferInstance; exact rfl; (exact get4)) | ((with_reducible apply ow_loadN st); exact rfl; exact inferInstance; exact rfl; (exact get4); ((try simp only [zta, ztz, zda, zdz, zca, zcn, zan, zsz, zss]) <;> exact rfl))); exact rfl) | ((first | ((with_reducible apply ow_store1' st); exact rfl; exact inferInstance; exact rfl; (exact get4); (go_simp <;> (try simp (disch := omega) only [wrap_id, sub_left, zac]) <;> rfl)) | ((with_reducible apply ow_storeN' st); exact rfl; exact inferInstance; exact rfl; (exact get5); exact rfl)); exact rfl; exact rfl; (simp <;> done); ((try simp only [zta, ztz, zda, zdz, zca, zcn, zan, zsz, zss]) <;> exact rfl); (try clear st); intro w' st) | ((with_reducible apply ow_eval); (go_simp <;> (try simp (disch := omega) only [wrap_id, sub_left, zac]) <;> rfl); first | (with_reducible apply up_value) | ((with_reducible apply up_enter); first | (go_at_call 61; refine (rCanonical_any _ _ _ _ (L.explicit le) _ (St.aces st (i := 0) rfl) (Nat.le_refl _) (by omega) (L.explicit_FOk HG1.out)).mono ?_; rintro e w' ⟨A5, n5, c5, rfl, st'⟩; replace st := st.join st'; clear st'; simp only [List.cons_append, List.nil_append] at st; refine ⟨_, rfl, ?_⟩) | (go_at_call 61; refine (rCanonical_any _ _ _ _ (L.explicit la) _ (St.aces st (i := 2) rfl) (Nat.le_refl _) (by omega) (L.explicit_FOk HG2.out)).mono ?_; rintro e w' ⟨A6, n6, c6, rfl, st'⟩; replace st := st.join st'; clear st'; simp only [List.cons_append, List.nil_append] at st; refine ⟨_, rfl, ?_⟩)))); refine WL.next hK (by simp only [Act.put, zpt, zsz, zss]; exact rfl) ?_; clear hK K))); (try refine WL.nil ?_))
        refine bodyPost_cell_tmp 5 st rfl inferInstance rfl rfl rfl rfl rfl ?_
        rw [hR.out, if_pos ⟨by have := a1.out; omega, by have := a2.out; omega⟩]
        exact ⟨_, _, _, _, _, _, rfl, st.swap.sub (.cons_cons _ (.cons_cons _ (List.nil_sublist _)))⟩
      · go_wp2_with (refine WL.out ?_; (repeat ((refine WL.op ?_ ?_; (first | exact rfl | (simp [Region.wanted, yielded, *] <;> done)); intro K hK; (first | ((first | ((with_reducible apply ow_move); exact rfl) | ((with_reducible apply ow_assign); exact rfl)); (go_simp <;> (try simp (disch := omega) only [wrap_id, sub_left, zac]) <;> rfl)) | ((((with_reducible apply ow_load1 st); exact rfl; exact inferInstance; exact rfl; (exact get4))); exact rfl) | ((((with_reducible apply ow_storeN' st); exact rfl; exact inferInstance; exact rfl; (exact get3); exact rfl)); exact rfl; exact rfl; (simp <;> done); ((try simp only [zta, ztz, zda, zdz, zca, zcn, zan, zsz, zss]) <;> exact rfl); (try clear st); intro w' st) | ((with_reducible apply ow_eval); (go_simp <;> (try simp (disch := omega) only [wrap_id, sub_left, zac]) <;> rfl); ((with_reducible apply up_value)))); refine WL.next hK (by simp only [Act.put, zpt, zsz, zss]; exact rfl) ?_; clear hK K))); (try refine WL.nil ?_))
        refine bodyPost_cell_tmp 3 st rfl inferInstance rfl rfl rfl rfl rfl ?_
        rw [hR.out, if_neg (by have := a2.out; omega)]
        exact ⟨none, 0, 0, none, 0, 0, rfl, ((st.sub (List.nil_sublist _)).nilRow _ _).nilRow _ _⟩
    · go_wp2_with (refine WL.out ?_; (repeat (first | (refine WL.op ?_ ?_; (exact rfl); intro K hK; (first | ((first | ((with_reducible apply ow_move); exact rfl) | ((with_reducible apply ow_assign); exact rfl)); (go_simp <;> (try simp (disch := omega) only [wrap_id, sub_left, zac]) <;> rfl)) | ((((with_reducible apply ow_load1 st); exact rfl; exact inferInstance; exact rfl; (exact get4))); exact rfl) | ((((with_reducible apply ow_storeN' st); exact rfl; exact inferInstance; exact rfl; (exact get3); exact rfl)); exact rfl; exact rfl; (simp <;> done); ((try simp only [zta, ztz, zda, zdz, zca, zcn, zan, zsz, zss]) <;> exact rfl); (try clear st); intro w' st) | ((with_reducible apply ow_eval); (go_simp <;> (try simp (disch := omega) only [wrap_id, sub_left, zac]) <;> rfl); ((with_reducible apply up_value)))); refine WL.next hK (by simp only [Act.put, zpt, zsz, zss]; exact rfl) ?_; clear hK K) | (refine WL.skip ?_ (by simp only [Act.put, zpt, zsz, zss]; exact rfl) ?_; ((simp [Region.wanted, yielded] <;> omega))))); (try refine WL.nil ?_))
      refine bodyPost_cell_tmp 3 st rfl inferInstance rfl rfl rfl rfl rfl ?_
      rw [hR.out, if_neg (by have := a1.out; omega)]
      exact ⟨none, 0, 0, none, 0, 0, rfl, ((st.sub (List.nil_sublist _)).nilRow _ _).nilRow _ _⟩
set_option maxRecDepth 8000 in
set_option maxHeartbeats 4000000 in
theorem rChild_false (o g : Int) (h : Bool) (le la : List L.Ace) (o' g' : Int) (p' h' : Bool) (le' la' : List L.Ace) (dir : Bool) (A1 A2 A1' A2' : Option Addr) (n1 n2 n1' n2' c1 c2 c1' c2' B : Nat) (w : World)
    (h1 : Aces w B A1 n1 le) (h2 : Aces w B A2 n2 la) (h1' : Aces w B A1' n1' le') (h2' : Aces w B A2' n2' la') (hB1 : B ≤ w.heap.size) (hn1 : n1 ≤ 20) (hn2 : n2 ≤ 20) (hn1' : n1' ≤ 20) (hn2' : n2' ≤ 20) (hg1 : L.Good le) (hg2 : L.Good la) (hg1' : L.Good le') (hg2' : L.Good la') :
    Calls Tryz.prog 36 #[.agg #[.int .i64 o', .int .i64 g', .bool p', .bool h', .slice A1' n1' c1', .slice A2' n2' c2'], .agg #[.int .i64 o, .int .i64 g, .bool false, .bool h, .slice A1 n1 c1, .slice A2 n2 c2], .bool dir] w
      (RetDescOk w (L.rChild ⟨o', g', p', h', le', la'⟩ ⟨o, g, false, h, le, la⟩ dir)) := by
  have H1 := Lib.hid h1
  have H2 := Lib.hid h2
  have H1' := Lib.hid h1'
  have H2' := Lib.hid h2'
  have HG1 := Lib.hid hg1
  have HG2 := Lib.hid hg2
  have HG1' := Lib.hid hg1'
  have HG2' := Lib.hid hg2'
  clear h1 h2 h1' h2' hg1 hg2 hg1' hg2'
  have st := St.start w
  have eE := Lib.hid (rfl : L.rBelow dir o g false le le' = L.rBelow dir o g false le le')
  generalize hX : L.rBelow dir o g false le le' = X at eE
  generalize hY : L.rBelow dir o g false la la' = Y at eE
  replace hX := Lib.hid hX
  replace hY := Lib.hid hY
  have hR : Hid (L.rChild ⟨o', g', p', h', le', la'⟩ ⟨o, g, false, h, le, la⟩ dir = if X.length ≤ 16 ∧ Y.length ≤ 16 then (⟨o, g, false, h || (h' && !false), L.canon X, L.canon Y⟩, true) else (L.Desc.none, false)) := Lib.hid (by rw [← hX.out, ← hY.out]; rfl)
  clear eE
  have eX : X = L.explicit le ++ L.rInherited dir o g le' := by rw [← hX.out]; unfold L.rBelow; simp
  have eY : Y = L.explicit la ++ L.rInherited dir o g la' := by rw [← hY.out]; unfold L.rBelow; simp
  rcases (show h = true ∨ (h = false ∧ h' = false) ∨ (h = false ∧ h' = true) by cases h <;> cases h' <;> simp) with rfl | ⟨rfl, rfl⟩ | ⟨rfl, rfl⟩
  all_goals
    go_enter Tryz.func36, Tryz.ntmps36
    go_wp2_with (refine WL.out ?_; (repeat (first | (refine WL.op ?_ ?_; (exact rfl); intro K hK; (first | ((first | ((with_reducible apply ow_move); exact rfl) | ((with_reducible apply ow_assign); exact rfl)); (go_simp <;> (try simp (disch := omega) only [wrap_id, sub_left, zac]) <;> rfl)) | ((((with_reducible apply ow_load1 st); exact rfl; exact inferInstance; exact rfl; (first | exact get1 | exact get2 | exact get3))); exact rfl) | ((first | ((with_reducible apply ow_box st); exact rfl; (go_simp <;> (try simp (disch := omega) only [wrap_id, sub_left, zac]) <;> rfl); (go_simp <;> (try simp (disch := omega) only [wrap_id, sub_left, zac]) <;> rfl)) | ((with_reducible apply ow_alloc st); exact rfl; exact inferInstance; (go_simp <;> (try simp (disch := omega) only [wrap_id, sub_left, zac]) <;> rfl))); (try clear st); intro b w' st) | ((first | ((with_reducible apply ow_store1' st); exact rfl; exact inferInstance; exact rfl; (exact get0); (go_simp <;> (try simp (disch := omega) only [wrap_id, sub_left, zac]) <;> rfl)) | ((with_reducible apply ow_storeN' st); exact rfl; exact inferInstance; exact rfl; (exact get0); exact rfl)); exact rfl; exact rfl; (simp <;> done); ((try simp only [zta, ztz, zda, zdz, zca, zcn, zan, zsz, zss]) <;> exact rfl); (try clear st); intro w' st) | ((with_reducible apply ow_eval); (go_simp <;> (try simp (disch := omega) only [wrap_id, sub_left, zac]) <;> rfl); ((with_reducible apply up_value)))); refine WL.next hK (by simp only [Act.put, zpt, zsz, zss]; exact rfl) ?_; clear hK K) | (refine WL.skip ?_ (by simp only [Act.put, zpt, zsz, zss]; exact rfl) ?_; (exact rfl)))); (try refine WL.nil ?_))
    refine wp_region_plan 6 (by kernel_rfl) (by kernel_rfl) ?_; replace st := st.drew; generalize World.drew _ = W at st ⊢
    iterate 2 (apply Plan.val'; (focus (intro x0 x1 x2 x3 x4 x5 w1 hb; (try simp only [depF, fillA, Act.put, zta, ztz, zpt, zsz, zss, zl0, zls]); (repeat (rintro rfl)); have st := st.call hb; (first | (apply Yphi.run; (exact rfl); (go_simp <;> (try simp (disch := omega) only [wrap_id, sub_left, zac]) <;> rfl); exact rfl) | (apply Yphi.load1 st; exact rfl; exact inferInstance; (exact rfl); exact rfl; (exact get2); exact rfl)))); (simp only [zca, zcn] <;> exact rfl))
    (apply Plan.fact' (freshRow 37 4 (L.cellsOf (L.explicit le))) (freshRow_stable _ _ _); (focus (intro x0 x1 x2 x3 x4 x5 w1 hb; (try simp only [depF, fillA, Act.put, zta, ztz, zpt, zsz, zss, zl0, zls]); (repeat (rintro rfl)); have st := st.call hb; apply Yphi.call; (exact rfl); (go_simp <;> (try simp (disch := omega) only [wrap_id, sub_left, zac]) <;> rfl); exact rfl; refine (explicit_any A1 n1 c1 B le _ (H1.out.st st hB1) (by have := st.size; omega) (by omega) HG1.out).mono ?_; rintro e w' ⟨A', n', c', rfl, st'⟩; exact ⟨_, rfl, st'.below, freshRow_mk (st'.get (i := 0) rfl)⟩)); (simp only [zca, zcn] <;> exact rfl))
    iterate 2 (apply Plan.val'; (focus (intro x0 x1 x2 x3 x4 x5 w1 hb; (try simp only [depF, fillA, Act.put, zta, ztz, zpt, zsz, zss, zl0, zls]); (repeat (rintro rfl)); have st := st.call hb; (first | (apply Yphi.run; (exact rfl); (go_simp <;> (try simp (disch := omega) only [wrap_id, sub_left, zac]) <;> rfl); exact rfl) | (apply Yphi.load1 st; exact rfl; exact inferInstance; (exact rfl); exact rfl; (exact get2); exact rfl)))); (simp only [zca, zcn] <;> exact rfl))
    (apply Plan.fact' (freshRow 37 4 (L.cellsOf (L.explicit la))) (freshRow_stable _ _ _); (focus (intro x0 x1 x2 x3 x4 x5 w1 hb; (try simp only [depF, fillA, Act.put, zta, ztz, zpt, zsz, zss, zl0, zls]); (repeat (first | rintro rfl | intro lo hi hlo hhi hphi)); have st := st.call hb; apply Yphi.call; (exact rfl); (go_simp <;> (try simp (disch := omega) only [wrap_id, sub_left, zac]) <;> rfl); exact rfl; refine (explicit_any A2 n2 c2 B la _ (H2.out.st st hB1) (by have := st.size; omega) (by omega) HG2.out).mono ?_; rintro e w' ⟨A', n', c', rfl, st'⟩; exact ⟨_, rfl, st'.below, freshRow_mk (st'.get (i := 0) rfl)⟩)); (simp only [zca, zcn] <;> exact rfl))
    intro x0 x1 x2 x3 x4 x5 lo hi w1 hb hap
    rintro rfl rfl hl1 _ ⟨A3, n3, c3, rfl, ho1, hk1⟩ rfl rfl hl2 _ ⟨A4, n4, c4, rfl, ho2, hk2⟩
    simp only [allPhi, fillA, Act.put, zta, ztz, zpt, zsz, zss, zda, zdz]
    have st := rows_two st hb ho1 hk1 hl1 ho2 hk2 hl2 (hap 2 5 (by omega) (by omega) (by omega))
    clear ho1 hk1 hl1 ho2 hk2 hl2 hap hb
    have a1 := Lib.hid (St.len st (i := 0) rfl)
    have a2 := Lib.hid (St.len st (i := 1) rfl)
    have z1 : n3 ≤ 20 := by have h1 := a1.out; have h2 := List.length_filter_le (fun a : L.Ace => !L.has a.f 16) le; have h3 := H1.out.len; unfold L.explicit at h1; omega
    have z2 : n4 ≤ 20 := by have h1 := a2.out; have h2 := List.length_filter_le (fun a : L.Ace => !L.has a.f 16) la; have h3 := H2.out.len; unfold L.explicit at h1; omega
    have z3 := Lib.hid (L.rInherited_len dir o g le')
    have z4 := Lib.hid (L.rInherited_len dir o g la')
    have g3 := Lib.hid H1'.out.len
    have g4 := Lib.hid H2'.out.len
    go_wp2_with (refine WL.out ?_; (repeat ((refine WL.op ?_ ?_; (exact rfl); intro K hK; (first | ((first | ((with_reducible apply ow_move); exact rfl) | ((with_reducible apply ow_assign); exact rfl)); (go_simp <;> (try simp (disch := omega) only [wrap_id, sub_left, zac]) <;> rfl)) | ((((with_reducible apply ow_load1 st); exact rfl; exact inferInstance; exact rfl; (first | exact get4 | exact get5 | exact get6))); exact rfl) | ((with_reducible apply ow_append 1 st); exact rfl; exact inferInstance; exact rfl; exact rfl; exact rfl; exact st.rd (i := 0) rfl; (focus (exact cells_one _)); (focus (unfold maxLen; omega)); (focus omega); (try clear st); intro A' c' w' st; (try simp only [List.set_cons_zero, List.set_cons_succ, Nat.zero_add, List.nil_append] at st)) | ((with_reducible apply ow_append 3 st); exact rfl; exact inferInstance; exact rfl; exact rfl; exact rfl; exact st.rd (i := 0) rfl; (focus (exact cells_one _)); (focus (unfold maxLen; omega)); (focus omega); (try clear st); intro A' c' w' st; (try simp only [List.set_cons_zero, List.set_cons_succ, Nat.zero_add, List.nil_append] at st)) | ((with_reducible apply ow_eval); (go_simp <;> (try simp (disch := omega) only [wrap_id, sub_left, zac]) <;> rfl); first | (with_reducible apply up_value) | ((with_reducible apply up_enter); first | (go_at_call 60; (with_reducible refine (rInherited_any dir o g A1' n1' c1' B le' _ (H1'.out.st st hB1) ?_ ?_ ?_).mono ?_); exact Nat.le_trans hB1 st.size; omega; exact fun a ha => ⟨(HG1'.out a ha).f0, (HG1'.out a ha).f1⟩; rintro e w' ⟨A7, n7, c7, rfl, st'⟩; replace st := st.join st'; clear st'; simp only [List.cons_append, List.nil_append] at st; have a7 := Lib.hid (St.len st (i := 0) rfl); have b7 : n7 ≤ 40 := (by have := a7.out; have := z3.out; have := g3.out; omega); refine ⟨_, rfl, ?_⟩) | (go_at_call 60; (with_reducible refine (rInherited_any dir o g A2' n2' c2' B la' _ (H2'.out.st st hB1) ?_ ?_ ?_).mono ?_); exact Nat.le_trans hB1 st.size; omega; exact fun a ha => ⟨(HG2'.out a ha).f0, (HG2'.out a ha).f1⟩; rintro e w' ⟨A8, n8, c8, rfl, st'⟩; replace st := st.join st'; clear st'; simp only [List.cons_append, List.nil_append] at st; have a8 := Lib.hid (St.len st (i := 0) rfl); have b8 : n8 ≤ 40 := (by have := a8.out; have := z4.out; have := g4.out; omega); refine ⟨_, rfl, ?_⟩)))); refine WL.next hK (by simp only [Act.put, zpt, zsz, zss]; exact rfl) ?_; clear hK K))); (try refine WL.nil ?_))
    replace st := st.tail.tail
    rw [← L.cellsOf_append, ← L.cellsOf_append, ← eX, ← eY] at st
    have hFX : ∀ a ∈ X, 0 ≤ a.f ∧ a.f ≤ 31 := by rw [← hX.out]; exact L.rBelow_FOk dir o g false HG1.out
    have hFY : ∀ a ∈ Y, 0 ≤ a.f ∧ a.f ≤ 31 := by rw [← hY.out]; exact L.rBelow_FOk dir o g false HG2.out
    replace eX := Lib.hid eX
    replace eY := Lib.hid eY
    have hnx1 : n3 + n7 ≤ 60 := by omega
    have hny1 : n4 + n8 ≤ 60 := by omega
    have x1 := Lib.hid (St.len st (i := 0) (l := X) rfl)
    have y1 := Lib.hid (St.len st (i := 1) (l := Y) rfl)
    by_cases h3 : (n3 : Int) + (n7 : Int) ≤ 16
    · have h3' : ((16 : Int) < (n3 : Int) + (n7 : Int)) = False := by simp; omega
      by_cases h4 : (n4 : Int) + (n8 : Int) ≤ 16
      · have h4' : ((16 : Int) < (n4 : Int) + (n8 : Int)) = False := by simp; omega
        (repeat ((refine WL.op ?_ ?_; (first | exact rfl | (simp [Region.wanted, yielded, *] <;> done)); intro K hK; (first | ((((with_reducible apply ow_move); exact rfl)); (go_simp <;> (try simp (disch := omega) only [wrap_id, sub_left, zac]) <;> rfl)) | ((with_reducible apply ow_eval); (go_simp <;> (try simp (disch := omega) only [wrap_id, sub_left, zac]) <;> rfl); ((with_reducible apply up_value)))); refine WL.next hK (by simp only [Act.put, zpt, zsz, zss]; exact rfl) ?_; clear hK K)))
        (try refine WL.nil ?_)
        go_wp2_with (refine WL.out ?_; (repeat ((refine WL.op ?_ ?_; (exact rfl); intro K hK; (first | ((first | ((with_reducible apply ow_move); exact rfl) | ((with_reducible apply ow_assign); exact rfl)); (go_simp <;> (try simp (disch := omega) only [wrap_id, sub_left, zac]) <;> rfl)) | ((((with_reducible apply ow_loadN st); exact rfl; exact inferInstance; exact rfl; (exact get4); ((try simp only [zta, ztz, zda, zdz, zca, zcn, zan, zsz, zss]) <;> exact rfl))); exact rfl) | ((first | ((with_reducible apply ow_store1' st); exact rfl; exact inferInstance; exact rfl; (exact get4); (go_simp <;> (try simp (disch := omega) only [wrap_id, sub_left, zac]) <;> rfl)) | ((with_reducible apply ow_storeN' st); exact rfl; exact inferInstance; exact rfl; (exact get5); exact rfl)); exact rfl; exact rfl; (simp <;> done); ((try simp only [zta, ztz, zda, zdz, zca, zcn, zan, zsz, zss]) <;> exact rfl); (try clear st); intro w' st) | ((with_reducible apply ow_eval); (go_simp <;> (try simp (disch := omega) only [wrap_id, sub_left, zac]) <;> rfl); first | (with_reducible apply up_value) | ((with_reducible apply up_enter); first | (go_at_call 61; refine (rCanonical_any _ _ _ _ X _ (St.aces st (i := 0) rfl) (Nat.le_refl _) (by omega) hFX).mono ?_; rintro e w' ⟨A5, n5, c5, rfl, st'⟩; replace st := st.join st'; clear st'; simp only [List.cons_append, List.nil_append] at st; refine ⟨_, rfl, ?_⟩) | (go_at_call 61; refine (rCanonical_any _ _ _ _ Y _ (St.aces st (i := 2) rfl) (Nat.le_refl _) (by omega) hFY).mono ?_; rintro e w' ⟨A6, n6, c6, rfl, st'⟩; replace st := st.join st'; clear st'; simp only [List.cons_append, List.nil_append] at st; refine ⟨_, rfl, ?_⟩)))); refine WL.next hK (by simp only [Act.put, zpt, zsz, zss]; exact rfl) ?_; clear hK K))); (try refine WL.nil ?_))
        refine bodyPost_cell_tmp 5 st rfl inferInstance rfl rfl rfl rfl rfl ?_
        rw [hR.out, if_pos ⟨by have := x1.out; omega, by have := y1.out; omega⟩]
        exact ⟨_, _, _, _, _, _, rfl, st.swap.sub (.cons_cons _ (.cons_cons _ (List.nil_sublist _)))⟩
      · (repeat ((refine WL.op ?_ ?_; (first | exact rfl | (simp [Region.wanted, yielded, *] <;> done)); intro K hK; (first | ((((with_reducible apply ow_move); exact rfl)); (go_simp <;> (try simp (disch := omega) only [wrap_id, sub_left, zac]) <;> rfl)) | ((with_reducible apply ow_eval); (go_simp <;> (try simp (disch := omega) only [wrap_id, sub_left, zac]) <;> rfl); ((with_reducible apply up_value)))); refine WL.next hK (by simp only [Act.put, zpt, zsz, zss]; exact rfl) ?_; clear hK K)))
        (try refine WL.nil ?_)
        go_wp2_with (refine WL.out ?_; (repeat ((refine WL.op ?_ ?_; (exact rfl); intro K hK; (first | ((((with_reducible apply ow_assign); exact rfl)); (go_simp <;> (try simp (disch := omega) only [wrap_id, sub_left, zac]) <;> rfl)) | ((((with_reducible apply ow_storeN' st); exact rfl; exact inferInstance; exact rfl; (exact get3); exact rfl)); exact rfl; exact rfl; (simp <;> done); ((try simp only [zta, ztz, zda, zdz, zca, zcn, zan, zsz, zss]) <;> exact rfl); (try clear st); intro w' st) | ((with_reducible apply ow_eval); (go_simp <;> (try simp (disch := omega) only [wrap_id, sub_left, zac]) <;> rfl); ((with_reducible apply up_value)))); refine WL.next hK (by simp only [Act.put, zpt, zsz, zss]; exact rfl) ?_; clear hK K))); (try refine WL.nil ?_))
        refine bodyPost_cell_tmp 3 st rfl inferInstance rfl rfl rfl rfl rfl ?_
        rw [hR.out, if_neg (by have := y1.out; omega)]
        exact ⟨none, 0, 0, none, 0, 0, rfl, ((st.sub (List.nil_sublist _)).nilRow _ _).nilRow _ _⟩
    · (repeat (first | (refine WL.op ?_ ?_; (exact rfl); intro K hK; (((with_reducible apply ow_eval); (go_simp <;> (try simp (disch := omega) only [wrap_id, sub_left, zac]) <;> rfl); ((with_reducible apply up_value)))); refine WL.next hK (by simp only [Act.put, zpt, zsz, zss]; exact rfl) ?_; clear hK K) | (refine WL.skip ?_ (by simp only [Act.put, zpt, zsz, zss]; exact rfl) ?_; ((simp [Region.wanted, yielded] <;> omega)))))
      (try refine WL.nil ?_)
      go_wp2_with (refine WL.out ?_; (repeat ((refine WL.op ?_ ?_; (exact rfl); intro K hK; (first | ((((with_reducible apply ow_assign); exact rfl)); (go_simp <;> (try simp (disch := omega) only [wrap_id, sub_left, zac]) <;> rfl)) | ((((with_reducible apply ow_storeN' st); exact rfl; exact inferInstance; exact rfl; (exact get3); exact rfl)); exact rfl; exact rfl; (simp <;> done); ((try simp only [zta, ztz, zda, zdz, zca, zcn, zan, zsz, zss]) <;> exact rfl); (try clear st); intro w' st) | ((with_reducible apply ow_eval); (go_simp <;> (try simp (disch := omega) only [wrap_id, sub_left, zac]) <;> rfl); ((with_reducible apply up_value)))); refine WL.next hK (by simp only [Act.put, zpt, zsz, zss]; exact rfl) ?_; clear hK K))); (try refine WL.nil ?_))
      refine bodyPost_cell_tmp 3 st rfl inferInstance rfl rfl rfl rfl rfl ?_
      rw [hR.out, if_neg (by have := x1.out; omega)]
      exact ⟨none, 0, 0, none, 0, 0, rfl, ((st.sub (List.nil_sublist _)).nilRow _ _).nilRow _ _⟩
theorem rChild_any (o g : Int) (p h : Bool) (le la : List L.Ace) (o' g' : Int) (p' h' : Bool) (le' la' : List L.Ace) (dir : Bool) (A1 A2 A1' A2' : Option Addr) (n1 n2 n1' n2' c1 c2 c1' c2' B : Nat) (w : World)
    (h1 : Aces w B A1 n1 le) (h2 : Aces w B A2 n2 la) (h1' : Aces w B A1' n1' le') (h2' : Aces w B A2' n2' la') (hB1 : B ≤ w.heap.size) (hn1 : n1 ≤ 20) (hn2 : n2 ≤ 20) (hn1' : n1' ≤ 20) (hn2' : n2' ≤ 20) (hg1 : L.Good le) (hg2 : L.Good la) (hg1' : L.Good le') (hg2' : L.Good la') :
    Calls Tryz.prog 36 #[.agg #[.int .i64 o', .int .i64 g', .bool p', .bool h', .slice A1' n1' c1', .slice A2' n2' c2'], .agg #[.int .i64 o, .int .i64 g, .bool p, .bool h, .slice A1 n1 c1, .slice A2 n2 c2], .bool dir] w
      (RetDescOk w (L.rChild ⟨o', g', p', h', le', la'⟩ ⟨o, g, p, h, le, la⟩ dir)) := by
  cases p with
  | true => exact rChild_true o g h le la o' g' p' h' le' la' dir A1 A2 A1' A2' n1 n2 n1' n2' c1 c2 c1' c2' B w h1 h2 h1' h2' hB1 hn1 hn2 hn1' hn2' hg1 hg2 hg1' hg2'
  | false => exact rChild_false o g h le la o' g' p' h' le' la' dir A1 A2 A1' A2' n1 n2 n1' n2' c1 c2 c1' c2' B w h1 h2 h1' h2' hB1 hn1 hn2 hn1' hn2' hg1 hg2 hg1' hg2'
end Go.Proofs.YtppjhccdgbheiaaGreatDoor
namespace Go.Proofs.YtppjhccdgbheiaaGreatDoor
open Go.RowKit Go.Hp
namespace L
theorem below_eq (dir : Bool) {o g : Int} (p : Bool) (ho : o ≠ 2 ∧ o ≠ 3) (hg : g ≠ 2 ∧ g ≠ 3) {own above : List Ace} (h1 : FOk own) (h2 : FOk above) : below dir o g p own above = rBelow dir o g p own above := by
  unfold below rBelow explicit
  rw [inherited_eq dir ho hg h2, List.filter_congr fun a ha => by rw [show inh a = has a.f 16 from band16 (h1 a ha).1 (h1 a ha).2]]
theorem F_append (l m : List Ace) (i : Int) : F (l ++ m) i = F l i ++ F m i := by unfold F; rw [List.filter_append]
theorem F_F (l : List Ace) (i j : Int) : F (F l i) j = if i = j then F l i else [] := by
  split
  · rename_i h
    exact List.filter_eq_self.2 fun a ha => by rw [F_rk ha]; simpa using h
  · rename_i h
    exact List.filter_eq_nil_iff.2 fun a ha => by rw [F_rk ha]; simpa using h
theorem F_canon (l : List Ace) {i : Int} (hi : i = 0 ∨ i = 1 ∨ i = 2 ∨ i = 3) : F (canon l) i = F l i := by
  rw [canon_four, F_append, F_append, F_append, F_F, F_F, F_F, F_F]
  rcases hi with rfl | rfl | rfl | rfl <;> simp
theorem canon_canon (l : List Ace) : canon (canon l) = canon l := by
  rw [canon_four (canon l), F_canon l (.inl rfl), F_canon l (.inr (.inl rfl)), F_canon l (.inr (.inr (.inl rfl))), F_canon l (.inr (.inr (.inr rfl))), ← canon_four]
theorem canon_left (l m : List Ace) : canon (canon l ++ m) = canon (l ++ m) := by
  rw [canon_four (canon l ++ m), canon_four (l ++ m)]
  simp only [F_append]
  rw [F_canon l (.inl rfl), F_canon l (.inr (.inl rfl)), F_canon l (.inr (.inr (.inl rfl))), F_canon l (.inr (.inr (.inr rfl)))]
theorem F_explicit (l : List Ace) (i : Int) : F (explicit l) i = explicit (F l i) := by
  unfold F explicit
  rw [List.filter_filter, List.filter_filter]
  exact List.filter_congr fun a _ => Bool.and_comm _ _
theorem explicit_append (l m : List Ace) : explicit (l ++ m) = explicit l ++ explicit m := by unfold explicit; rw [List.filter_append]
theorem explicit_canon (l : List Ace) : explicit (canon l) = canon (explicit l) := by
  rw [canon_four, canon_four]
  simp only [explicit_append, F_explicit]
theorem explicit_explicit (l : List Ace) : explicit (explicit l) = explicit l := by
  unfold explicit
  rw [List.filter_filter]
  exact List.filter_congr fun a _ => Bool.and_self _
theorem has16 {f : Int} (h0 : 16 ≤ f) (h1 : f ≤ 31) : has f 16 = true := by
  unfold has
  rw [beq_iff_eq]
  omega
theorem inh1_f {dir fi di sp : Bool} {who : Int} {a x : Ace} (hx : x ∈ inh1 dir fi di sp who a) : 16 ≤ x.f ∧ x.f ≤ 31 := by
  have hb := onOf_bounds fi true sp
  cases dir <;> cases di <;> simp only [inh1] at hx
  · split at hx
    · rw [List.mem_singleton.1 hx]; exact ⟨by show (16 : Int) ≤ 16; decide, by show (16 : Int) ≤ 31; decide⟩
    · cases hx
  · split at hx
    · rw [List.mem_singleton.1 hx]; exact ⟨by show (16 : Int) ≤ 16; decide, by show (16 : Int) ≤ 31; decide⟩
    · cases hx
  · split at hx
    · rw [List.mem_singleton.1 hx]; exact ⟨by show (16 : Int) ≤ 25; decide, by show (25 : Int) ≤ 31; decide⟩
    · cases hx
  · split at hx
    · rw [List.mem_singleton.1 hx]; exact ⟨by show (16 : Int) ≤ 16 + onOf fi true sp; omega, by show 16 + onOf fi true sp ≤ (31 : Int); omega⟩
    · rcases List.mem_cons.1 hx with rfl | hx
      · exact ⟨by show (16 : Int) ≤ 16; decide, by show (16 : Int) ≤ 31; decide⟩
      · rw [List.mem_singleton.1 hx]; exact ⟨by show (16 : Int) ≤ 16 + onOf fi true sp + 8; omega, by show 16 + onOf fi true sp + 8 ≤ (31 : Int); omega⟩
theorem inh1_kmw {dir fi di sp : Bool} {who : Int} {a x : Ace} (hx : x ∈ inh1 dir fi di sp who a) : x.k = a.k ∧ x.m = a.m ∧ (x.w = a.w ∨ x.w = who) := by
  cases dir <;> cases di <;> simp only [inh1] at hx
  · split at hx
    · rw [List.mem_singleton.1 hx]; exact ⟨rfl, rfl, .inr rfl⟩
    · cases hx
  · split at hx
    · rw [List.mem_singleton.1 hx]; exact ⟨rfl, rfl, .inr rfl⟩
    · cases hx
  · split at hx
    · rw [List.mem_singleton.1 hx]; exact ⟨rfl, rfl, .inl rfl⟩
    · cases hx
  · split at hx
    · rw [List.mem_singleton.1 hx]; exact ⟨rfl, rfl, .inr rfl⟩
    · rcases List.mem_cons.1 hx with rfl | hx
      · exact ⟨rfl, rfl, .inr rfl⟩
      · rw [List.mem_singleton.1 hx]; exact ⟨rfl, rfl, .inl rfl⟩
theorem explicit_inherited (dir : Bool) (o g : Int) (l : List Ace) : explicit (rInherited dir o g l) = [] := by
  refine List.filter_eq_nil_iff.2 fun x hx => ?_
  obtain ⟨a, _, hx⟩ := List.mem_flatMap.1 hx
  have h := inh1_f hx
  rw [has16 h.1 h.2]
  simp
theorem rBelow_again (dir : Bool) (o g : Int) (p : Bool) (own above : List Ace) : canon (rBelow dir o g p (canon (rBelow dir o g p own above)) above) = canon (rBelow dir o g p own above) ∧
    (rBelow dir o g p (canon (rBelow dir o g p own above)) above).length = (rBelow dir o g p own above).length := by
  have e : explicit (canon (rBelow dir o g p own above)) = canon (explicit own) := by
    rw [explicit_canon]
    unfold rBelow
    rw [explicit_append, explicit_explicit]
    split
    · rw [show explicit [] = [] from rfl, List.append_nil]
    · rw [explicit_inherited, List.append_nil]
  have e2 : rBelow dir o g p (canon (rBelow dir o g p own above)) above = canon (explicit own) ++ if p then [] else rInherited dir o g above := by
    rw [← e]; rfl
  refine ⟨?_, ?_⟩
  · rw [e2, canon_left]; rfl
  · rw [e2, List.length_append, canon_length, ← List.length_append]; rfl
structure Desc.Valid (d : Desc) : Prop where
  pair : rPairErr d.o d.g = 0
  le : d.e.length ≤ 16
  la : d.a.length ≤ 16
  form : d.h = false → d.e = []
  e : ∀ a ∈ d.e, rErr a = 0 ∧ a.k ≠ 2
  a : ∀ a ∈ d.a, rErr a = 0 ∧ a.k = 2
theorem rAuditErr_zero {n i : Nat} {a : Ace} (h : rAuditErr n i a = 0) : rErr a = 0 ∧ (a.k == 2) = decide (n ≤ i) := by
  unfold rAuditErr at h
  split at h
  · rename_i h0
    refine ⟨h0, ?_⟩
    split at h
    · cases h
    · rename_i h1; simpa using h1
  · rename_i h0; exact absurd h h0
theorem Desc.valid_of {d : Desc} (h : d.rErrs.2 = 0) : d.Valid := by
  unfold Desc.rErrs at h
  by_cases h0 : rPairErr d.o d.g = 0
  · rw [if_pos h0] at h
    by_cases h1 : 16 < d.e.length ∨ 16 < d.a.length
    · rw [if_pos h1] at h; cases h
    · rw [if_neg h1] at h
      by_cases h2 : 0 < d.e.length ∧ d.h = false
      · rw [if_pos h2] at h; cases h
      · rw [if_neg h2] at h
        have hz := each_zero _ 0 _ h
        refine ⟨h0, by omega, by omega, fun hh => ?_, fun a ha => ?_, fun a ha => ?_⟩
        · exact List.eq_nil_of_length_eq_zero (by rcases Nat.eq_zero_or_pos d.e.length with h3 | h3; exact h3; exact absurd ⟨h3, hh⟩ h2)
        · obtain ⟨j, hj⟩ := List.mem_iff_getElem?.1 ha
          have hjl := (List.getElem?_eq_some_iff.1 hj).1
          have := rAuditErr_zero (hz j a (by rw [List.getElem?_append_left hjl]; exact hj))
          refine ⟨this.1, fun hk => ?_⟩
          have h4 := this.2
          rw [hk, decide_eq_false (by omega)] at h4
          cases h4
        · obtain ⟨j, hj⟩ := List.mem_iff_getElem?.1 ha
          have := rAuditErr_zero (hz (d.e.length + j) a (by rw [List.getElem?_append_right (by omega), Nat.add_sub_cancel_left]; exact hj))
          refine ⟨this.1, ?_⟩
          have h4 := this.2
          rw [decide_eq_true (by omega)] at h4
          simpa using h4
  · rw [if_neg h0] at h; exact absurd h h0
theorem each_ok (E : Nat → Ace → Int) : ∀ (i : Nat) (l : List Ace), (∀ j a, l[j]? = some a → E (i + j) a = 0) → each E i l = (0, 0)
  | i, [], _ => rfl
  | i, b :: l, h => by
    have h0 : E i b = 0 := h 0 b rfl
    unfold each
    rw [if_pos h0]
    exact each_ok E (i + 1) l fun j a hj => by rw [show i + 1 + j = i + (j + 1) by omega]; exact h (j + 1) a (by simpa using hj)
theorem Desc.Valid.errs {d : Desc} (h : d.Valid) : d.rErrs = (0, 0) := by
  unfold Desc.rErrs
  rw [if_pos h.pair, if_neg (by have := h.le; have := h.la; omega), if_neg (fun h2 => by have := h.form h2.2; rw [this] at h2; simp at h2)]
  refine each_ok _ 0 _ fun j a hj => ?_
  unfold rAuditErr
  rcases Nat.lt_or_ge j d.e.length with hl | hl
  · rw [List.getElem?_append_left hl] at hj
    have := h.e a (List.mem_of_getElem? hj)
    rw [if_pos this.1, if_neg]
    have h3 : (a.k == 2) = false := by simpa using this.2
    rw [h3, decide_eq_false (by omega)]
    decide
  · rw [List.getElem?_append_right hl] at hj
    have := h.a a (List.mem_of_getElem? hj)
    rw [if_pos this.1, if_neg]
    have h3 : (a.k == 2) = true := by simpa using this.2
    rw [h3, decide_eq_true (by omega)]
    decide
theorem rErr_parts {a : Ace} : rErr a = 0 ↔ within a.k 0 2 = true ∧ within a.f 0 31 = true ∧ within a.m 1 511 = true ∧ isWho a.w = true := by
  unfold rErr rAceErr
  cases within a.k 0 2 <;> cases within a.f 0 31 <;> cases within a.m 1 511 <;> cases isWho a.w <;> simp
theorem rHolder_who {n : Int} (h : rHolder n = true) : isWho n = true := by
  simp [rHolder, isWho, isUser, within] at h ⊢
  omega
theorem pair_holders {o g : Int} (h : rPairErr o g = 0) : rHolder o = true ∧ rHolder g = true := by
  unfold rPairErr at h
  cases h1 : rHolder o <;> cases h2 : rHolder g <;> rw [h1, h2] at h <;> simp at h ⊢
theorem holder_who {who o g : Int} (h : isWho who = true) (ho : rHolder o = true) (hg : rHolder g = true) : isWho (holder who o g) = true := by
  unfold holder
  split
  · exact rHolder_who ho
  · split
    · exact rHolder_who hg
    · exact h
theorem rBelow_ok (dir : Bool) {o g : Int} (p : Bool) {own above : List Ace} (q : Int → Prop) (hp : rPairErr o g = 0) (h1 : ∀ a ∈ own, rErr a = 0 ∧ q a.k) (h2 : ∀ a ∈ above, rErr a = 0 ∧ q a.k) : ∀ a ∈ rBelow dir o g p own above, rErr a = 0 ∧ q a.k := by
  intro x hx
  unfold rBelow at hx
  rcases List.mem_append.1 hx with hx | hx
  · exact h1 x (List.mem_filter.1 hx).1
  · split at hx
    · cases hx
    · obtain ⟨a, ha, hx⟩ := List.mem_flatMap.1 hx
      obtain ⟨h3, h4⟩ := h2 a ha
      have hf := inh1_f hx
      obtain ⟨e1, e2, e3⟩ := inh1_kmw hx
      obtain ⟨p1, p2⟩ := pair_holders hp
      obtain ⟨a1, a2, a3, a4⟩ := rErr_parts.1 h3
      refine ⟨rErr_parts.2 ⟨by rw [e1]; exact a1, ?_, by rw [e2]; exact a3, ?_⟩, by rw [e1]; exact h4⟩
      · unfold within
        rw [decide_eq_true (by omega), decide_eq_true (by omega)]; rfl
      · rcases e3 with e3 | e3
        · rw [e3]; exact a4
        · rw [e3]; exact holder_who a4 p1 p2
theorem rChild_valid {above own : Desc} (dir : Bool) (h1 : above.Valid) (h2 : own.Valid) (hok : (rChild above own dir).2 = true) : (rChild above own dir).1.Valid := by
  unfold rChild at hok ⊢
  split at hok
  · rename_i hl
    rw [if_pos hl]
    refine ⟨h2.pair, by rw [canon_length]; exact hl.1, by rw [canon_length]; exact hl.2, fun hh => ?_, fun a ha => ?_, fun a ha => ?_⟩
    · simp only [Bool.or_eq_false_iff, Bool.and_eq_false_iff, Bool.not_eq_false'] at hh
      refine List.eq_nil_of_length_eq_zero ?_
      rw [canon_length]
      unfold rBelow
      rw [h2.form hh.1]
      rcases hh.2 with h3 | h3
      · rw [h1.form h3]; cases own.p <;> rfl
      · rw [h3]; rfl
    · exact rBelow_ok dir own.p (fun k => k ≠ 2) h2.pair h2.e h1.e a (canon_mem.1 ha)
    · exact rBelow_ok dir own.p (fun k => k = 2) h2.pair h2.a h1.a a (canon_mem.1 ha)
  · cases hok
theorem rChild_again {above own : Desc} (dir : Bool) (hok : (rChild above own dir).2 = true) : rChild above (rChild above own dir).1 dir = rChild above own dir := by
  unfold rChild at hok
  split at hok
  · rename_i hl
    have e : rChild above own dir = (⟨own.o, own.g, own.p, own.h || (above.h && !own.p), canon (rBelow dir own.o own.g own.p own.e above.e), canon (rBelow dir own.o own.g own.p own.a above.a)⟩, true) := by
      unfold rChild; rw [if_pos hl]
    rw [e]
    have a1 := rBelow_again dir own.o own.g own.p own.e above.e
    have a2 := rBelow_again dir own.o own.g own.p own.a above.a
    unfold rChild
    simp only [a1.1, a2.1, a1.2, a2.2]
    rw [if_pos hl]
    cases own.h <;> cases above.h <;> cases own.p <;> rfl
  · cases hok
theorem child_eq {above own : Desc} (dir : Bool) (h1 : above.Valid) (h2 : own.Valid) : child above own dir = ((rChild above own dir).1, if (rChild above own dir).2 then 0 else 16) := by
  have g : ∀ {l : List Ace}, (∀ a ∈ l, rErr a = 0) → FOk l := fun h a ha => by
    obtain ⟨_, hf, _⟩ := rErr_parts.1 (h a ha)
    simp only [within, Bool.and_eq_true, decide_eq_true_eq] at hf
    exact hf
  have hp := pair_ne h2.pair
  unfold child rChild
  rw [below_eq dir own.p hp.1 hp.2 (g fun a ha => (h2.e a ha).1) (g fun a ha => (h1.e a ha).1), below_eq dir own.p hp.1 hp.2 (g fun a ha => (h2.a a ha).1) (g fun a ha => (h1.a a ha).1)]
  split <;> rfl
theorem childOf_eq {above own : Desc} (dir : Bool) (h1 : above.Valid) (h2 : own.Valid) : childOf above own dir = ((rChild above own dir).1, if (rChild above own dir).2 then 0 else 16) := by
  have e1 : above.err.2 = 0 := by rw [Desc.err_eq, h1.errs]
  have e2 : own.err.2 = 0 := by rw [Desc.err_eq, h2.errs]
  unfold childOf
  rw [e1, e2, if_pos (show firstErr [0, 0] = 0 from rfl), child_eq dir h1 h2]
theorem childOf_err1 {above own : Desc} (dir : Bool) (h : above.rErrs.2 ≠ 0) : childOf above own dir = (Desc.none, above.rErrs.2) := by
  have e : firstErr [above.err.2, own.err.2] = above.rErrs.2 := by
    rw [Desc.err_eq]
    unfold firstErr
    rw [List.find?_cons_of_pos (by simpa using h)]
    rfl
  unfold childOf
  rw [e, if_neg h]
theorem childOf_err2 {above own : Desc} (dir : Bool) (h : above.rErrs.2 = 0) (h2 : own.rErrs.2 ≠ 0) : childOf above own dir = (Desc.none, own.rErrs.2) := by
  have e : firstErr [above.err.2, own.err.2] = own.rErrs.2 := by
    rw [Desc.err_eq, Desc.err_eq, h]
    unfold firstErr
    rw [List.find?_cons_of_neg (by simp), List.find?_cons_of_pos (by simpa using h2)]
    rfl
  unfold childOf
  rw [e, if_neg h2]
end L
end Go.Proofs.YtppjhccdgbheiaaGreatDoor
namespace Go.Proofs.YtppjhccdgbheiaaGreatDoor
open Go.RowKit Go.Hp
namespace L
def rT (l : List Node) : Nat → List Node × Bool
  | 0 => ([], true)
  | k + 1 =>
    if (rT l k).2 = true then
      (if k = 0 then ((rT l k).1 ++ [nn l k], true)
       else if (rChild (nn (rT l k).1 (nn l k).a.toNat).d (nn l k).d (nn l k).k).2 = true then ((rT l k).1 ++ [⟨(nn l k).a, (nn l k).k, (rChild (nn (rT l k).1 (nn l k).a.toNat).d (nn l k).d (nn l k).k).1⟩], true)
       else ([], false))
    else ([], false)
theorem rT_zero {l : List Node} : (rT l 1) = ([nn l 0], true) := rfl
theorem rT_root {l : List Node} {k : Nat} (h : (rT l k).2 = true) (h0 : k = 0) : rT l (k + 1) = ((rT l k).1 ++ [nn l k], true) := by
  show (if (rT l k).2 = true then _ else _) = _
  rw [if_pos h, if_pos h0]
theorem rT_next {l : List Node} {k : Nat} (h : (rT l k).2 = true) (h0 : k ≠ 0) (hc : (rChild (nn (rT l k).1 (nn l k).a.toNat).d (nn l k).d (nn l k).k).2 = true) :
    rT l (k + 1) = ((rT l k).1 ++ [⟨(nn l k).a, (nn l k).k, (rChild (nn (rT l k).1 (nn l k).a.toNat).d (nn l k).d (nn l k).k).1⟩], true) := by
  show (if (rT l k).2 = true then _ else _) = _
  rw [if_pos h, if_neg h0, if_pos hc]
theorem rT_fail {l : List Node} {k : Nat} (h : (rT l k).2 = true) (h0 : k ≠ 0) (hc : (rChild (nn (rT l k).1 (nn l k).a.toNat).d (nn l k).d (nn l k).k).2 = false) : rT l (k + 1) = ([], false) := by
  show (if (rT l k).2 = true then _ else _) = _
  rw [if_pos h, if_neg h0, hc]
  rfl
theorem rT_down {l : List Node} {k : Nat} (h : (rT l k).2 = false) : rT l (k + 1) = ([], false) := by
  show (if (rT l k).2 = true then _ else _) = _
  rw [h]
  rfl
theorem rT_off {l : List Node} {k : Nat} (h : rT l k = ([], false)) : ∀ n, k ≤ n → rT l n = ([], false)
  | 0, hn => by
    have h0 : k = 0 := by omega
    rw [h0] at h
    exact h
  | n + 1, hn => by
    by_cases hk : k = n + 1
    · subst hk; exact h
    · exact rT_down (by rw [rT_off h n (by omega)])
theorem rT_len {l : List Node} : ∀ k, (rT l k).2 = true → (rT l k).1.length = k
  | 0, _ => rfl
  | k + 1, h => by
    cases h2 : (rT l k).2 with
    | false => rw [rT_down h2] at h; cases h
    | true =>
      have ih := rT_len k h2
      by_cases h0 : k = 0
      · rw [rT_root h2 h0]; simp [ih]
      · cases hc : (rChild (nn (rT l k).1 (nn l k).a.toNat).d (nn l k).d (nn l k).k).2 with
        | false => rw [rT_fail h2 h0 hc] at h; cases h
        | true => rw [rT_next h2 h0 hc]; simp [ih]
theorem rT_ok {l : List Node} {k : Nat} (h : (rT l (k + 1)).2 = true) : (rT l k).2 = true := by
  cases h2 : (rT l k).2 with
  | false => rw [rT_down h2] at h; cases h
  | true => rfl
theorem nn_left (a b : List Node) (j : Nat) (h : j < a.length) : nn (a ++ b) j = nn a j := by unfold nn; rw [List.getElem?_append_left h]
theorem nn_right (a b : List Node) (j : Nat) (h : a.length ≤ j) : nn (a ++ b) j = nn b (j - a.length) := by unfold nn; rw [List.getElem?_append_right h]
theorem nn_drop (l : List Node) (k : Nat) : nn (l.drop k) 0 = nn l k := by unfold nn; rw [List.getElem?_drop, Nat.add_zero]
def TreeOk (l : List Node) : Prop := ∀ k, k < l.length → nodeErr l k = 0
theorem goE_zero {E : Nat → Int} : ∀ {n : Nat}, goE E n = 0 → ∀ k, k < n → E k = 0
  | 0, _, k, hk => by omega
  | n + 1, h, k, hk => by
    have h' : (if goE E n = 0 then E n else goE E n) = 0 := h
    by_cases hg : goE E n = 0
    · rw [if_pos hg] at h'
      by_cases hkn : k = n
      · rw [hkn]; exact h'
      · exact goE_zero hg k (by omega)
    · rw [if_neg hg] at h'
      exact absurd h' hg
theorem TreeOk.of {l : List Node} (h : rTreeErr l = 0) : l.length ≤ 30 ∧ TreeOk l := by
  unfold rTreeErr at h
  by_cases h30 : 30 < l.length
  · rw [if_pos h30] at h; exact absurd h (by decide)
  · rw [if_neg h30] at h
    exact ⟨by omega, fun k hk => goE_zero h k hk⟩
theorem TreeOk.valid {l : List Node} (h : TreeOk l) {k : Nat} (hk : k < l.length) : (nn l k).d.Valid := by
  have he := h k hk
  unfold nodeErr at he
  split at he
  · rename_i h0
    subst h0
    split at he
    · exact Desc.valid_of he
    · exact absurd he (by decide)
  · split at he
    · split at he
      · exact Desc.valid_of he
      · exact absurd he (by decide)
    · exact absurd he (by decide)
theorem TreeOk.above {l : List Node} (h : TreeOk l) {k : Nat} (hk : k < l.length) (h0 : k ≠ 0) : ∃ j : Nat, (nn l k).a = (j : Int) ∧ j < k := by
  have he := h k hk
  unfold nodeErr at he
  rw [if_neg h0] at he
  split at he
  · rename_i hw
    unfold within at hw
    simp only [Bool.and_eq_true, decide_eq_true_eq] at hw
    exact ⟨(nn l k).a.toNat, by omega, by omega⟩
  · exact absurd he (by decide)
theorem nn_mem (l : List Node) (i : Nat) (h : i < l.length) : nn l i ∈ l := by
  unfold nn
  rw [List.getElem?_eq_getElem h]
  exact List.getElem_mem h
theorem rT_valid {l : List Node} (h : TreeOk l) : ∀ k, k ≤ l.length → (rT l k).2 = true → ∀ x ∈ (rT l k).1, x.d.Valid
  | 0, _, _, x, hx => by cases hx
  | k + 1, hk, ho, x, hx => by
    have h2 := rT_ok ho
    have ih := rT_valid h k (by omega) h2
    have hl := rT_len k h2
    by_cases h0 : k = 0
    · rw [rT_root h2 h0] at hx
      rcases List.mem_append.1 hx with hx | hx
      · exact ih x hx
      · rw [List.mem_singleton.1 hx]; exact h.valid (by omega)
    · cases hc : (rChild (nn (rT l k).1 (nn l k).a.toNat).d (nn l k).d (nn l k).k).2 with
      | false => rw [rT_fail h2 h0 hc] at ho; cases ho
      | true =>
        rw [rT_next h2 h0 hc] at hx
        rcases List.mem_append.1 hx with hx | hx
        · exact ih x hx
        · rw [List.mem_singleton.1 hx]
          obtain ⟨j, hj, hjk⟩ := h.above (k := k) (by omega) h0
          exact rChild_valid _ (ih _ (nn_mem _ _ (by rw [hj, hl]; simpa using hjk))) (h.valid (by omega)) hc
def mid (l : List Node) (k : Nat) : List Node := (rT l k).1 ++ l.drop k
theorem mid_len {l : List Node} {k : Nat} (h : (rT l k).2 = true) (hk : k ≤ l.length) : (mid l k).length = l.length := by
  unfold mid
  rw [List.length_append, rT_len k h, List.length_drop]
  omega
theorem mid_own {l : List Node} {k : Nat} (h : (rT l k).2 = true) : nn (mid l k) k = nn l k := by
  unfold mid
  rw [nn_right _ _ _ (by rw [rT_len k h]; exact Nat.le_refl _), rT_len k h, Nat.sub_self, nn_drop]
theorem mid_above {l : List Node} {j k : Nat} (h : (rT l k).2 = true) (hj : j < k) : nn (mid l k) j = nn (rT l k).1 j := nn_left _ _ _ (by rw [rT_len k h]; exact hj)
theorem drop_nn {l : List Node} {k : Nat} (hk : k < l.length) : l.drop k = nn l k :: l.drop (k + 1) := by
  rw [List.drop_eq_getElem_cons hk]
  unfold nn
  rw [List.getElem?_eq_getElem hk]
  rfl
theorem mid_set {l : List Node} {k : Nat} (h : (rT l k).2 = true) (hk : k < l.length) {x : Node} (hx : rT l (k + 1) = ((rT l k).1 ++ [x], true)) : mid l (k + 1) = (mid l k).set k x := by
  unfold mid
  rw [hx, drop_nn hk, List.set_append_right _ _ (by rw [rT_len k h]; exact Nat.le_refl _), rT_len k h, Nat.sub_self]
  simp
theorem child_is {above own : Desc} (dir : Bool) (h1 : above.Valid) (h2 : own.Valid) : child above own dir = ((rChild above own dir).1, if (rChild above own dir).2 = true then 0 else 16) := by
  have h := childOf_eq dir h1 h2
  unfold childOf at h
  rw [Desc.err_eq, Desc.err_eq, h1.errs, h2.errs] at h
  exact h
end L
end Go.Proofs.YtppjhccdgbheiaaGreatDoor
namespace Go.Proofs.YtppjhccdgbheiaaGreatDoor
open Go.RowKit Go.Hp
def DescRows (base : Nat) (d : L.Desc) (w : World) (A1 : Option Addr) (n1 c1 : Nat) (A2 : Option Addr) (n2 c2 : Nat) : Prop :=
  (aceRow (.slice A1 n1 c1) n1 d.e).holds base w ∧ (aceRow (.slice A2 n2 c2) n2 d.a).holds base w ∧ Res.ne (aceRow (.slice A1 n1 c1) n1 d.e) (aceRow (.slice A2 n2 c2) n2 d.a)
section
variable {base : Nat} {d : L.Desc} {w w' w0 : World} {A1 A2 : Option Addr} {n1 c1 n2 c2 : Nat} {rs : List Res}
theorem DescRows.keep (h : DescRows base d w A1 n1 c1 A2 n2 c2) (hb : Below w.heap.size w w') : DescRows base d w' A1 n1 c1 A2 n2 c2 :=
  ⟨Res.holds_keep h.1 hb.size fun k hk => hb.block k (Res.holds_lt h.1 hk).2, Res.holds_keep h.2.1 hb.size fun k hk => hb.block k (Res.holds_lt h.2.1 hk).2, h.2.2⟩
theorem DescRows.of_st (hb : base ≤ w.heap.size) (st : St w w' [aceRow (.slice A1 n1 c1) n1 d.e, aceRow (.slice A2 n2 c2) n2 d.a]) : DescRows base d w' A1 n1 c1 A2 n2 c2 :=
  ⟨Res.holds_mono (st.get (i := 0) rfl) hb, Res.holds_mono (st.get (i := 1) rfl) hb, (List.pairwise_cons.1 st.apart).1 _ (List.mem_cons_self ..)⟩
theorem DescRows.a1 (h : DescRows base d w A1 n1 c1 A2 n2 c2) : Aces w w.heap.size A1 n1 d.e := Rd.aces (Rd.of_row h.1)
theorem DescRows.a2 (h : DescRows base d w A1 n1 c1 A2 n2 c2) : Aces w w.heap.size A2 n2 d.a := Rd.aces (Rd.of_row h.2.1)
theorem St.desc (st : St w0 w rs) (hb : Below w.heap.size w w') (h : DescRows base d w' A1 n1 c1 A2 n2 c2) (hbase : w.heap.size ≤ base) :
    St w0 w' (aceRow (.slice A1 n1 c1) n1 d.e :: aceRow (.slice A2 n2 c2) n2 d.a :: rs) := by
  have hs := st.size
  have far : ∀ {r : Res}, r.holds base w' → ∀ s ∈ rs, r.ne s := fun hr s hs k hk hk' => by
    have a1 := (Res.holds_lt hr hk).1
    have a2 := (Res.holds_lt (st.holds s hs) hk').2
    omega
  refine ((st.call hb).cons (Res.holds_mono h.2.1 (by omega)) (far h.2.1)).cons (Res.holds_mono h.1 (by omega)) fun s hs => ?_
  rcases List.mem_cons.1 hs with rfl | hs
  · exact h.2.2
  · exact far h.1 s hs
theorem St.descBox {b t lo : Nat} {cs : List Value} (st : St w0 w rs) (hb : Below w.heap.size w w') (h : DescRows base d w' A1 n1 c1 A2 n2 c2) (hx : (Res.box b t cs).holds lo w') (hlo : w.heap.size ≤ lo) (hbase : w.heap.size ≤ base) (ht : t ≠ 37) :
    St w0 w' (.box b t cs :: aceRow (.slice A1 n1 c1) n1 d.e :: aceRow (.slice A2 n2 c2) n2 d.a :: rs) := by
  have hs := st.size
  have st2 := St.desc st hb h hbase
  have far : ∀ {A : Option Addr} {n c : Nat} {l : List L.Ace}, (aceRow (.slice A n c) n l).holds base w' → (Res.box b t cs).ne (aceRow (.slice A n c) n l) := by
    intro A n c l hr k hk hk'
    cases hk
    rcases hr.2 with ⟨hn, _⟩ | ⟨g, cap, cur, hv, _, hg, _⟩
    · rw [hn] at hk'; cases hk'
    · rw [hv] at hk'
      cases hk'
      have := hx.2.symm.trans hg
      injection this with this
      injection this with _ h2
      exact ht h2
  refine st2.cons (Res.holds_mono hx (by omega)) fun s hs => ?_
  rcases List.mem_cons.1 hs with rfl | hs
  · exact far h.1
  · rcases List.mem_cons.1 hs with rfl | hs
    · exact far h.2.1
    · intro k hk hk'
      have a1 := (Res.holds_lt hx hk).1
      have a2 := (Res.holds_lt (st.holds s hs) hk').2
      omega
end
def descFrom (base : Nat) (d : L.Desc) : Phi := fun _ _ v w => ∃ A1 n1 c1 A2 n2 c2, v = .agg #[.int .i64 d.o, .int .i64 d.g, .bool d.p, .bool d.h, .slice A1 n1 c1, .slice A2 n2 c2] ∧ DescRows base d w A1 n1 c1 A2 n2 c2
theorem descFrom_stable (base : Nat) (d : L.Desc) : (descFrom base d).stable := by
  rintro lo hi v w1 w2 hb hh ⟨A1, n1, c1, A2, n2, c2, rfl, h⟩
  exact ⟨A1, n1, c1, A2, n2, c2, rfl, h.keep hb⟩
def tupDesc (base : Nat) (d : L.Desc) (E : Value) : Phi := fun _ _ v w => ∃ A1 n1 c1 A2 n2 c2, v = .tuple #[.agg #[.int .i64 d.o, .int .i64 d.g, .bool d.p, .bool d.h, .slice A1 n1 c1, .slice A2 n2 c2], E] ∧ DescRows base d w A1 n1 c1 A2 n2 c2
theorem tupDesc_stable (base : Nat) (d : L.Desc) (E : Value) : (tupDesc base d E).stable := by
  rintro lo hi v w1 w2 hb hh ⟨A1, n1, c1, A2, n2, c2, rfl, h⟩
  exact ⟨A1, n1, c1, A2, n2, c2, rfl, h.keep hb⟩
theorem ChildOf_at {d' d m : L.Desc} {dir : Bool} {E : Int} (h : L.childOf d' d dir = (m, E)) (A1 A2 A1' A2' : Option Addr) (n1 n2 n1' n2' c1 c2 c1' c2' B : Nat) (w : World)
    (h1 : Aces w B A1 n1 d.e) (h2 : Aces w B A2 n2 d.a) (h1' : Aces w B A1' n1' d'.e) (h2' : Aces w B A2' n2' d'.a) (hB1 : B ≤ w.heap.size) (hn1 : n1 ≤ 100) (hn2 : n2 ≤ 100) (hn1' : n1' ≤ 100) (hn2' : n2' ≤ 100) :
    Calls Tryz.prog 25 #[.agg #[.int .i64 d'.o, .int .i64 d'.g, .bool d'.p, .bool d'.h, .slice A1' n1' c1', .slice A2' n2' c2'], .agg #[.int .i64 d.o, .int .i64 d.g, .bool d.p, .bool d.h, .slice A1 n1 c1, .slice A2 n2 c2], .bool dir] w (RetDescErr w (m, E)) := by
  rw [← h]
  exact ChildOf_any d' d dir A1 A2 A1' A2' n1 n2 n1' n2' c1 c2 c1' c2' B w h1 h2 h1' h2' hB1 hn1 hn2 hn1' hn2'
theorem rChild_at {d' d m : L.Desc} {dir ok : Bool} (h : L.rChild d' d dir = (m, ok)) (A1 A2 A1' A2' : Option Addr) (n1 n2 n1' n2' c1 c2 c1' c2' B : Nat) (w : World)
    (h1 : Aces w B A1 n1 d.e) (h2 : Aces w B A2 n2 d.a) (h1' : Aces w B A1' n1' d'.e) (h2' : Aces w B A2' n2' d'.a) (hB1 : B ≤ w.heap.size) (hn1 : n1 ≤ 20) (hn2 : n2 ≤ 20) (hn1' : n1' ≤ 20) (hn2' : n2' ≤ 20) (hg1 : L.Good d.e) (hg2 : L.Good d.a) (hg1' : L.Good d'.e) (hg2' : L.Good d'.a) :
    Calls Tryz.prog 36 #[.agg #[.int .i64 d'.o, .int .i64 d'.g, .bool d'.p, .bool d'.h, .slice A1' n1' c1', .slice A2' n2' c2'], .agg #[.int .i64 d.o, .int .i64 d.g, .bool d.p, .bool d.h, .slice A1 n1 c1, .slice A2 n2 c2], .bool dir] w (fun e w' => ∃ A1 n1 c1 A2 n2 c2, e = .returned (.tuple #[.agg #[.int .i64 m.o, .int .i64 m.g, .bool m.p, .bool m.h, .slice A1 n1 c1, .slice A2 n2 c2], .bool ok]) ∧ St w w' [aceRow (.slice A1 n1 c1) n1 m.e, aceRow (.slice A2 n2 c2) n2 m.a]) := by
  show Calls Tryz.prog 36 _ w (RetDescOk w (m, ok))
  rw [← h]
  exact rChild_any d.o d.g d.p d.h d.e d.a d'.o d'.g d'.p d'.h d'.e d'.a dir A1 A2 A1' A2' n1 n2 n1' n2' c1 c2 c1' c2' B w h1 h2 h1' h2' hB1 hn1 hn2 hn1' hn2' hg1 hg2 hg1' hg2'
namespace L
theorem rChild_no {d' d : Desc} {dir : Bool} (h : (rChild d' d dir).2 = false) : (rChild d' d dir).1 = Desc.none := by
  unfold rChild at h ⊢
  split at h
  · cases h
  · rename_i hl; rw [if_neg hl]
theorem childOf_len (d' d : Desc) (dir : Bool) : (childOf d' d dir).1.e.length ≤ 16 ∧ (childOf d' d dir).1.a.length ≤ 16 := by
  unfold childOf
  split
  · unfold child
    split
    · rename_i h; exact ⟨by rw [canon_length]; exact h.1, by rw [canon_length]; exact h.2⟩
    · exact ⟨by decide, by decide⟩
  · exact ⟨Nat.zero_le 16, Nat.zero_le 16⟩
theorem rChild_len (d' d : Desc) (dir : Bool) : (rChild d' d dir).1.e.length ≤ 16 ∧ (rChild d' d dir).1.a.length ≤ 16 := by
  unfold rChild
  split
  · rename_i h; exact ⟨by rw [canon_length]; exact h.1, by rw [canon_length]; exact h.2⟩
  · exact ⟨by decide, by decide⟩
theorem Desc.same_refl (d : Desc) : d.same d = true := by
  unfold Desc.same
  have : ∀ l : List Ace, L.same l l = true := by
    intro l
    induction l with
    | nil => rfl
    | cons a l ih => unfold L.same; rw [ih]; simp [aeq]
  rw [this, this]
  simp
end L
end Go.Proofs.YtppjhccdgbheiaaGreatDoor
namespace Go.Proofs.YtppjhccdgbheiaaGreatDoor
open Go.RowKit Go.Hp
namespace L
theorem nC_get (M : List (Node × Place)) (R : List Value) (k j : Nat) (h : k < M.length) (hj : j < 8) : (nCellsOf M ++ R)[k * 8 + j]? = (nCells (nx M k))[j]? := by
  rw [List.getElem?_append_left (by rw [nCellsOf_length]; omega), nCellsOf_get M k h j hj]
theorem nC_drop (M : List (Node × Place)) (R : List Value) (k s m : Nat) (h : k < M.length) (hs : s + m = 8) : ((nCellsOf M ++ R).drop (k * 8 + s)).take m = (nCells (nx M k)).drop s := by
  have hl8 : (nCells (nx M k)).length = 8 := rfl
  refine List.ext_getElem? fun i => ?_
  rw [List.getElem?_take, List.getElem?_drop, List.getElem?_drop]
  by_cases hi : i < m
  · rw [if_pos hi, Nat.add_assoc, nC_get M R k (s + i) h (by omega)]
  · rw [if_neg hi, List.getElem?_eq_none (by omega)]
theorem nC_take (M : List (Node × Place)) (R : List Value) (k : Nat) (h : k < M.length) : ((nCellsOf M ++ R).drop (k * 8)).take 8 = [.int .i64 (nx M k).1.a, .bool (nx M k).1.k, .int .i64 (nx M k).1.d.o, .int .i64 (nx M k).1.d.g, .bool (nx M k).1.d.p, .bool (nx M k).1.d.h, .slice (nx M k).2.A1 (nx M k).2.n1 (nx M k).2.c1, .slice (nx M k).2.A2 (nx M k).2.n2 (nx M k).2.c2] := nC_drop M R k 0 8 h rfl
theorem nC_desc (M : List (Node × Place)) (R : List Value) (k : Nat) (h : k < M.length) : ((nCellsOf M ++ R).drop (k * 8 + 2)).take 6 = [.int .i64 (nx M k).1.d.o, .int .i64 (nx M k).1.d.g, .bool (nx M k).1.d.p, .bool (nx M k).1.d.h, .slice (nx M k).2.A1 (nx M k).2.n1 (nx M k).2.c1, .slice (nx M k).2.A2 (nx M k).2.n2 (nx M k).2.c2] := nC_drop M R k 2 6 h rfl
theorem nCellsOf_set : ∀ (M : List (Node × Place)) (k : Nat) (q : Node × Place), k < M.length → nCellsOf (M.set k q) = (nCellsOf M).take (k * 8) ++ nCells q ++ (nCellsOf M).drop (k * 8 + 8)
  | [], k, q, h => by simp at h
  | x :: M, 0, q, h => by
    have hl : (nCells x).length = 8 := rfl
    show nCells q ++ nCellsOf M = (nCells x ++ nCellsOf M).take 0 ++ nCells q ++ (nCells x ++ nCellsOf M).drop 8
    rw [List.take_zero, List.nil_append, List.drop_append_of_le_length (by omega), List.drop_of_length_le (by omega), List.nil_append]
  | x :: M, k + 1, q, h => by
    have hl : (nCells x).length = 8 := rfl
    have ih := nCellsOf_set M k q (by simpa using h)
    show nCells x ++ nCellsOf (M.set k q) = (nCells x ++ nCellsOf M).take ((k + 1) * 8) ++ nCells q ++ (nCells x ++ nCellsOf M).drop ((k + 1) * 8 + 8)
    rw [ih, show (k + 1) * 8 = 8 + k * 8 by omega, show 8 + k * 8 + 8 = 8 + (k * 8 + 8) by omega, List.take_append, List.take_of_length_le (l := nCells x) (by omega), List.drop_append, List.drop_of_length_le (l := nCells x) (by omega), hl, show 8 + k * 8 - 8 = k * 8 by omega, show 8 + (k * 8 + 8) - 8 = k * 8 + 8 by omega]
    simp only [List.append_assoc, List.nil_append]
theorem nC_set (M : List (Node × Place)) (R : List Value) (k : Nat) (d : Desc) (p : Place) (h : k < M.length) :
    (nCellsOf M ++ R).take (k * 8 + 2) ++ [.int .i64 d.o, .int .i64 d.g, .bool d.p, .bool d.h, .slice p.A1 p.n1 p.c1, .slice p.A2 p.n2 p.c2] ++ (nCellsOf M ++ R).drop (k * 8 + 2 + 6) = nCellsOf (M.set k (⟨(nx M k).1.a, (nx M k).1.k, d⟩, p)) ++ R := by
  have hl := nCellsOf_length M
  rw [nCellsOf_set M k _ h]
  have h2 : (nCellsOf M ++ R).take (k * 8 + 2) = (nCellsOf M).take (k * 8) ++ [.int .i64 (nx M k).1.a, .bool (nx M k).1.k] := by
    rw [List.take_append_of_le_length (by omega), List.take_add]
    congr 1
    have h8 := nC_drop M [] k 0 8 h rfl
    rw [List.append_nil] at h8
    have := congrArg (List.take 2) h8
    rw [List.take_take] at this
    exact this
  rw [h2, show k * 8 + 2 + 6 = k * 8 + 8 by omega, List.drop_append_of_le_length (by omega)]
  simp only [nCells, Desc.cells, List.append_assoc, List.cons_append, List.nil_append]
end L
theorem St.rows2 {w0 W w1 : World} {rs : List Res} {lo5 hi5 lo9 hi9 e size n5 c5 n6 c6 : Nat} {A5 A6 : Option Addr} {xs ys : List Value} (st : St w0 W rs) (hb : Below W.heap.size W w1) (h5 : W.heap.size ≤ lo5) (h9 : W.heap.size ≤ lo9)
    (o5 : w1.ownsRow lo5 e size (.slice A5 n5 c5) n5 xs) (o9 : w1.ownsRow lo9 e size (.slice A6 n6 c6) n6 ys) (k5 : ∀ k, (Value.slice A5 n5 c5).ownBlock = some k → k < hi5) (k9 : ∀ k, (Value.slice A6 n6 c6).ownBlock = some k → k < hi9) (hap : hi5 ≤ lo9 ∨ hi9 ≤ lo5) :
    St w0 w1 (.row e size (.slice A5 n5 c5) n5 xs :: .row e size (.slice A6 n6 c6) n6 ys :: rs) := by
  have hs := st.size
  have far : ∀ {r : Res} {lo : Nat}, r.holds lo w1 → W.heap.size ≤ lo → ∀ s ∈ rs, r.ne s := fun hr hl s hs k hk hk' => by
    have a1 := (Res.holds_lt hr hk).1
    have a2 := (Res.holds_lt (st.holds s hs) hk').2
    omega
  have r5 : (Res.row e size (.slice A5 n5 c5) n5 xs).holds lo5 w1 := o5
  have r9 : (Res.row e size (.slice A6 n6 c6) n6 ys).holds lo9 w1 := o9
  refine ((st.call hb).cons (Res.holds_mono r9 (by omega)) (far r9 h9)).cons (Res.holds_mono r5 (by omega)) fun s hs => ?_
  rcases List.mem_cons.1 hs with rfl | hs
  · exact Res.apart (fun k hk => ⟨(Res.holds_lt r5 hk).1, k5 k hk⟩) (fun k hk => ⟨(Res.holds_lt r9 hk).1, k9 k hk⟩) hap
  · exact far r5 h5 s hs
def RowsOk (w : World) (B : Nat) (F : List Res) (q : L.Node × L.Place) : Prop :=
  (Aces w B q.2.A1 q.2.n1 q.1.d.e ∧ Aces w B q.2.A2 q.2.n2 q.1.d.a) ∨ (rowE q ∈ F ∧ rowA q ∈ F)
theorem RowsOk.aces {w0 w : World} {B : Nat} {F rs : List Res} {q : L.Node × L.Place} (h : RowsOk w0 B F q) (st : St w0 w rs) (hF : ∀ r ∈ F, r ∈ rs) (hB : B ≤ w0.heap.size) : Aces w w.heap.size q.2.A1 q.2.n1 q.1.d.e ∧ Aces w w.heap.size q.2.A2 q.2.n2 q.1.d.a := by
  rcases h with ⟨h1, h2⟩ | ⟨h1, h2⟩
  · exact ⟨(h1.st st hB).more (Nat.le_trans hB st.size), (h2.st st hB).more (Nat.le_trans hB st.size)⟩
  · exact ⟨Rd.aces (Rd.of_row (st.holds _ (hF _ h1))), Rd.aces (Rd.of_row (st.holds _ (hF _ h2)))⟩
theorem RowsOk.more {w : World} {B : Nat} {F F' : List Res} {q : L.Node × L.Place} (h : RowsOk w B F q) (hF : ∀ r ∈ F, r ∈ F') : RowsOk w B F' q := h.imp id fun h => ⟨hF _ h.1, hF _ h.2⟩
theorem child_at {d' d : L.Desc} {dir : Bool} {m : L.Desc} {E : Int} (hc : L.child d' d dir = (m, E)) (v' : d'.Valid) (v : d.Valid) (A1 A2 A1' A2' : Option Addr) (n1 n2 n1' n2' c1 c2 c1' c2' B : Nat) (w : World)
    (h : Aces w B A1 n1 d.e ∧ Aces w B A2 n2 d.a) (h' : Aces w B A1' n1' d'.e ∧ Aces w B A2' n2' d'.a) (hB1 : B ≤ w.heap.size) :
    Calls Tryz.prog 45 #[.agg #[.int .i64 d'.o, .int .i64 d'.g, .bool d'.p, .bool d'.h, .slice A1' n1' c1', .slice A2' n2' c2'], .agg #[.int .i64 d.o, .int .i64 d.g, .bool d.p, .bool d.h, .slice A1 n1 c1, .slice A2 n2 c2], .bool dir] w
      fun e w' => ∃ A1 n1 c1 A2 n2 c2, e = .returned (.tuple #[.agg #[.int .i64 m.o, .int .i64 m.g, .bool m.p, .bool m.h, .slice A1 n1 c1, .slice A2 n2 c2], .int .i64 E]) ∧ St w w' [aceRow (.slice A1 n1 c1) n1 m.e, aceRow (.slice A2 n2 c2) n2 m.a] := by
  have l1 := h.1.len
  have l2 := h.2.len
  have l3 := h'.1.len
  have l4 := h'.2.len
  have e1 := v.le
  have e2 := v.la
  have e3 := v'.le
  have e4 := v'.la
  have g1 := L.Desc.err_e (d := d) (by rw [L.Desc.err_eq, v.errs])
  have g2 := L.Desc.err_a (d := d) (by rw [L.Desc.err_eq, v.errs])
  have g3 := L.Desc.err_e (d := d') (by rw [L.Desc.err_eq, v'.errs])
  have g4 := L.Desc.err_a (d := d') (by rw [L.Desc.err_eq, v'.errs])
  exact (child_desc d' d dir A1 A2 A1' A2' n1 n2 n1' n2' c1 c2 c1' c2' B w h.1 h.2 h'.1 h'.2 hB1 (by omega) (by omega) (by omega) (by omega) g1.fok g2.fok g3.fok g4.fok).mono fun e w' h => by rw [hc] at h; exact h
def RetTree (w : World) (n : Nat) (l : List L.Node) (e : Ending) (w' : World) : Prop :=
  (L.rTreeErr l ≠ 0 ∧ e = .returned (.tuple #[.slice none 0 0, .int .i64 (L.rTreeErr l)]) ∧ Below w.heap.size w w') ∨
  (L.rTreeErr l = 0 ∧ L.rT l n = ([], false) ∧ e = .returned (.tuple #[.slice none 0 0, .int .i64 16]) ∧ Below w.heap.size w w') ∨
  (L.rTreeErr l = 0 ∧ ∃ A c us, us.map Prod.fst = (L.rT l n).1 ∧ (L.rT l n).2 = true ∧ e = .returned (.tuple #[.slice A n c, .int .i64 0]) ∧ Below w.heap.size w w' ∧ Nodes w' w'.heap.size A n us)
set_option maxRecDepth 8000 in
set_option maxHeartbeats 8000000 in
theorem refreshed_any (A : Option Addr) (n c B : Nat) (vs : List (L.Node × L.Place)) (w : World) (h1 : Nodes w B A n vs) (hB1 : B ≤ w.heap.size) (hn : n ≤ 100) (hm : ∀ q ∈ vs, q.2.n1 ≤ 100 ∧ q.2.n2 ≤ 100) :
    Calls Tryz.prog 32 #[.slice A n c] w (RetTree w n (vs.map Prod.fst)) := by
  have H1 := Lib.hid h1
  have HM := Lib.hid hm
  have e1 := Lib.hid h1.len
  have el : Hid ((vs.map Prod.fst).length = n) := Lib.hid (by rw [List.length_map, ← e1.out])
  generalize hz : L.rTreeErr (vs.map Prod.fst) = z
  have HZ := Lib.hid hz
  clear h1 hm hz
  have st := St.start w
  by_cases h0 : z = 0
  · subst h0
    go_enter Tryz.func32, Tryz.ntmps32
    go_wp2_with (refine WL.out ?_; (repeat ((refine WL.op ?_ ?_; (exact rfl); intro K hK; (first | ((first | ((with_reducible apply ow_move); exact rfl) | ((with_reducible apply ow_assign); exact rfl)); (go_simp <;> (try simp (disch := omega) only [wrap_id, sub_left, zac]) <;> rfl)) | ((with_reducible apply ow_eval); (go_simp <;> (try simp (disch := omega) only [wrap_id, sub_left, zac]) <;> rfl); first | (with_reducible apply up_value) | ((with_reducible apply up_enter); first | (go_at_call 53; refine (treeErr_any A n c B vs _ (H1.out.st st hB1) (Nat.le_trans hB1 st.size) hn HM.out).mono ?_; rw [HZ.out]; rintro e w' ⟨rfl, hb⟩; replace st := st.call hb; clear hb; refine ⟨_, rfl, ?_⟩) | (go_at_call 54; refine (CloneN_any A n c B vs _ (H1.out.st st hB1) (Nat.le_trans hB1 st.size) (by omega)).mono ?_; rintro e w' ⟨A', c', rfl, st'⟩; replace st := st.join st'; clear st'; simp only [List.cons_append, List.nil_append] at st; refine ⟨_, rfl, ?_⟩)))); refine WL.next hK (by simp only [Act.put, zpt, zsz, zss]; exact rfl) ?_; clear hK K))); (try refine WL.nil ?_))
    obtain ⟨hn30, hok⟩ := L.TreeOk.of HZ.out
    have st0 := st
    clear st
    go_loopw [19] (fun i wr => ∃ (k : Nat) (us : List (L.Node × L.Place)) (F : List Res), k ≤ n ∧ i = .int .i64 k ∧ Hid ((L.rT (vs.map Prod.fst) k).2 = true ∧ us.map Prod.fst = L.mid (vs.map Prod.fst) k ∧ ∀ q ∈ us, RowsOk w B F q) ∧ St w wr (nodeRow (.slice A' n c') n us :: F)) (fun i _ => n - (intOf i).toNat)
    case atStart => exact ⟨0, vs, [], Nat.zero_le _, rfl, Lib.hid ⟨rfl, rfl, fun q hq => .inl (H1.out.rows q hq)⟩, st0⟩
    case round =>
      clear st0
      obtain ⟨k, us, F, hk, rfl, hU, st⟩ := hrel
      have hul : Hid (us.length = n) := Lib.hid (by have h3 := congrArg List.length hU.out.2.1; rw [List.length_map, L.mid_len hU.out.1 (by rw [el.out]; exact hk), el.out] at h3; exact h3)
      by_cases hlt : k < n
      · obtain ⟨g, R, rfl, hx1, hx2, hx3, hx4, st2⟩ := St.toBox st (by omega)
        replace st := st2
        clear st2
        have X2 := Lib.hid hx2
        have X3 := Lib.hid hx3
        have X4 := Lib.hid hx4
        have hku : k < us.length := by rw [hul.out]; exact hlt
        have hkI : (k : Int) < (n : Int) := by omega
        have hn0 : 0 < n := by omega
        clear hx1 hx2 hx3 hx4
        by_cases hk0 : k = 0
        · subst hk0
          obtain ⟨q, us', rfl⟩ : ∃ q us', us = q :: us' := by
            cases us with
            | nil => simp at hku
            | cons q us' => exact ⟨q, us', rfl⟩
          have st2 : St w wr (.box g 34 (.int .i64 q.1.a :: .bool q.1.k :: .int .i64 q.1.d.o :: .int .i64 q.1.d.g :: .bool q.1.d.p :: .bool q.1.d.h :: .slice q.2.A1 q.2.n1 q.2.c1 :: .slice q.2.A2 q.2.n2 q.2.c2 :: (L.nCellsOf us' ++ R)) :: F) := st
          replace st := st2
          clear st2
          have HRQ := Lib.hid (hU.out.2.2 q (List.mem_cons_self ..))
          have hq0 : q.1 = L.nn (vs.map Prod.fst) 0 := by
            have h3 := congrArg (fun l => L.nn l 0) hU.out.2.1
            exact h3.trans (L.mid_own hU.out.1)
          have HV : Hid (q.1.d.Valid) := Lib.hid (by rw [hq0]; exact hok.valid (by rw [el.out]; omega))
          have HQ0 := Lib.hid hq0
          have HOK := Lib.hid hok
          clear hq0 hok
          go_wp2_with (refine WL.out ?_; (repeat ((refine WL.op ?_ ?_; (exact rfl); intro K hK; (first | ((((with_reducible apply ow_assign); exact rfl)); (go_simp <;> (try simp (disch := omega) only [wrap_id, sub_left, zac]) <;> rfl)) | ((((with_reducible apply ow_loadN st); exact rfl; exact inferInstance; exact rfl; (exact get0); ((try simp only [zta, ztz, zda, zdz, zca, zcn, zan, zsz, zss]) <;> exact rfl))); exact rfl) | ((((with_reducible apply ow_alloc st); exact rfl; exact inferInstance; (go_simp <;> (try simp (disch := omega) only [wrap_id, sub_left, zac]) <;> rfl))); (try clear st); intro b w' st) | ((((with_reducible apply ow_storeN' st); exact rfl; exact inferInstance; exact rfl; (exact get0); exact rfl)); exact rfl; exact rfl; (simp <;> done); ((try simp only [zta, ztz, zda, zdz, zca, zcn, zan, zsz, zss]) <;> exact rfl); (try clear st); intro w' st) | ((with_reducible apply ow_eval); (go_simp <;> (try simp (disch := omega) only [wrap_id, sub_left, zac]) <;> rfl); ((with_reducible apply up_value)))); refine WL.next hK (by simp only [Act.put, zpt, zsz, zss]; exact rfl) ?_; clear hK K))); (try refine WL.nil ?_))
          refine wp_region_mix 14 13 (by kernel_rfl) (by kernel_rfl) (by decide) st.size ?_; replace st := st.drew; generalize World.drew _ = W at st ⊢
          (apply Mix.val'; (focus (intro x0 x1 x2 x3 x4 x5 x6 x7 x8 x9 x10 x11 x12 x13 w1 hb; (try simp only [depM, fillA, Act.put, zta, ztz, zpt, zsz, zss, zl0, zls]); (repeat (fail)); have st := st.call hb; ((apply Yphi.run; (exact rfl); (go_simp <;> (try simp (disch := omega) only [wrap_id, sub_left, zac]) <;> rfl); exact rfl)))); (simp only [zca, zcn] <;> exact rfl))
          (apply Mix.free'; (focus (intro x0 x1 x2 x3 x4 x5 x6 x7 x8 x9 x10 x11 x12 x13 w1 hb; (try simp only [depM, fillA, Act.put, zta, ztz, zpt, zsz, zss, zl0, zls]); (repeat (intro _)); have st := st.call hb; apply YX.run; (exact rfl); (go_simp <;> (try simp (disch := omega) only [wrap_id, sub_left, zac]) <;> rfl); exact rfl)); (simp only [zca, zcn] <;> exact rfl))
          iterate 3 (apply Mix.val'; (focus (intro x0 x1 x2 x3 x4 x5 x6 x7 x8 x9 x10 x11 x12 x13 w1 hb; (try simp only [depM, fillA, Act.put, zta, ztz, zpt, zsz, zss, zl0, zls]); (repeat (rintro rfl)); have st := st.call hb; (first | (apply Yphi.run; (exact rfl); (go_simp <;> (try simp (disch := omega) only [wrap_id, sub_left, zac]) <;> rfl); exact rfl) | (apply Yphi.load1 st; exact rfl; exact inferInstance; (exact rfl); exact rfl; (exact get0); exact rfl)))); (simp only [zca, zcn] <;> exact rfl))
          (apply Mix.fact' (freshRow 37 4 (L.cellsOf (q.1.d.e))) (freshRow_stable _ _ _); (focus (intro x0 x1 x2 x3 x4 x5 x6 x7 x8 x9 x10 x11 x12 x13 w1 hb; (try simp only [depM, fillA, Act.put, zta, ztz, zpt, zsz, zss, zl0, zls]); (repeat (rintro rfl)); have st := st.call hb; apply Yphi.call; (exact rfl); (go_simp <;> (try simp (disch := omega) only [wrap_id, sub_left, zac]) <;> rfl); exact rfl; refine (Clone_any q.2.A1 q.2.n1 q.2.c1 _ q.1.d.e _ (HRQ.out.aces st (fun r hr => List.mem_cons_of_mem _ (List.mem_cons_of_mem _ hr)) hB1).1 (Nat.le_refl _) (by have h3 := ((HRQ.out.aces st (fun r hr => List.mem_cons_of_mem _ (List.mem_cons_of_mem _ hr)) hB1).1).len; have h4 := HV.out.le; omega)).mono ?_; rintro e w' ⟨A', n', c', rfl, st'⟩; exact ⟨_, rfl, st'.below, freshRow_mk (st'.get (i := 0) rfl)⟩)); (simp only [zca, zcn] <;> exact rfl))
          iterate 3 (apply Mix.val'; (focus (intro x0 x1 x2 x3 x4 x5 x6 x7 x8 x9 x10 x11 x12 x13 w1 hb; (try simp only [depM, fillA, Act.put, zta, ztz, zpt, zsz, zss, zl0, zls]); (repeat (rintro rfl)); have st := st.call hb; (first | (apply Yphi.run; (exact rfl); (go_simp <;> (try simp (disch := omega) only [wrap_id, sub_left, zac]) <;> rfl); exact rfl) | (apply Yphi.load1 st; exact rfl; exact inferInstance; (exact rfl); exact rfl; (exact get0); exact rfl)))); (simp only [zca, zcn] <;> exact rfl))
          (apply Mix.fact' (freshRow 37 4 (L.cellsOf (q.1.d.a))) (freshRow_stable _ _ _); (focus (intro x0 x1 x2 x3 x4 x5 x6 x7 x8 x9 x10 x11 x12 x13 w1 hb; (try simp only [depM, fillA, Act.put, zta, ztz, zpt, zsz, zss, zl0, zls]); (repeat (first | rintro rfl | intro lo hi hlo hhi hphi)); have st := st.call hb; apply Yphi.call; (exact rfl); (go_simp <;> (try simp (disch := omega) only [wrap_id, sub_left, zac]) <;> rfl); exact rfl; refine (Clone_any q.2.A2 q.2.n2 q.2.c2 _ q.1.d.a _ (HRQ.out.aces st (fun r hr => List.mem_cons_of_mem _ (List.mem_cons_of_mem _ hr)) hB1).2 (Nat.le_refl _) (by have h3 := ((HRQ.out.aces st (fun r hr => List.mem_cons_of_mem _ (List.mem_cons_of_mem _ hr)) hB1).2).len; have h4 := HV.out.la; omega)).mono ?_; rintro e w' ⟨A', n', c', rfl, st'⟩; exact ⟨_, rfl, st'.below, freshRow_mk (st'.get (i := 0) rfl)⟩)); (simp only [zca, zcn] <;> exact rfl))
          iterate 3 (apply Mix.val'; (focus (intro x0 x1 x2 x3 x4 x5 x6 x7 x8 x9 x10 x11 x12 x13 w1 hb; (try simp only [depM, fillA, Act.put, zta, ztz, zpt, zsz, zss, zl0, zls]); (repeat (first | rintro rfl | intro lo hi hlo hhi hphi | intro _)); have st := st.call hb; ((apply Yphi.run; (exact rfl); (go_simp <;> (try simp (disch := omega) only [wrap_id, sub_left, zac]) <;> rfl); exact rfl)))); (simp only [zca, zcn] <;> exact rfl))
          (apply Mix.store'; exact rfl; (simp only [zca, zcn] <;> exact rfl))
          refine Mix.fin (by kernel_rfl) (by kernel_rfl) rfl ?_
          intro x0 x1 x2 x3 x4 x5 x6 x7 x8 x9 x10 x11 x12 x13 lo hi w1 hb hap
          rintro rfl rfl rfl rfl h5 k5 ⟨A5, n5, c5, rfl, o5, b5⟩ rfl rfl rfl h9 k9 ⟨A6, n6, c6, rfl, o9, b9⟩ rfl rfl rfl
          have stO := st
          replace st := St.rows2 st hb h5 h9 o5 o9 b5 b9 (hap 5 9 (by decide) (by decide) (by decide))
          clear hap hb h5 k5 o5 b5 h9 k9 o9 b9
          simp only [allMix, fixF, fillA, Act.put, zta, ztz, zpt, zsz, zss, zda, zdz]
          refine ⟨?_, ?_⟩
          (exact rfl)
          ((((with_reducible apply ow_store1' st); exact rfl; exact inferInstance; exact rfl; (exact get3); (go_simp <;> (try simp (disch := omega) only [wrap_id, sub_left, zac]) <;> rfl))); exact rfl; exact rfl; (simp <;> done); ((try simp only [zta, ztz, zda, zdz, zca, zcn, zan, zsz, zss]) <;> exact rfl); (try clear st); intro w' st)
          refine ⟨undef, rfl, SameBelow.of_st stO st, ?_⟩
          clear stO
          (repeat ((refine WL.op ?_ ?_; (exact rfl); intro K hK; (first | ((((with_reducible apply ow_store1' st); exact rfl; exact inferInstance; exact rfl; (exact get3); (go_simp <;> (try simp (disch := omega) only [wrap_id, sub_left, zac]) <;> rfl))); exact rfl; exact rfl; (simp <;> done); ((try simp only [zta, ztz, zda, zdz, zca, zcn, zan, zsz, zss]) <;> exact rfl); (try clear st); intro w' st) | ((with_reducible apply ow_eval); (go_simp <;> (try simp (disch := omega) only [wrap_id, sub_left, zac]) <;> rfl); ((with_reducible apply up_value)))); refine WL.next hK (by simp only [Act.put, zpt, zsz, zss]; exact rfl) ?_; clear hK K)))
          refine WL.nil ?_
          go_wp2_with (refine WL.out ?_; (repeat ((refine WL.op ?_ ?_; (exact rfl); intro K hK; (first | ((((with_reducible apply ow_move); exact rfl)); (go_simp <;> (try simp (disch := omega) only [wrap_id, sub_left, zac]) <;> rfl)) | ((with_reducible apply ow_eval); (go_simp <;> (try simp (disch := omega) only [wrap_id, sub_left, zac]) <;> rfl); ((with_reducible apply up_value)))); refine WL.next hK (by simp only [Act.put, zpt, zsz, zss]; exact rfl) ?_; clear hK K))); (try refine WL.nil ?_))
          have HR1 : Hid ((L.rT (vs.map Prod.fst) 1).2 = true ∧ ((q.1, (⟨A5, n5, c5, A6, n6, c6⟩ : L.Place)) :: us').map Prod.fst = L.mid (vs.map Prod.fst) 1) := Lib.hid ⟨rfl, by
            have h3 : q.1 :: us'.map Prod.fst = (vs.map Prod.fst).drop 0 := hU.out.2.1
            rw [L.drop_nn (by rw [el.out]; exact hlt)] at h3
            show q.1 :: us'.map Prod.fst = [L.nn (vs.map Prod.fst) 0] ++ (vs.map Prod.fst).drop 1
            exact h3⟩
          refine ⟨⟨1, (q.1, ⟨A5, n5, c5, A6, n6, c6⟩) :: us', rowE (q.1, ⟨A5, n5, c5, A6, n6, c6⟩) :: rowA (q.1, ⟨A5, n5, c5, A6, n6, c6⟩) :: F, by omega, (by (rfl)), Lib.hid ⟨HR1.out.1, HR1.out.2, fun x hx => ?_⟩, ?_⟩, by simp [intOf]; omega⟩
          · rcases List.mem_cons.1 hx with rfl | hx
            · exact .inr ⟨List.mem_cons_self .., List.mem_cons_of_mem _ (List.mem_cons_self ..)⟩
            · exact (hU.out.2.2 x (List.mem_cons_of_mem _ hx)).more fun r hr => List.mem_cons_of_mem _ (List.mem_cons_of_mem _ hr)
          · have st3 : St w w' (rowE (q.1, ⟨A5, n5, c5, A6, n6, c6⟩) :: rowA (q.1, ⟨A5, n5, c5, A6, n6, c6⟩) :: .box g 34 (L.nCellsOf ((q.1, ⟨A5, n5, c5, A6, n6, c6⟩) :: us') ++ R) :: F) := st.sub (.cons_cons _ (.cons_cons _ (.cons _ (.refl _))))
            have st4 := st3.perm (List.Perm.append_right F (List.perm_append_comm (l₁ := [_, _]) (l₂ := [_])))
            refine St.ofBox st4 (by rw [L.nCellsOf_length, List.length_cons, ← hul.out, List.length_cons]) ?_ X3.out X4.out
            have h5 := X2.out
            rw [List.length_append, L.nCellsOf_length, List.length_cons] at h5 ⊢
            exact h5
        · have hk1 : ((k : Int) == 0) = false := by simpa using hk0
          obtain ⟨j, hj, hjk⟩ := hok.above (k := k) (by rw [el.out]; exact hlt) hk0
          have hju : j < us.length := by omega
          have hown : (L.nx us k).1 = L.nn (vs.map Prod.fst) k := by rw [L.nx_fst, hU.out.2.1, L.mid_own hU.out.1]
          have hab : (L.nx us j).1 = L.nn (L.rT (vs.map Prod.fst) k).1 j := by rw [L.nx_fst, hU.out.2.1, L.mid_above hU.out.1 hjk]
          have ha : (L.nx us k).1.a = (j : Int) := by rw [hown]; exact hj
          have V1 : Hid ((L.nx us k).1.d.Valid) := Lib.hid (by rw [hown]; exact hok.valid (by rw [el.out]; exact hlt))
          have V2 : Hid ((L.nx us j).1.d.Valid) := Lib.hid (by rw [hab]; exact L.rT_valid hok k (by rw [el.out]; exact hk) hU.out.1 _ (L.nn_mem _ _ (by rw [L.rT_len k hU.out.1]; exact hjk)))
          obtain ⟨m, E, hc⟩ : ∃ m E, L.child (L.nx us j).1.d (L.nx us k).1.d (L.nx us k).1.k = (m, E) := ⟨_, _, rfl⟩
          have HC := Lib.hid hc
          have hjI : (j : Int) < (n : Int) := by omega
          have RK := Lib.hid (hU.out.2.2 _ (L.nx_mem us k hku))
          have RJ := Lib.hid (hU.out.2.2 _ (L.nx_mem us j hju))
          have HO := Lib.hid hown
          have HAB := Lib.hid hab
          have HJ := Lib.hid hj
          have HOK := Lib.hid hok
          have HA := Lib.hid ha
          clear hown hab hj hok hc ha
          go_wp2_with (refine WL.out ?_; (repeat ((refine WL.op ?_ ?_; (exact rfl); intro K hK; (first | ((((with_reducible apply ow_assign); exact rfl)); (go_simp <;> (try simp (disch := omega) only [wrap_id, sub_left, zac]) <;> rfl)) | ((((with_reducible apply ow_alloc st); exact rfl; exact inferInstance; (go_simp <;> (try simp (disch := omega) only [wrap_id, sub_left, zac]) <;> rfl))); (try clear st); intro b w' st) | ((((with_reducible apply ow_storeN' st); exact rfl; exact inferInstance; exact rfl; (exact get0); exact rfl)); exact rfl; exact rfl; (simp <;> done); ((try simp only [zta, ztz, zda, zdz, zca, zcn, zan, zsz, zss]) <;> exact rfl); (try clear st); intro w' st) | ((with_reducible apply ow_loadN st); exact rfl; exact inferInstance; exact rfl; (exact get0); exact L.nC_take us R k hku; exact rfl) | ((with_reducible apply ow_eval); (go_simp <;> (try simp (disch := omega) only [wrap_id, sub_left, zac]) <;> rfl); ((with_reducible apply up_value)))); refine WL.next hK (by simp only [Act.put, zpt, zsz, zss]; exact rfl) ?_; clear hK K))); (try refine WL.nil ?_))
          rw [HA.out] at st
          refine wp_region_mix 16 15 (by kernel_rfl) (by kernel_rfl) (by decide) st.size ?_; replace st := st.drew; generalize World.drew _ = W at st ⊢
          iterate 5 (apply Mix.val'; (focus (intro x0 x1 x2 x3 x4 x5 x6 x7 x8 x9 x10 x11 x12 x13 x14 x15 w1 hb; (try simp only [depM, fillA, Act.put, zta, ztz, zpt, zsz, zss, zl0, zls]); (repeat (rintro rfl)); have st := st.call hb; (first | (apply Yphi.run; (exact rfl); (go_simp <;> (try simp (disch := omega) only [wrap_id, sub_left, zac]) <;> rfl); exact rfl) | (apply Yphi.load1 st; exact rfl; exact inferInstance; (exact rfl); exact rfl; (exact get0); exact rfl)))); (simp only [zca, zcn] <;> exact rfl))
          (apply Mix.val'; (focus (intro x0 x1 x2 x3 x4 x5 x6 x7 x8 x9 x10 x11 x12 x13 x14 x15 w1 hb; (try simp only [depM, fillA, Act.put, zta, ztz, zpt, zsz, zss, zl0, zls]); (repeat (rintro rfl)); have st := st.call hb; apply Yphi.loadN st; exact rfl; exact inferInstance; (exact rfl); exact rfl; (exact get1); exact L.nC_desc us R j hju; exact rfl)); (simp only [zca, zcn] <;> exact rfl))
          iterate 4 (apply Mix.val'; (focus (intro x0 x1 x2 x3 x4 x5 x6 x7 x8 x9 x10 x11 x12 x13 x14 x15 w1 hb; (try simp only [depM, fillA, Act.put, zta, ztz, zpt, zsz, zss, zl0, zls]); (repeat (rintro rfl)); have st := st.call hb; (first | (apply Yphi.run; (exact rfl); (go_simp <;> (try simp (disch := omega) only [wrap_id, sub_left, zac]) <;> rfl); exact rfl) | (apply Yphi.load1 st; exact rfl; exact inferInstance; (exact rfl); exact rfl; (exact get0); exact rfl) | (apply Yphi.loadN st; exact rfl; exact inferInstance; (exact rfl); exact rfl; (exact get0); ((try simp only [zta, ztz, zda, zdz, zca, zcn, zan, zsz, zss]) <;> exact rfl); exact rfl)))); (simp only [zca, zcn] <;> exact rfl))
          (apply Mix.fact' (tupDesc W.heap.size m (.int .i64 E)) (tupDesc_stable _ _ _); (focus (intro x0 x1 x2 x3 x4 x5 x6 x7 x8 x9 x10 x11 x12 x13 x14 x15 w1 hb; (try simp only [depM, fillA, Act.put, zta, ztz, zpt, zsz, zss, zl0, zls]); (repeat (rintro rfl)); have st := st.call hb; apply Yphi.call; (exact rfl); (go_simp <;> (try simp (disch := omega) only [wrap_id, sub_left, zac]) <;> rfl); exact rfl; refine (child_at HC.out V2.out V1.out _ _ _ _ _ _ _ _ _ _ _ _ _ _ (RK.out.aces st (fun r hr => List.mem_cons_of_mem _ (List.mem_cons_of_mem _ hr)) hB1) (RJ.out.aces st (fun r hr => List.mem_cons_of_mem _ (List.mem_cons_of_mem _ hr)) hB1) (Nat.le_refl _)).mono ?_; rintro e w' ⟨A7, n7, c7, A8, n8, c8, rfl, st'⟩; exact ⟨_, rfl, st'.below, _, _, _, _, _, _, rfl, DescRows.of_st hb.size st'⟩)); (simp only [zca, zcn] <;> exact rfl))
          (apply Mix.fact' (tupDesc W.heap.size m (.int .i64 E)) (tupDesc_stable _ _ _); (focus (intro x0 x1 x2 x3 x4 x5 x6 x7 x8 x9 x10 x11 x12 x13 x14 x15 w1 hb; (try simp only [depM, fillA, Act.put, zta, ztz, zpt, zsz, zss, zl0, zls]); (repeat (intro lo hi hlo hhi hphi)); have st := st.call hb; obtain ⟨A3, n3, c3, A4, n4, c4, rfl, hr⟩ := hphi; apply Yphi.known; (exact rfl); (go_simp <;> (try simp (disch := omega) only [wrap_id, sub_left, zac]) <;> rfl); exact rfl; exact ⟨_, _, _, _, _, _, rfl, hr⟩)); (simp only [zca, zcn] <;> exact rfl))
          (apply Mix.fact' (descFrom W.heap.size m) (descFrom_stable _ _); (focus (intro x0 x1 x2 x3 x4 x5 x6 x7 x8 x9 x10 x11 x12 x13 x14 x15 w1 hb; (try simp only [depM, fillA, Act.put, zta, ztz, zpt, zsz, zss, zl0, zls]); (repeat (intro lo hi hlo hhi hphi)); have st := st.call hb; obtain ⟨A3, n3, c3, A4, n4, c4, rfl, hr⟩ := hphi; apply Yphi.known; (exact rfl); (go_simp <;> (try simp (disch := omega) only [wrap_id, sub_left, zac]) <;> rfl); exact rfl; exact ⟨_, _, _, _, _, _, rfl, hr⟩)); (simp only [zca, zcn] <;> exact rfl))
          (apply Mix.free'; (focus (intro x0 x1 x2 x3 x4 x5 x6 x7 x8 x9 x10 x11 x12 x13 x14 x15 w1 hb; (try simp only [depM, fillA, Act.put, zta, ztz, zpt, zsz, zss, zl0, zls]); (repeat (first | intro lo hi hlo hhi hphi | intro _)); have st := st.call hb; obtain ⟨A3, n3, c3, A4, n4, c4, rfl, hr⟩ := hphi; apply YX.run; (exact rfl); (go_simp <;> (try simp (disch := omega) only [wrap_id, sub_left, zac]) <;> rfl); exact rfl)); (simp only [zca, zcn] <;> exact rfl))
          (apply Mix.fact' (freshBox (25) ([.int .i64 0, .int .i64 0, .bool false, .bool false, .slice none 0 0, .slice none 0 0])) (freshBox_stable _ _); (focus (intro x0 x1 x2 x3 x4 x5 x6 x7 x8 x9 x10 x11 x12 x13 x14 x15 w1 hb; (try simp only [depM, fillA, Act.put, zta, ztz, zpt, zsz, zss, zl0, zls]); (repeat (fail)); have st := st.call hb; apply Yphi.alloc; exact rfl; exact inferInstance; exact rfl; (exact rfl))); (simp only [zca, zcn] <;> exact rfl))
          (apply Mix.store'; exact rfl; (simp only [zca, zcn] <;> exact rfl))
          refine Mix.fin (by kernel_rfl) (by kernel_rfl) rfl ?_
          intro x0 x1 x2 x3 x4 x5 x6 x7 x8 x9 x10 x11 x12 x13 x14 x15 lo hi w1 hb hap
          rintro rfl rfl rfl rfl rfl rfl rfl rfl rfl rfl - - - - - - - - ⟨A3, n3, c3, A4, n4, c4, rfl, hr⟩ h9 - ⟨b8, rfl, hb9, -⟩
          have stO := st
          have st := St.descBox st hb hr hb9 h9 (Nat.le_refl _) (by decide)
          clear hap hb hr hb9 h9
          simp only [allMix, fixF, fillA, Act.put, zta, ztz, zpt, zsz, zss, zda, zdz]
          refine ⟨?_, ?_⟩
          (exact rfl)
          ((((with_reducible apply ow_storeN' st); exact rfl; exact inferInstance; exact rfl; (exact get0); exact rfl)); exact rfl; exact rfl; (simp <;> done); ((try simp only [zta, ztz, zda, zdz, zca, zcn, zan, zsz, zss]) <;> exact rfl); (try clear st); intro w' st)
          refine ⟨undef, rfl, SameBelow.of_st stO st, ?_⟩
          clear stO
          (repeat ((refine WL.op ?_ ?_; (exact rfl); intro K hK; (((((with_reducible apply ow_assign); exact rfl)); (go_simp <;> (try simp (disch := omega) only [wrap_id, sub_left, zac]) <;> rfl))); refine WL.next hK (by simp only [Act.put, zpt, zsz, zss]; exact rfl) ?_; clear hK K)))
          refine WL.nil ?_
          go_wp2_with (refine WL.out ?_; (repeat ((refine WL.op ?_ ?_; (exact rfl); intro K hK; (first | ((((with_reducible apply ow_move); exact rfl)); (go_simp <;> (try simp (disch := omega) only [wrap_id, sub_left, zac]) <;> rfl)) | ((((with_reducible apply ow_loadN st); exact rfl; exact inferInstance; exact rfl; (exact get0); ((try simp only [zta, ztz, zda, zdz, zca, zcn, zan, zsz, zss]) <;> exact rfl))); exact rfl) | ((with_reducible apply ow_storeN' st); exact rfl; exact inferInstance; exact rfl; (exact get4); exact rfl; exact rfl; exact rfl; (focus (rw [List.length_append, L.nCellsOf_length]; omega)); (focus (exact congrArg (fun x => _ :: _ :: _ :: _ :: Res.box g 34 x :: F) (L.nC_set us R k m ⟨A3, n3, c3, A4, n4, c4⟩ hku))); (try clear st); intro w' st) | ((with_reducible apply ow_eval); (go_simp <;> (try simp (disch := omega) only [wrap_id, sub_left, zac]) <;> rfl); ((with_reducible apply up_value)))); refine WL.next hK (by simp only [Act.put, zpt, zsz, zss]; exact rfl) ?_; clear hK K))); (try refine WL.nil ?_))
          · have hrc : L.rChild (L.nn (L.rT (vs.map Prod.fst) k).1 (L.nn (vs.map Prod.fst) k).a.toNat).d (L.nn (vs.map Prod.fst) k).d (L.nn (vs.map Prod.fst) k).k = L.rChild (L.nx us j).1.d (L.nx us k).1.d (L.nx us k).1.k := by rw [HJ.out, HAB.out, HO.out]; rfl
            have h6 := HC.out
            rw [L.child_eq _ V2.out V1.out] at h6
            have hE := (Prod.mk.inj h6).2
            cases hok2 : (L.rChild (L.nx us j).1.d (L.nx us k).1.d (L.nx us k).1.k).2 with
            | true =>
              rw [hok2] at hE
              have hE : (0 : Int) = E := hE
              have h7 := ‹(E != 0) = true›
              rw [← hE] at h7
              exact absurd h7 (by decide)
            | false =>
              rw [hok2] at hE
              have hE : (16 : Int) = E := hE
              have H6 : Hid (L.rT (vs.map Prod.fst) n = ([], false)) := Lib.hid (L.rT_off (L.rT_fail hU.out.1 hk0 (by rw [hrc]; exact hok2)) n (by omega))
              go_ret2
              exact .inr (.inl ⟨HZ.out, H6.out, by rw [hE]; rfl, st.below⟩)
          · have hrc : L.rChild (L.nn (L.rT (vs.map Prod.fst) k).1 (L.nn (vs.map Prod.fst) k).a.toNat).d (L.nn (vs.map Prod.fst) k).d (L.nn (vs.map Prod.fst) k).k = L.rChild (L.nx us j).1.d (L.nx us k).1.d (L.nx us k).1.k := by rw [HJ.out, HAB.out, HO.out]; rfl
            have h6 := HC.out
            rw [L.child_eq _ V2.out V1.out] at h6
            have hm2 := (Prod.mk.inj h6).1
            have hE := (Prod.mk.inj h6).2
            have hok2 : (L.rChild (L.nx us j).1.d (L.nx us k).1.d (L.nx us k).1.k).2 = true := by
              cases hok2 : (L.rChild (L.nx us j).1.d (L.nx us k).1.d (L.nx us k).1.k).2 with
              | true => rfl
              | false =>
                rw [hok2] at hE
                have hE : (16 : Int) = E := hE
                have h7 := ‹(E != 0) = false›
                rw [← hE] at h7
                exact absurd h7 (by decide)
            have hrT : L.rT (vs.map Prod.fst) (k + 1) = ((L.rT (vs.map Prod.fst) k).1 ++ [⟨(L.nx us k).1.a, (L.nx us k).1.k, m⟩], true) := by
              rw [L.rT_next hU.out.1 hk0 (by rw [hrc]; exact hok2), hrc, hm2, HO.out]
            have hwr : IntKind.i64.wrap ((k : Int) + 1) = (k : Int) + 1 := by rw [IntKind.wrap_i64]; omega
            refine ⟨⟨k + 1, us.set k (⟨(L.nx us k).1.a, (L.nx us k).1.k, m⟩, ⟨A3, n3, c3, A4, n4, c4⟩), rowE (⟨(L.nx us k).1.a, (L.nx us k).1.k, m⟩, ⟨A3, n3, c3, A4, n4, c4⟩) :: rowA (⟨(L.nx us k).1.a, (L.nx us k).1.k, m⟩, ⟨A3, n3, c3, A4, n4, c4⟩) :: F, by omega, by (try rw [hwr]); go_num, Lib.hid ⟨by rw [hrT], ?_, fun x hx => ?_⟩, ?_⟩, by (try simp only [hwr]); simp [intOf]; omega⟩
            · rw [L.mid_set hU.out.1 (by rw [el.out]; exact hlt) hrT, List.map_set, hU.out.2.1]
            · rcases List.mem_or_eq_of_mem_set hx with hx | rfl
              · exact (hU.out.2.2 x hx).more fun r hr => List.mem_cons_of_mem _ (List.mem_cons_of_mem _ hr)
              · exact .inr ⟨List.mem_cons_self .., List.mem_cons_of_mem _ (List.mem_cons_self ..)⟩
            · have st3 := st.sub (.cons _ (.cons_cons _ (.cons_cons _ (.cons _ (.refl _)))))
              have st4 := st3.perm (List.Perm.append_right F (List.perm_append_comm (l₁ := [_, _]) (l₂ := [_])))
              refine St.ofBox st4 (by rw [L.nCellsOf_length, List.length_set, hul.out]) ?_ X3.out X4.out
              have h5 := X2.out
              rw [List.length_append, L.nCellsOf_length] at h5
              rw [List.length_append, L.nCellsOf_length, List.length_set]
              exact h5
      · have hkn : k = n := by omega
        subst hkn
        have hd : L.mid (vs.map Prod.fst) k = (L.rT (vs.map Prod.fst) k).1 := by
          unfold L.mid
          rw [List.drop_of_length_le (by rw [el.out]; exact Nat.le_refl _), List.append_nil]
        have HD := Lib.hid hd
        clear hd hok
        go_wp2
        go_ret2
        refine .inr (.inr ⟨HZ.out, A', c', us, by rw [← HD.out]; exact hU.out.2.1, hU.out.1, rfl, st.below, st.rd (i := 0) rfl, fun q hq => ?_⟩)
        exact (hU.out.2.2 q hq).aces st (fun r hr => List.mem_cons_of_mem _ hr) hB1
  · have hz0 : (z != 0) = true := by simpa using h0
    go_enter Tryz.func32, Tryz.ntmps32
    go_wp2_with (refine WL.out ?_; (repeat ((refine WL.op ?_ ?_; (exact rfl); intro K hK; (first | ((((with_reducible apply ow_assign); exact rfl)); (go_simp <;> (try simp (disch := omega) only [wrap_id, sub_left, zac]) <;> rfl)) | ((with_reducible apply ow_eval); (go_simp <;> (try simp (disch := omega) only [wrap_id, sub_left, zac]) <;> rfl); first | (with_reducible apply up_value) | ((with_reducible apply up_enter); ((go_at_call 53; refine (treeErr_any A n c B vs _ (H1.out.st st hB1) (Nat.le_trans hB1 st.size) hn HM.out).mono ?_; rw [HZ.out]; rintro e w' ⟨rfl, hb⟩; replace st := st.call hb; clear hb; refine ⟨_, rfl, ?_⟩))))); refine WL.next hK (by simp only [Act.put, zpt, zsz, zss]; exact rfl) ?_; clear hK K))); (try refine WL.nil ?_))
    go_ret2
    exact .inl ⟨by rw [HZ.out]; exact h0, by rw [HZ.out]; rfl, st.below⟩
end Go.Proofs.YtppjhccdgbheiaaGreatDoor
namespace Go.Proofs.YtppjhccdgbheiaaGreatDoor
open Go.RowKit Go.Hp
def IntsAt (w : World) (B : Nat) (A : Option Addr) (n : Nat) (l : List Int) : Prop := Rd w B 1 A n (l.map fun x => Value.int .i64 x)
theorem IntsAt.len {w : World} {B : Nat} {A : Option Addr} {n : Nat} {l : List Int} (h : IntsAt w B A n l) : n = l.length := by have := h.1; rw [List.length_map] at this; omega
theorem IntsAt.at_ {w : World} {B : Nat} {A : Option Addr} {n : Nat} {l : List Int} (h : IntsAt w B A n l) (hn : 0 < n) : ∃ b o, A = some ⟨b, o, none⟩ ∧ b < B ∧ ∀ k, k < n → w.cell? ⟨b, o + k, none⟩ = some (.int .i64 (L.ix l k)) := by
  obtain ⟨b, o, hA, hb, hc⟩ := h.2 hn
  have hl := h.len
  refine ⟨b, o, hA, hb, fun k hk => hc k _ ?_⟩
  rw [List.getElem?_map, List.getElem?_eq_getElem (by omega)]
  unfold L.ix
  rw [List.getElem?_eq_getElem (by omega)]
  rfl
set_option maxHeartbeats 4000000 in
theorem Ints_same (A A' : Option Addr) (n n' c c' B : Nat) (l : List Int) (w : World) (h1 : IntsAt w B A n l) (h2 : IntsAt w B A' n' l) (hB1 : B ≤ w.heap.size) (hn : n ≤ 1000) :
    Calls Tryz.prog 20 #[.slice A n c, .slice A' n' c'] w fun e w' => e = .returned (.bool true) ∧ Below w.heap.size w w' := by
  have e1 := h1.len
  have e2 := h2.len
  obtain rfl : n' = n := by omega
  clear e1 e2
  have st := St.start w
  go_enter Tryz.func20, Tryz.ntmps20
  go_wp2_with (refine WL.out ?_; (repeat ((refine WL.op ?_ ?_; (exact rfl); intro K hK; (first | ((((with_reducible apply ow_move); exact rfl)); (go_simp <;> (try simp (disch := omega) only [wrap_id, sub_left, zac]) <;> rfl)) | ((with_reducible apply ow_eval); (go_simp <;> (try simp (disch := omega) only [wrap_id, sub_left, zac]) <;> rfl); ((with_reducible apply up_value)))); refine WL.next hK (by simp only [Act.put, zpt, zsz, zss]; exact rfl) ?_; clear hK K))); (try refine WL.nil ?_))
  clear st
  go_loopw [5] (fun i wr => ∃ k : Nat, k ≤ n' ∧ i = .int .i64 k ∧ St w wr []) (fun i _ => n' - (intOf i).toNat)
  case atStart => exact ⟨0, Nat.zero_le _, rfl, St.start w⟩
  case round =>
    obtain ⟨k, hk, rfl, st⟩ := hrel
    by_cases hlt : k < n'
    · obtain ⟨b, o, rfl, hb, hc⟩ := h1.at_ (by omega)
      obtain ⟨b', o', rfl, hb', hc'⟩ := h2.at_ (by omega)
      have hb := Nat.lt_of_lt_of_le hb hB1
      have hb' := Nat.lt_of_lt_of_le hb' hB1
      have f0 := hc k hlt
      have f1 := hc' k hlt
      clear hc hc' h1 h2
      go_wp2_with (refine WL.out ?_; (repeat ((refine WL.op ?_ ?_; (exact rfl); intro K hK; (((with_reducible apply ow_eval); (go_simp <;> (try simp (disch := omega) only [wrap_id, sub_left, zac]) <;> rfl); ((with_reducible apply up_value)))); refine WL.next hK (by simp only [Act.put, zpt, zsz, zss]; exact rfl) ?_; clear hK K))); (try refine WL.nil ?_))
      refine wp_region_plan 9 (by kernel_rfl) (by kernel_rfl) ?_; replace st := st.drew; generalize World.drew _ = W at st ⊢
      iterate 9 (apply Plan.val'; (focus (intro x0 x1 x2 x3 x4 x5 x6 x7 x8 w1 hb; (try simp only [depF, fillA, Act.put, zta, ztz, zpt, zsz, zss, zl0, zls]); (repeat (rintro rfl)); have st := st.call hb; (first | (apply Yphi.run; (exact rfl); (go_simp <;> (try simp (disch := omega) only [wrap_id, sub_left, zac]) <;> rfl); exact rfl) | (apply Yphi.old1 st; exact rfl; exact inferInstance; (exact rfl); exact rfl; assumption; assumption)))); (simp only [zca, zcn] <;> exact rfl))
      intro x0 x1 x2 x3 x4 x5 x6 x7 x8 lo hi w1 hb hap
      rintro rfl rfl rfl rfl rfl rfl rfl rfl rfl
      simp only [allPhi, fillA, Act.put, zta, ztz, zpt, zsz, zss, zda, zdz]
      have st := st.call hb
      clear hap hb
      go_wp2_with (refine WL.out ?_; (repeat ((refine WL.op ?_ ?_; (exact rfl); intro K hK; (first | ((((with_reducible apply ow_assign); exact rfl)); (go_simp <;> (try simp (disch := omega) only [wrap_id, sub_left, zac]) <;> rfl)) | ((with_reducible apply ow_eval); (go_simp <;> (try simp (disch := omega) only [wrap_id, sub_left, zac]) <;> rfl); ((with_reducible apply up_value)))); refine WL.next hK (by simp only [Act.put, zpt, zsz, zss]; exact rfl) ?_; clear hK K))); (try refine WL.nil ?_))
      have hwr : IntKind.i64.wrap ((k : Int) + 1) = (k : Int) + 1 := by rw [IntKind.wrap_i64]; omega
      exact ⟨⟨k + 1, by omega, by (try rw [hwr]); go_num, st⟩, by (try simp only [hwr]); simp [intOf]; omega⟩
    · clear h1 h2
      go_wp2
      go_ret
      exact ⟨rfl, st.below⟩
theorem SameDescriptor_refl (d : L.Desc) (A1 A2 A1' A2' : Option Addr) (n1 n2 n1' n2' c1 c2 c1' c2' B : Nat) (w : World) (h1 : Aces w B A1 n1 d.e) (h2 : Aces w B A2 n2 d.a) (h1' : Aces w B A1' n1' d.e) (h2' : Aces w B A2' n2' d.a) (hB1 : B ≤ w.heap.size)
    (hn1 : n1 ≤ 1000) (hn2 : n2 ≤ 1000) :
    Calls Tryz.prog 16 #[.agg #[.int .i64 d.o, .int .i64 d.g, .bool d.p, .bool d.h, .slice A1 n1 c1, .slice A2 n2 c2], .agg #[.int .i64 d.o, .int .i64 d.g, .bool d.p, .bool d.h, .slice A1' n1' c1', .slice A2' n2' c2']] w fun e w' => e = .returned (.bool true) ∧ Below w.heap.size w w' := by
  have e1 := h1.len
  have e2 := h2.len
  have e3 := h1'.len
  have e4 := h2'.len
  exact (SameDescriptor_any d d A1 A2 A1' A2' n1 n2 n1' n2' c1 c2 c1' c2' B w h1 h2 h1' h2' hB1 hn1 hn2 (by omega) (by omega)).mono fun e w' h => by rw [L.Desc.same_refl] at h; exact h
set_option maxRecDepth 8000 in
set_option maxHeartbeats 4000000 in
theorem SameNodes_same (A A' : Option Addr) (n n' c c' B : Nat) (vs us : List (L.Node × L.Place)) (w : World) (h1 : Nodes w B A n vs) (h2 : Nodes w B A' n' us) (hB1 : B ≤ w.heap.size) (he : us.map Prod.fst = vs.map Prod.fst) (hn : n ≤ 1000) (hm : ∀ q ∈ vs, q.2.n1 ≤ 1000 ∧ q.2.n2 ≤ 1000) :
    Calls Tryz.prog 19 #[.slice A n c, .slice A' n' c'] w fun e w' => e = .returned (.bool true) ∧ Below w.heap.size w w' := by
  have e1 := h1.len
  have e2 := h2.len
  have e3 := congrArg List.length he
  rw [List.length_map, List.length_map] at e3
  obtain rfl : n' = n := by omega
  have E1 := Lib.hid e1
  have E2 := Lib.hid e2
  have HE := Lib.hid he
  have HM := Lib.hid hm
  clear e1 e2 e3 he hm
  have st := St.start w
  go_enter Tryz.func19, Tryz.ntmps19
  go_wp2_with (refine WL.out ?_; (repeat ((refine WL.op ?_ ?_; (exact rfl); intro K hK; (first | ((((with_reducible apply ow_move); exact rfl)); (go_simp <;> (try simp (disch := omega) only [wrap_id, sub_left, zac]) <;> rfl)) | ((with_reducible apply ow_eval); (go_simp <;> (try simp (disch := omega) only [wrap_id, sub_left, zac]) <;> rfl); ((with_reducible apply up_value)))); refine WL.next hK (by simp only [Act.put, zpt, zsz, zss]; exact rfl) ?_; clear hK K))); (try refine WL.nil ?_))
  clear st
  go_loopw [5] (fun i wr => ∃ k : Nat, k ≤ n' ∧ i = .int .i64 k ∧ St w wr []) (fun i _ => n' - (intOf i).toNat)
  case atStart => exact ⟨0, Nat.zero_le _, rfl, St.start w⟩
  case round =>
    obtain ⟨k, hk, rfl, st⟩ := hrel
    by_cases hlt : k < n'
    · have k1 : k < vs.length := by rw [← E1.out]; exact hlt
      have k2 : k < us.length := by rw [← E2.out]; exact hlt
      have hx : (L.nx us k).1 = (L.nx vs k).1 := by
        rw [L.nx_eq _ _ k1, L.nx_eq _ _ k2, ← List.getElem_map Prod.fst (h := by rw [List.length_map]; exact k2), ← List.getElem_map Prod.fst (h := by rw [List.length_map]; exact k1)]
        congr 1
      have hr1 := h1.rows _ (L.nx_mem vs k k1)
      have hr2 := h2.rows _ (L.nx_mem us k k2)
      have HQ := Lib.hid (HM.out _ (L.nx_mem vs k k1))
      obtain ⟨b, o, rfl, hb, hc⟩ := h1.at_ (by omega)
      obtain ⟨b', o', rfl, hb', hc'⟩ := h2.at_ (by omega)
      have hb := Nat.lt_of_lt_of_le hb hB1
      have hb' := Nat.lt_of_lt_of_le hb' hB1
      obtain ⟨f0, f1, f2, -⟩ := hc k hlt
      obtain ⟨g0, g1, g2, -⟩ := hc' k hlt
      rw [hx] at g0 g1 g2 hr2
      have R1 := Lib.hid hr1
      have R2 := Lib.hid hr2
      clear hc hc' h1 h2 hr1 hr2 hx
      go_wp2_with (refine WL.out ?_; (repeat ((refine WL.op ?_ ?_; (exact rfl); intro K hK; (((with_reducible apply ow_eval); (go_simp <;> (try simp (disch := omega) only [wrap_id, sub_left, zac]) <;> rfl); ((with_reducible apply up_value)))); refine WL.next hK (by simp only [Act.put, zpt, zsz, zss]; exact rfl) ?_; clear hK K))); (try refine WL.nil ?_))
      refine wp_region_plan 38 (by kernel_rfl) (by kernel_rfl) ?_; replace st := st.drew; generalize World.drew _ = W at st ⊢
      iterate 29 (apply Plan.val'; (focus (intro x0 x1 x2 x3 x4 x5 x6 x7 x8 x9 x10 x11 x12 x13 x14 x15 x16 x17 x18 x19 x20 x21 x22 x23 x24 x25 x26 x27 x28 x29 x30 x31 x32 x33 x34 x35 x36 x37 w1 hb; (try simp only [depF, fillA, Act.put, zta, ztz, zpt, zsz, zss, zl0, zls]); (repeat (rintro rfl)); have st := st.call hb; (first | (apply Yphi.run; (exact rfl); (go_simp <;> (try simp (disch := omega) only [wrap_id, sub_left, zac]) <;> rfl); exact rfl) | (apply Yphi.old1 st; exact rfl; exact inferInstance; (exact rfl); exact rfl; assumption; assumption)))); (simp only [zca, zcn] <;> exact rfl))
      (apply Plan.val'; (focus (intro x0 x1 x2 x3 x4 x5 x6 x7 x8 x9 x10 x11 x12 x13 x14 x15 x16 x17 x18 x19 x20 x21 x22 x23 x24 x25 x26 x27 x28 x29 x30 x31 x32 x33 x34 x35 x36 x37 w1 hb; (try simp only [depF, fillA, Act.put, zta, ztz, zpt, zsz, zss, zl0, zls]); (repeat (rintro rfl)); have st := st.call hb; apply Yphi.oldC st; exact rfl; exact inferInstance; (exact rfl); exact rfl; assumption; assumption; exact rfl)); (simp only [zca, zcn] <;> exact rfl))
      iterate 4 (apply Plan.val'; (focus (intro x0 x1 x2 x3 x4 x5 x6 x7 x8 x9 x10 x11 x12 x13 x14 x15 x16 x17 x18 x19 x20 x21 x22 x23 x24 x25 x26 x27 x28 x29 x30 x31 x32 x33 x34 x35 x36 x37 w1 hb; (try simp only [depF, fillA, Act.put, zta, ztz, zpt, zsz, zss, zl0, zls]); (repeat (rintro rfl)); have st := st.call hb; ((apply Yphi.run; (exact rfl); (go_simp <;> (try simp (disch := omega) only [wrap_id, sub_left, zac]) <;> rfl); exact rfl)))); (simp only [zca, zcn] <;> exact rfl))
      (apply Plan.val'; (focus (intro x0 x1 x2 x3 x4 x5 x6 x7 x8 x9 x10 x11 x12 x13 x14 x15 x16 x17 x18 x19 x20 x21 x22 x23 x24 x25 x26 x27 x28 x29 x30 x31 x32 x33 x34 x35 x36 x37 w1 hb; (try simp only [depF, fillA, Act.put, zta, ztz, zpt, zsz, zss, zl0, zls]); (repeat (rintro rfl)); have st := st.call hb; apply Yphi.oldC st; exact rfl; exact inferInstance; (exact rfl); exact rfl; assumption; assumption; exact rfl)); (simp only [zca, zcn] <;> exact rfl))
      (apply Plan.val'; (focus (intro x0 x1 x2 x3 x4 x5 x6 x7 x8 x9 x10 x11 x12 x13 x14 x15 x16 x17 x18 x19 x20 x21 x22 x23 x24 x25 x26 x27 x28 x29 x30 x31 x32 x33 x34 x35 x36 x37 w1 hb; (try simp only [depF, fillA, Act.put, zta, ztz, zpt, zsz, zss, zl0, zls]); (repeat (first | rintro rfl | intro _)); have st := st.call hb; apply Yphi.call; (exact rfl); (go_simp <;> (try simp (disch := omega) only [wrap_id, sub_left, zac]) <;> rfl); exact rfl; refine (SameDescriptor_refl (L.nx vs k).1.d (L.nx vs k).2.A1 (L.nx vs k).2.A2 (L.nx us k).2.A1 (L.nx us k).2.A2 (L.nx vs k).2.n1 (L.nx vs k).2.n2 (L.nx us k).2.n1 (L.nx us k).2.n2 (L.nx vs k).2.c1 (L.nx vs k).2.c2 (L.nx us k).2.c1 (L.nx us k).2.c2 B _ (R1.out.1.st st hB1) (R1.out.2.st st hB1) (R2.out.1.st st hB1) (R2.out.2.st st hB1) (Nat.le_trans hB1 st.size) HQ.out.1 HQ.out.2).mono ?_; rintro e w' ⟨rfl, hb'⟩; exact ⟨_, rfl, hb', rfl⟩)); (simp only [zca, zcn] <;> exact rfl))
      iterate 2 (apply Plan.val'; (focus (intro x0 x1 x2 x3 x4 x5 x6 x7 x8 x9 x10 x11 x12 x13 x14 x15 x16 x17 x18 x19 x20 x21 x22 x23 x24 x25 x26 x27 x28 x29 x30 x31 x32 x33 x34 x35 x36 x37 w1 hb; (try simp only [depF, fillA, Act.put, zta, ztz, zpt, zsz, zss, zl0, zls]); (repeat (rintro rfl)); have st := st.call hb; ((apply Yphi.run; (exact rfl); (go_simp <;> (try simp (disch := omega) only [wrap_id, sub_left, zac]) <;> rfl); exact rfl)))); (simp only [zca, zcn] <;> exact rfl))
      intro x0 x1 x2 x3 x4 x5 x6 x7 x8 x9 x10 x11 x12 x13 x14 x15 x16 x17 x18 x19 x20 x21 x22 x23 x24 x25 x26 x27 x28 x29 x30 x31 x32 x33 x34 x35 x36 x37 lo hi w1 hb hap
      rintro rfl rfl rfl rfl rfl rfl rfl rfl rfl rfl rfl rfl rfl rfl rfl rfl rfl rfl rfl rfl rfl rfl rfl rfl rfl rfl rfl rfl rfl rfl rfl rfl rfl rfl rfl rfl rfl rfl
      simp only [allPhi, fillA, Act.put, zta, ztz, zpt, zsz, zss, zda, zdz]
      have st := st.call hb
      clear hap hb
      go_wp2_with (refine WL.out ?_; (repeat ((refine WL.op ?_ ?_; (exact rfl); intro K hK; (first | ((((with_reducible apply ow_assign); exact rfl)); (go_simp <;> (try simp (disch := omega) only [wrap_id, sub_left, zac]) <;> rfl)) | ((with_reducible apply ow_eval); (go_simp <;> (try simp (disch := omega) only [wrap_id, sub_left, zac]) <;> rfl); ((with_reducible apply up_value)))); refine WL.next hK (by simp only [Act.put, zpt, zsz, zss]; exact rfl) ?_; clear hK K))); (try refine WL.nil ?_))
      have hwr : IntKind.i64.wrap ((k : Int) + 1) = (k : Int) + 1 := by rw [IntKind.wrap_i64]; omega
      exact ⟨⟨k + 1, by omega, by (try rw [hwr]); go_num, st⟩, by (try simp only [hwr]); simp [intOf]; omega⟩
    · clear h1 h2
      go_wp2
      go_ret
      exact ⟨rfl, st.below⟩
end Go.Proofs.YtppjhccdgbheiaaGreatDoor
