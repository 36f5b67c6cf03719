/- For every input the law AclOrders (entries in canonical order and merged) returns true without a panic, and each argument reads behind the call as it read before: its tied card holds. Conditions: none but the row's own (the three listed tables of the standard library read as their text lays them). -/
import Derived.Test.YtppjhccdgbheiaaDoorBase3
import Derived.Test.YtppjhccdgbheiaaDoorBase1
import Derived.Maps.OwnOps
import Derived.DeepKeys3
import Derived.Carry
import Derived.Test.YtppjhccdgbheiaaDoorBase2
import Derived.Test.YtppjhccdgbheiaaDoorRows
import Derived.Test.YtppjhccdgbheiaaDoorTie
import Derived.Test.YtppjhccdgbheiaaDoorCards
import Derived.SevenTiedAt
import Derived.Stop.Joined
set_option linter.all false
namespace Go.Proofs.YtppjhccdgbheiaaDoor
open Go.RowKit Go.Hp
namespace L
theorem rSortedFrom_false {l : List Ace} : ∀ (k j : Nat), k ≤ j → j < l.length → rk (ax l j) < rk (ax l (j - 1)) → rSortedFrom l k = false := by
  intro k j hk hj h
  unfold rSortedFrom
  rw [List.all_eq_false]
  exact ⟨j - k, List.mem_range.2 (by omega), by rw [show k + (j - k) = j by omega]; simpa using h⟩
theorem cmp_lt {a b : Ace} (h1 : 0 ≤ a.f ∧ a.f ≤ 31) (h2 : 0 ≤ b.f ∧ b.f ≤ 31) : cmp a b < 0 ↔ rk a < rk b := by
  unfold cmp
  rw [rkU_eq h1.1 h1.2, rkU_eq h2.1 h2.2]
  omega
end L
set_option maxHeartbeats 2000000 in
theorem IsSorted_any (A : Option Addr) (n c B : Nat) (l : List L.Ace) (w : World) (h1 : Aces w B A n l) (hB1 : B ≤ w.heap.size) (hn : n ≤ 100) (hf : L.FOk l) :
    Calls Tryd.prog 57 #[.slice A n c, .func (.func 58) #[] #[]] w fun e w' => e = .returned (.bool (L.rSorted l)) ∧ Below w.heap.size w w' := by
  have e1 := Lib.hid h1.len
  have H1 := Lib.hid h1
  have HF := Lib.hid hf
  clear hf h1
  have st := St.start w
  rcases Nat.eq_zero_or_pos n with h0 | h0
  · subst h0
    have hs' : Hid (L.rSorted l = true) := Lib.hid (L.rSorted_end l 1 (by rw [← e1.out]; omega))
    go_enter Tryd.func57, Tryd.ntmps57
    go_wp2_with (refine WL.out ?_; (repeat ((refine WL.op ?_ ?_; (exact rfl); intro K hK; (first | ((((with_reducible apply ow_assign); exact rfl)); (go_simp <;> (try simp (disch := omega) only [wrap_id, sub_left, zac]) <;> rfl)) | ((with_reducible apply ow_eval); (go_simp <;> (try simp (disch := omega) only [wrap_id, sub_left, zac]) <;> rfl); ((with_reducible apply up_value)))); refine WL.next hK (by simp only [Act.put, zpt, zsz, zss]; exact rfl) ?_; clear hK K))); (try refine WL.nil ?_))
    go_loopw [5] (fun i wr => i = .int .i64 (-1) ∧ St w wr []) (fun i _ => 0)
    case atStart => exact ⟨rfl, st⟩
    case round =>
      clear st
      obtain ⟨rfl, st⟩ := hrel
      go_wp2_with (refine WL.out ?_; (repeat ((refine WL.op ?_ ?_; (exact rfl); intro K hK; (((with_reducible apply ow_eval); (go_simp <;> (try simp (disch := omega) only [wrap_id, sub_left, zac]) <;> rfl); ((with_reducible apply up_value)))); refine WL.next hK (by simp only [Act.put, zpt, zsz, zss]; exact rfl) ?_; clear hK K))); (try refine WL.nil ?_))
      go_ret
      exact ⟨ret_bool hs'.out.symm, st.below⟩
  · obtain ⟨m, rfl⟩ : ∃ m, n = m + 1 := ⟨n - 1, by omega⟩
    go_enter Tryd.func57, Tryd.ntmps57
    go_wp2_with (refine WL.out ?_; (repeat ((refine WL.op ?_ ?_; (exact rfl); intro K hK; (first | ((((with_reducible apply ow_assign); exact rfl)); (go_simp <;> (try simp (disch := omega) only [wrap_id, sub_left, zac]) <;> rfl)) | ((with_reducible apply ow_eval); (go_simp <;> (try simp (disch := omega) only [wrap_id, sub_left, zac]) <;> rfl); ((with_reducible apply up_value)))); refine WL.next hK (by simp only [Act.put, zpt, zsz, zss]; exact rfl) ?_; clear hK K))); (try refine WL.nil ?_))
    go_loopw [5] (fun i wr => ∃ k : Nat, k ≤ m ∧ i = .int .i64 k ∧ St w wr [] ∧ Hid (L.rSortedFrom l (k + 1) = true)) (fun i _ => (intOf i).toNat)
    case atStart => exact ⟨m, Nat.le_refl _, (by (rfl)), st, Lib.hid (L.rSorted_end l (m + 1) (by rw [← e1.out]; omega))⟩
    case round =>
      clear st
      obtain ⟨k, hk, rfl, st, hs⟩ := hrel
      rcases Nat.eq_zero_or_pos k with hk0 | hk0
      · subst hk0
        have hs' : Hid (L.rSorted l = true) := hs
        go_wp2_with (refine WL.out ?_; (repeat ((refine WL.op ?_ ?_; (exact rfl); intro K hK; (((with_reducible apply ow_eval); (go_simp <;> (try simp (disch := omega) only [wrap_id, sub_left, zac]) <;> rfl); ((with_reducible apply up_value)))); refine WL.next hK (by simp only [Act.put, zpt, zsz, zss]; exact rfl) ?_; clear hK K))); (try refine WL.nil ?_))
        go_ret
        exact ⟨ret_bool hs'.out.symm, st.below⟩
      · obtain ⟨j, rfl⟩ : ∃ j, k = j + 1 := ⟨k - 1, by omega⟩
        have hst : Hid (L.rSortedFrom l (j + 1) = (!decide (L.rk (L.ax l (j + 1)) < L.rk (L.ax l j)) && L.rSortedFrom l (j + 2))) := Lib.hid (L.rSorted_step l j (by rw [← e1.out]; omega))
        have hgk := HF.out (L.ax l (j + 1)) (by rw [L.ax_eq l (j + 1) (by rw [← e1.out]; omega)]; exact List.getElem_mem _)
        have hgj := HF.out (L.ax l j) (by rw [L.ax_eq l j (by rw [← e1.out]; omega)]; exact List.getElem_mem _)
        have hcm := Lib.hid (L.cmp_lt hgk hgj)
        obtain ⟨b1, o1, rfl, hb1, hc⟩ := H1.out.at_ (by omega)
        have hb1 := Nat.lt_of_lt_of_le hb1 hB1
        obtain ⟨f1, f2, f3, f4⟩ := hc (j + 1) (by omega)
        obtain ⟨g1, g2, g3, g4⟩ := hc j (by omega)
        clear hc hgk hgj
        have hjn : (j : Int) < (m : Int) := by omega
        have hpos : (0 : Int) < (j : Int) + 1 := by omega
        have hjn1 : (j : Int) < (m : Int) + 1 := by omega
        have hjn2 : j < m + 1 := by omega
        go_wp2_with (refine WL.out ?_; (repeat ((refine WL.op ?_ ?_; (exact rfl); intro K hK; (((with_reducible apply ow_eval); (go_simp <;> (try simp (disch := omega) only [wrap_id, sub_left, zac]) <;> rfl); ((with_reducible apply up_value)))); refine WL.next hK (by simp only [Act.put, zpt, zsz, zss]; exact rfl) ?_; clear hK K))); (try refine WL.nil ?_))
        refine wp_region_plan 12 (by kernel_rfl) (by kernel_rfl) ?_; replace st := st.drew; generalize World.drew _ = W at st ⊢
        iterate 10 (apply Plan.val'; (focus (intro x0 x1 x2 x3 x4 x5 x6 x7 x8 x9 x10 x11 w1 hb; (try simp only [depF, fillA, Act.put, zta, ztz, zpt, zsz, zss, zl0, zls]); (repeat (rintro rfl)); have st := st.call hb; (first | (apply Yphi.run; (exact rfl); (go_simp <;> (try simp (disch := omega) only [wrap_id, sub_left, zac]) <;> rfl); exact rfl) | (apply Yphi.old4 st; exact rfl; exact inferInstance; (exact rfl); exact rfl; assumption; assumption; assumption; assumption; assumption)))); (simp only [zca, zcn] <;> exact rfl))
        (apply Plan.val'; (focus (intro x0 x1 x2 x3 x4 x5 x6 x7 x8 x9 x10 x11 w1 hb; (try simp only [depF, fillA, Act.put, zta, ztz, zpt, zsz, zss, zl0, zls]); (repeat (rintro rfl)); have st := st.call hb; apply Yphi.call; (exact rfl); (go_simp <;> (try simp (disch := omega) only [wrap_id, sub_left, zac]) <;> rfl); exact rfl; refine (byRank_any (L.ax l (j + 1)) (L.ax l j) _).mono ?_; rintro e w' ⟨rfl, hb'⟩; exact ⟨_, rfl, hb', rfl⟩)); (simp only [zca, zcn] <;> exact rfl))
        (apply Plan.val'; (focus (intro x0 x1 x2 x3 x4 x5 x6 x7 x8 x9 x10 x11 w1 hb; (try simp only [depF, fillA, Act.put, zta, ztz, zpt, zsz, zss, zl0, zls]); (repeat (rintro rfl)); have st := st.call hb; ((apply Yphi.run; (exact rfl); (go_simp <;> (try simp (disch := omega) only [wrap_id, sub_left, zac]) <;> rfl); exact rfl)))); (simp only [zca, zcn] <;> exact rfl))
        intro x0 x1 x2 x3 x4 x5 x6 x7 x8 x9 x10 x11 lo hi w1 hb hap
        rintro rfl rfl rfl rfl rfl rfl rfl rfl rfl rfl rfl rfl
        simp only [allPhi, fillA, Act.put, zta, ztz, zpt, zsz, zss, zda, zdz]
        have st := st.call hb
        clear hap hb
        by_cases hx : L.cmp (L.ax l (j + 1)) (L.ax l j) < 0
        · have hs' : Hid (L.rSorted l = false) := Lib.hid (L.rSortedFrom_false 1 (j + 1) (by omega) (by rw [← e1.out]; omega) (hcm.out.1 hx))
          go_wp2_with (refine WL.out ?_; (repeat (fail)); (try refine WL.nil ?_))
          go_ret
          exact ⟨ret_bool hs'.out.symm, st.below⟩
        · have hs' : Hid (L.rSortedFrom l (j + 1) = true) := Lib.hid (by rw [hst.out, hs.out, decide_eq_false (fun h => hx (hcm.out.2 h))]; rfl)
          go_wp2_with (refine WL.out ?_; (repeat ((refine WL.op ?_ ?_; (exact rfl); intro K hK; (first | ((((with_reducible apply ow_assign); exact rfl)); (go_simp <;> (try simp (disch := omega) only [wrap_id, sub_left, zac]) <;> rfl)) | ((with_reducible apply ow_eval); (go_simp <;> (try simp (disch := omega) only [wrap_id, sub_left, zac]) <;> rfl); ((with_reducible apply up_value)))); refine WL.next hK (by simp only [Act.put, zpt, zsz, zss]; exact rfl) ?_; clear hK K))); (try refine WL.nil ?_))
          exact ⟨⟨j, by omega, (by (rfl)), st, hs'⟩, by simp [intOf]; try omega⟩
namespace L
def isCanonical (l : List Ace) : Bool × Int := if acesErr l = 0 then (rSorted l, 0) else (false, acesErr l)
def canonicalOf (l : List Ace) : List Ace × Int := if acesErr l = 0 then (canon l, 0) else ([], acesErr l)
theorem acesErr_len {l : List Ace} (h : acesErr l = 0) : l.length ≤ 16 := by
  unfold acesErr at h
  split at h
  · cases h
  · omega
end L
set_option maxHeartbeats 1000000 in
theorem IsCanonical_any (A : Option Addr) (n c B : Nat) (l : List L.Ace) (w : World) (h1 : Aces w B A n l) (hB1 : B ≤ w.heap.size) (hn : n ≤ 100) :
    Calls Tryd.prog 25 #[.slice A n c] w fun e w' => e = .returned (.tuple #[.bool (L.isCanonical l).1, .int .i64 (L.isCanonical l).2]) ∧ Below w.heap.size w w' := by
  have H1 := Lib.hid h1
  clear h1
  have st := St.start w
  by_cases hx : L.acesErr l = 0
  · have HE := Lib.hid hx
    have HF := Lib.hid (L.acesErr_good hx).fok
    have HR : Hid (L.isCanonical l = (L.rSorted l, 0)) := Lib.hid (by unfold L.isCanonical; rw [if_pos hx])
    clear hx
    rw [HR.out]
    go_enter Tryd.func25, Tryd.ntmps25
    go_wp2_with (refine WL.out ?_; (repeat ((refine WL.op ?_ ?_; (exact rfl); intro K hK; (first | ((((with_reducible apply ow_assign); exact rfl)); (go_simp <;> (try simp (disch := omega) only [wrap_id, sub_left, zac]) <;> rfl)) | ((with_reducible apply ow_eval); (go_simp <;> (try simp (disch := omega) only [wrap_id, sub_left, zac]) <;> rfl); first | (with_reducible apply up_value) | ((with_reducible apply up_enter); first | (go_at_call 48; refine (acesErr_any A n c B l _ (H1.out.st st hB1) (Nat.le_trans hB1 st.size) (by omega)).mono ?_; rw [HE.out]; rintro e w' ⟨rfl, hb⟩; replace st := st.call hb; clear hb; refine ⟨_, rfl, ?_⟩) | (go_at_call 57; refine (IsSorted_any A n c B l _ (H1.out.st st hB1) (Nat.le_trans hB1 st.size) hn HF.out).mono ?_; rintro e w' ⟨rfl, hb⟩; replace st := st.call hb; clear hb; refine ⟨_, rfl, ?_⟩)))); refine WL.next hK (by simp only [Act.put, zpt, zsz, zss]; exact rfl) ?_; clear hK K))); (try refine WL.nil ?_))
    go_ret2
    exact ⟨rfl, st.below⟩
  · obtain ⟨V, hV⟩ : ∃ V, L.acesErr l = V := ⟨_, rfl⟩
    have HR : Hid (L.isCanonical l = (false, V)) := Lib.hid (by unfold L.isCanonical; rw [if_neg hx, hV])
    rw [hV] at hx
    have hv0 : (V == 0) = false := by simpa using hx
    have HV := Lib.hid hV
    clear hx hV
    rw [HR.out]
    go_enter Tryd.func25, Tryd.ntmps25
    go_wp2_with (refine WL.out ?_; (repeat ((refine WL.op ?_ ?_; (exact rfl); intro K hK; (first | ((((with_reducible apply ow_assign); exact rfl)); (go_simp <;> (try simp (disch := omega) only [wrap_id, sub_left, zac]) <;> rfl)) | ((with_reducible apply ow_eval); (go_simp <;> (try simp (disch := omega) only [wrap_id, sub_left, zac]) <;> rfl); first | (with_reducible apply up_value) | ((with_reducible apply up_enter); ((go_at_call 48; refine (acesErr_any A n c B l _ (H1.out.st st hB1) (Nat.le_trans hB1 st.size) (by omega)).mono ?_; rw [HV.out]; rintro e w' ⟨rfl, hb⟩; replace st := st.call hb; clear hb; refine ⟨_, rfl, ?_⟩))))); refine WL.next hK (by simp only [Act.put, zpt, zsz, zss]; exact rfl) ?_; clear hK K))); (try refine WL.nil ?_))
    go_ret2
    exact ⟨rfl, st.below⟩
set_option maxHeartbeats 1000000 in
theorem CanonicalOf_any (A : Option Addr) (n c B : Nat) (l : List L.Ace) (w : World) (h1 : Aces w B A n l) (hB1 : B ≤ w.heap.size) (hn : n ≤ 100) :
    Calls Tryd.prog 26 #[.slice A n c] w (RetAcesErr w (L.canonicalOf l)) := by
  have H1 := Lib.hid h1
  clear h1
  have st := St.start w
  by_cases hx : L.acesErr l = 0
  · have HE := Lib.hid hx
    have HF := Lib.hid (L.acesErr_good hx).fok
    have HL := Lib.hid (L.acesErr_len hx)
    have HR : Hid (L.canonicalOf l = (L.canon l, 0)) := Lib.hid (by unfold L.canonicalOf; rw [if_pos hx])
    clear hx
    rw [HR.out]
    go_enter Tryd.func26, Tryd.ntmps26
    go_wp2_with (refine WL.out ?_; (repeat ((refine WL.op ?_ ?_; (exact rfl); intro K hK; (first | ((((with_reducible apply ow_assign); exact rfl)); (go_simp <;> (try simp (disch := omega) only [wrap_id, sub_left, zac]) <;> rfl)) | ((with_reducible apply ow_eval); (go_simp <;> (try simp (disch := omega) only [wrap_id, sub_left, zac]) <;> rfl); first | (with_reducible apply up_value) | ((with_reducible apply up_enter); first | (go_at_call 48; refine (acesErr_any A n c B l _ (H1.out.st st hB1) (Nat.le_trans hB1 st.size) (by omega)).mono ?_; rw [HE.out]; rintro e w' ⟨rfl, hb⟩; replace st := st.call hb; clear hb; refine ⟨_, rfl, ?_⟩) | (go_at_call 59; refine (canonical_any A n c B l _ (H1.out.st st hB1) (Nat.le_trans hB1 st.size) (by omega) HF.out).mono ?_; rintro e w' ⟨M, A5, n5, c5, rfl, st', hM⟩; obtain rfl := hM.2 (Nat.le_trans HL.out (by omega)); clear hM; replace st := st.join st'; clear st'; simp only [List.cons_append, List.nil_append] at st; refine ⟨_, rfl, ?_⟩)))); refine WL.next hK (by simp only [Act.put, zpt, zsz, zss]; exact rfl) ?_; clear hK K))); (try refine WL.nil ?_))
    go_ret2
    exact ⟨_, _, _, rfl, st⟩
  · obtain ⟨V, hV⟩ : ∃ V, L.acesErr l = V := ⟨_, rfl⟩
    have HR : Hid (L.canonicalOf l = ([], V)) := Lib.hid (by unfold L.canonicalOf; rw [if_neg hx, hV])
    rw [hV] at hx
    have hv0 : (V == 0) = false := by simpa using hx
    have HV := Lib.hid hV
    clear hx hV
    rw [HR.out]
    go_enter Tryd.func26, Tryd.ntmps26
    go_wp2_with (refine WL.out ?_; (repeat ((refine WL.op ?_ ?_; (exact rfl); intro K hK; (first | ((((with_reducible apply ow_assign); exact rfl)); (go_simp <;> (try simp (disch := omega) only [wrap_id, sub_left, zac]) <;> rfl)) | ((with_reducible apply ow_eval); (go_simp <;> (try simp (disch := omega) only [wrap_id, sub_left, zac]) <;> rfl); first | (with_reducible apply up_value) | ((with_reducible apply up_enter); ((go_at_call 48; refine (acesErr_any A n c B l _ (H1.out.st st hB1) (Nat.le_trans hB1 st.size) (by omega)).mono ?_; rw [HV.out]; rintro e w' ⟨rfl, hb⟩; replace st := st.call hb; clear hb; refine ⟨_, rfl, ?_⟩))))); refine WL.next hK (by simp only [Act.put, zpt, zsz, zss]; exact rfl) ?_; clear hK K))); (try refine WL.nil ?_))
    go_ret2
    exact ⟨none, 0, 0, rfl, st.nilRow _ _⟩
end Go.Proofs.YtppjhccdgbheiaaDoor
namespace Go.Proofs.YtppjhccdgbheiaaDoor
open Go.RowKit Go.Hp
namespace L
theorem cells_k (M : List Ace) (R : List Value) (k : Nat) (h : k < M.length) : (cellsOf M ++ R)[k * 4]? = some (.int .i64 (ax M k).k) := by
  rw [List.getElem?_append_left (by rw [cellsOf_length]; omega)]
  exact cellsOf_get M k h 0 (by decide)
theorem cells_f (M : List Ace) (R : List Value) (k : Nat) (h : k < M.length) : (cellsOf M ++ R)[k * 4 + 1]? = some (.int .i64 (ax M k).f) := by
  rw [List.getElem?_append_left (by rw [cellsOf_length]; omega)]
  exact cellsOf_get M k h 1 (by decide)
theorem cells_m (M : List Ace) (R : List Value) (k : Nat) (h : k < M.length) : (cellsOf M ++ R)[k * 4 + 2]? = some (.int .i64 (ax M k).m) := by
  rw [List.getElem?_append_left (by rw [cellsOf_length]; omega)]
  exact cellsOf_get M k h 2 (by decide)
theorem cells_w (M : List Ace) (R : List Value) (k : Nat) (h : k < M.length) : (cellsOf M ++ R)[k * 4 + 3]? = some (.int .i64 (ax M k).w) := by
  rw [List.getElem?_append_left (by rw [cellsOf_length]; omega)]
  exact cellsOf_get M k h 3 (by decide)
def Ace.mask (a : Ace) (m : Int) : Ace := ⟨a.k, a.f, m, a.w⟩
theorem cells_set1 (M : List Ace) (R : List Value) (k : Nat) (v : Int) (h : k < M.length) : (cellsOf M ++ R).take (k * 4 + 2) ++ [.int .i64 v] ++ (cellsOf M ++ R).drop (k * 4 + 2 + 1) = cellsOf (M.set k ((ax M k).mask v)) ++ R := by
  rw [← cells_set M R k ((ax M k).mask v) h]
  have ht := cells_take M R k h
  have hl : k * 4 + 4 ≤ (cellsOf M ++ R).length := by rw [List.length_append, cellsOf_length]; omega
  generalize cellsOf M ++ R = C at ht hl ⊢
  have hC : C = C.take (k * 4) ++ ((ax M k).cells ++ C.drop (k * 4 + 4)) := by
    rw [← ht, List.take_drop, ← List.append_assoc]
    conv => lhs; rw [← List.take_append_drop (k * 4 + 4) C]
    congr 1
    have : List.take (k * 4) C = List.take (k * 4) (List.take (k * 4 + 4) C) := by rw [List.take_take]; congr 1; omega
    rw [this, List.take_append_drop]
  have hp : (C.take (k * 4)).length = k * 4 := by rw [List.length_take]; omega
  generalize C.take (k * 4) = P at hC hp ⊢
  generalize C.drop (k * 4 + 4) = S at hC ⊢
  subst hC
  have e1 : List.take (k * 4 + 2) (P ++ ((ax M k).cells ++ S)) = P ++ [.int .i64 (ax M k).k, .int .i64 (ax M k).f] := by
    rw [List.take_append, List.take_of_length_le (by omega), hp, show k * 4 + 2 - k * 4 = 2 by omega]
    rfl
  have e2 : List.drop (k * 4 + 2 + 1) (P ++ ((ax M k).cells ++ S)) = .int .i64 (ax M k).w :: S := by
    rw [List.drop_append, List.drop_of_length_le (by omega), hp, show k * 4 + 2 + 1 - k * 4 = 3 by omega]
    rfl
  rw [e1, e2]
  simp [Ace.cells, Ace.mask]
def alike (x a : Ace) : Bool := x.k == a.k && (x.f == a.f && x.w == a.w)
def mput : List Ace → Ace → List Ace
  | [], a => [a]
  | x :: r, a => if alike x a then x.mask (bor x.m a.m) :: r else x :: mput r a
def merged (l : List Ace) : List Ace := l.foldl mput []
theorem merged_step (l : List Ace) (q : Nat) (h : q < l.length) : merged (l.take (q + 1)) = mput (merged (l.take q)) (ax l q) := by
  unfold merged
  rw [take_succ_ax l q h, List.foldl_append]
  rfl
theorem mput_len : ∀ (M : List Ace) (a : Ace), (mput M a).length ≤ M.length + 1
  | [], _ => Nat.le_refl _
  | x :: r, a => by
    unfold mput
    have := mput_len r a
    split <;> simp <;> omega
theorem merged_len (l : List Ace) : (merged l).length ≤ l.length := by
  have key : ∀ (l M : List Ace), (l.foldl mput M).length ≤ M.length + l.length := by
    intro l
    induction l with
    | nil => intro M; simp
    | cons a l ih =>
      intro M
      have h1 := ih (mput M a)
      have h2 := mput_len M a
      simp only [List.foldl_cons, List.length_cons]
      omega
  have := key l []
  simpa [merged] using this
theorem mput_at (M : List Ace) (a : Ace) (k : Nat) (h : k < M.length) (hx : alike (ax M k) a = true) : mput (M.drop k) a = (ax M k).mask (bor (ax M k).m a.m) :: M.drop (k + 1) := by
  rw [drop_ax M k h, mput, if_pos hx]
theorem mput_past (M : List Ace) (a : Ace) (k : Nat) (h : k < M.length) (hx : alike (ax M k) a = false) : M.take k ++ mput (M.drop k) a = M.take (k + 1) ++ mput (M.drop (k + 1)) a := by
  rw [drop_ax M k h, mput, if_neg (by rw [hx]; simp), take_succ_ax M k h]
  simp
theorem mput_set {M : List Ace} {a : Ace} {k : Nat} (h : k < M.length) (hx : alike (ax M k) a = true) (hp : mput M a = M.take k ++ mput (M.drop k) a) : mput M a = M.set k ((ax M k).mask (bor (ax M k).m a.m)) := by
  rw [hp, mput_at M a k h hx, List.set_eq_take_append_cons_drop, if_pos h]
end L
theorem bits_bor (a b : Int) : bits BinOp.or IntKind.i64 a b = L.bor a b := rfl
set_option maxRecDepth 8000 in
set_option maxHeartbeats 4000000 in
theorem rMerged_any (A : Option Addr) (n c B : Nat) (l : List L.Ace) (w : World) (h1 : Aces w B A n l) (hB1 : B ≤ w.heap.size) (hn : n ≤ 100) :
    Calls Tryd.prog 30 #[.slice A n c] w (RetAces w (L.merged l)) := by
  have e1 := Lib.hid h1.len
  have H1 := Lib.hid h1
  clear h1
  have st := St.start w
  go_enter Tryd.func30, Tryd.ntmps30
  go_wp2_with (refine WL.out ?_; (repeat (fail)); (try refine WL.nil ?_))
  go_loopw [3, 4] (fun v i wr => ∃ (q : Nat) (A' : Option Addr) (m c' : Nat), q ≤ n ∧ i = .int .i64 q ∧ v = .slice A' m c' ∧ St w wr [aceRow (.slice A' m c') m (L.merged (l.take q))]) (fun _ i _ => n - (intOf i).toNat)
  case atStart => exact ⟨0, none, 0, 0, by omega, rfl, rfl, st.nilRow _ _⟩
  case round =>
    clear st
    obtain ⟨q, A', m, c', hq, rfl, rfl, st⟩ := hrel
    have hm : m ≤ 100 := by
      have h := St.len st (i := 0) rfl
      have h2 := L.merged_len (l.take q)
      have h3 := List.length_take_le q l
      omega
    by_cases hlt : q < n
    · have hst := Lib.hid (L.merged_step l q (by rw [← e1.out]; omega))
      generalize hM : L.merged (l.take q) = M at st hst
      replace hM := Lib.hid hM
      obtain ⟨b1, o1, rfl, hb1, hc⟩ := H1.out.at_ (by omega)
      have hb1 := Nat.lt_of_lt_of_le hb1 hB1
      obtain ⟨f1, f2, f3, f4⟩ := hc q hlt
      clear hc
      go_wp2_with (refine WL.out ?_; (repeat ((refine WL.op ?_ ?_; (exact rfl); intro K hK; (((with_reducible apply ow_eval); (go_simp <;> (try simp (disch := omega) only [wrap_id, sub_left, zac]) <;> rfl); ((with_reducible apply up_value)))); refine WL.next hK (by simp only [Act.put, zpt, zsz, zss]; exact rfl) ?_; clear hK K))); (try refine WL.nil ?_))
      go_loopw [5, 6] (fun f i wr => ∃ (k : Nat) (fd : Bool) (M' : List L.Ace), k ≤ m ∧ i = .int .i64 k ∧ f = .bool fd ∧ St w wr [aceRow (.slice A' m c') m M'] ∧ Hid ((fd = false ∧ M' = M ∧ L.mput M (L.ax l q) = M.take k ++ L.mput (M.drop k) (L.ax l q)) ∨ (fd = true ∧ M' = L.mput M (L.ax l q)))) (fun _ i _ => m - (intOf i).toNat)
      case atStart => exact ⟨0, false, M, by omega, rfl, rfl, st, Lib.hid (.inl ⟨rfl, rfl, by simp⟩)⟩
      case round =>
        clear st
        obtain ⟨k, fd, M', hk, rfl, rfl, st, hs⟩ := hrel
        cases fd with
        | true =>
          have hM' : Hid (M' = L.merged (l.take (q + 1))) := Lib.hid (by
            rcases hs.out with ⟨h, _⟩ | ⟨_, h⟩
            · cases h
            · rw [h, hst.out])
          clear hs
          by_cases hkm : k < m
          · go_wp2_with (refine WL.out ?_; (repeat ((refine WL.op ?_ ?_; (exact rfl); intro K hK; (first | ((first | ((with_reducible apply ow_move); exact rfl) | ((with_reducible apply ow_assign); exact rfl)); (go_simp <;> (try simp (disch := omega) only [wrap_id, sub_left, zac]) <;> rfl)) | ((with_reducible apply ow_eval); (go_simp <;> (try simp (disch := omega) only [wrap_id, sub_left, zac]) <;> rfl); ((with_reducible apply up_value)))); refine WL.next hK (by simp only [Act.put, zpt, zsz, zss]; exact rfl) ?_; clear hK K))); (try refine WL.nil ?_))
            exact ⟨⟨q + 1, A', m, c', by omega, by go_num, rfl, by rw [← hM'.out]; exact st⟩, by simp [intOf]; omega⟩
          · go_wp2_with (refine WL.out ?_; (repeat (first | (refine WL.op ?_ ?_; (exact rfl); intro K hK; (first | ((first | ((with_reducible apply ow_move); exact rfl) | ((with_reducible apply ow_assign); exact rfl)); (go_simp <;> (try simp (disch := omega) only [wrap_id, sub_left, zac]) <;> rfl)) | ((with_reducible apply ow_eval); (go_simp <;> (try simp (disch := omega) only [wrap_id, sub_left, zac]) <;> rfl); ((with_reducible apply up_value)))); refine WL.next hK (by simp only [Act.put, zpt, zsz, zss]; exact rfl) ?_; clear hK K) | (refine WL.skip ?_ (by simp only [Act.put, zpt, zsz, zss]; exact rfl) ?_; (exact rfl)))); (try refine WL.nil ?_))
            exact ⟨⟨q + 1, A', m, c', by omega, by go_num, rfl, by rw [← hM'.out]; exact st⟩, by simp [intOf]; omega⟩
        | false =>
          obtain ⟨rfl, hp⟩ : M' = M ∧ L.mput M (L.ax l q) = M.take k ++ L.mput (M.drop k) (L.ax l q) := by
            rcases hs.out with ⟨_, h⟩ | ⟨h, _⟩
            · exact h
            · cases h
          clear hs
          have HP := Lib.hid hp
          clear hp
          by_cases hkm : k < m
          · have e2 := Lib.hid (St.len st (i := 0) rfl)
            obtain ⟨g, R, rfl, hl, hcc, hnc, hcm, st⟩ := st.toBox (by omega)
            have hkl : k < M'.length := by rw [← e2.out]; exact hkm
            have HC := Lib.hid hcc
            clear hl hcc
            have hpast : L.alike (L.ax M' k) (L.ax l q) = false → Hid (L.mput M' (L.ax l q) = M'.take (k + 1) ++ L.mput (M'.drop (k + 1)) (L.ax l q)) := fun h => Lib.hid (by rw [HP.out]; exact L.mput_past M' _ k hkl h)
            have hhit : L.alike (L.ax M' k) (L.ax l q) = true → Hid (L.mput M' (L.ax l q) = M'.set k ((L.ax M' k).mask (L.bor (L.ax M' k).m (L.ax l q).m))) := fun h => Lib.hid (L.mput_set hkl h HP.out)
            by_cases c1 : ((L.ax M' k).k == (L.ax l q).k) = true
            · by_cases c2 : ((L.ax M' k).f == (L.ax l q).f) = true
              · by_cases c3 : ((L.ax M' k).w == (L.ax l q).w) = true
                · have hs' := hhit (by unfold L.alike; rw [c1, c2, c3]; rfl)
                  clear hpast hhit
                  go_wp2_with (refine WL.out ?_; (repeat ((refine WL.op ?_ ?_; (exact rfl); intro K hK; (first | ((((with_reducible apply ow_move); exact rfl)); (go_simp <;> (try simp (disch := omega) only [wrap_id, sub_left, zac]) <;> rfl)) | ((with_reducible apply ow_eval); (go_simp <;> (try simp (disch := omega) only [wrap_id, sub_left, zac]) <;> rfl); ((with_reducible apply up_value)))); refine WL.next hK (by simp only [Act.put, zpt, zsz, zss]; exact rfl) ?_; clear hK K))); (try refine WL.nil ?_))
                  refine wp_region_plan 37 (by kernel_rfl) (by kernel_rfl) ?_; replace st := st.drew; generalize World.drew _ = W at st ⊢
                  iterate 4 (apply Plan.val'; (focus (intro x0 x1 x2 x3 x4 x5 x6 x7 x8 x9 x10 x11 x12 x13 x14 x15 x16 x17 x18 x19 x20 x21 x22 x23 x24 x25 x26 x27 x28 x29 x30 x31 x32 x33 x34 x35 x36 w1 hb; (try simp only [depF, fillA, Act.put, zta, ztz, zpt, zsz, zss, zl0, zls]); (repeat (rintro rfl)); have st := st.call hb; ((apply Yphi.run; (exact rfl); (go_simp <;> (try simp (disch := omega) only [wrap_id, sub_left, zac]) <;> rfl); exact rfl)))); (simp only [zca, zcn] <;> exact rfl))
                  (apply Plan.val'; (focus (intro x0 x1 x2 x3 x4 x5 x6 x7 x8 x9 x10 x11 x12 x13 x14 x15 x16 x17 x18 x19 x20 x21 x22 x23 x24 x25 x26 x27 x28 x29 x30 x31 x32 x33 x34 x35 x36 w1 hb; (try simp only [depF, fillA, Act.put, zta, ztz, zpt, zsz, zss, zl0, zls]); (repeat (rintro rfl)); have st := st.call hb; apply Yphi.load1 st; exact rfl; exact inferInstance; (exact rfl); exact rfl; (exact get0); (exact L.cells_k _ _ _ (hkl)))); (simp only [zca, zcn] <;> exact rfl))
                  iterate 7 (apply Plan.val'; (focus (intro x0 x1 x2 x3 x4 x5 x6 x7 x8 x9 x10 x11 x12 x13 x14 x15 x16 x17 x18 x19 x20 x21 x22 x23 x24 x25 x26 x27 x28 x29 x30 x31 x32 x33 x34 x35 x36 w1 hb; (try simp only [depF, fillA, Act.put, zta, ztz, zpt, zsz, zss, zl0, zls]); (repeat (rintro rfl)); have st := st.call hb; (first | (apply Yphi.run; (exact rfl); (go_simp <;> (try simp (disch := omega) only [wrap_id, sub_left, zac]) <;> rfl); exact rfl) | (apply Yphi.old1 st; exact rfl; exact inferInstance; (exact rfl); exact rfl; assumption; assumption)))); (simp only [zca, zcn] <;> exact rfl))
                  iterate 4 (apply Plan.val'; (focus (intro x0 x1 x2 x3 x4 x5 x6 x7 x8 x9 x10 x11 x12 x13 x14 x15 x16 x17 x18 x19 x20 x21 x22 x23 x24 x25 x26 x27 x28 x29 x30 x31 x32 x33 x34 x35 x36 w1 hb; (try simp only [depF, fillA, Act.put, zta, ztz, zpt, zsz, zss, zl0, zls]); (repeat (rintro rfl)); have st := st.call hb; ((apply Yphi.run; (exact rfl); (go_simp <;> (try simp (disch := omega) only [wrap_id, sub_left, zac]) <;> rfl); exact rfl)))); (simp only [zca, zcn] <;> exact rfl))
                  (apply Plan.val'; (focus (intro x0 x1 x2 x3 x4 x5 x6 x7 x8 x9 x10 x11 x12 x13 x14 x15 x16 x17 x18 x19 x20 x21 x22 x23 x24 x25 x26 x27 x28 x29 x30 x31 x32 x33 x34 x35 x36 w1 hb; (try simp only [depF, fillA, Act.put, zta, ztz, zpt, zsz, zss, zl0, zls]); (repeat (rintro rfl)); have st := st.call hb; apply Yphi.load1 st; exact rfl; exact inferInstance; (exact rfl); exact rfl; (exact get0); (exact L.cells_f _ _ _ (hkl)))); (simp only [zca, zcn] <;> exact rfl))
                  iterate 6 (apply Plan.val'; (focus (intro x0 x1 x2 x3 x4 x5 x6 x7 x8 x9 x10 x11 x12 x13 x14 x15 x16 x17 x18 x19 x20 x21 x22 x23 x24 x25 x26 x27 x28 x29 x30 x31 x32 x33 x34 x35 x36 w1 hb; (try simp only [depF, fillA, Act.put, zta, ztz, zpt, zsz, zss, zl0, zls]); (repeat (rintro rfl)); have st := st.call hb; (first | (apply Yphi.run; (exact rfl); (go_simp <;> (try simp (disch := omega) only [wrap_id, sub_left, zac]) <;> rfl); exact rfl) | (apply Yphi.old1 st; exact rfl; exact inferInstance; (exact rfl); exact rfl; assumption; assumption)))); (simp only [zca, zcn] <;> exact rfl))
                  iterate 2 (apply Plan.val'; (focus (intro x0 x1 x2 x3 x4 x5 x6 x7 x8 x9 x10 x11 x12 x13 x14 x15 x16 x17 x18 x19 x20 x21 x22 x23 x24 x25 x26 x27 x28 x29 x30 x31 x32 x33 x34 x35 x36 w1 hb; (try simp only [depF, fillA, Act.put, zta, ztz, zpt, zsz, zss, zl0, zls]); (repeat (rintro rfl)); have st := st.call hb; ((apply Yphi.run; (exact rfl); (go_simp <;> (try simp (disch := omega) only [wrap_id, sub_left, zac]) <;> rfl); exact rfl)))); (simp only [zca, zcn] <;> exact rfl))
                  iterate 4 (apply Plan.val'; (focus (intro x0 x1 x2 x3 x4 x5 x6 x7 x8 x9 x10 x11 x12 x13 x14 x15 x16 x17 x18 x19 x20 x21 x22 x23 x24 x25 x26 x27 x28 x29 x30 x31 x32 x33 x34 x35 x36 w1 hb; (try simp only [depF, fillA, Act.put, zta, ztz, zpt, zsz, zss, zl0, zls]); (repeat (rintro rfl)); have st := st.call hb; ((apply Yphi.run; (exact rfl); (go_simp <;> (try simp (disch := omega) only [wrap_id, sub_left, zac]) <;> rfl); exact rfl)))); (simp only [zca, zcn] <;> exact rfl))
                  (apply Plan.val'; (focus (intro x0 x1 x2 x3 x4 x5 x6 x7 x8 x9 x10 x11 x12 x13 x14 x15 x16 x17 x18 x19 x20 x21 x22 x23 x24 x25 x26 x27 x28 x29 x30 x31 x32 x33 x34 x35 x36 w1 hb; (try simp only [depF, fillA, Act.put, zta, ztz, zpt, zsz, zss, zl0, zls]); (repeat (rintro rfl)); have st := st.call hb; apply Yphi.load1 st; exact rfl; exact inferInstance; (exact rfl); exact rfl; (exact get0); (exact L.cells_w _ _ _ (hkl)))); (simp only [zca, zcn] <;> exact rfl))
                  iterate 6 (apply Plan.val'; (focus (intro x0 x1 x2 x3 x4 x5 x6 x7 x8 x9 x10 x11 x12 x13 x14 x15 x16 x17 x18 x19 x20 x21 x22 x23 x24 x25 x26 x27 x28 x29 x30 x31 x32 x33 x34 x35 x36 w1 hb; (try simp only [depF, fillA, Act.put, zta, ztz, zpt, zsz, zss, zl0, zls]); (repeat (rintro rfl)); have st := st.call hb; (first | (apply Yphi.run; (exact rfl); (go_simp <;> (try simp (disch := omega) only [wrap_id, sub_left, zac]) <;> rfl); exact rfl) | (apply Yphi.old1 st; exact rfl; exact inferInstance; (exact rfl); exact rfl; assumption; assumption)))); (simp only [zca, zcn] <;> exact rfl))
                  (apply Plan.val'; (focus (intro x0 x1 x2 x3 x4 x5 x6 x7 x8 x9 x10 x11 x12 x13 x14 x15 x16 x17 x18 x19 x20 x21 x22 x23 x24 x25 x26 x27 x28 x29 x30 x31 x32 x33 x34 x35 x36 w1 hb; (try simp only [depF, fillA, Act.put, zta, ztz, zpt, zsz, zss, zl0, zls]); (repeat (rintro rfl)); have st := st.call hb; ((apply Yphi.run; (exact rfl); (go_simp <;> (try simp (disch := omega) only [wrap_id, sub_left, zac]) <;> rfl); exact rfl)))); (simp only [zca, zcn] <;> exact rfl))
                  intro x0 x1 x2 x3 x4 x5 x6 x7 x8 x9 x10 x11 x12 x13 x14 x15 x16 x17 x18 x19 x20 x21 x22 x23 x24 x25 x26 x27 x28 x29 x30 x31 x32 x33 x34 x35 x36 lo hi w1 hb hap
                  rintro rfl rfl rfl rfl rfl rfl rfl rfl rfl rfl rfl rfl rfl rfl rfl rfl rfl rfl rfl rfl rfl rfl rfl rfl rfl rfl rfl rfl rfl rfl rfl rfl rfl rfl rfl rfl rfl
                  simp only [allPhi, fillA, Act.put, zta, ztz, zpt, zsz, zss, zda, zdz]
                  have st := st.call hb
                  clear hap hb
                  go_wp2_with (refine WL.out ?_; (repeat (fail)); (try refine WL.nil ?_))
                  refine wp_region_plan 15 (by kernel_rfl) (by kernel_rfl) ?_; replace st := st.drew; generalize World.drew _ = W at st ⊢
                  iterate 6 (apply Plan.val'; (focus (intro x0 x1 x2 x3 x4 x5 x6 x7 x8 x9 x10 x11 x12 x13 x14 w1 hb; (try simp only [depF, fillA, Act.put, zta, ztz, zpt, zsz, zss, zl0, zls]); (repeat (rintro rfl)); have st := st.call hb; ((apply Yphi.run; (exact rfl); (go_simp <;> (try simp (disch := omega) only [wrap_id, sub_left, zac]) <;> rfl); exact rfl)))); (simp only [zca, zcn] <;> exact rfl))
                  (apply Plan.val'; (focus (intro x0 x1 x2 x3 x4 x5 x6 x7 x8 x9 x10 x11 x12 x13 x14 w1 hb; (try simp only [depF, fillA, Act.put, zta, ztz, zpt, zsz, zss, zl0, zls]); (repeat (rintro rfl)); have st := st.call hb; apply Yphi.load1 st; exact rfl; exact inferInstance; (exact rfl); exact rfl; (exact get0); (exact L.cells_m _ _ _ (hkl)))); (simp only [zca, zcn] <;> exact rfl))
                  iterate 8 (apply Plan.val'; (focus (intro x0 x1 x2 x3 x4 x5 x6 x7 x8 x9 x10 x11 x12 x13 x14 w1 hb; (try simp only [depF, fillA, Act.put, zta, ztz, zpt, zsz, zss, zl0, zls]); (repeat (first | rintro rfl | intro lo hi hlo hhi hphi)); have st := st.call hb; (first | (apply Yphi.run; (exact rfl); (go_simp <;> (try simp (disch := omega) only [wrap_id, sub_left, zac]) <;> rfl); exact rfl) | (apply Yphi.old1 st; exact rfl; exact inferInstance; (exact rfl); exact rfl; assumption; assumption)))); (simp only [zca, zcn] <;> exact rfl))
                  intro x0 x1 x2 x3 x4 x5 x6 x7 x8 x9 x10 x11 x12 x13 x14 lo hi w1 hb hap
                  rintro rfl rfl rfl rfl rfl rfl rfl rfl rfl rfl rfl rfl rfl rfl rfl
                  simp only [allPhi, fillA, Act.put, zta, ztz, zpt, zsz, zss, zda, zdz]
                  have st := st.call hb
                  clear hap hb
                  go_wp2_with (refine WL.out ?_; (repeat ((refine WL.op ?_ ?_; (exact rfl); intro K hK; (first | ((((with_reducible apply ow_assign); exact rfl)); (go_simp <;> (try simp (disch := omega) only [wrap_id, sub_left, zac]) <;> rfl)) | ((with_reducible apply ow_store1' st); exact rfl; exact inferInstance; exact rfl; (exact get0); exact rfl; exact rfl; exact rfl; (focus (rw [List.length_append, L.cellsOf_length]; omega)); (focus (exact congrArg (fun x => [Res.box g 23 x]) (L.cells_set1 M' R k _ hkl))); (try clear st); intro w' st) | ((with_reducible apply ow_eval); (go_simp <;> (try simp (disch := omega) only [wrap_id, sub_left, zac]) <;> rfl); ((with_reducible apply up_value)))); refine WL.next hK (by simp only [Act.put, zpt, zsz, zss]; exact rfl) ?_; clear hK K))); (try refine WL.nil ?_))
                  exact ⟨⟨k + 1, true, _, by omega, by go_num, rfl, st.ofBox (by rw [L.cellsOf_length, List.length_set, ← e2.out]) (by rw [List.length_append, L.cellsOf_length, List.length_set, ← L.cellsOf_length, ← List.length_append]; exact HC.out) hnc hcm, Lib.hid (.inr ⟨rfl, hs'.out.symm⟩)⟩, by simp [intOf]; omega⟩
                · have hs' := hpast (by unfold L.alike; simp [c1, c2, c3])
                  simp only [Bool.not_eq_true] at c3
                  clear hpast hhit
                  go_wp2_with (refine WL.out ?_; (repeat ((refine WL.op ?_ ?_; (exact rfl); intro K hK; (first | ((((with_reducible apply ow_move); exact rfl)); (go_simp <;> (try simp (disch := omega) only [wrap_id, sub_left, zac]) <;> rfl)) | ((with_reducible apply ow_eval); (go_simp <;> (try simp (disch := omega) only [wrap_id, sub_left, zac]) <;> rfl); ((with_reducible apply up_value)))); refine WL.next hK (by simp only [Act.put, zpt, zsz, zss]; exact rfl) ?_; clear hK K))); (try refine WL.nil ?_))
                  refine wp_region_plan 37 (by kernel_rfl) (by kernel_rfl) ?_; replace st := st.drew; generalize World.drew _ = W at st ⊢
                  iterate 4 (apply Plan.val'; (focus (intro x0 x1 x2 x3 x4 x5 x6 x7 x8 x9 x10 x11 x12 x13 x14 x15 x16 x17 x18 x19 x20 x21 x22 x23 x24 x25 x26 x27 x28 x29 x30 x31 x32 x33 x34 x35 x36 w1 hb; (try simp only [depF, fillA, Act.put, zta, ztz, zpt, zsz, zss, zl0, zls]); (repeat (rintro rfl)); have st := st.call hb; ((apply Yphi.run; (exact rfl); (go_simp <;> (try simp (disch := omega) only [wrap_id, sub_left, zac]) <;> rfl); exact rfl)))); (simp only [zca, zcn] <;> exact rfl))
                  (apply Plan.val'; (focus (intro x0 x1 x2 x3 x4 x5 x6 x7 x8 x9 x10 x11 x12 x13 x14 x15 x16 x17 x18 x19 x20 x21 x22 x23 x24 x25 x26 x27 x28 x29 x30 x31 x32 x33 x34 x35 x36 w1 hb; (try simp only [depF, fillA, Act.put, zta, ztz, zpt, zsz, zss, zl0, zls]); (repeat (rintro rfl)); have st := st.call hb; apply Yphi.load1 st; exact rfl; exact inferInstance; (exact rfl); exact rfl; (exact get0); (exact L.cells_k _ _ _ (hkl)))); (simp only [zca, zcn] <;> exact rfl))
                  iterate 7 (apply Plan.val'; (focus (intro x0 x1 x2 x3 x4 x5 x6 x7 x8 x9 x10 x11 x12 x13 x14 x15 x16 x17 x18 x19 x20 x21 x22 x23 x24 x25 x26 x27 x28 x29 x30 x31 x32 x33 x34 x35 x36 w1 hb; (try simp only [depF, fillA, Act.put, zta, ztz, zpt, zsz, zss, zl0, zls]); (repeat (rintro rfl)); have st := st.call hb; (first | (apply Yphi.run; (exact rfl); (go_simp <;> (try simp (disch := omega) only [wrap_id, sub_left, zac]) <;> rfl); exact rfl) | (apply Yphi.old1 st; exact rfl; exact inferInstance; (exact rfl); exact rfl; assumption; assumption)))); (simp only [zca, zcn] <;> exact rfl))
                  iterate 4 (apply Plan.val'; (focus (intro x0 x1 x2 x3 x4 x5 x6 x7 x8 x9 x10 x11 x12 x13 x14 x15 x16 x17 x18 x19 x20 x21 x22 x23 x24 x25 x26 x27 x28 x29 x30 x31 x32 x33 x34 x35 x36 w1 hb; (try simp only [depF, fillA, Act.put, zta, ztz, zpt, zsz, zss, zl0, zls]); (repeat (rintro rfl)); have st := st.call hb; ((apply Yphi.run; (exact rfl); (go_simp <;> (try simp (disch := omega) only [wrap_id, sub_left, zac]) <;> rfl); exact rfl)))); (simp only [zca, zcn] <;> exact rfl))
                  (apply Plan.val'; (focus (intro x0 x1 x2 x3 x4 x5 x6 x7 x8 x9 x10 x11 x12 x13 x14 x15 x16 x17 x18 x19 x20 x21 x22 x23 x24 x25 x26 x27 x28 x29 x30 x31 x32 x33 x34 x35 x36 w1 hb; (try simp only [depF, fillA, Act.put, zta, ztz, zpt, zsz, zss, zl0, zls]); (repeat (rintro rfl)); have st := st.call hb; apply Yphi.load1 st; exact rfl; exact inferInstance; (exact rfl); exact rfl; (exact get0); (exact L.cells_f _ _ _ (hkl)))); (simp only [zca, zcn] <;> exact rfl))
                  iterate 6 (apply Plan.val'; (focus (intro x0 x1 x2 x3 x4 x5 x6 x7 x8 x9 x10 x11 x12 x13 x14 x15 x16 x17 x18 x19 x20 x21 x22 x23 x24 x25 x26 x27 x28 x29 x30 x31 x32 x33 x34 x35 x36 w1 hb; (try simp only [depF, fillA, Act.put, zta, ztz, zpt, zsz, zss, zl0, zls]); (repeat (rintro rfl)); have st := st.call hb; (first | (apply Yphi.run; (exact rfl); (go_simp <;> (try simp (disch := omega) only [wrap_id, sub_left, zac]) <;> rfl); exact rfl) | (apply Yphi.old1 st; exact rfl; exact inferInstance; (exact rfl); exact rfl; assumption; assumption)))); (simp only [zca, zcn] <;> exact rfl))
                  iterate 2 (apply Plan.val'; (focus (intro x0 x1 x2 x3 x4 x5 x6 x7 x8 x9 x10 x11 x12 x13 x14 x15 x16 x17 x18 x19 x20 x21 x22 x23 x24 x25 x26 x27 x28 x29 x30 x31 x32 x33 x34 x35 x36 w1 hb; (try simp only [depF, fillA, Act.put, zta, ztz, zpt, zsz, zss, zl0, zls]); (repeat (rintro rfl)); have st := st.call hb; ((apply Yphi.run; (exact rfl); (go_simp <;> (try simp (disch := omega) only [wrap_id, sub_left, zac]) <;> rfl); exact rfl)))); (simp only [zca, zcn] <;> exact rfl))
                  iterate 4 (apply Plan.val'; (focus (intro x0 x1 x2 x3 x4 x5 x6 x7 x8 x9 x10 x11 x12 x13 x14 x15 x16 x17 x18 x19 x20 x21 x22 x23 x24 x25 x26 x27 x28 x29 x30 x31 x32 x33 x34 x35 x36 w1 hb; (try simp only [depF, fillA, Act.put, zta, ztz, zpt, zsz, zss, zl0, zls]); (repeat (rintro rfl)); have st := st.call hb; ((apply Yphi.run; (exact rfl); (go_simp <;> (try simp (disch := omega) only [wrap_id, sub_left, zac]) <;> rfl); exact rfl)))); (simp only [zca, zcn] <;> exact rfl))
                  (apply Plan.val'; (focus (intro x0 x1 x2 x3 x4 x5 x6 x7 x8 x9 x10 x11 x12 x13 x14 x15 x16 x17 x18 x19 x20 x21 x22 x23 x24 x25 x26 x27 x28 x29 x30 x31 x32 x33 x34 x35 x36 w1 hb; (try simp only [depF, fillA, Act.put, zta, ztz, zpt, zsz, zss, zl0, zls]); (repeat (rintro rfl)); have st := st.call hb; apply Yphi.load1 st; exact rfl; exact inferInstance; (exact rfl); exact rfl; (exact get0); (exact L.cells_w _ _ _ (hkl)))); (simp only [zca, zcn] <;> exact rfl))
                  iterate 6 (apply Plan.val'; (focus (intro x0 x1 x2 x3 x4 x5 x6 x7 x8 x9 x10 x11 x12 x13 x14 x15 x16 x17 x18 x19 x20 x21 x22 x23 x24 x25 x26 x27 x28 x29 x30 x31 x32 x33 x34 x35 x36 w1 hb; (try simp only [depF, fillA, Act.put, zta, ztz, zpt, zsz, zss, zl0, zls]); (repeat (rintro rfl)); have st := st.call hb; (first | (apply Yphi.run; (exact rfl); (go_simp <;> (try simp (disch := omega) only [wrap_id, sub_left, zac]) <;> rfl); exact rfl) | (apply Yphi.old1 st; exact rfl; exact inferInstance; (exact rfl); exact rfl; assumption; assumption)))); (simp only [zca, zcn] <;> exact rfl))
                  (apply Plan.val'; (focus (intro x0 x1 x2 x3 x4 x5 x6 x7 x8 x9 x10 x11 x12 x13 x14 x15 x16 x17 x18 x19 x20 x21 x22 x23 x24 x25 x26 x27 x28 x29 x30 x31 x32 x33 x34 x35 x36 w1 hb; (try simp only [depF, fillA, Act.put, zta, ztz, zpt, zsz, zss, zl0, zls]); (repeat (rintro rfl)); have st := st.call hb; ((apply Yphi.run; (exact rfl); (go_simp <;> (try simp (disch := omega) only [wrap_id, sub_left, zac]) <;> rfl); exact rfl)))); (simp only [zca, zcn] <;> exact rfl))
                  intro x0 x1 x2 x3 x4 x5 x6 x7 x8 x9 x10 x11 x12 x13 x14 x15 x16 x17 x18 x19 x20 x21 x22 x23 x24 x25 x26 x27 x28 x29 x30 x31 x32 x33 x34 x35 x36 lo hi w1 hb hap
                  rintro rfl rfl rfl rfl rfl rfl rfl rfl rfl rfl rfl rfl rfl rfl rfl rfl rfl rfl rfl rfl rfl rfl rfl rfl rfl rfl rfl rfl rfl rfl rfl rfl rfl rfl rfl rfl rfl
                  simp only [allPhi, fillA, Act.put, zta, ztz, zpt, zsz, zss, zda, zdz]
                  have st := st.call hb
                  clear hap hb
                  go_wp2_with (refine WL.out ?_; (repeat ((refine WL.op ?_ ?_; (exact rfl); intro K hK; (first | ((((with_reducible apply ow_assign); exact rfl)); (go_simp <;> (try simp (disch := omega) only [wrap_id, sub_left, zac]) <;> rfl)) | ((with_reducible apply ow_eval); (go_simp <;> (try simp (disch := omega) only [wrap_id, sub_left, zac]) <;> rfl); ((with_reducible apply up_value)))); refine WL.next hK (by simp only [Act.put, zpt, zsz, zss]; exact rfl) ?_; clear hK K))); (try refine WL.nil ?_))
                  exact ⟨⟨k + 1, false, M', by omega, by go_num, rfl, st.ofBox (by rw [L.cellsOf_length, ← e2.out]) HC.out hnc hcm, Lib.hid (.inl ⟨rfl, rfl, hs'.out⟩)⟩, by simp [intOf]; omega⟩
              · have hs' := hpast (by unfold L.alike; simp [c1, c2])
                simp only [Bool.not_eq_true] at c2
                clear hpast hhit
                go_wp2_with (refine WL.out ?_; (repeat ((refine WL.op ?_ ?_; (exact rfl); intro K hK; (first | ((((with_reducible apply ow_move); exact rfl)); (go_simp <;> (try simp (disch := omega) only [wrap_id, sub_left, zac]) <;> rfl)) | ((with_reducible apply ow_eval); (go_simp <;> (try simp (disch := omega) only [wrap_id, sub_left, zac]) <;> rfl); ((with_reducible apply up_value)))); refine WL.next hK (by simp only [Act.put, zpt, zsz, zss]; exact rfl) ?_; clear hK K))); (try refine WL.nil ?_))
                refine wp_region_plan 37 (by kernel_rfl) (by kernel_rfl) ?_; replace st := st.drew; generalize World.drew _ = W at st ⊢
                iterate 4 (apply Plan.val'; (focus (intro x0 x1 x2 x3 x4 x5 x6 x7 x8 x9 x10 x11 x12 x13 x14 x15 x16 x17 x18 x19 x20 x21 x22 x23 x24 x25 x26 x27 x28 x29 x30 x31 x32 x33 x34 x35 x36 w1 hb; (try simp only [depF, fillA, Act.put, zta, ztz, zpt, zsz, zss, zl0, zls]); (repeat (rintro rfl)); have st := st.call hb; ((apply Yphi.run; (exact rfl); (go_simp <;> (try simp (disch := omega) only [wrap_id, sub_left, zac]) <;> rfl); exact rfl)))); (simp only [zca, zcn] <;> exact rfl))
                (apply Plan.val'; (focus (intro x0 x1 x2 x3 x4 x5 x6 x7 x8 x9 x10 x11 x12 x13 x14 x15 x16 x17 x18 x19 x20 x21 x22 x23 x24 x25 x26 x27 x28 x29 x30 x31 x32 x33 x34 x35 x36 w1 hb; (try simp only [depF, fillA, Act.put, zta, ztz, zpt, zsz, zss, zl0, zls]); (repeat (rintro rfl)); have st := st.call hb; apply Yphi.load1 st; exact rfl; exact inferInstance; (exact rfl); exact rfl; (exact get0); (exact L.cells_k _ _ _ (hkl)))); (simp only [zca, zcn] <;> exact rfl))
                iterate 7 (apply Plan.val'; (focus (intro x0 x1 x2 x3 x4 x5 x6 x7 x8 x9 x10 x11 x12 x13 x14 x15 x16 x17 x18 x19 x20 x21 x22 x23 x24 x25 x26 x27 x28 x29 x30 x31 x32 x33 x34 x35 x36 w1 hb; (try simp only [depF, fillA, Act.put, zta, ztz, zpt, zsz, zss, zl0, zls]); (repeat (rintro rfl)); have st := st.call hb; (first | (apply Yphi.run; (exact rfl); (go_simp <;> (try simp (disch := omega) only [wrap_id, sub_left, zac]) <;> rfl); exact rfl) | (apply Yphi.old1 st; exact rfl; exact inferInstance; (exact rfl); exact rfl; assumption; assumption)))); (simp only [zca, zcn] <;> exact rfl))
                iterate 4 (apply Plan.val'; (focus (intro x0 x1 x2 x3 x4 x5 x6 x7 x8 x9 x10 x11 x12 x13 x14 x15 x16 x17 x18 x19 x20 x21 x22 x23 x24 x25 x26 x27 x28 x29 x30 x31 x32 x33 x34 x35 x36 w1 hb; (try simp only [depF, fillA, Act.put, zta, ztz, zpt, zsz, zss, zl0, zls]); (repeat (rintro rfl)); have st := st.call hb; ((apply Yphi.run; (exact rfl); (go_simp <;> (try simp (disch := omega) only [wrap_id, sub_left, zac]) <;> rfl); exact rfl)))); (simp only [zca, zcn] <;> exact rfl))
                (apply Plan.val'; (focus (intro x0 x1 x2 x3 x4 x5 x6 x7 x8 x9 x10 x11 x12 x13 x14 x15 x16 x17 x18 x19 x20 x21 x22 x23 x24 x25 x26 x27 x28 x29 x30 x31 x32 x33 x34 x35 x36 w1 hb; (try simp only [depF, fillA, Act.put, zta, ztz, zpt, zsz, zss, zl0, zls]); (repeat (rintro rfl)); have st := st.call hb; apply Yphi.load1 st; exact rfl; exact inferInstance; (exact rfl); exact rfl; (exact get0); (exact L.cells_f _ _ _ (hkl)))); (simp only [zca, zcn] <;> exact rfl))
                iterate 6 (apply Plan.val'; (focus (intro x0 x1 x2 x3 x4 x5 x6 x7 x8 x9 x10 x11 x12 x13 x14 x15 x16 x17 x18 x19 x20 x21 x22 x23 x24 x25 x26 x27 x28 x29 x30 x31 x32 x33 x34 x35 x36 w1 hb; (try simp only [depF, fillA, Act.put, zta, ztz, zpt, zsz, zss, zl0, zls]); (repeat (rintro rfl)); have st := st.call hb; (first | (apply Yphi.run; (exact rfl); (go_simp <;> (try simp (disch := omega) only [wrap_id, sub_left, zac]) <;> rfl); exact rfl) | (apply Yphi.old1 st; exact rfl; exact inferInstance; (exact rfl); exact rfl; assumption; assumption)))); (simp only [zca, zcn] <;> exact rfl))
                iterate 2 (apply Plan.val'; (focus (intro x0 x1 x2 x3 x4 x5 x6 x7 x8 x9 x10 x11 x12 x13 x14 x15 x16 x17 x18 x19 x20 x21 x22 x23 x24 x25 x26 x27 x28 x29 x30 x31 x32 x33 x34 x35 x36 w1 hb; (try simp only [depF, fillA, Act.put, zta, ztz, zpt, zsz, zss, zl0, zls]); (repeat (rintro rfl)); have st := st.call hb; ((apply Yphi.run; (exact rfl); (go_simp <;> (try simp (disch := omega) only [wrap_id, sub_left, zac]) <;> rfl); exact rfl)))); (simp only [zca, zcn] <;> exact rfl))
                iterate 11 (apply Plan.val'; (focus (intro x0 x1 x2 x3 x4 x5 x6 x7 x8 x9 x10 x11 x12 x13 x14 x15 x16 x17 x18 x19 x20 x21 x22 x23 x24 x25 x26 x27 x28 x29 x30 x31 x32 x33 x34 x35 x36 w1 hb; (try simp only [depF, fillA, Act.put, zta, ztz, zpt, zsz, zss, zl0, zls]); (repeat (rintro rfl)); have st := st.call hb; apply Yphi.skip; (exact rfl))); (simp only [zca, zcn] <;> exact rfl))
                (apply Plan.val'; (focus (intro x0 x1 x2 x3 x4 x5 x6 x7 x8 x9 x10 x11 x12 x13 x14 x15 x16 x17 x18 x19 x20 x21 x22 x23 x24 x25 x26 x27 x28 x29 x30 x31 x32 x33 x34 x35 x36 w1 hb; (try simp only [depF, fillA, Act.put, zta, ztz, zpt, zsz, zss, zl0, zls]); (repeat (rintro rfl)); have st := st.call hb; ((apply Yphi.run; (exact rfl); (go_simp <;> (try simp (disch := omega) only [wrap_id, sub_left, zac]) <;> rfl); exact rfl)))); (simp only [zca, zcn] <;> exact rfl))
                intro x0 x1 x2 x3 x4 x5 x6 x7 x8 x9 x10 x11 x12 x13 x14 x15 x16 x17 x18 x19 x20 x21 x22 x23 x24 x25 x26 x27 x28 x29 x30 x31 x32 x33 x34 x35 x36 lo hi w1 hb hap
                rintro rfl rfl rfl rfl rfl rfl rfl rfl rfl rfl rfl rfl rfl rfl rfl rfl rfl rfl rfl rfl rfl rfl rfl rfl rfl rfl rfl rfl rfl rfl rfl rfl rfl rfl rfl rfl rfl
                simp only [allPhi, fillA, Act.put, zta, ztz, zpt, zsz, zss, zda, zdz]
                have st := st.call hb
                clear hap hb
                go_wp2_with (refine WL.out ?_; (repeat ((refine WL.op ?_ ?_; (exact rfl); intro K hK; (first | ((((with_reducible apply ow_assign); exact rfl)); (go_simp <;> (try simp (disch := omega) only [wrap_id, sub_left, zac]) <;> rfl)) | ((with_reducible apply ow_eval); (go_simp <;> (try simp (disch := omega) only [wrap_id, sub_left, zac]) <;> rfl); ((with_reducible apply up_value)))); refine WL.next hK (by simp only [Act.put, zpt, zsz, zss]; exact rfl) ?_; clear hK K))); (try refine WL.nil ?_))
                exact ⟨⟨k + 1, false, M', by omega, by go_num, rfl, st.ofBox (by rw [L.cellsOf_length, ← e2.out]) HC.out hnc hcm, Lib.hid (.inl ⟨rfl, rfl, hs'.out⟩)⟩, by simp [intOf]; omega⟩
            · have hs' := hpast (by unfold L.alike; simp [c1])
              simp only [Bool.not_eq_true] at c1
              clear hpast hhit
              go_wp2_with (refine WL.out ?_; (repeat ((refine WL.op ?_ ?_; (exact rfl); intro K hK; (first | ((((with_reducible apply ow_move); exact rfl)); (go_simp <;> (try simp (disch := omega) only [wrap_id, sub_left, zac]) <;> rfl)) | ((with_reducible apply ow_eval); (go_simp <;> (try simp (disch := omega) only [wrap_id, sub_left, zac]) <;> rfl); ((with_reducible apply up_value)))); refine WL.next hK (by simp only [Act.put, zpt, zsz, zss]; exact rfl) ?_; clear hK K))); (try refine WL.nil ?_))
              refine wp_region_plan 37 (by kernel_rfl) (by kernel_rfl) ?_; replace st := st.drew; generalize World.drew _ = W at st ⊢
              iterate 4 (apply Plan.val'; (focus (intro x0 x1 x2 x3 x4 x5 x6 x7 x8 x9 x10 x11 x12 x13 x14 x15 x16 x17 x18 x19 x20 x21 x22 x23 x24 x25 x26 x27 x28 x29 x30 x31 x32 x33 x34 x35 x36 w1 hb; (try simp only [depF, fillA, Act.put, zta, ztz, zpt, zsz, zss, zl0, zls]); (repeat (rintro rfl)); have st := st.call hb; ((apply Yphi.run; (exact rfl); (go_simp <;> (try simp (disch := omega) only [wrap_id, sub_left, zac]) <;> rfl); exact rfl)))); (simp only [zca, zcn] <;> exact rfl))
              (apply Plan.val'; (focus (intro x0 x1 x2 x3 x4 x5 x6 x7 x8 x9 x10 x11 x12 x13 x14 x15 x16 x17 x18 x19 x20 x21 x22 x23 x24 x25 x26 x27 x28 x29 x30 x31 x32 x33 x34 x35 x36 w1 hb; (try simp only [depF, fillA, Act.put, zta, ztz, zpt, zsz, zss, zl0, zls]); (repeat (rintro rfl)); have st := st.call hb; apply Yphi.load1 st; exact rfl; exact inferInstance; (exact rfl); exact rfl; (exact get0); (exact L.cells_k _ _ _ (hkl)))); (simp only [zca, zcn] <;> exact rfl))
              iterate 7 (apply Plan.val'; (focus (intro x0 x1 x2 x3 x4 x5 x6 x7 x8 x9 x10 x11 x12 x13 x14 x15 x16 x17 x18 x19 x20 x21 x22 x23 x24 x25 x26 x27 x28 x29 x30 x31 x32 x33 x34 x35 x36 w1 hb; (try simp only [depF, fillA, Act.put, zta, ztz, zpt, zsz, zss, zl0, zls]); (repeat (rintro rfl)); have st := st.call hb; (first | (apply Yphi.run; (exact rfl); (go_simp <;> (try simp (disch := omega) only [wrap_id, sub_left, zac]) <;> rfl); exact rfl) | (apply Yphi.old1 st; exact rfl; exact inferInstance; (exact rfl); exact rfl; assumption; assumption)))); (simp only [zca, zcn] <;> exact rfl))
              iterate 11 (apply Plan.val'; (focus (intro x0 x1 x2 x3 x4 x5 x6 x7 x8 x9 x10 x11 x12 x13 x14 x15 x16 x17 x18 x19 x20 x21 x22 x23 x24 x25 x26 x27 x28 x29 x30 x31 x32 x33 x34 x35 x36 w1 hb; (try simp only [depF, fillA, Act.put, zta, ztz, zpt, zsz, zss, zl0, zls]); (repeat (rintro rfl)); have st := st.call hb; apply Yphi.skip; (exact rfl))); (simp only [zca, zcn] <;> exact rfl))
              iterate 2 (apply Plan.val'; (focus (intro x0 x1 x2 x3 x4 x5 x6 x7 x8 x9 x10 x11 x12 x13 x14 x15 x16 x17 x18 x19 x20 x21 x22 x23 x24 x25 x26 x27 x28 x29 x30 x31 x32 x33 x34 x35 x36 w1 hb; (try simp only [depF, fillA, Act.put, zta, ztz, zpt, zsz, zss, zl0, zls]); (repeat (rintro rfl)); have st := st.call hb; ((apply Yphi.run; (exact rfl); (go_simp <;> (try simp (disch := omega) only [wrap_id, sub_left, zac]) <;> rfl); exact rfl)))); (simp only [zca, zcn] <;> exact rfl))
              iterate 11 (apply Plan.val'; (focus (intro x0 x1 x2 x3 x4 x5 x6 x7 x8 x9 x10 x11 x12 x13 x14 x15 x16 x17 x18 x19 x20 x21 x22 x23 x24 x25 x26 x27 x28 x29 x30 x31 x32 x33 x34 x35 x36 w1 hb; (try simp only [depF, fillA, Act.put, zta, ztz, zpt, zsz, zss, zl0, zls]); (repeat (rintro rfl)); have st := st.call hb; apply Yphi.skip; (exact rfl))); (simp only [zca, zcn] <;> exact rfl))
              (apply Plan.val'; (focus (intro x0 x1 x2 x3 x4 x5 x6 x7 x8 x9 x10 x11 x12 x13 x14 x15 x16 x17 x18 x19 x20 x21 x22 x23 x24 x25 x26 x27 x28 x29 x30 x31 x32 x33 x34 x35 x36 w1 hb; (try simp only [depF, fillA, Act.put, zta, ztz, zpt, zsz, zss, zl0, zls]); (repeat (rintro rfl)); have st := st.call hb; ((apply Yphi.run; (exact rfl); (go_simp <;> (try simp (disch := omega) only [wrap_id, sub_left, zac]) <;> rfl); exact rfl)))); (simp only [zca, zcn] <;> exact rfl))
              intro x0 x1 x2 x3 x4 x5 x6 x7 x8 x9 x10 x11 x12 x13 x14 x15 x16 x17 x18 x19 x20 x21 x22 x23 x24 x25 x26 x27 x28 x29 x30 x31 x32 x33 x34 x35 x36 lo hi w1 hb hap
              rintro rfl rfl rfl rfl rfl rfl rfl rfl rfl rfl rfl rfl rfl rfl rfl rfl rfl rfl rfl rfl rfl rfl rfl rfl rfl rfl rfl rfl rfl rfl rfl rfl rfl rfl rfl rfl rfl
              simp only [allPhi, fillA, Act.put, zta, ztz, zpt, zsz, zss, zda, zdz]
              have st := st.call hb
              clear hap hb
              go_wp2_with (refine WL.out ?_; (repeat ((refine WL.op ?_ ?_; (exact rfl); intro K hK; (first | ((((with_reducible apply ow_assign); exact rfl)); (go_simp <;> (try simp (disch := omega) only [wrap_id, sub_left, zac]) <;> rfl)) | ((with_reducible apply ow_eval); (go_simp <;> (try simp (disch := omega) only [wrap_id, sub_left, zac]) <;> rfl); ((with_reducible apply up_value)))); refine WL.next hK (by simp only [Act.put, zpt, zsz, zss]; exact rfl) ?_; clear hK K))); (try refine WL.nil ?_))
              exact ⟨⟨k + 1, false, M', by omega, by go_num, rfl, st.ofBox (by rw [L.cellsOf_length, ← e2.out]) HC.out hnc hcm, Lib.hid (.inl ⟨rfl, rfl, hs'.out⟩)⟩, by simp [intOf]; omega⟩
          · have e2 := Lib.hid (St.len st (i := 0) rfl)
            have hs' : Hid (L.merged (l.take (q + 1)) = M' ++ [L.ax l q]) := Lib.hid (by rw [hst.out, HP.out, List.drop_of_length_le (by rw [← e2.out]; omega), List.take_of_length_le (by rw [← e2.out]; omega)]; rfl)
            go_wp2_with (refine WL.out ?_; (repeat (first | (refine WL.op ?_ ?_; (exact rfl); intro K hK; (first | ((first | ((with_reducible apply ow_move); exact rfl) | ((with_reducible apply ow_assign); exact rfl)); (go_simp <;> (try simp (disch := omega) only [wrap_id, sub_left, zac]) <;> rfl)) | ((((with_reducible apply ow_newSlice st); exact rfl; (go_simp <;> (try simp (disch := omega) only [wrap_id, sub_left, zac]) <;> rfl); exact rfl)); (try clear st); intro b w' st) | ((with_reducible apply ow_old4 st); exact rfl; exact inferInstance; exact rfl; assumption; assumption; assumption; assumption; assumption) | ((with_reducible apply ow_append 1 st); exact rfl; exact inferInstance; exact rfl; exact rfl; exact rfl; exact st.rdBox (i := 0) (n := 1) (size := 4) rfl rfl; (focus ((simp [Value.oneCell']; done))); (focus (unfold maxLen; omega)); (focus omega); (try clear st); intro A' c' w' st; (try simp only [List.set_cons_zero, List.set_cons_succ, Nat.zero_add, List.nil_append] at st)) | ((with_reducible apply ow_eval); (go_simp <;> (try simp (disch := omega) only [wrap_id, sub_left, zac]) <;> rfl); ((with_reducible apply up_value)))); refine WL.next hK (by simp only [Act.put, zpt, zsz, zss]; exact rfl) ?_; clear hK K) | (refine WL.skip ?_ (by simp only [Act.put, zpt, zsz, zss]; exact rfl) ?_; (exact rfl)))); (try refine WL.nil ?_))
            exact ⟨⟨q + 1, A', m + 1, c', by omega, by go_num, rfl, by unfold aceRow; rw [hs'.out, L.cellsOf_append]; exact st.tail⟩, by simp [intOf]; omega⟩
    · have hs' : Hid (L.merged (l.take q) = L.merged l) := Lib.hid (by rw [List.take_of_length_le (by rw [← e1.out]; omega)])
      go_wp2_with (refine WL.out ?_; (repeat ((refine WL.op ?_ ?_; (exact rfl); intro K hK; (((with_reducible apply ow_eval); (go_simp <;> (try simp (disch := omega) only [wrap_id, sub_left, zac]) <;> rfl); ((with_reducible apply up_value)))); refine WL.next hK (by simp only [Act.put, zpt, zsz, zss]; exact rfl) ?_; clear hK K))); (try refine WL.nil ?_))
      go_ret
      exact ⟨_, _, _, rfl, by rw [← hs'.out]; exact st⟩
end Go.Proofs.YtppjhccdgbheiaaDoor
namespace Go.Hp
open Go.RowKit Go.WideMaps Go.Maps Go.ChangeMaps
section
variable {P : Program} {o : Oper} {a : Act} {w0 w : World} {rs : List Res} {Q : Exit → Act → World → Prop} {K : Act → World → Prop}
theorem ow_makeMap {t : TypeId} (st : St w0 w rs) (ho : o.op = .makeMap t none)
    (h : ∀ b w', St w0 w' (.obj b (.map #[] 0) :: rs) → K (a.put o.dst (.map (some b))) w') : OW P o a w K Q :=
  OW.mk (wp_value (by simp only [execOp, ho]; rfl) (h _ _ (st.fresh ((Below.refl _ _).alloc (Nat.le_refl _) _) ⟨Nat.le_refl _, heap_alloc_new w _⟩)))
theorem ow_look {k e t : TypeId} {i b : Nat} {m x : Operand} {key z : Value} {es : Array MapEntry} {clock : Nat} {r : Bool × Value} (st : St w0 w rs) (ho : o.op = .lookup t m x true) (L : KeyLaw P k) (ht : P.underlying t = some (.map k e)) (hz : ∀ w, (zeroValue e).run P w = .ok z w)
    (hm : a.eval m = .map (some b)) (hx : a.eval x = key) (hi : rs[i]? = some (.obj b (.map es clock))) (hall : ∀ y ∈ es.toList, ∃ l, keyOf P k y.key = some l) (hk : ∃ kl, keyOf P k key = some kl)
    (hr : (r = (false, z) ∧ ∀ y ∈ es.toList, y.key ≠ key) ∨ ∃ (j : Nat) (y : MapEntry), es.toList[j]? = some y ∧ y.key = key ∧ r = (true, y.val)) (huni : ∀ (j j' : Nat) (y y' : MapEntry), es.toList[j]? = some y → es.toList[j']? = some y' → y.key = key → y'.key = key → y.val = y'.val)
    (h : K (a.put o.dst (.tuple #[r.2, .bool r.1])) w) : OW P o a w K Q := by
  obtain ⟨kl, hkl⟩ := hk
  have hb : w.heap[b]? = some (.map es clock) := (st.get hi).2
  refine OW.mk ?_
  rcases L.find w hkl es.toList hall with ⟨f1, f2⟩ | ⟨j, e0, f1, f2, f3⟩
  · have hr' : r = (false, z) := by
      rcases hr with ⟨h, _⟩ | ⟨j, y, h1, h2, _⟩
      · exact h
      · exact absurd h2 (f2 y (List.mem_of_getElem? h1))
    subst hr'
    refine wp_value ?_ h
    simp [execOp, ho, hm, hx, Instr.lookup, run_underlying ht, MapKept.run_getObj_map hb, L.check w _ hkl, f1, hz, Result.andThen]
  · have hr' : r = (true, e0.val) := by
      rcases hr with ⟨_, h⟩ | ⟨j', y, h1, h2, h3⟩
      · exact absurd f3 (h e0 (List.mem_of_getElem? f2))
      · rw [h3, huni _ _ _ _ h1 f2 h2 f3]
    subst hr'
    refine wp_value ?_ h
    simp [execOp, ho, hm, hx, Instr.lookup, run_underlying ht, MapKept.run_getObj_map hb, L.check w _ hkl, f1, Result.andThen]
theorem grownBy_setBlock {w : World} {b : Nat} {es : Array MapEntry} {clock : Nat} {o' : Obj} (hb : w.heap[b]? = some (.map es clock)) : w.grownBy (setBlock w b o') (some b) :=
  ⟨rfl, rfl, rfl, by simp [setBlock], fun i _ hi => heap_setBlock_other hb _ (fun e => hi (by rw [e]))⟩
theorem ow_mapNew {k e t : TypeId} (i : Nat) {b : Nat} {m x v : Operand} {key val : Value} {es : Array MapEntry} {clock : Nat} (st : St w0 w rs) (ho : o.op = .mapUpdate t m x v) (L : KeyLaw P k) (ht : P.underlying t = some (.map k e))
    (hm : a.eval m = .map (some b)) (hx : a.eval x = key) (hv : a.eval v = val) (hi : rs[i]? = some (.obj b (.map es clock))) (hall : ∀ y ∈ es.toList, ∃ l, keyOf P k y.key = some l) (hk : ∃ kl, keyOf P k key = some kl) (hne : ∀ y ∈ es.toList, y.key ≠ key)
    (h : ∀ w', St w0 w' (rs.set i (.obj b (.map (es.push ⟨key, val, clock⟩) (clock + 1)))) → K (a.put o.dst undef) w') : OW P o a w K Q := by
  obtain ⟨kl, hkl⟩ := hk
  have hb : w.heap[b]? = some (.map es clock) := (st.get hi).2
  refine OW.mk ?_
  rcases L.find w hkl es.toList hall with ⟨f1, _⟩ | ⟨j, e0, f1, f2, f3⟩
  · refine wp_skip_ (w' := setBlock w b (.map (es.push ⟨key, val, clock⟩) (clock + 1))) ?_ (h _ (st.upd hi (grownBy_setBlock hb) ⟨(st.get hi).1, heap_setBlock_same hb _⟩ (fun k hk => .inl hk)))
    simp [execOp, ho, hm, hx, hv, Instr.mapUpdate, run_underlying ht, MapKept.run_getObj_map hb, L.check w false hkl, f1, MapKept.run_setObj_map _ hb, Result.andThen, setBlock]
  · exact absurd f3 (hne e0 (List.mem_of_getElem? f2))
end
end Go.Hp
namespace Go.Proofs.YtppjhccdgbheiaaDoor
open Go.RowKit Go.Hp Go.WideMaps
theorem aceLaw : KeyLaw Tryd.prog 23 := deep_law (m := 2) (by decide) (by kernel_rfl) (by kernel_rfl) (by kernel_rfl)
def InI64 (n : Int) : Prop := -9223372036854775808 ≤ n ∧ n ≤ 9223372036854775807
theorem keyOf_ace {k f m w : Int} (hk : InI64 k) (hf : InI64 f) (hm : InI64 m) (hw : InI64 w) : ∃ kl, keyOf Tryd.prog 23 (.agg #[.int .i64 k, .int .i64 f, .int .i64 m, .int .i64 w]) = some kl := by
  have wf : ∀ {n : Int}, InI64 n → (Lit.int .i64 n).wf = true := fun {n} h => by
    unfold InI64 at h
    have h1 : IntKind.i64.min = -9223372036854775808 := by decide
    have h2 : IntKind.i64.max = 9223372036854775807 := by decide
    show (decide (IntKind.i64.min ≤ n) && decide (n ≤ IntKind.i64.max)) = true
    rw [decide_eq_true (by rw [h1]; exact h.1), decide_eq_true (by rw [h2]; exact h.2)]
    rfl
  have one : ∀ (d : Nat) {n : Int}, InI64 n → Tryd.prog.keyLits (d + 1) 3 [.int .i64 n] = some [.int .i64 n] := fun d {n} h => by
    unfold Program.keyLits
    rw [Tryd.underlying3]
    simp only [wf h, and_self, if_true]
  have hC : Tryd.prog.cellsOf 23 = 4 := by kernel_rfl
  have hC1 : Tryd.prog.cellsOf 3 = 1 := by kernel_rfl
  have hkt : Tryd.prog.keyType 23 = true := by kernel_rfl
  have hfm : (Value.agg #[.int .i64 k, .int .i64 f, .int .i64 m, .int .i64 w]).formed Tryd.prog 23 = true := by
    unfold Value.formed
    rw [Tryd.underlying23]
    simp only [hC]
    rfl
  have hsuc : ∀ n : Nat, (n == 0) = false → ∃ d, n = d + 1 := fun n h => by
    cases n with
    | zero => cases h
    | succ n => exact ⟨n, rfl⟩
  obtain ⟨d, hd⟩ := hsuc Tryd.prog.types.size (by kernel_rfl)
  unfold keyOf
  rw [Tryd.underlying23]
  simp only [hkt, hfm, Bool.and_self, if_true]
  unfold Program.keyLits
  rw [Tryd.underlying23]
  simp only []
  have hlen : (Value.agg #[.int .i64 k, .int .i64 f, .int .i64 m, .int .i64 w]).cells.toList.length = Tryd.prog.cellsOf 23 := (show _ = 4 from rfl).trans hC.symm
  rw [if_pos ⟨hlen, by kernel_rfl⟩]
  rw [hd]
  have t0 : Tryd.prog.keyLits (d + 1) 3 (List.take (Tryd.prog.cellsOf 3) (List.drop 0 (Value.agg #[.int .i64 k, .int .i64 f, .int .i64 m, .int .i64 w]).cells.toList)) = some [.int .i64 k] := by rw [hC1]; exact one d hk
  have t1 : Tryd.prog.keyLits (d + 1) 3 (List.take (Tryd.prog.cellsOf 3) (List.drop 1 (Value.agg #[.int .i64 k, .int .i64 f, .int .i64 m, .int .i64 w]).cells.toList)) = some [.int .i64 f] := by rw [hC1]; exact one d hf
  have t2 : Tryd.prog.keyLits (d + 1) 3 (List.take (Tryd.prog.cellsOf 3) (List.drop 2 (Value.agg #[.int .i64 k, .int .i64 f, .int .i64 m, .int .i64 w]).cells.toList)) = some [.int .i64 m] := by rw [hC1]; exact one d hm
  have t3 : Tryd.prog.keyLits (d + 1) 3 (List.take (Tryd.prog.cellsOf 3) (List.drop 3 (Value.agg #[.int .i64 k, .int .i64 f, .int .i64 m, .int .i64 w]).cells.toList)) = some [.int .i64 w] := by rw [hC1]; exact one d hw
  simp only [List.mapM_cons, List.mapM_nil, t0, t1, t2, t3]
  exact ⟨_, rfl⟩
end Go.Proofs.YtppjhccdgbheiaaDoor
namespace Go.Proofs.YtppjhccdgbheiaaDoor
open Go.RowKit Go.Hp Go.WideMaps
namespace L
theorem alike_iff {x a : Ace} : alike x a = true ↔ x.k = a.k ∧ x.f = a.f ∧ x.w = a.w := by
  simp [alike]
theorem alike_symm {x a : Ace} (h : alike x a = true) : alike a x = true := alike_iff.2 (by obtain ⟨h1, h2, h3⟩ := alike_iff.1 h; exact ⟨h1.symm, h2.symm, h3.symm⟩)
theorem alike_trans {x a b : Ace} (h : alike x a = true) (h' : alike a b = true) : alike x b = true := alike_iff.2 (by
  obtain ⟨h1, h2, h3⟩ := alike_iff.1 h
  obtain ⟨g1, g2, g3⟩ := alike_iff.1 h'
  exact ⟨h1.trans g1, h2.trans g2, h3.trans g3⟩)
theorem alike_mask (x a : Ace) (m : Int) : alike (x.mask m) a = alike x a := rfl
theorem alike_mask2 (x a : Ace) (m : Int) : alike x (a.mask m) = alike x a := rfl
def Distinct (M : List Ace) : Prop := M.Pairwise fun x y => alike x y = false
theorem mput_hit : ∀ {M : List Ace} {a : Ace} {j : Nat}, Distinct M → j < M.length → alike (ax M j) a = true → mput M a = M.set j ((ax M j).mask (bor (ax M j).m a.m))
  | [], _, _, _, h, _ => by simp at h
  | x :: r, a, 0, _, _, hx => by
    have hx' : alike x a = true := hx
    unfold mput
    rw [if_pos hx']
    rfl
  | x :: r, a, j + 1, hd, hj, hx => by
    have hj' : j < r.length := by simpa using hj
    have hx' : alike (ax r j) a = true := hx
    obtain ⟨h1, h2⟩ := List.pairwise_cons.1 hd
    have hm : ax r j ∈ r := by rw [ax_eq r j hj']; exact List.getElem_mem _
    have hne : alike x a = false := by
      cases h : alike x a with
      | false => rfl
      | true =>
        have := alike_trans h (alike_symm hx')
        rw [h1 _ hm] at this
        cases this
    unfold mput
    rw [if_neg (by rw [hne]; simp), mput_hit h2 hj' hx']
    rfl
theorem mput_miss : ∀ {M : List Ace} {a : Ace}, (∀ x ∈ M, alike x a = false) → mput M a = M ++ [a]
  | [], _, _ => rfl
  | x :: r, a, h => by
    unfold mput
    rw [if_neg (by rw [h x (List.mem_cons_self ..)]; simp), mput_miss fun y hy => h y (List.mem_cons_of_mem _ hy)]
    rfl
theorem mput_mem : ∀ {M : List Ace} {a x : Ace}, x ∈ mput M a → alike x a = true ∨ x ∈ M
  | [], a, x, h => by
    rw [show mput [] a = [a] from rfl, List.mem_singleton] at h
    subst h
    exact .inl (alike_iff.2 ⟨rfl, rfl, rfl⟩)
  | y :: r, a, x, h => by
    unfold mput at h
    split at h
    · rename_i hy
      rcases List.mem_cons.1 h with rfl | h
      · exact .inl hy
      · exact .inr (List.mem_cons_of_mem _ h)
    · rcases List.mem_cons.1 h with rfl | h
      · exact .inr (List.mem_cons_self ..)
      · rcases mput_mem h with h | h
        · exact .inl h
        · exact .inr (List.mem_cons_of_mem _ h)
theorem mput_distinct : ∀ {M : List Ace} {a : Ace}, Distinct M → Distinct (mput M a)
  | [], a, _ => by unfold mput; exact List.pairwise_singleton _ _
  | x :: r, a, hd => by
    obtain ⟨h1, h2⟩ := List.pairwise_cons.1 hd
    unfold mput
    split
    · exact List.pairwise_cons.2 ⟨fun y hy => h1 y hy, h2⟩
    · rename_i hx
      refine List.pairwise_cons.2 ⟨fun y hy => ?_, mput_distinct h2⟩
      rcases mput_mem hy with h | h
      · cases hxy : alike x y with
        | false => rfl
        | true => exact absurd (alike_trans hxy h) hx
      · exact h1 y h
theorem foldl_distinct : ∀ (l M : List Ace), Distinct M → Distinct (l.foldl mput M)
  | [], _, h => h
  | a :: l, M, h => foldl_distinct l (mput M a) (mput_distinct h)
theorem merged_distinct (l : List Ace) : Distinct (merged l) := foldl_distinct l [] .nil
theorem foldl_from : ∀ (l M : List Ace) {x : Ace}, x ∈ l.foldl mput M → (∃ y ∈ M, alike x y = true) ∨ ∃ a ∈ l, alike x a = true
  | [], M, x, h => .inl ⟨x, h, alike_iff.2 ⟨rfl, rfl, rfl⟩⟩
  | a :: l, M, x, h => by
    rcases foldl_from l (mput M a) h with ⟨y, hy, hxy⟩ | ⟨b, hb, hxb⟩
    · rcases mput_mem hy with h' | h'
      · exact .inr ⟨a, List.mem_cons_self .., alike_trans hxy h'⟩
      · exact .inl ⟨y, h', hxy⟩
    · exact .inr ⟨b, List.mem_cons_of_mem _ hb, hxb⟩
theorem merged_from {l : List Ace} {x : Ace} (h : x ∈ merged l) : ∃ a ∈ l, alike x a = true := by
  rcases foldl_from l [] h with ⟨y, hy, _⟩ | h
  · cases hy
  · exact h
def kv (a : Ace) : Value := .agg #[.int .i64 a.k, .int .i64 a.f, .int .i64 0, .int .i64 a.w]
theorem kv_alike {x a : Ace} : kv x = kv a ↔ alike x a = true := by
  rw [alike_iff]
  constructor
  · intro h
    simp [kv] at h
    exact ⟨h.1, h.2.1, h.2.2⟩
  · rintro ⟨h1, h2, h3⟩
    unfold kv
    rw [h1, h2, h3]
def MapOf (M : List Ace) (es : List MapEntry) : Prop := es.length = M.length ∧ ∀ (i : Nat) (y : MapEntry), es[i]? = some y → y.key = kv (ax M i) ∧ y.val = .int .i64 (i : Int)
theorem MapOf.nil : MapOf [] [] := ⟨rfl, fun i y h => by simp at h⟩
theorem MapOf.mask {M : List Ace} {es : List MapEntry} (h : MapOf M es) (j : Nat) (m : Int) : MapOf (M.set j ((ax M j).mask m)) es := by
  refine ⟨by rw [List.length_set]; exact h.1, fun i y hy => ?_⟩
  obtain ⟨h1, h2⟩ := h.2 i y hy
  have hi : i < M.length := by rw [← h.1]; exact (List.getElem?_eq_some_iff.1 hy).1
  refine ⟨?_, h2⟩
  rw [h1]
  by_cases e : j = i
  · subst e
    rw [ax_eq (M.set j _) j (by rw [List.length_set]; exact hi), List.getElem_set_self]
    rfl
  · rw [ax_eq (M.set j _) i (by rw [List.length_set]; exact hi), List.getElem_set_ne e, ax_eq M i hi]
theorem MapOf.push {M : List Ace} {es : List MapEntry} (h : MapOf M es) (a : Ace) (c m : Nat) (hm : m = M.length) : MapOf (M ++ [a]) (es ++ [⟨kv a, .int .i64 (m : Int), c⟩]) := by
  subst hm
  refine ⟨by simp [h.1], fun i y hy => ?_⟩
  rcases Nat.lt_or_ge i es.length with hi | hi
  · rw [List.getElem?_append_left hi] at hy
    rw [ax_left _ _ _ (by rw [← h.1]; exact hi)]
    exact h.2 i y hy
  · rw [List.getElem?_append_right hi] at hy
    have hi0 : i - es.length = 0 := by
      rcases Nat.eq_zero_or_pos (i - es.length) with h0 | h0
      · exact h0
      · rw [List.getElem?_eq_none (by simp; omega)] at hy; cases hy
    rw [hi0] at hy
    simp only [List.getElem?_cons_zero, Option.some.injEq] at hy
    subst hy
    have : i = M.length + 0 := by have := h.1; omega
    rw [this, ax_right M [a] 0 (by simp)]
    exact ⟨rfl, rfl⟩
theorem MapOf.keys {M : List Ace} {es : List MapEntry} (h : MapOf M es) {y : MapEntry} (hy : y ∈ es) : ∃ x ∈ M, y.key = kv x := by
  obtain ⟨i, hi⟩ := List.mem_iff_getElem?.1 hy
  have hil : i < M.length := by rw [← h.1]; exact (List.getElem?_eq_some_iff.1 hi).1
  exact ⟨ax M i, by rw [ax_eq M i hil]; exact List.getElem_mem _, (h.2 i y hi).1⟩
theorem MapOf.none {M : List Ace} {es : List MapEntry} {a : Ace} (h : MapOf M es) (hn : ∀ x ∈ M, alike x a = false) : ∀ y ∈ es, y.key ≠ kv a := fun y hy e => by
  obtain ⟨x, hx, hk⟩ := h.keys hy
  rw [hk] at e
  have := hn x hx
  rw [kv_alike.1 e] at this
  cases this
theorem MapOf.some {M : List Ace} {es : List MapEntry} {a : Ace} {j : Nat} (h : MapOf M es) (hj : j < M.length) (hx : alike (ax M j) a = true) : ∃ y, es[j]? = some y ∧ y.key = kv a ∧ y.val = .int .i64 (j : Int) := by
  obtain ⟨y, hy⟩ : ∃ y, es[j]? = Option.some y := ⟨es[j]'(by rw [h.1]; exact hj), List.getElem?_eq_getElem _⟩
  obtain ⟨h1, h2⟩ := h.2 j y hy
  exact ⟨y, hy, by rw [h1]; exact kv_alike.2 hx, h2⟩
theorem MapOf.uni {M : List Ace} {es : List MapEntry} (h : MapOf M es) (hd : Distinct M) (key : Value) : ∀ (j j' : Nat) (y y' : MapEntry), es[j]? = Option.some y → es[j']? = Option.some y' → y.key = key → y'.key = key → y.val = y'.val := by
  intro j j' y y' hy hy' hk hk'
  obtain ⟨h1, h2⟩ := h.2 j y hy
  obtain ⟨h1', h2'⟩ := h.2 j' y' hy'
  have hj : j < M.length := by rw [← h.1]; exact (List.getElem?_eq_some_iff.1 hy).1
  have hj' : j' < M.length := by rw [← h.1]; exact (List.getElem?_eq_some_iff.1 hy').1
  have hal : alike (ax M j) (ax M j') = true := kv_alike.1 (by rw [← h1, ← h1', hk, hk'])
  have : j = j' := by
    rcases Nat.lt_trichotomy j j' with hlt | he | hlt
    · have := List.pairwise_iff_getElem.1 hd j j' hj hj' hlt
      rw [← ax_eq M j hj, ← ax_eq M j' hj', hal] at this
      cases this
    · exact he
    · have := List.pairwise_iff_getElem.1 hd j' j hj' hj hlt
      rw [← ax_eq M j hj, ← ax_eq M j' hj', alike_symm hal] at this
      cases this
  subst this
  rw [h2, h2']
def mergedOf (l : List Ace) : List Ace × Int := if acesErr l = 0 then (merged l, 0) else ([], acesErr l)
theorem Ok.i64 {a : Ace} (h : Ok a) : InI64 a.k ∧ InI64 a.f ∧ InI64 a.w := by
  have h1 := h.k0; have h2 := h.k1; have h3 := h.f0; have h4 := h.f1; have h5 := h.w0; have h6 := h.w1
  unfold InI64
  omega
theorem key_ok {a : Ace} (h : Ok a) : ∃ kl, keyOf Tryd.prog 23 (kv a) = some kl := keyOf_ace h.i64.1 h.i64.2.1 (by unfold InI64; omega) h.i64.2.2
theorem MapOf.ok {M l : List Ace} {es : List MapEntry} (h : MapOf M es) (hg : Good l) (hM : ∀ x ∈ M, ∃ a ∈ l, alike x a = true) : ∀ y ∈ es, ∃ kl, keyOf Tryd.prog 23 y.key = Option.some kl := fun y hy => by
  obtain ⟨x, hx, hk⟩ := h.keys hy
  obtain ⟨a, ha, hxa⟩ := hM x hx
  rw [hk, kv_alike.2 hxa]
  exact key_ok (hg a ha)
end L
set_option maxRecDepth 8000 in
set_option maxHeartbeats 4000000 in
theorem MergedOf_any (A : Option Addr) (n c B : Nat) (l : List L.Ace) (w : World) (h1 : Aces w B A n l) (hB1 : B ≤ w.heap.size) (hn : n ≤ 100) :
    Calls Tryd.prog 27 #[.slice A n c] w (RetAcesErr w (L.mergedOf l)) := by
  have e1 := Lib.hid h1.len
  have H1 := Lib.hid h1
  clear h1
  have st := St.start w
  have hz : ∀ w, (zeroValue 3).run Tryd.prog w = .ok (.int .i64 0) w := fun _ => by kernel_rfl
  have HZ := Lib.hid hz
  clear hz
  by_cases hx : L.acesErr l = 0
  · have HE := Lib.hid hx
    have HG := Lib.hid (L.acesErr_good hx)
    have HR : Hid (L.mergedOf l = (L.merged l, 0)) := Lib.hid (by unfold L.mergedOf; rw [if_pos hx])
    clear hx
    rw [HR.out]
    go_enter Tryd.func27, Tryd.ntmps27
    go_wp2_with (refine WL.out ?_; (repeat ((refine WL.op ?_ ?_; (exact rfl); intro K hK; (first | ((first | ((with_reducible apply ow_move); exact rfl) | ((with_reducible apply ow_assign); exact rfl)); (go_simp <;> (try simp (disch := omega) only [wrap_id, sub_left, zac]) <;> rfl)) | ((with_reducible apply ow_makeMap st); exact rfl; (try clear st); intro bm w' st) | ((with_reducible apply ow_eval); (go_simp <;> (try simp (disch := omega) only [wrap_id, sub_left, zac]) <;> rfl); first | (with_reducible apply up_value) | ((with_reducible apply up_enter); ((go_at_call 48; refine (acesErr_any A n c B l _ (H1.out.st st hB1) (Nat.le_trans hB1 st.size) (by omega)).mono ?_; rw [HE.out]; rintro e w' ⟨rfl, hb⟩; replace st := st.call hb; clear hb; refine ⟨_, rfl, ?_⟩))))); refine WL.next hK (by simp only [Act.put, zpt, zsz, zss]; exact rfl) ?_; clear hK K))); (try refine WL.nil ?_))
    go_loopw [6, 20] (fun v i wr => ∃ (q : Nat) (A' : Option Addr) (m c' : Nat) (es : Array MapEntry) (clock : Nat), q ≤ n ∧ i = .int .i64 q ∧ v = .slice A' m c' ∧ St w wr [aceRow (.slice A' m c') m (L.merged (l.take q)), .obj bm (.map es clock)] ∧ Hid (L.MapOf (L.merged (l.take q)) es.toList)) (fun _ i _ => n - (intOf i).toNat)
    case atStart => exact ⟨0, none, 0, 0, #[], 0, by omega, rfl, rfl, st.nilRow _ _, Lib.hid L.MapOf.nil⟩
    case round =>
      clear st
      obtain ⟨q, A', m, c', es, clock, hq, rfl, rfl, st, hmap⟩ := hrel
      have hm : m ≤ 100 := by
        have h := St.len st (i := 0) rfl
        have h2 := L.merged_len (l.take q)
        have h3 := List.length_take_le q l
        omega
      by_cases hlt : q < n
      · have hst := Lib.hid (L.merged_step l q (by rw [← e1.out]; omega))
        have hdi := Lib.hid (L.merged_distinct (l.take q))
        have hfr : Hid (∀ x ∈ L.merged (l.take q), ∃ a ∈ l, L.alike x a = true) := Lib.hid fun x hx => by
          obtain ⟨a, ha, h⟩ := L.merged_from hx
          exact ⟨a, List.mem_of_mem_take ha, h⟩
        have hok := Lib.hid (HG.out.ax (k := q) (by rw [← e1.out]; omega))
        generalize hM : L.merged (l.take q) = M at st hst hdi hfr hmap
        replace hM := Lib.hid hM
        have hall := Lib.hid (hmap.out.ok HG.out hfr.out)
        have hkey := Lib.hid (L.key_ok hok.out)
        have huni := Lib.hid (hmap.out.uni hdi.out (L.kv (L.ax l q)))
        obtain ⟨b1, o1, rfl, hb1, hc⟩ := H1.out.at_ (by omega)
        have hb1 := Nat.lt_of_lt_of_le hb1 hB1
        obtain ⟨f1, f2, f3, f4⟩ := hc q hlt
        clear hc
        have e2 := Lib.hid (St.len st (i := 0) rfl)
        by_cases hex : ∃ j, j < M.length ∧ L.alike (L.ax M j) (L.ax l q) = true
        · obtain ⟨j, hj, hal⟩ := hex
          obtain ⟨y, hy1, hy2, hy3⟩ := hmap.out.some hj hal
          have hr : Hid (((true, Value.int .i64 (j : Int)) = (false, Value.int .i64 0) ∧ ∀ y ∈ es.toList, y.key ≠ L.kv (L.ax l q)) ∨ ∃ (j' : Nat) (y : MapEntry), es.toList[j']? = some y ∧ y.key = L.kv (L.ax l q) ∧ (true, Value.int .i64 (j : Int)) = (true, y.val)) := Lib.hid (.inr ⟨j, y, hy1, hy2, by rw [hy3]⟩)
          have hs' : Hid (L.merged (l.take (q + 1)) = M.set j ((L.ax M j).mask (L.bor (L.ax M j).m (L.ax l q).m))) := Lib.hid (by rw [hst.out, L.mput_hit hdi.out hj hal])
          have hmap' := Lib.hid (hmap.out.mask j (L.bor (L.ax M j).m (L.ax l q).m))
          clear hy1 hy2 hy3 hal
          have hjm : j < m := by rw [e2.out]; exact hj
          obtain ⟨g, R, rfl, hl, hcc, hnc, hcm, st⟩ := st.toBox (by omega)
          have HC := Lib.hid hcc
          clear hl hcc
          go_wp2_with (refine WL.out ?_; (repeat ((refine WL.op ?_ ?_; (exact rfl); intro K hK; (first | ((first | ((with_reducible apply ow_move); exact rfl) | ((with_reducible apply ow_assign); exact rfl)); (go_simp <;> (try simp (disch := omega) only [wrap_id, sub_left, zac]) <;> rfl)) | ((((with_reducible apply ow_loadN st); exact rfl; exact inferInstance; exact rfl; (exact get0); ((try simp only [zta, ztz, zda, zdz, zca, zcn, zan, zsz, zss]) <;> exact rfl))); exact rfl) | ((((with_reducible apply ow_alloc st); exact rfl; exact inferInstance; (go_simp <;> (try simp (disch := omega) only [wrap_id, sub_left, zac]) <;> rfl))); (try clear st); intro b w' st) | ((first | ((with_reducible apply ow_store1' st); exact rfl; exact inferInstance; exact rfl; (exact get0); (go_simp <;> (try simp (disch := omega) only [wrap_id, sub_left, zac]) <;> rfl)) | ((with_reducible apply ow_storeN' st); exact rfl; exact inferInstance; exact rfl; (exact get0); exact rfl)); exact rfl; exact rfl; (simp <;> done); ((try simp only [zta, ztz, zda, zdz, zca, zcn, zan, zsz, zss]) <;> exact rfl); (try clear st); intro w' st) | ((with_reducible apply ow_old4 st); exact rfl; exact inferInstance; exact rfl; assumption; assumption; assumption; assumption; assumption) | ((with_reducible apply ow_look (r := (true, .int .i64 (j : Int))) st); exact rfl; exact aceLaw; exact Tryd.underlying82; exact HZ.out; exact rfl; exact rfl; (exact get3); exact hall.out; exact hkey.out; exact hr.out; exact huni.out) | ((with_reducible apply ow_eval); (go_simp <;> (try simp (disch := omega) only [wrap_id, sub_left, zac]) <;> rfl); ((with_reducible apply up_value)))); refine WL.next hK (by simp only [Act.put, zpt, zsz, zss]; exact rfl) ?_; clear hK K))); (try refine WL.nil ?_))
          refine wp_region_plan 10 (by kernel_rfl) (by kernel_rfl) ?_; replace st := st.drew; generalize World.drew _ = W at st ⊢
          iterate 4 (apply Plan.val'; (focus (intro x0 x1 x2 x3 x4 x5 x6 x7 x8 x9 w1 hb; (try simp only [depF, fillA, Act.put, zta, ztz, zpt, zsz, zss, zl0, zls]); (repeat (rintro rfl)); have st := st.call hb; ((apply Yphi.run; (exact rfl); (go_simp <;> (try simp (disch := omega) only [wrap_id, sub_left, zac]) <;> rfl); exact rfl)))); (simp only [zca, zcn] <;> exact rfl))
          (apply Plan.val'; (focus (intro x0 x1 x2 x3 x4 x5 x6 x7 x8 x9 w1 hb; (try simp only [depF, fillA, Act.put, zta, ztz, zpt, zsz, zss, zl0, zls]); (repeat (rintro rfl)); have st := st.call hb; apply Yphi.load1 st; exact rfl; exact inferInstance; (exact rfl); exact rfl; (exact get2); (exact L.cells_m _ _ _ (hj)))); (simp only [zca, zcn] <;> exact rfl))
          iterate 5 (apply Plan.val'; (focus (intro x0 x1 x2 x3 x4 x5 x6 x7 x8 x9 w1 hb; (try simp only [depF, fillA, Act.put, zta, ztz, zpt, zsz, zss, zl0, zls]); (repeat (first | rintro rfl | intro lo hi hlo hhi hphi)); have st := st.call hb; (first | (apply Yphi.run; (exact rfl); (go_simp <;> (try simp (disch := omega) only [wrap_id, sub_left, zac]) <;> rfl); exact rfl) | (apply Yphi.load1 st; exact rfl; exact inferInstance; (exact rfl); exact rfl; (exact get1); exact rfl)))); (simp only [zca, zcn] <;> exact rfl))
          intro x0 x1 x2 x3 x4 x5 x6 x7 x8 x9 lo hi w1 hb hap
          rintro rfl rfl rfl rfl rfl rfl rfl rfl rfl rfl
          simp only [allPhi, fillA, Act.put, zta, ztz, zpt, zsz, zss, zda, zdz]
          have st := st.call hb
          clear hap hb
          go_wp2_with (refine WL.out ?_; (repeat ((refine WL.op ?_ ?_; (exact rfl); intro K hK; (first | ((((with_reducible apply ow_move); exact rfl)); (go_simp <;> (try simp (disch := omega) only [wrap_id, sub_left, zac]) <;> rfl)) | ((with_reducible apply ow_store1' st); exact rfl; exact inferInstance; exact rfl; (exact get2); exact rfl; exact rfl; exact rfl; (focus (rw [List.length_append, L.cellsOf_length]; omega)); (focus (exact congrArg (fun x => _ :: _ :: Res.box g 23 x :: _) (L.cells_set1 M R j _ hj))); (try clear st); intro w' st) | ((with_reducible apply ow_eval); (go_simp <;> (try simp (disch := omega) only [wrap_id, sub_left, zac]) <;> rfl); ((with_reducible apply up_value)))); refine WL.next hK (by simp only [Act.put, zpt, zsz, zss]; exact rfl) ?_; clear hK K))); (try refine WL.nil ?_))
          exact ⟨⟨q + 1, _, m, c', es, clock, by omega, by go_num, rfl, by rw [hs'.out]; exact st.tail.tail.ofBox (by rw [L.cellsOf_length, List.length_set, ← e2.out]) (by rw [List.length_append, L.cellsOf_length, List.length_set, ← L.cellsOf_length, ← List.length_append]; exact HC.out) hnc hcm, Lib.hid (by rw [hs'.out]; exact hmap'.out)⟩, by simp [intOf]; omega⟩
        · have hn0 : ∀ x ∈ M, L.alike x (L.ax l q) = false := fun x hx => by
            cases h : L.alike x (L.ax l q) with
            | false => rfl
            | true =>
              obtain ⟨j, hj, rfl⟩ := List.mem_iff_getElem.1 hx
              exact absurd ⟨j, hj, by rw [L.ax_eq M j hj]; exact h⟩ hex
          have hne := Lib.hid (hmap.out.none hn0)
          have hr : Hid (((false, Value.int .i64 0) = (false, Value.int .i64 0) ∧ ∀ y ∈ es.toList, y.key ≠ L.kv (L.ax l q)) ∨ ∃ (j' : Nat) (y : MapEntry), es.toList[j']? = some y ∧ y.key = L.kv (L.ax l q) ∧ (false, Value.int .i64 0) = (true, y.val)) := Lib.hid (.inl ⟨rfl, hne.out⟩)
          have hs' : Hid (L.merged (l.take (q + 1)) = M ++ [L.ax l q]) := Lib.hid (by rw [hst.out, L.mput_miss hn0])
          have hmap' : Hid (L.MapOf (M ++ [L.ax l q]) (es.push ⟨L.kv (L.ax l q), .int .i64 (m : Int), clock⟩).toList) := Lib.hid (by rw [Array.toList_push]; exact hmap.out.push _ clock m e2.out)
          clear hn0 hex
          go_wp2_with (refine WL.out ?_; (repeat ((refine WL.op ?_ ?_; (exact rfl); intro K hK; (first | ((first | ((with_reducible apply ow_move); exact rfl) | ((with_reducible apply ow_assign); exact rfl)); (go_simp <;> (try simp (disch := omega) only [wrap_id, sub_left, zac]) <;> rfl)) | ((((with_reducible apply ow_loadN st); exact rfl; exact inferInstance; exact rfl; (first | exact get0 | exact get1); ((try simp only [zta, ztz, zda, zdz, zca, zcn, zan, zsz, zss]) <;> exact rfl))); exact rfl) | ((first | ((with_reducible apply ow_newSlice st); exact rfl; (go_simp <;> (try simp (disch := omega) only [wrap_id, sub_left, zac]) <;> rfl); exact rfl) | ((with_reducible apply ow_alloc st); exact rfl; exact inferInstance; (go_simp <;> (try simp (disch := omega) only [wrap_id, sub_left, zac]) <;> rfl))); (try clear st); intro b w' st) | ((first | ((with_reducible apply ow_store1' st); exact rfl; exact inferInstance; exact rfl; (exact get0); (go_simp <;> (try simp (disch := omega) only [wrap_id, sub_left, zac]) <;> rfl)) | ((with_reducible apply ow_storeN' st); exact rfl; exact inferInstance; exact rfl; (exact get0); exact rfl)); exact rfl; exact rfl; (simp <;> done); ((try simp only [zta, ztz, zda, zdz, zca, zcn, zan, zsz, zss]) <;> exact rfl); (try clear st); intro w' st) | ((with_reducible apply ow_old4 st); exact rfl; exact inferInstance; exact rfl; assumption; assumption; assumption; assumption; assumption) | ((with_reducible apply ow_look (r := (false, .int .i64 0)) st); exact rfl; exact aceLaw; exact Tryd.underlying82; exact HZ.out; exact rfl; exact rfl; (exact get3); exact hall.out; exact hkey.out; exact hr.out; exact huni.out) | ((with_reducible apply ow_mapNew 3 st); exact rfl; exact aceLaw; exact Tryd.underlying82; exact rfl; exact rfl; exact rfl; exact rfl; exact hall.out; exact hkey.out; exact hne.out; (try clear st); intro w' st; (try simp only [List.set_cons_zero, List.set_cons_succ] at st)) | ((with_reducible apply ow_append 3 st); exact rfl; exact inferInstance; exact rfl; exact rfl; exact rfl; exact st.rdBox (i := 0) (n := 1) (size := 4) rfl rfl; (focus ((simp [Value.oneCell']; done))); (focus (unfold maxLen; omega)); (focus omega); (try clear st); intro A' c' w' st; (try simp only [List.set_cons_zero, List.set_cons_succ, Nat.zero_add, List.nil_append] at st)) | ((with_reducible apply ow_eval); (go_simp <;> (try simp (disch := omega) only [wrap_id, sub_left, zac]) <;> rfl); ((with_reducible apply up_value)))); refine WL.next hK (by simp only [Act.put, zpt, zsz, zss]; exact rfl) ?_; clear hK K))); (try refine WL.nil ?_))
          exact ⟨⟨q + 1, A', m + 1, c', _, _, by omega, by go_num, rfl, by rw [hs'.out]; unfold aceRow; rw [L.cellsOf_append]; exact st.tail.tail.tail, Lib.hid (by rw [hs'.out]; exact hmap'.out)⟩, by simp [intOf]; omega⟩
      · have hs' : Hid (L.merged (l.take q) = L.merged l) := Lib.hid (by rw [List.take_of_length_le (by rw [← e1.out]; omega)])
        go_wp2_with (refine WL.out ?_; (repeat ((refine WL.op ?_ ?_; (exact rfl); intro K hK; (((with_reducible apply ow_eval); (go_simp <;> (try simp (disch := omega) only [wrap_id, sub_left, zac]) <;> rfl); ((with_reducible apply up_value)))); refine WL.next hK (by simp only [Act.put, zpt, zsz, zss]; exact rfl) ?_; clear hK K))); (try refine WL.nil ?_))
        go_ret2
        exact ⟨_, _, _, rfl, by rw [← hs'.out]; exact st.sub (.cons_cons _ (List.nil_sublist _))⟩
  · obtain ⟨V, hV⟩ : ∃ V, L.acesErr l = V := ⟨_, rfl⟩
    have HR : Hid (L.mergedOf l = ([], V)) := Lib.hid (by unfold L.mergedOf; rw [if_neg hx, hV])
    rw [hV] at hx
    have hv0 : (V == 0) = false := by simpa using hx
    have HV := Lib.hid hV
    clear hx hV
    rw [HR.out]
    go_enter Tryd.func27, Tryd.ntmps27
    go_wp2_with (refine WL.out ?_; (repeat ((refine WL.op ?_ ?_; (exact rfl); intro K hK; (first | ((((with_reducible apply ow_assign); exact rfl)); (go_simp <;> (try simp (disch := omega) only [wrap_id, sub_left, zac]) <;> rfl)) | ((with_reducible apply ow_eval); (go_simp <;> (try simp (disch := omega) only [wrap_id, sub_left, zac]) <;> rfl); first | (with_reducible apply up_value) | ((with_reducible apply up_enter); ((go_at_call 48; refine (acesErr_any A n c B l _ (H1.out.st st hB1) (Nat.le_trans hB1 st.size) (by omega)).mono ?_; rw [HV.out]; rintro e w' ⟨rfl, hb⟩; replace st := st.call hb; clear hb; refine ⟨_, rfl, ?_⟩))))); refine WL.next hK (by simp only [Act.put, zpt, zsz, zss]; exact rfl) ?_; clear hK K))); (try refine WL.nil ?_))
    go_ret2
    exact ⟨none, 0, 0, rfl, st.nilRow _ _⟩
end Go.Proofs.YtppjhccdgbheiaaDoor
namespace Go.Proofs.YtppjhccdgbheiaaDoor
open Go.RowKit Go.Hp
namespace L
theorem same_refl : ∀ l : List Ace, same l l = true
  | [] => rfl
  | a :: l => by
    unfold same
    rw [same_refl l]
    simp [aeq]
theorem inheritedBy_acesErr {l : List Ace} {dir : Bool} {o g : Int} (h : rAcesErr l ≠ 0) : inheritedBy l dir o g = ([], rAcesErr l) := by
  have e : firstErr [acesErr l, holdersErr o g] = rAcesErr l := by
    rw [acesErr_eq]
    unfold firstErr
    rw [List.find?_cons_of_pos (by simpa using h)]
    rfl
  unfold inheritedBy
  rw [e, if_neg h]
theorem inheritedBy_pairErr {l : List Ace} {dir : Bool} {o g : Int} (h : rAcesErr l = 0) (h2 : rPairErr o g ≠ 0) : inheritedBy l dir o g = ([], rPairErr o g) := by
  have e : firstErr [acesErr l, holdersErr o g] = rPairErr o g := by
    rw [acesErr_eq, holders_eq, h]
    unfold firstErr
    rw [List.find?_cons_of_neg (by simp), List.find?_cons_of_pos (by simpa using h2)]
    rfl
  unfold inheritedBy
  rw [e, if_neg h2]
theorem racesErr_good {l : List Ace} (h : rAcesErr l = 0) : Good l := acesErr_good (by rw [acesErr_eq]; exact h)
theorem inheritedBy_ok {l : List Ace} {dir : Bool} {o g : Int} (h : rAcesErr l = 0) (h2 : rPairErr o g = 0) : inheritedBy l dir o g = if (rInherited dir o g l).length ≤ 16 then (rInherited dir o g l, 0) else ([], 16) := by
  have e : firstErr [acesErr l, holdersErr o g] = 0 := by
    rw [acesErr_eq, holders_eq, h, h2]
    rfl
  have hp := pair_ne h2
  have hi := inherited_eq dir hp.1 hp.2 (l := l) fun a ha => ⟨(racesErr_good h a ha).f0, (racesErr_good h a ha).f1⟩
  unfold inheritedBy
  rw [if_pos e, hi]
end L
def rowFrom (base : Nat) (l : List L.Ace) : Phi := fun _ _ v w => ∃ A n c, v = .slice A n c ∧ (aceRow v n l).holds base w
theorem rowFrom_stable (base : Nat) (l : List L.Ace) : (rowFrom base l).stable := by
  rintro lo hi v w1 w2 hb hh ⟨A, n, c, rfl, ho⟩
  exact ⟨A, n, c, rfl, Res.holds_keep ho hb.size fun k hk => hb.block k (Res.holds_lt ho hk).2⟩
def tupRow (base : Nat) (l : List L.Ace) (e : Int) : Phi := fun _ _ v w => ∃ A n c, v = .tuple #[.slice A n c, .int .i64 e] ∧ (aceRow (.slice A n c) n l).holds base w
theorem tupRow_stable (base : Nat) (l : List L.Ace) (e : Int) : (tupRow base l e).stable := by
  rintro lo hi v w1 w2 hb hh ⟨A, n, c, rfl, ho⟩
  exact ⟨A, n, c, rfl, Res.holds_keep ho hb.size fun k hk => hb.block k (Res.holds_lt ho hk).2⟩
theorem Yphi.fact {P : Program} {ops : Array Oper} {o : Oper} {a : Act} {w : World} {φ : Phi} {v : Value} {r : Result Next} (hw : Region.wanted o (yielded ops a.tmps) = true) (hr : (execOp a.eval o).run P w = r) (hv : r = .ok (.value v) w) (hφ : φ w.heap.size w.heap.size v w) : Yphi P ops o a w φ :=
  .inl ⟨hw, wp_value (hr.trans hv) ⟨v, rfl, Below.refl _ _, hφ⟩⟩
theorem InheritedBy_at {l m : List L.Ace} {dir : Bool} {o g E : Int} (h : L.inheritedBy l dir o g = (m, E)) (A : Option Addr) (n c B : Nat) (w : World) (h1 : Aces w B A n l) (hB1 : B ≤ w.heap.size) (hn : n ≤ 100) :
    Calls Tryd.prog 15 #[.slice A n c, .bool dir, .int .i64 o, .int .i64 g] w (RetAcesErr w (m, E)) := by
  rw [← h]
  exact InheritedBy_any dir o g A n c B l w h1 hB1 hn
set_option maxRecDepth 8000 in
set_option maxHeartbeats 4000000 in
theorem AclInherits_any (A : Option Addr) (n c B : Nat) (l : List L.Ace) (dir : Bool) (x y : Int) (w : World) (h1 : Aces w B A n l) (hB1 : B ≤ w.heap.size) (hm : n ≤ maxLen) :
    Calls Tryd.prog 4 #[.slice A n c, .bool dir, .agg #[.int .i64 x, .int .i64 y]] w fun e w' => e = .returned (.bool true) ∧ Below w.heap.size w w' := by
  have e1 := Lib.hid h1.len
  have H1 := Lib.hid h1
  clear h1
  unfold maxLen at hm
  have st := St.start w
  by_cases hn : n ≤ 20
  · by_cases ha : L.rAcesErr l = 0
    · by_cases hp : L.rPairErr x y = 0
      · have hg := Lib.hid (L.racesErr_good ha)
        have hF : Hid (∀ a ∈ l, 0 ≤ a.f ∧ a.f ≤ 31) := Lib.hid fun a ha => ⟨(hg.out a ha).f0, (hg.out a ha).f1⟩
        have hR := Lib.hid (L.inheritedBy_ok (dir := dir) ha hp)
        have HA := Lib.hid ha
        have HP := Lib.hid hp
        clear ha hp
        by_cases hl : (L.rInherited dir x y l).length ≤ 16
        · have hR2 := Lib.hid (hR.out.trans (if_pos hl))
          have hLn := Lib.hid hl
          clear hl
          go_enter Tryd.func4, Tryd.ntmps4
          go_wp2_with (refine WL.out ?_; (repeat ((refine WL.op ?_ ?_; (exact rfl); intro K hK; (first | ((((with_reducible apply ow_assign); exact rfl)); (go_simp <;> (try simp (disch := omega) only [wrap_id, sub_left, zac]) <;> rfl)) | ((((with_reducible apply ow_box st); exact rfl; (go_simp <;> (try simp (disch := omega) only [wrap_id, sub_left, zac]) <;> rfl); (go_simp <;> (try simp (disch := omega) only [wrap_id, sub_left, zac]) <;> rfl))); (try clear st); intro b w' st) | ((with_reducible apply ow_eval); (go_simp <;> (try simp (disch := omega) only [wrap_id, sub_left, zac]) <;> rfl); first | (with_reducible apply up_value) | ((with_reducible apply up_enter); ((go_at_call 8; refine (awake_any _).mono ?_; rintro e w' ⟨rfl, hb⟩; replace st := st.call hb; clear hb; refine ⟨_, rfl, ?_⟩))))); refine WL.next hK (by simp only [Act.put, zpt, zsz, zss]; exact rfl) ?_; clear hK K))); (try refine WL.nil ?_))
          refine wp_region_plan 12 (by kernel_rfl) (by kernel_rfl) ?_; replace st := st.drew; generalize World.drew _ = W at st ⊢
          (apply Plan.val'; (focus (intro x0 x1 x2 x3 x4 x5 x6 x7 x8 x9 x10 x11 w1 hb; (try simp only [depF, fillA, Act.put, zta, ztz, zpt, zsz, zss, zl0, zls]); (repeat (fail)); have st := st.call hb; ((apply Yphi.run; (exact rfl); (go_simp <;> (try simp (disch := omega) only [wrap_id, sub_left, zac]) <;> rfl); exact rfl)))); (simp only [zca, zcn] <;> exact rfl))
          (apply Plan.fact' (freshRow 23 4 (L.cellsOf (l))) (freshRow_stable _ _ _); (focus (intro x0 x1 x2 x3 x4 x5 x6 x7 x8 x9 x10 x11 w1 hb; (try simp only [depF, fillA, Act.put, zta, ztz, zpt, zsz, zss, zl0, zls]); (repeat (rintro rfl)); have st := st.call hb; apply Yphi.call; (exact rfl); (go_simp <;> (try simp (disch := omega) only [wrap_id, sub_left, zac]) <;> rfl); exact rfl; refine (CopyAces_any A n c B l _ (H1.out.st st hB1) (Nat.le_trans hB1 st.size) (by omega)).mono ?_; rintro e w' ⟨A', n', c', rfl, st'⟩; exact ⟨_, rfl, st'.below, freshRow_mk (st'.get (i := 0) rfl)⟩)); (simp only [zca, zcn] <;> exact rfl))
          iterate 5 (apply Plan.val'; (focus (intro x0 x1 x2 x3 x4 x5 x6 x7 x8 x9 x10 x11 w1 hb; (try simp only [depF, fillA, Act.put, zta, ztz, zpt, zsz, zss, zl0, zls]); (repeat (rintro rfl)); have st := st.call hb; (first | (apply Yphi.run; (exact rfl); (go_simp <;> (try simp (disch := omega) only [wrap_id, sub_left, zac]) <;> rfl); exact rfl) | (apply Yphi.load1 st; exact rfl; exact inferInstance; (exact rfl); exact rfl; (exact get0); exact rfl)))); (simp only [zca, zcn] <;> exact rfl))
          (apply Plan.fact' (tupRow W.heap.size (L.rInherited dir x y l) (0)) (tupRow_stable _ _ _); (focus (intro x0 x1 x2 x3 x4 x5 x6 x7 x8 x9 x10 x11 w1 hb; (try simp only [depF, fillA, Act.put, zta, ztz, zpt, zsz, zss, zl0, zls]); (repeat (first | rintro rfl | intro lo hi hlo hhi hphi)); have st := st.call hb; obtain ⟨A3, n3, c3, rfl, ho3, hk3⟩ := hphi; apply Yphi.call; (exact rfl); (go_simp <;> (try simp (disch := omega) only [wrap_id, sub_left, zac]) <;> rfl); exact rfl; refine (InheritedBy_at hR2.out A3 n3 c3 _ _ (Rd.aces (Rd.of_row ho3)) (Nat.le_refl _) (by have h3 := row_len (v := .slice A3 n3 c3) (n := n3) (l := l) ho3; have := e1.out; omega)).mono ?_; rintro e w' ⟨A', n', c', rfl, st'⟩; exact ⟨_, rfl, st'.below, ⟨A', n', c', rfl, Res.holds_mono (st'.get (i := 0) rfl) hb.size⟩⟩)); (simp only [zca, zcn] <;> exact rfl))
          (apply Plan.fact' (tupRow W.heap.size (L.rInherited dir x y l) (0)) (tupRow_stable _ _ _); (focus (intro x0 x1 x2 x3 x4 x5 x6 x7 x8 x9 x10 x11 w1 hb; (try simp only [depF, fillA, Act.put, zta, ztz, zpt, zsz, zss, zl0, zls]); (repeat (intro lo hi hlo hhi hphi)); have st := st.call hb; obtain ⟨A', n', c', rfl, ho⟩ := hphi; apply Yphi.fact; (exact rfl); (go_simp <;> (try simp (disch := omega) only [wrap_id, sub_left, zac]) <;> rfl); exact rfl; exact ⟨A', n', c', rfl, ho⟩)); (simp only [zca, zcn] <;> exact rfl))
          (apply Plan.fact' (rowFrom W.heap.size (L.rInherited dir x y l)) (rowFrom_stable _ _); (focus (intro x0 x1 x2 x3 x4 x5 x6 x7 x8 x9 x10 x11 w1 hb; (try simp only [depF, fillA, Act.put, zta, ztz, zpt, zsz, zss, zl0, zls]); (repeat (intro lo hi hlo hhi hphi)); have st := st.call hb; obtain ⟨A', n', c', rfl, ho⟩ := hphi; apply Yphi.fact; (exact rfl); (go_simp <;> (try simp (disch := omega) only [wrap_id, sub_left, zac]) <;> rfl); exact rfl; exact ⟨A', n', c', rfl, ho⟩)); (simp only [zca, zcn] <;> exact rfl))
          (apply Plan.val'; (focus (intro x0 x1 x2 x3 x4 x5 x6 x7 x8 x9 x10 x11 w1 hb; (try simp only [depF, fillA, Act.put, zta, ztz, zpt, zsz, zss, zl0, zls]); (repeat (intro lo hi hlo hhi hphi)); have st := st.call hb; obtain ⟨A', n', c', rfl, ho⟩ := hphi; apply Yphi.run; (exact rfl); (go_simp <;> (try simp (disch := omega) only [wrap_id, sub_left, zac]) <;> rfl); exact rfl)); (simp only [zca, zcn] <;> exact rfl))
          (apply Plan.fact' (rowFrom W.heap.size (L.rInherited dir x y l)) (rowFrom_stable _ _); (focus (intro x0 x1 x2 x3 x4 x5 x6 x7 x8 x9 x10 x11 w1 hb; (try simp only [depF, fillA, Act.put, zta, ztz, zpt, zsz, zss, zl0, zls]); (repeat (first | rintro rfl | intro lo hi hlo hhi hphi)); have st := st.call hb; obtain ⟨A', n', c', rfl, ho⟩ := hphi; apply Yphi.fact; (exact rfl); (go_simp <;> (try simp (disch := omega) only [wrap_id, sub_left, zac]) <;> rfl); exact rfl; exact ⟨A', n', c', rfl, ho⟩)); (simp only [zca, zcn] <;> exact rfl))
          intro x0 x1 x2 x3 x4 x5 x6 x7 x8 x9 x10 x11 lo hi w1 hb hap
          rintro rfl - - - rfl rfl rfl rfl rfl - - - - - - - - - rfl - - ⟨A9, n9, c9, rfl, ho9⟩
          simp only [allPhi, fillA, Act.put, zta, ztz, zpt, zsz, zss, zda, zdz]
          have st := rows_one st hb ho9 (Nat.le_refl _)
          clear ho9 hap hb
          have l9 := Lib.hid (St.len st (i := 0) rfl)
          have h9 : n9 ≤ 16 := by have := l9.out; have := hLn.out; omega
          go_wp2_with (refine WL.out ?_; (repeat ((refine WL.op ?_ ?_; (exact rfl); intro K hK; (first | ((first | ((with_reducible apply ow_move); exact rfl) | ((with_reducible apply ow_assign); exact rfl)); (go_simp <;> (try simp (disch := omega) only [wrap_id, sub_left, zac]) <;> rfl)) | ((((with_reducible apply ow_load1 st); exact rfl; exact inferInstance; exact rfl; (exact get1))); exact rfl) | ((with_reducible apply ow_eval); (go_simp <;> (try simp (disch := omega) only [wrap_id, sub_left, zac]) <;> rfl); first | (with_reducible apply up_value) | ((with_reducible apply up_enter); first | (go_at_call 17; refine (AcesErr_any A n c B l _ (H1.out.st st hB1) (Nat.le_trans hB1 st.size) (by omega)).mono ?_; rintro e w' ⟨rfl, hb⟩; replace st := st.call hb; clear hb; rw [HA.out]; refine ⟨_, rfl, ?_⟩) | (go_at_call 18; refine (rPairErr_any _ _ _).mono ?_; rintro e w' ⟨rfl, rfl⟩; rw [HP.out]; refine ⟨_, rfl, ?_⟩) | (go_at_call 19; refine (rInherited_any dir x y A n c B l _ (H1.out.st st hB1) (Nat.le_trans hB1 st.size) (by omega) hF.out).mono ?_; rintro e w' ⟨A8, n8, c8, rfl, st'⟩; replace st := st.join st'; clear st'; simp only [List.cons_append, List.nil_append] at st; have l8 := Lib.hid (St.len st (i := 0) rfl); have h8 : (n8 : Int) ≤ 16 := (by have := l8.out; have := hLn.out; omega); refine ⟨_, rfl, ?_⟩) | (go_at_call 20; refine (SameAces_any _ _ _ _ _ _ _ _ _ _ _ (St.aces st (i := 1) rfl) (St.aces st (i := 0) rfl) (Nat.le_refl _) (Nat.le_refl _) (by omega) (by omega)).mono ?_; rintro e w' ⟨rfl, hb⟩; replace st := st.call hb; clear hb; rw [L.same_refl]; refine ⟨_, rfl, ?_⟩)))); refine WL.next hK (by simp only [Act.put, zpt, zsz, zss]; exact rfl) ?_; clear hK K))); (try refine WL.nil ?_))
          go_ret
          exact ⟨rfl, st.below⟩
        · have hR2 := Lib.hid (hR.out.trans (if_neg hl))
          have hLn := Lib.hid hl
          clear hl
          go_enter Tryd.func4, Tryd.ntmps4
          go_wp2_with (refine WL.out ?_; (repeat ((refine WL.op ?_ ?_; (exact rfl); intro K hK; (first | ((((with_reducible apply ow_assign); exact rfl)); (go_simp <;> (try simp (disch := omega) only [wrap_id, sub_left, zac]) <;> rfl)) | ((((with_reducible apply ow_box st); exact rfl; (go_simp <;> (try simp (disch := omega) only [wrap_id, sub_left, zac]) <;> rfl); (go_simp <;> (try simp (disch := omega) only [wrap_id, sub_left, zac]) <;> rfl))); (try clear st); intro b w' st) | ((with_reducible apply ow_eval); (go_simp <;> (try simp (disch := omega) only [wrap_id, sub_left, zac]) <;> rfl); first | (with_reducible apply up_value) | ((with_reducible apply up_enter); ((go_at_call 8; refine (awake_any _).mono ?_; rintro e w' ⟨rfl, hb⟩; replace st := st.call hb; clear hb; refine ⟨_, rfl, ?_⟩))))); refine WL.next hK (by simp only [Act.put, zpt, zsz, zss]; exact rfl) ?_; clear hK K))); (try refine WL.nil ?_))
          refine wp_region_plan 12 (by kernel_rfl) (by kernel_rfl) ?_; replace st := st.drew; generalize World.drew _ = W at st ⊢
          (apply Plan.val'; (focus (intro x0 x1 x2 x3 x4 x5 x6 x7 x8 x9 x10 x11 w1 hb; (try simp only [depF, fillA, Act.put, zta, ztz, zpt, zsz, zss, zl0, zls]); (repeat (fail)); have st := st.call hb; ((apply Yphi.run; (exact rfl); (go_simp <;> (try simp (disch := omega) only [wrap_id, sub_left, zac]) <;> rfl); exact rfl)))); (simp only [zca, zcn] <;> exact rfl))
          (apply Plan.fact' (freshRow 23 4 (L.cellsOf (l))) (freshRow_stable _ _ _); (focus (intro x0 x1 x2 x3 x4 x5 x6 x7 x8 x9 x10 x11 w1 hb; (try simp only [depF, fillA, Act.put, zta, ztz, zpt, zsz, zss, zl0, zls]); (repeat (rintro rfl)); have st := st.call hb; apply Yphi.call; (exact rfl); (go_simp <;> (try simp (disch := omega) only [wrap_id, sub_left, zac]) <;> rfl); exact rfl; refine (CopyAces_any A n c B l _ (H1.out.st st hB1) (Nat.le_trans hB1 st.size) (by omega)).mono ?_; rintro e w' ⟨A', n', c', rfl, st'⟩; exact ⟨_, rfl, st'.below, freshRow_mk (st'.get (i := 0) rfl)⟩)); (simp only [zca, zcn] <;> exact rfl))
          iterate 5 (apply Plan.val'; (focus (intro x0 x1 x2 x3 x4 x5 x6 x7 x8 x9 x10 x11 w1 hb; (try simp only [depF, fillA, Act.put, zta, ztz, zpt, zsz, zss, zl0, zls]); (repeat (rintro rfl)); have st := st.call hb; (first | (apply Yphi.run; (exact rfl); (go_simp <;> (try simp (disch := omega) only [wrap_id, sub_left, zac]) <;> rfl); exact rfl) | (apply Yphi.load1 st; exact rfl; exact inferInstance; (exact rfl); exact rfl; (exact get0); exact rfl)))); (simp only [zca, zcn] <;> exact rfl))
          (apply Plan.fact' (tupRow W.heap.size ([]) (16)) (tupRow_stable _ _ _); (focus (intro x0 x1 x2 x3 x4 x5 x6 x7 x8 x9 x10 x11 w1 hb; (try simp only [depF, fillA, Act.put, zta, ztz, zpt, zsz, zss, zl0, zls]); (repeat (first | rintro rfl | intro lo hi hlo hhi hphi)); have st := st.call hb; obtain ⟨A3, n3, c3, rfl, ho3, hk3⟩ := hphi; apply Yphi.call; (exact rfl); (go_simp <;> (try simp (disch := omega) only [wrap_id, sub_left, zac]) <;> rfl); exact rfl; refine (InheritedBy_at hR2.out A3 n3 c3 _ _ (Rd.aces (Rd.of_row ho3)) (Nat.le_refl _) (by have h3 := row_len (v := .slice A3 n3 c3) (n := n3) (l := l) ho3; have := e1.out; omega)).mono ?_; rintro e w' ⟨A', n', c', rfl, st'⟩; exact ⟨_, rfl, st'.below, ⟨A', n', c', rfl, Res.holds_mono (st'.get (i := 0) rfl) hb.size⟩⟩)); (simp only [zca, zcn] <;> exact rfl))
          (apply Plan.fact' (tupRow W.heap.size ([]) (16)) (tupRow_stable _ _ _); (focus (intro x0 x1 x2 x3 x4 x5 x6 x7 x8 x9 x10 x11 w1 hb; (try simp only [depF, fillA, Act.put, zta, ztz, zpt, zsz, zss, zl0, zls]); (repeat (intro lo hi hlo hhi hphi)); have st := st.call hb; obtain ⟨A', n', c', rfl, ho⟩ := hphi; apply Yphi.fact; (exact rfl); (go_simp <;> (try simp (disch := omega) only [wrap_id, sub_left, zac]) <;> rfl); exact rfl; exact ⟨A', n', c', rfl, ho⟩)); (simp only [zca, zcn] <;> exact rfl))
          (apply Plan.fact' (rowFrom W.heap.size ([])) (rowFrom_stable _ _); (focus (intro x0 x1 x2 x3 x4 x5 x6 x7 x8 x9 x10 x11 w1 hb; (try simp only [depF, fillA, Act.put, zta, ztz, zpt, zsz, zss, zl0, zls]); (repeat (intro lo hi hlo hhi hphi)); have st := st.call hb; obtain ⟨A', n', c', rfl, ho⟩ := hphi; apply Yphi.fact; (exact rfl); (go_simp <;> (try simp (disch := omega) only [wrap_id, sub_left, zac]) <;> rfl); exact rfl; exact ⟨A', n', c', rfl, ho⟩)); (simp only [zca, zcn] <;> exact rfl))
          (apply Plan.val'; (focus (intro x0 x1 x2 x3 x4 x5 x6 x7 x8 x9 x10 x11 w1 hb; (try simp only [depF, fillA, Act.put, zta, ztz, zpt, zsz, zss, zl0, zls]); (repeat (intro lo hi hlo hhi hphi)); have st := st.call hb; obtain ⟨A', n', c', rfl, ho⟩ := hphi; apply Yphi.run; (exact rfl); (go_simp <;> (try simp (disch := omega) only [wrap_id, sub_left, zac]) <;> rfl); exact rfl)); (simp only [zca, zcn] <;> exact rfl))
          (apply Plan.fact' (rowFrom W.heap.size ([])) (rowFrom_stable _ _); (focus (intro x0 x1 x2 x3 x4 x5 x6 x7 x8 x9 x10 x11 w1 hb; (try simp only [depF, fillA, Act.put, zta, ztz, zpt, zsz, zss, zl0, zls]); (repeat (first | rintro rfl | intro lo hi hlo hhi hphi)); have st := st.call hb; obtain ⟨A', n', c', rfl, ho⟩ := hphi; apply Yphi.fact; (exact rfl); (go_simp <;> (try simp (disch := omega) only [wrap_id, sub_left, zac]) <;> rfl); exact rfl; exact ⟨A', n', c', rfl, ho⟩)); (simp only [zca, zcn] <;> exact rfl))
          intro x0 x1 x2 x3 x4 x5 x6 x7 x8 x9 x10 x11 lo hi w1 hb hap
          rintro rfl - - - rfl rfl rfl rfl rfl - - - - - - - - - rfl - - ⟨A9, n9, c9, rfl, ho9⟩
          simp only [allPhi, fillA, Act.put, zta, ztz, zpt, zsz, zss, zda, zdz]
          have st := rows_one st hb ho9 (Nat.le_refl _)
          clear ho9 hap hb
          have l9 := Lib.hid (St.len st (i := 0) rfl)
          obtain rfl : n9 = 0 := l9.out
          go_wp2_with (refine WL.out ?_; (repeat ((refine WL.op ?_ ?_; (exact rfl); intro K hK; (first | ((first | ((with_reducible apply ow_move); exact rfl) | ((with_reducible apply ow_assign); exact rfl)); (go_simp <;> (try simp (disch := omega) only [wrap_id, sub_left, zac]) <;> rfl)) | ((((with_reducible apply ow_load1 st); exact rfl; exact inferInstance; exact rfl; (exact get1))); exact rfl) | ((with_reducible apply ow_eval); (go_simp <;> (try simp (disch := omega) only [wrap_id, sub_left, zac]) <;> rfl); first | (with_reducible apply up_value) | ((with_reducible apply up_enter); first | (go_at_call 17; refine (AcesErr_any A n c B l _ (H1.out.st st hB1) (Nat.le_trans hB1 st.size) (by omega)).mono ?_; rintro e w' ⟨rfl, hb⟩; replace st := st.call hb; clear hb; rw [HA.out]; refine ⟨_, rfl, ?_⟩) | (go_at_call 18; refine (rPairErr_any _ _ _).mono ?_; rintro e w' ⟨rfl, rfl⟩; rw [HP.out]; refine ⟨_, rfl, ?_⟩) | (go_at_call 19; refine (rInherited_any dir x y A n c B l _ (H1.out.st st hB1) (Nat.le_trans hB1 st.size) (by omega) hF.out).mono ?_; rintro e w' ⟨A8, n8, c8, rfl, st'⟩; replace st := st.join st'; clear st'; simp only [List.cons_append, List.nil_append] at st; have l8 := Lib.hid (St.len st (i := 0) rfl); have h8 : (16 : Int) < (n8 : Int) := (by have := l8.out; have := hLn.out; omega); refine ⟨_, rfl, ?_⟩)))); refine WL.next hK (by simp only [Act.put, zpt, zsz, zss]; exact rfl) ?_; clear hK K))); (try refine WL.nil ?_))
          go_ret
          exact ⟨rfl, st.below⟩
      · have HA := Lib.hid ha
        have hR2 := Lib.hid (L.inheritedBy_pairErr (dir := dir) ha hp)
        obtain ⟨V, hV⟩ : ∃ V, L.rPairErr x y = V := ⟨_, rfl⟩
        rw [hV] at hp hR2
        have hv0 : (V == 0) = false := by simpa using hp
        have HV := Lib.hid hV
        clear ha hp hV
        go_enter Tryd.func4, Tryd.ntmps4
        go_wp2_with (refine WL.out ?_; (repeat ((refine WL.op ?_ ?_; (exact rfl); intro K hK; (first | ((((with_reducible apply ow_assign); exact rfl)); (go_simp <;> (try simp (disch := omega) only [wrap_id, sub_left, zac]) <;> rfl)) | ((((with_reducible apply ow_box st); exact rfl; (go_simp <;> (try simp (disch := omega) only [wrap_id, sub_left, zac]) <;> rfl); (go_simp <;> (try simp (disch := omega) only [wrap_id, sub_left, zac]) <;> rfl))); (try clear st); intro b w' st) | ((with_reducible apply ow_eval); (go_simp <;> (try simp (disch := omega) only [wrap_id, sub_left, zac]) <;> rfl); first | (with_reducible apply up_value) | ((with_reducible apply up_enter); ((go_at_call 8; refine (awake_any _).mono ?_; rintro e w' ⟨rfl, hb⟩; replace st := st.call hb; clear hb; refine ⟨_, rfl, ?_⟩))))); refine WL.next hK (by simp only [Act.put, zpt, zsz, zss]; exact rfl) ?_; clear hK K))); (try refine WL.nil ?_))
        refine wp_region_plan 12 (by kernel_rfl) (by kernel_rfl) ?_; replace st := st.drew; generalize World.drew _ = W at st ⊢
        (apply Plan.val'; (focus (intro x0 x1 x2 x3 x4 x5 x6 x7 x8 x9 x10 x11 w1 hb; (try simp only [depF, fillA, Act.put, zta, ztz, zpt, zsz, zss, zl0, zls]); (repeat (fail)); have st := st.call hb; ((apply Yphi.run; (exact rfl); (go_simp <;> (try simp (disch := omega) only [wrap_id, sub_left, zac]) <;> rfl); exact rfl)))); (simp only [zca, zcn] <;> exact rfl))
        (apply Plan.fact' (freshRow 23 4 (L.cellsOf (l))) (freshRow_stable _ _ _); (focus (intro x0 x1 x2 x3 x4 x5 x6 x7 x8 x9 x10 x11 w1 hb; (try simp only [depF, fillA, Act.put, zta, ztz, zpt, zsz, zss, zl0, zls]); (repeat (rintro rfl)); have st := st.call hb; apply Yphi.call; (exact rfl); (go_simp <;> (try simp (disch := omega) only [wrap_id, sub_left, zac]) <;> rfl); exact rfl; refine (CopyAces_any A n c B l _ (H1.out.st st hB1) (Nat.le_trans hB1 st.size) (by omega)).mono ?_; rintro e w' ⟨A', n', c', rfl, st'⟩; exact ⟨_, rfl, st'.below, freshRow_mk (st'.get (i := 0) rfl)⟩)); (simp only [zca, zcn] <;> exact rfl))
        iterate 5 (apply Plan.val'; (focus (intro x0 x1 x2 x3 x4 x5 x6 x7 x8 x9 x10 x11 w1 hb; (try simp only [depF, fillA, Act.put, zta, ztz, zpt, zsz, zss, zl0, zls]); (repeat (rintro rfl)); have st := st.call hb; (first | (apply Yphi.run; (exact rfl); (go_simp <;> (try simp (disch := omega) only [wrap_id, sub_left, zac]) <;> rfl); exact rfl) | (apply Yphi.load1 st; exact rfl; exact inferInstance; (exact rfl); exact rfl; (exact get0); exact rfl)))); (simp only [zca, zcn] <;> exact rfl))
        (apply Plan.fact' (tupRow W.heap.size ([]) (V)) (tupRow_stable _ _ _); (focus (intro x0 x1 x2 x3 x4 x5 x6 x7 x8 x9 x10 x11 w1 hb; (try simp only [depF, fillA, Act.put, zta, ztz, zpt, zsz, zss, zl0, zls]); (repeat (first | rintro rfl | intro lo hi hlo hhi hphi)); have st := st.call hb; obtain ⟨A3, n3, c3, rfl, ho3, hk3⟩ := hphi; apply Yphi.call; (exact rfl); (go_simp <;> (try simp (disch := omega) only [wrap_id, sub_left, zac]) <;> rfl); exact rfl; refine (InheritedBy_at hR2.out A3 n3 c3 _ _ (Rd.aces (Rd.of_row ho3)) (Nat.le_refl _) (by have h3 := row_len (v := .slice A3 n3 c3) (n := n3) (l := l) ho3; have := e1.out; omega)).mono ?_; rintro e w' ⟨A', n', c', rfl, st'⟩; exact ⟨_, rfl, st'.below, ⟨A', n', c', rfl, Res.holds_mono (st'.get (i := 0) rfl) hb.size⟩⟩)); (simp only [zca, zcn] <;> exact rfl))
        (apply Plan.fact' (tupRow W.heap.size ([]) (V)) (tupRow_stable _ _ _); (focus (intro x0 x1 x2 x3 x4 x5 x6 x7 x8 x9 x10 x11 w1 hb; (try simp only [depF, fillA, Act.put, zta, ztz, zpt, zsz, zss, zl0, zls]); (repeat (intro lo hi hlo hhi hphi)); have st := st.call hb; obtain ⟨A', n', c', rfl, ho⟩ := hphi; apply Yphi.fact; (exact rfl); (go_simp <;> (try simp (disch := omega) only [wrap_id, sub_left, zac]) <;> rfl); exact rfl; exact ⟨A', n', c', rfl, ho⟩)); (simp only [zca, zcn] <;> exact rfl))
        (apply Plan.fact' (rowFrom W.heap.size ([])) (rowFrom_stable _ _); (focus (intro x0 x1 x2 x3 x4 x5 x6 x7 x8 x9 x10 x11 w1 hb; (try simp only [depF, fillA, Act.put, zta, ztz, zpt, zsz, zss, zl0, zls]); (repeat (intro lo hi hlo hhi hphi)); have st := st.call hb; obtain ⟨A', n', c', rfl, ho⟩ := hphi; apply Yphi.fact; (exact rfl); (go_simp <;> (try simp (disch := omega) only [wrap_id, sub_left, zac]) <;> rfl); exact rfl; exact ⟨A', n', c', rfl, ho⟩)); (simp only [zca, zcn] <;> exact rfl))
        (apply Plan.val'; (focus (intro x0 x1 x2 x3 x4 x5 x6 x7 x8 x9 x10 x11 w1 hb; (try simp only [depF, fillA, Act.put, zta, ztz, zpt, zsz, zss, zl0, zls]); (repeat (intro lo hi hlo hhi hphi)); have st := st.call hb; obtain ⟨A', n', c', rfl, ho⟩ := hphi; apply Yphi.run; (exact rfl); (go_simp <;> (try simp (disch := omega) only [wrap_id, sub_left, zac]) <;> rfl); exact rfl)); (simp only [zca, zcn] <;> exact rfl))
        (apply Plan.fact' (rowFrom W.heap.size ([])) (rowFrom_stable _ _); (focus (intro x0 x1 x2 x3 x4 x5 x6 x7 x8 x9 x10 x11 w1 hb; (try simp only [depF, fillA, Act.put, zta, ztz, zpt, zsz, zss, zl0, zls]); (repeat (first | rintro rfl | intro lo hi hlo hhi hphi)); have st := st.call hb; obtain ⟨A', n', c', rfl, ho⟩ := hphi; apply Yphi.fact; (exact rfl); (go_simp <;> (try simp (disch := omega) only [wrap_id, sub_left, zac]) <;> rfl); exact rfl; exact ⟨A', n', c', rfl, ho⟩)); (simp only [zca, zcn] <;> exact rfl))
        intro x0 x1 x2 x3 x4 x5 x6 x7 x8 x9 x10 x11 lo hi w1 hb hap
        rintro rfl - - - rfl rfl rfl rfl rfl - - - - - - - - - rfl - - ⟨A9, n9, c9, rfl, ho9⟩
        simp only [allPhi, fillA, Act.put, zta, ztz, zpt, zsz, zss, zda, zdz]
        have st := rows_one st hb ho9 (Nat.le_refl _)
        clear ho9 hap hb
        have l9 := Lib.hid (St.len st (i := 0) rfl)
        obtain rfl : n9 = 0 := l9.out
        go_wp2_with (refine WL.out ?_; (repeat ((refine WL.op ?_ ?_; (exact rfl); intro K hK; (first | ((first | ((with_reducible apply ow_move); exact rfl) | ((with_reducible apply ow_assign); exact rfl)); (go_simp <;> (try simp (disch := omega) only [wrap_id, sub_left, zac]) <;> rfl)) | ((((with_reducible apply ow_load1 st); exact rfl; exact inferInstance; exact rfl; (exact get1))); exact rfl) | ((with_reducible apply ow_eval); (go_simp <;> (try simp (disch := omega) only [wrap_id, sub_left, zac]) <;> rfl); first | (with_reducible apply up_value) | ((with_reducible apply up_enter); first | (go_at_call 17; refine (AcesErr_any A n c B l _ (H1.out.st st hB1) (Nat.le_trans hB1 st.size) (by omega)).mono ?_; rintro e w' ⟨rfl, hb⟩; replace st := st.call hb; clear hb; rw [HA.out]; refine ⟨_, rfl, ?_⟩) | (go_at_call 18; refine (rPairErr_any _ _ _).mono ?_; rintro e w' ⟨rfl, rfl⟩; rw [HV.out]; refine ⟨_, rfl, ?_⟩)))); refine WL.next hK (by simp only [Act.put, zpt, zsz, zss]; exact rfl) ?_; clear hK K))); (try refine WL.nil ?_))
        go_ret
        exact ⟨rfl, st.below⟩
    · have hR2 := Lib.hid (L.inheritedBy_acesErr (dir := dir) (o := x) (g := y) ha)
      obtain ⟨V, hV⟩ : ∃ V, L.rAcesErr l = V := ⟨_, rfl⟩
      rw [hV] at ha hR2
      have hv0 : (V == 0) = false := by simpa using ha
      have HV := Lib.hid hV
      clear ha hV
      go_enter Tryd.func4, Tryd.ntmps4
      go_wp2_with (refine WL.out ?_; (repeat ((refine WL.op ?_ ?_; (exact rfl); intro K hK; (first | ((((with_reducible apply ow_assign); exact rfl)); (go_simp <;> (try simp (disch := omega) only [wrap_id, sub_left, zac]) <;> rfl)) | ((((with_reducible apply ow_box st); exact rfl; (go_simp <;> (try simp (disch := omega) only [wrap_id, sub_left, zac]) <;> rfl); (go_simp <;> (try simp (disch := omega) only [wrap_id, sub_left, zac]) <;> rfl))); (try clear st); intro b w' st) | ((with_reducible apply ow_eval); (go_simp <;> (try simp (disch := omega) only [wrap_id, sub_left, zac]) <;> rfl); first | (with_reducible apply up_value) | ((with_reducible apply up_enter); ((go_at_call 8; refine (awake_any _).mono ?_; rintro e w' ⟨rfl, hb⟩; replace st := st.call hb; clear hb; refine ⟨_, rfl, ?_⟩))))); refine WL.next hK (by simp only [Act.put, zpt, zsz, zss]; exact rfl) ?_; clear hK K))); (try refine WL.nil ?_))
      refine wp_region_plan 12 (by kernel_rfl) (by kernel_rfl) ?_; replace st := st.drew; generalize World.drew _ = W at st ⊢
      (apply Plan.val'; (focus (intro x0 x1 x2 x3 x4 x5 x6 x7 x8 x9 x10 x11 w1 hb; (try simp only [depF, fillA, Act.put, zta, ztz, zpt, zsz, zss, zl0, zls]); (repeat (fail)); have st := st.call hb; ((apply Yphi.run; (exact rfl); (go_simp <;> (try simp (disch := omega) only [wrap_id, sub_left, zac]) <;> rfl); exact rfl)))); (simp only [zca, zcn] <;> exact rfl))
      (apply Plan.fact' (freshRow 23 4 (L.cellsOf (l))) (freshRow_stable _ _ _); (focus (intro x0 x1 x2 x3 x4 x5 x6 x7 x8 x9 x10 x11 w1 hb; (try simp only [depF, fillA, Act.put, zta, ztz, zpt, zsz, zss, zl0, zls]); (repeat (rintro rfl)); have st := st.call hb; apply Yphi.call; (exact rfl); (go_simp <;> (try simp (disch := omega) only [wrap_id, sub_left, zac]) <;> rfl); exact rfl; refine (CopyAces_any A n c B l _ (H1.out.st st hB1) (Nat.le_trans hB1 st.size) (by omega)).mono ?_; rintro e w' ⟨A', n', c', rfl, st'⟩; exact ⟨_, rfl, st'.below, freshRow_mk (st'.get (i := 0) rfl)⟩)); (simp only [zca, zcn] <;> exact rfl))
      iterate 5 (apply Plan.val'; (focus (intro x0 x1 x2 x3 x4 x5 x6 x7 x8 x9 x10 x11 w1 hb; (try simp only [depF, fillA, Act.put, zta, ztz, zpt, zsz, zss, zl0, zls]); (repeat (rintro rfl)); have st := st.call hb; (first | (apply Yphi.run; (exact rfl); (go_simp <;> (try simp (disch := omega) only [wrap_id, sub_left, zac]) <;> rfl); exact rfl) | (apply Yphi.load1 st; exact rfl; exact inferInstance; (exact rfl); exact rfl; (exact get0); exact rfl)))); (simp only [zca, zcn] <;> exact rfl))
      (apply Plan.fact' (tupRow W.heap.size ([]) (V)) (tupRow_stable _ _ _); (focus (intro x0 x1 x2 x3 x4 x5 x6 x7 x8 x9 x10 x11 w1 hb; (try simp only [depF, fillA, Act.put, zta, ztz, zpt, zsz, zss, zl0, zls]); (repeat (first | rintro rfl | intro lo hi hlo hhi hphi)); have st := st.call hb; obtain ⟨A3, n3, c3, rfl, ho3, hk3⟩ := hphi; apply Yphi.call; (exact rfl); (go_simp <;> (try simp (disch := omega) only [wrap_id, sub_left, zac]) <;> rfl); exact rfl; refine (InheritedBy_at hR2.out A3 n3 c3 _ _ (Rd.aces (Rd.of_row ho3)) (Nat.le_refl _) (by have h3 := row_len (v := .slice A3 n3 c3) (n := n3) (l := l) ho3; have := e1.out; omega)).mono ?_; rintro e w' ⟨A', n', c', rfl, st'⟩; exact ⟨_, rfl, st'.below, ⟨A', n', c', rfl, Res.holds_mono (st'.get (i := 0) rfl) hb.size⟩⟩)); (simp only [zca, zcn] <;> exact rfl))
      (apply Plan.fact' (tupRow W.heap.size ([]) (V)) (tupRow_stable _ _ _); (focus (intro x0 x1 x2 x3 x4 x5 x6 x7 x8 x9 x10 x11 w1 hb; (try simp only [depF, fillA, Act.put, zta, ztz, zpt, zsz, zss, zl0, zls]); (repeat (intro lo hi hlo hhi hphi)); have st := st.call hb; obtain ⟨A', n', c', rfl, ho⟩ := hphi; apply Yphi.fact; (exact rfl); (go_simp <;> (try simp (disch := omega) only [wrap_id, sub_left, zac]) <;> rfl); exact rfl; exact ⟨A', n', c', rfl, ho⟩)); (simp only [zca, zcn] <;> exact rfl))
      (apply Plan.fact' (rowFrom W.heap.size ([])) (rowFrom_stable _ _); (focus (intro x0 x1 x2 x3 x4 x5 x6 x7 x8 x9 x10 x11 w1 hb; (try simp only [depF, fillA, Act.put, zta, ztz, zpt, zsz, zss, zl0, zls]); (repeat (intro lo hi hlo hhi hphi)); have st := st.call hb; obtain ⟨A', n', c', rfl, ho⟩ := hphi; apply Yphi.fact; (exact rfl); (go_simp <;> (try simp (disch := omega) only [wrap_id, sub_left, zac]) <;> rfl); exact rfl; exact ⟨A', n', c', rfl, ho⟩)); (simp only [zca, zcn] <;> exact rfl))
      (apply Plan.val'; (focus (intro x0 x1 x2 x3 x4 x5 x6 x7 x8 x9 x10 x11 w1 hb; (try simp only [depF, fillA, Act.put, zta, ztz, zpt, zsz, zss, zl0, zls]); (repeat (intro lo hi hlo hhi hphi)); have st := st.call hb; obtain ⟨A', n', c', rfl, ho⟩ := hphi; apply Yphi.run; (exact rfl); (go_simp <;> (try simp (disch := omega) only [wrap_id, sub_left, zac]) <;> rfl); exact rfl)); (simp only [zca, zcn] <;> exact rfl))
      (apply Plan.fact' (rowFrom W.heap.size ([])) (rowFrom_stable _ _); (focus (intro x0 x1 x2 x3 x4 x5 x6 x7 x8 x9 x10 x11 w1 hb; (try simp only [depF, fillA, Act.put, zta, ztz, zpt, zsz, zss, zl0, zls]); (repeat (first | rintro rfl | intro lo hi hlo hhi hphi)); have st := st.call hb; obtain ⟨A', n', c', rfl, ho⟩ := hphi; apply Yphi.fact; (exact rfl); (go_simp <;> (try simp (disch := omega) only [wrap_id, sub_left, zac]) <;> rfl); exact rfl; exact ⟨A', n', c', rfl, ho⟩)); (simp only [zca, zcn] <;> exact rfl))
      intro x0 x1 x2 x3 x4 x5 x6 x7 x8 x9 x10 x11 lo hi w1 hb hap
      rintro rfl - - - rfl rfl rfl rfl rfl - - - - - - - - - rfl - - ⟨A9, n9, c9, rfl, ho9⟩
      simp only [allPhi, fillA, Act.put, zta, ztz, zpt, zsz, zss, zda, zdz]
      have st := rows_one st hb ho9 (Nat.le_refl _)
      clear ho9 hap hb
      have l9 := Lib.hid (St.len st (i := 0) rfl)
      obtain rfl : n9 = 0 := l9.out
      go_wp2_with (refine WL.out ?_; (repeat ((refine WL.op ?_ ?_; (exact rfl); intro K hK; (first | ((first | ((with_reducible apply ow_move); exact rfl) | ((with_reducible apply ow_assign); exact rfl)); (go_simp <;> (try simp (disch := omega) only [wrap_id, sub_left, zac]) <;> rfl)) | ((with_reducible apply ow_eval); (go_simp <;> (try simp (disch := omega) only [wrap_id, sub_left, zac]) <;> rfl); first | (with_reducible apply up_value) | ((with_reducible apply up_enter); ((go_at_call 17; refine (AcesErr_any A n c B l _ (H1.out.st st hB1) (Nat.le_trans hB1 st.size) (by omega)).mono ?_; rintro e w' ⟨rfl, hb⟩; replace st := st.call hb; clear hb; rw [HV.out]; refine ⟨_, rfl, ?_⟩))))); refine WL.next hK (by simp only [Act.put, zpt, zsz, zss]; exact rfl) ?_; clear hK K))); (try refine WL.nil ?_))
      go_ret
      exact ⟨rfl, st.below⟩
  · have hI : (20 : Int) < (n : Int) := by omega
    go_enter Tryd.func4, Tryd.ntmps4
    go_wp2_with (refine WL.out ?_; (repeat ((refine WL.op ?_ ?_; (exact rfl); intro K hK; (first | ((((with_reducible apply ow_assign); exact rfl)); (go_simp <;> (try simp (disch := omega) only [wrap_id, sub_left, zac]) <;> rfl)) | ((((with_reducible apply ow_box st); exact rfl; (go_simp <;> (try simp (disch := omega) only [wrap_id, sub_left, zac]) <;> rfl); (go_simp <;> (try simp (disch := omega) only [wrap_id, sub_left, zac]) <;> rfl))); (try clear st); intro b w' st) | ((with_reducible apply ow_eval); (go_simp <;> (try simp (disch := omega) only [wrap_id, sub_left, zac]) <;> rfl); first | (with_reducible apply up_value) | ((with_reducible apply up_enter); ((go_at_call 8; refine (awake_any _).mono ?_; rintro e w' ⟨rfl, hb⟩; replace st := st.call hb; clear hb; refine ⟨_, rfl, ?_⟩))))); refine WL.next hK (by simp only [Act.put, zpt, zsz, zss]; exact rfl) ?_; clear hK K))); (try refine WL.nil ?_))
    go_ret
    exact ⟨rfl, st.below⟩
end Go.Proofs.YtppjhccdgbheiaaDoor
namespace Go.Proofs.YtppjhccdgbheiaaDoor
open Go.RowKit Go.Hp
namespace L
def rBelow (dir : Bool) (o g : Int) (p : Bool) (own above : List Ace) : List Ace := explicit own ++ if p then [] else rInherited dir o g above
def rChild (above own : Desc) (dir : Bool) : Desc × Bool :=
  if (rBelow dir own.o own.g own.p own.e above.e).length ≤ 16 ∧ (rBelow dir own.o own.g own.p own.a above.a).length ≤ 16 then
    (⟨own.o, own.g, own.p, own.h || (above.h && !own.p), canon (rBelow dir own.o own.g own.p own.e above.e), canon (rBelow dir own.o own.g own.p own.a above.a)⟩, true)
  else (Desc.none, false)
theorem explicit_FOk {l : List Ace} (h : Good l) : ∀ a ∈ explicit l, 0 ≤ a.f ∧ a.f ≤ 31 := fun a ha => ⟨(h a (List.mem_filter.1 ha).1).f0, (h a (List.mem_filter.1 ha).1).f1⟩
theorem onOf_bounds (fi di sp : Bool) : 0 ≤ onOf fi di sp ∧ onOf fi di sp ≤ 3 := by
  cases fi <;> cases di <;> cases sp <;> decide
theorem inh1_FOk (dir fi di sp : Bool) (who : Int) (a : Ace) : ∀ x ∈ inh1 dir fi di sp who a, 0 ≤ x.f ∧ x.f ≤ 31 := by
  intro x hx
  have hb := onOf_bounds fi true sp
  cases dir <;> cases di <;> simp only [inh1] at hx
  · split at hx
    · rw [List.mem_singleton.1 hx]; exact ⟨by show (0 : Int) ≤ 16; decide, by show (16 : Int) ≤ 31; decide⟩
    · cases hx
  · split at hx
    · rw [List.mem_singleton.1 hx]; exact ⟨by show (0 : Int) ≤ 16; decide, by show (16 : Int) ≤ 31; decide⟩
    · cases hx
  · split at hx
    · rw [List.mem_singleton.1 hx]; exact ⟨by show (0 : Int) ≤ 25; decide, by show (25 : Int) ≤ 31; decide⟩
    · cases hx
  · split at hx
    · rw [List.mem_singleton.1 hx]; exact ⟨by show (0 : Int) ≤ 16 + onOf fi true sp; omega, by show 16 + onOf fi true sp ≤ (31 : Int); omega⟩
    · rcases List.mem_cons.1 hx with rfl | hx
      · exact ⟨by show (0 : Int) ≤ 16; decide, by show (16 : Int) ≤ 31; decide⟩
      · rw [List.mem_singleton.1 hx]; exact ⟨by show (0 : Int) ≤ 16 + onOf fi true sp + 8; omega, by show 16 + onOf fi true sp + 8 ≤ (31 : Int); omega⟩
theorem rBelow_FOk (dir : Bool) (o g : Int) (p : Bool) {own above : List Ace} (h : Good own) : ∀ a ∈ rBelow dir o g p own above, 0 ≤ a.f ∧ a.f ≤ 31 := by
  intro a ha
  unfold rBelow at ha
  rcases List.mem_append.1 ha with ha | ha
  · exact explicit_FOk h a ha
  · split at ha
    · cases ha
    · obtain ⟨b, _, hx⟩ := List.mem_flatMap.1 ha
      exact inh1_FOk _ _ _ _ _ _ a hx
end L
def RetDescOk (w : World) (p : L.Desc × Bool) (e : Ending) (w' : World) : Prop := ∃ A1 n1 c1 A2 n2 c2, e = .returned (.tuple #[.agg #[.int .i64 p.1.o, .int .i64 p.1.g, .bool p.1.p, .bool p.1.h, .slice A1 n1 c1, .slice A2 n2 c2], .bool p.2]) ∧ St w w' [aceRow (.slice A1 n1 c1) n1 p.1.e, aceRow (.slice A2 n2 c2) n2 p.1.a]
set_option maxRecDepth 8000 in
set_option maxHeartbeats 4000000 in
theorem rChild_true (o g : Int) (h : Bool) (le la : List L.Ace) (o' g' : Int) (p' h' : Bool) (le' la' : List L.Ace) (dir : Bool) (A1 A2 A1' A2' : Option Addr) (n1 n2 n1' n2' c1 c2 c1' c2' B : Nat) (w : World)
    (h1 : Aces w B A1 n1 le) (h2 : Aces w B A2 n2 la) (h1' : Aces w B A1' n1' le') (h2' : Aces w B A2' n2' la') (hB1 : B ≤ w.heap.size) (hn1 : n1 ≤ 20) (hn2 : n2 ≤ 20) (hn1' : n1' ≤ 20) (hn2' : n2' ≤ 20) (hg1 : L.Good le) (hg2 : L.Good la) (hg1' : L.Good le') (hg2' : L.Good la') :
    Calls Tryd.prog 24 #[.agg #[.int .i64 o', .int .i64 g', .bool p', .bool h', .slice A1' n1' c1', .slice A2' n2' c2'], .agg #[.int .i64 o, .int .i64 g, .bool true, .bool h, .slice A1 n1 c1, .slice A2 n2 c2], .bool dir] w
      (RetDescOk w (L.rChild ⟨o', g', p', h', le', la'⟩ ⟨o, g, true, h, le, la⟩ dir)) := by
  have H1 := Lib.hid h1
  have H2 := Lib.hid h2
  have H1' := Lib.hid h1'
  have H2' := Lib.hid h2'
  have HG1 := Lib.hid hg1
  have HG2 := Lib.hid hg2
  have HG1' := Lib.hid hg1'
  have HG2' := Lib.hid hg2'
  clear h1 h2 h1' h2' hg1 hg2 hg1' hg2'
  have st := St.start w
  have eE := Lib.hid (rfl : L.rBelow dir o g true le le' = L.rBelow dir o g true le le')
  generalize hX : L.rBelow dir o g true le le' = X at eE
  generalize hY : L.rBelow dir o g true la la' = Y at eE
  replace hX := Lib.hid hX
  replace hY := Lib.hid hY
  have hR : Hid (L.rChild ⟨o', g', p', h', le', la'⟩ ⟨o, g, true, h, le, la⟩ dir = if X.length ≤ 16 ∧ Y.length ≤ 16 then (⟨o, g, true, h || (h' && !true), L.canon X, L.canon Y⟩, true) else (L.Desc.none, false)) := Lib.hid (by rw [← hX.out, ← hY.out]; rfl)
  clear eE
  have eX : X = L.explicit le := by rw [← hX.out]; unfold L.rBelow; simp
  have eY : Y = L.explicit la := by rw [← hY.out]; unfold L.rBelow; simp
  subst eX eY
  rcases (show h = true ∨ (h = false ∧ h' = false) ∨ (h = false ∧ h' = true) by cases h <;> cases h' <;> simp) with rfl | ⟨rfl, rfl⟩ | ⟨rfl, rfl⟩
  all_goals
    go_enter Tryd.func24, Tryd.ntmps24
    go_wp2_with (refine WL.out ?_; (repeat (first | (refine WL.op ?_ ?_; (exact rfl); intro K hK; (first | ((first | ((with_reducible apply ow_move); exact rfl) | ((with_reducible apply ow_assign); exact rfl)); (go_simp <;> (try simp (disch := omega) only [wrap_id, sub_left, zac]) <;> rfl)) | ((((with_reducible apply ow_load1 st); exact rfl; exact inferInstance; exact rfl; (first | exact get1 | exact get2 | exact get3))); exact rfl) | ((first | ((with_reducible apply ow_box st); exact rfl; (go_simp <;> (try simp (disch := omega) only [wrap_id, sub_left, zac]) <;> rfl); (go_simp <;> (try simp (disch := omega) only [wrap_id, sub_left, zac]) <;> rfl)) | ((with_reducible apply ow_alloc st); exact rfl; exact inferInstance; (go_simp <;> (try simp (disch := omega) only [wrap_id, sub_left, zac]) <;> rfl))); (try clear st); intro b w' st) | ((first | ((with_reducible apply ow_store1' st); exact rfl; exact inferInstance; exact rfl; (exact get0); (go_simp <;> (try simp (disch := omega) only [wrap_id, sub_left, zac]) <;> rfl)) | ((with_reducible apply ow_storeN' st); exact rfl; exact inferInstance; exact rfl; (exact get0); exact rfl)); exact rfl; exact rfl; (simp <;> done); ((try simp only [zta, ztz, zda, zdz, zca, zcn, zan, zsz, zss]) <;> exact rfl); (try clear st); intro w' st) | ((with_reducible apply ow_eval); (go_simp <;> (try simp (disch := omega) only [wrap_id, sub_left, zac]) <;> rfl); ((with_reducible apply up_value)))); refine WL.next hK (by simp only [Act.put, zpt, zsz, zss]; exact rfl) ?_; clear hK K) | (refine WL.skip ?_ (by simp only [Act.put, zpt, zsz, zss]; exact rfl) ?_; (exact rfl)))); (try refine WL.nil ?_))
    refine wp_region_plan 6 (by kernel_rfl) (by kernel_rfl) ?_; replace st := st.drew; generalize World.drew _ = W at st ⊢
    iterate 2 (apply Plan.val'; (focus (intro x0 x1 x2 x3 x4 x5 w1 hb; (try simp only [depF, fillA, Act.put, zta, ztz, zpt, zsz, zss, zl0, zls]); (repeat (rintro rfl)); have st := st.call hb; (first | (apply Yphi.run; (exact rfl); (go_simp <;> (try simp (disch := omega) only [wrap_id, sub_left, zac]) <;> rfl); exact rfl) | (apply Yphi.load1 st; exact rfl; exact inferInstance; (exact rfl); exact rfl; (exact get2); exact rfl)))); (simp only [zca, zcn] <;> exact rfl))
    (apply Plan.fact' (freshRow 23 4 (L.cellsOf (L.explicit le))) (freshRow_stable _ _ _); (focus (intro x0 x1 x2 x3 x4 x5 w1 hb; (try simp only [depF, fillA, Act.put, zta, ztz, zpt, zsz, zss, zl0, zls]); (repeat (rintro rfl)); have st := st.call hb; apply Yphi.call; (exact rfl); (go_simp <;> (try simp (disch := omega) only [wrap_id, sub_left, zac]) <;> rfl); exact rfl; refine (explicit_any A1 n1 c1 B le _ (H1.out.st st hB1) (by have := st.size; omega) (by omega) HG1.out).mono ?_; rintro e w' ⟨A', n', c', rfl, st'⟩; exact ⟨_, rfl, st'.below, freshRow_mk (st'.get (i := 0) rfl)⟩)); (simp only [zca, zcn] <;> exact rfl))
    iterate 2 (apply Plan.val'; (focus (intro x0 x1 x2 x3 x4 x5 w1 hb; (try simp only [depF, fillA, Act.put, zta, ztz, zpt, zsz, zss, zl0, zls]); (repeat (rintro rfl)); have st := st.call hb; (first | (apply Yphi.run; (exact rfl); (go_simp <;> (try simp (disch := omega) only [wrap_id, sub_left, zac]) <;> rfl); exact rfl) | (apply Yphi.load1 st; exact rfl; exact inferInstance; (exact rfl); exact rfl; (exact get2); exact rfl)))); (simp only [zca, zcn] <;> exact rfl))
    (apply Plan.fact' (freshRow 23 4 (L.cellsOf (L.explicit la))) (freshRow_stable _ _ _); (focus (intro x0 x1 x2 x3 x4 x5 w1 hb; (try simp only [depF, fillA, Act.put, zta, ztz, zpt, zsz, zss, zl0, zls]); (repeat (first | rintro rfl | intro lo hi hlo hhi hphi)); have st := st.call hb; apply Yphi.call; (exact rfl); (go_simp <;> (try simp (disch := omega) only [wrap_id, sub_left, zac]) <;> rfl); exact rfl; refine (explicit_any A2 n2 c2 B la _ (H2.out.st st hB1) (by have := st.size; omega) (by omega) HG2.out).mono ?_; rintro e w' ⟨A', n', c', rfl, st'⟩; exact ⟨_, rfl, st'.below, freshRow_mk (st'.get (i := 0) rfl)⟩)); (simp only [zca, zcn] <;> exact rfl))
    intro x0 x1 x2 x3 x4 x5 lo hi w1 hb hap
    rintro rfl rfl hl1 _ ⟨A3, n3, c3, rfl, ho1, hk1⟩ rfl rfl hl2 _ ⟨A4, n4, c4, rfl, ho2, hk2⟩
    simp only [allPhi, fillA, Act.put, zta, ztz, zpt, zsz, zss, zda, zdz]
    have st := rows_two st hb ho1 hk1 hl1 ho2 hk2 hl2 (hap 2 5 (by omega) (by omega) (by omega))
    clear ho1 hk1 hl1 ho2 hk2 hl2 hap hb
    have a1 := Lib.hid (St.len st (i := 0) rfl)
    have a2 := Lib.hid (St.len st (i := 1) rfl)
    by_cases h3 : (n3 : Int) ≤ 16
    · by_cases h4 : (n4 : Int) ≤ 16
      · go_wp2_with (refine WL.out ?_; (repeat ((refine WL.op ?_ ?_; (first | exact rfl | (simp [Region.wanted, yielded, *] <;> done)); intro K hK; (first | ((first | ((with_reducible apply ow_move); exact rfl) | ((with_reducible apply ow_assign); exact rfl)); (go_simp <;> (try simp (disch := omega) only [wrap_id, sub_left, zac]) <;> rfl)) | ((first | ((with_reducible apply ow_load1 st); exact rfl; exact inferInstance; exact rfl; (exact get4)) | ((with_reducible apply ow_loadN st); exact rfl; exact inferInstance; exact rfl; (exact get4); ((try simp only [zta, ztz, zda, zdz, zca, zcn, zan, zsz, zss]) <;> exact rfl))); exact rfl) | ((first | ((with_reducible apply ow_store1' st); exact rfl; exact inferInstance; exact rfl; (exact get4); (go_simp <;> (try simp (disch := omega) only [wrap_id, sub_left, zac]) <;> rfl)) | ((with_reducible apply ow_storeN' st); exact rfl; exact inferInstance; exact rfl; (exact get5); exact rfl)); exact rfl; exact rfl; (simp <;> done); ((try simp only [zta, ztz, zda, zdz, zca, zcn, zan, zsz, zss]) <;> exact rfl); (try clear st); intro w' st) | ((with_reducible apply ow_eval); (go_simp <;> (try simp (disch := omega) only [wrap_id, sub_left, zac]) <;> rfl); first | (with_reducible apply up_value) | ((with_reducible apply up_enter); first | (go_at_call 29; refine (rCanonical_any _ _ _ _ (L.explicit le) _ (St.aces st (i := 0) rfl) (Nat.le_refl _) (by omega) (L.explicit_FOk HG1.out)).mono ?_; rintro e w' ⟨A5, n5, c5, rfl, st'⟩; replace st := st.join st'; clear st'; simp only [List.cons_append, List.nil_append] at st; refine ⟨_, rfl, ?_⟩) | (go_at_call 29; refine (rCanonical_any _ _ _ _ (L.explicit la) _ (St.aces st (i := 2) rfl) (Nat.le_refl _) (by omega) (L.explicit_FOk HG2.out)).mono ?_; rintro e w' ⟨A6, n6, c6, rfl, st'⟩; replace st := st.join st'; clear st'; simp only [List.cons_append, List.nil_append] at st; refine ⟨_, rfl, ?_⟩)))); refine WL.next hK (by simp only [Act.put, zpt, zsz, zss]; exact rfl) ?_; clear hK K))); (try refine WL.nil ?_))
        refine bodyPost_cell_tmp 5 st rfl inferInstance rfl rfl rfl rfl rfl ?_
        rw [hR.out, if_pos ⟨by have := a1.out; omega, by have := a2.out; omega⟩]
        exact ⟨_, _, _, _, _, _, rfl, st.swap.sub (.cons_cons _ (.cons_cons _ (List.nil_sublist _)))⟩
      · go_wp2_with (refine WL.out ?_; (repeat ((refine WL.op ?_ ?_; (first | exact rfl | (simp [Region.wanted, yielded, *] <;> done)); intro K hK; (first | ((first | ((with_reducible apply ow_move); exact rfl) | ((with_reducible apply ow_assign); exact rfl)); (go_simp <;> (try simp (disch := omega) only [wrap_id, sub_left, zac]) <;> rfl)) | ((((with_reducible apply ow_load1 st); exact rfl; exact inferInstance; exact rfl; (exact get4))); exact rfl) | ((((with_reducible apply ow_storeN' st); exact rfl; exact inferInstance; exact rfl; (exact get3); exact rfl)); exact rfl; exact rfl; (simp <;> done); ((try simp only [zta, ztz, zda, zdz, zca, zcn, zan, zsz, zss]) <;> exact rfl); (try clear st); intro w' st) | ((with_reducible apply ow_eval); (go_simp <;> (try simp (disch := omega) only [wrap_id, sub_left, zac]) <;> rfl); ((with_reducible apply up_value)))); refine WL.next hK (by simp only [Act.put, zpt, zsz, zss]; exact rfl) ?_; clear hK K))); (try refine WL.nil ?_))
        refine bodyPost_cell_tmp 3 st rfl inferInstance rfl rfl rfl rfl rfl ?_
        rw [hR.out, if_neg (by have := a2.out; omega)]
        exact ⟨none, 0, 0, none, 0, 0, rfl, ((st.sub (List.nil_sublist _)).nilRow _ _).nilRow _ _⟩
    · go_wp2_with (refine WL.out ?_; (repeat (first | (refine WL.op ?_ ?_; (exact rfl); intro K hK; (first | ((first | ((with_reducible apply ow_move); exact rfl) | ((with_reducible apply ow_assign); exact rfl)); (go_simp <;> (try simp (disch := omega) only [wrap_id, sub_left, zac]) <;> rfl)) | ((((with_reducible apply ow_load1 st); exact rfl; exact inferInstance; exact rfl; (exact get4))); exact rfl) | ((((with_reducible apply ow_storeN' st); exact rfl; exact inferInstance; exact rfl; (exact get3); exact rfl)); exact rfl; exact rfl; (simp <;> done); ((try simp only [zta, ztz, zda, zdz, zca, zcn, zan, zsz, zss]) <;> exact rfl); (try clear st); intro w' st) | ((with_reducible apply ow_eval); (go_simp <;> (try simp (disch := omega) only [wrap_id, sub_left, zac]) <;> rfl); ((with_reducible apply up_value)))); refine WL.next hK (by simp only [Act.put, zpt, zsz, zss]; exact rfl) ?_; clear hK K) | (refine WL.skip ?_ (by simp only [Act.put, zpt, zsz, zss]; exact rfl) ?_; ((simp [Region.wanted, yielded] <;> omega))))); (try refine WL.nil ?_))
      refine bodyPost_cell_tmp 3 st rfl inferInstance rfl rfl rfl rfl rfl ?_
      rw [hR.out, if_neg (by have := a1.out; omega)]
      exact ⟨none, 0, 0, none, 0, 0, rfl, ((st.sub (List.nil_sublist _)).nilRow _ _).nilRow _ _⟩
set_option maxRecDepth 8000 in
set_option maxHeartbeats 4000000 in
theorem rChild_false (o g : Int) (h : Bool) (le la : List L.Ace) (o' g' : Int) (p' h' : Bool) (le' la' : List L.Ace) (dir : Bool) (A1 A2 A1' A2' : Option Addr) (n1 n2 n1' n2' c1 c2 c1' c2' B : Nat) (w : World)
    (h1 : Aces w B A1 n1 le) (h2 : Aces w B A2 n2 la) (h1' : Aces w B A1' n1' le') (h2' : Aces w B A2' n2' la') (hB1 : B ≤ w.heap.size) (hn1 : n1 ≤ 20) (hn2 : n2 ≤ 20) (hn1' : n1' ≤ 20) (hn2' : n2' ≤ 20) (hg1 : L.Good le) (hg2 : L.Good la) (hg1' : L.Good le') (hg2' : L.Good la') :
    Calls Tryd.prog 24 #[.agg #[.int .i64 o', .int .i64 g', .bool p', .bool h', .slice A1' n1' c1', .slice A2' n2' c2'], .agg #[.int .i64 o, .int .i64 g, .bool false, .bool h, .slice A1 n1 c1, .slice A2 n2 c2], .bool dir] w
      (RetDescOk w (L.rChild ⟨o', g', p', h', le', la'⟩ ⟨o, g, false, h, le, la⟩ dir)) := by
  have H1 := Lib.hid h1
  have H2 := Lib.hid h2
  have H1' := Lib.hid h1'
  have H2' := Lib.hid h2'
  have HG1 := Lib.hid hg1
  have HG2 := Lib.hid hg2
  have HG1' := Lib.hid hg1'
  have HG2' := Lib.hid hg2'
  clear h1 h2 h1' h2' hg1 hg2 hg1' hg2'
  have st := St.start w
  have eE := Lib.hid (rfl : L.rBelow dir o g false le le' = L.rBelow dir o g false le le')
  generalize hX : L.rBelow dir o g false le le' = X at eE
  generalize hY : L.rBelow dir o g false la la' = Y at eE
  replace hX := Lib.hid hX
  replace hY := Lib.hid hY
  have hR : Hid (L.rChild ⟨o', g', p', h', le', la'⟩ ⟨o, g, false, h, le, la⟩ dir = if X.length ≤ 16 ∧ Y.length ≤ 16 then (⟨o, g, false, h || (h' && !false), L.canon X, L.canon Y⟩, true) else (L.Desc.none, false)) := Lib.hid (by rw [← hX.out, ← hY.out]; rfl)
  clear eE
  have eX : X = L.explicit le ++ L.rInherited dir o g le' := by rw [← hX.out]; unfold L.rBelow; simp
  have eY : Y = L.explicit la ++ L.rInherited dir o g la' := by rw [← hY.out]; unfold L.rBelow; simp
  rcases (show h = true ∨ (h = false ∧ h' = false) ∨ (h = false ∧ h' = true) by cases h <;> cases h' <;> simp) with rfl | ⟨rfl, rfl⟩ | ⟨rfl, rfl⟩
  all_goals
    go_enter Tryd.func24, Tryd.ntmps24
    go_wp2_with (refine WL.out ?_; (repeat (first | (refine WL.op ?_ ?_; (exact rfl); intro K hK; (first | ((first | ((with_reducible apply ow_move); exact rfl) | ((with_reducible apply ow_assign); exact rfl)); (go_simp <;> (try simp (disch := omega) only [wrap_id, sub_left, zac]) <;> rfl)) | ((((with_reducible apply ow_load1 st); exact rfl; exact inferInstance; exact rfl; (first | exact get1 | exact get2 | exact get3))); exact rfl) | ((first | ((with_reducible apply ow_box st); exact rfl; (go_simp <;> (try simp (disch := omega) only [wrap_id, sub_left, zac]) <;> rfl); (go_simp <;> (try simp (disch := omega) only [wrap_id, sub_left, zac]) <;> rfl)) | ((with_reducible apply ow_alloc st); exact rfl; exact inferInstance; (go_simp <;> (try simp (disch := omega) only [wrap_id, sub_left, zac]) <;> rfl))); (try clear st); intro b w' st) | ((first | ((with_reducible apply ow_store1' st); exact rfl; exact inferInstance; exact rfl; (exact get0); (go_simp <;> (try simp (disch := omega) only [wrap_id, sub_left, zac]) <;> rfl)) | ((with_reducible apply ow_storeN' st); exact rfl; exact inferInstance; exact rfl; (exact get0); exact rfl)); exact rfl; exact rfl; (simp <;> done); ((try simp only [zta, ztz, zda, zdz, zca, zcn, zan, zsz, zss]) <;> exact rfl); (try clear st); intro w' st) | ((with_reducible apply ow_eval); (go_simp <;> (try simp (disch := omega) only [wrap_id, sub_left, zac]) <;> rfl); ((with_reducible apply up_value)))); refine WL.next hK (by simp only [Act.put, zpt, zsz, zss]; exact rfl) ?_; clear hK K) | (refine WL.skip ?_ (by simp only [Act.put, zpt, zsz, zss]; exact rfl) ?_; (exact rfl)))); (try refine WL.nil ?_))
    refine wp_region_plan 6 (by kernel_rfl) (by kernel_rfl) ?_; replace st := st.drew; generalize World.drew _ = W at st ⊢
    iterate 2 (apply Plan.val'; (focus (intro x0 x1 x2 x3 x4 x5 w1 hb; (try simp only [depF, fillA, Act.put, zta, ztz, zpt, zsz, zss, zl0, zls]); (repeat (rintro rfl)); have st := st.call hb; (first | (apply Yphi.run; (exact rfl); (go_simp <;> (try simp (disch := omega) only [wrap_id, sub_left, zac]) <;> rfl); exact rfl) | (apply Yphi.load1 st; exact rfl; exact inferInstance; (exact rfl); exact rfl; (exact get2); exact rfl)))); (simp only [zca, zcn] <;> exact rfl))
    (apply Plan.fact' (freshRow 23 4 (L.cellsOf (L.explicit le))) (freshRow_stable _ _ _); (focus (intro x0 x1 x2 x3 x4 x5 w1 hb; (try simp only [depF, fillA, Act.put, zta, ztz, zpt, zsz, zss, zl0, zls]); (repeat (rintro rfl)); have st := st.call hb; apply Yphi.call; (exact rfl); (go_simp <;> (try simp (disch := omega) only [wrap_id, sub_left, zac]) <;> rfl); exact rfl; refine (explicit_any A1 n1 c1 B le _ (H1.out.st st hB1) (by have := st.size; omega) (by omega) HG1.out).mono ?_; rintro e w' ⟨A', n', c', rfl, st'⟩; exact ⟨_, rfl, st'.below, freshRow_mk (st'.get (i := 0) rfl)⟩)); (simp only [zca, zcn] <;> exact rfl))
    iterate 2 (apply Plan.val'; (focus (intro x0 x1 x2 x3 x4 x5 w1 hb; (try simp only [depF, fillA, Act.put, zta, ztz, zpt, zsz, zss, zl0, zls]); (repeat (rintro rfl)); have st := st.call hb; (first | (apply Yphi.run; (exact rfl); (go_simp <;> (try simp (disch := omega) only [wrap_id, sub_left, zac]) <;> rfl); exact rfl) | (apply Yphi.load1 st; exact rfl; exact inferInstance; (exact rfl); exact rfl; (exact get2); exact rfl)))); (simp only [zca, zcn] <;> exact rfl))
    (apply Plan.fact' (freshRow 23 4 (L.cellsOf (L.explicit la))) (freshRow_stable _ _ _); (focus (intro x0 x1 x2 x3 x4 x5 w1 hb; (try simp only [depF, fillA, Act.put, zta, ztz, zpt, zsz, zss, zl0, zls]); (repeat (first | rintro rfl | intro lo hi hlo hhi hphi)); have st := st.call hb; apply Yphi.call; (exact rfl); (go_simp <;> (try simp (disch := omega) only [wrap_id, sub_left, zac]) <;> rfl); exact rfl; refine (explicit_any A2 n2 c2 B la _ (H2.out.st st hB1) (by have := st.size; omega) (by omega) HG2.out).mono ?_; rintro e w' ⟨A', n', c', rfl, st'⟩; exact ⟨_, rfl, st'.below, freshRow_mk (st'.get (i := 0) rfl)⟩)); (simp only [zca, zcn] <;> exact rfl))
    intro x0 x1 x2 x3 x4 x5 lo hi w1 hb hap
    rintro rfl rfl hl1 _ ⟨A3, n3, c3, rfl, ho1, hk1⟩ rfl rfl hl2 _ ⟨A4, n4, c4, rfl, ho2, hk2⟩
    simp only [allPhi, fillA, Act.put, zta, ztz, zpt, zsz, zss, zda, zdz]
    have st := rows_two st hb ho1 hk1 hl1 ho2 hk2 hl2 (hap 2 5 (by omega) (by omega) (by omega))
    clear ho1 hk1 hl1 ho2 hk2 hl2 hap hb
    have a1 := Lib.hid (St.len st (i := 0) rfl)
    have a2 := Lib.hid (St.len st (i := 1) rfl)
    have z1 : n3 ≤ 20 := by have h1 := a1.out; have h2 := List.length_filter_le (fun a : L.Ace => !L.has a.f 16) le; have h3 := H1.out.len; unfold L.explicit at h1; omega
    have z2 : n4 ≤ 20 := by have h1 := a2.out; have h2 := List.length_filter_le (fun a : L.Ace => !L.has a.f 16) la; have h3 := H2.out.len; unfold L.explicit at h1; omega
    have z3 := Lib.hid (L.rInherited_len dir o g le')
    have z4 := Lib.hid (L.rInherited_len dir o g la')
    have g3 := Lib.hid H1'.out.len
    have g4 := Lib.hid H2'.out.len
    go_wp2_with (refine WL.out ?_; (repeat ((refine WL.op ?_ ?_; (exact rfl); intro K hK; (first | ((first | ((with_reducible apply ow_move); exact rfl) | ((with_reducible apply ow_assign); exact rfl)); (go_simp <;> (try simp (disch := omega) only [wrap_id, sub_left, zac]) <;> rfl)) | ((((with_reducible apply ow_load1 st); exact rfl; exact inferInstance; exact rfl; (first | exact get4 | exact get5 | exact get6))); exact rfl) | ((with_reducible apply ow_append 1 st); exact rfl; exact inferInstance; exact rfl; exact rfl; exact rfl; exact st.rd (i := 0) rfl; (focus (exact cells_one _)); (focus (unfold maxLen; omega)); (focus omega); (try clear st); intro A' c' w' st; (try simp only [List.set_cons_zero, List.set_cons_succ, Nat.zero_add, List.nil_append] at st)) | ((with_reducible apply ow_append 3 st); exact rfl; exact inferInstance; exact rfl; exact rfl; exact rfl; exact st.rd (i := 0) rfl; (focus (exact cells_one _)); (focus (unfold maxLen; omega)); (focus omega); (try clear st); intro A' c' w' st; (try simp only [List.set_cons_zero, List.set_cons_succ, Nat.zero_add, List.nil_append] at st)) | ((with_reducible apply ow_eval); (go_simp <;> (try simp (disch := omega) only [wrap_id, sub_left, zac]) <;> rfl); first | (with_reducible apply up_value) | ((with_reducible apply up_enter); first | (go_at_call 19; (with_reducible refine (rInherited_any dir o g A1' n1' c1' B le' _ (H1'.out.st st hB1) ?_ ?_ ?_).mono ?_); exact Nat.le_trans hB1 st.size; omega; exact fun a ha => ⟨(HG1'.out a ha).f0, (HG1'.out a ha).f1⟩; rintro e w' ⟨A7, n7, c7, rfl, st'⟩; replace st := st.join st'; clear st'; simp only [List.cons_append, List.nil_append] at st; have a7 := Lib.hid (St.len st (i := 0) rfl); have b7 : n7 ≤ 40 := (by have := a7.out; have := z3.out; have := g3.out; omega); refine ⟨_, rfl, ?_⟩) | (go_at_call 19; (with_reducible refine (rInherited_any dir o g A2' n2' c2' B la' _ (H2'.out.st st hB1) ?_ ?_ ?_).mono ?_); exact Nat.le_trans hB1 st.size; omega; exact fun a ha => ⟨(HG2'.out a ha).f0, (HG2'.out a ha).f1⟩; rintro e w' ⟨A8, n8, c8, rfl, st'⟩; replace st := st.join st'; clear st'; simp only [List.cons_append, List.nil_append] at st; have a8 := Lib.hid (St.len st (i := 0) rfl); have b8 : n8 ≤ 40 := (by have := a8.out; have := z4.out; have := g4.out; omega); refine ⟨_, rfl, ?_⟩)))); refine WL.next hK (by simp only [Act.put, zpt, zsz, zss]; exact rfl) ?_; clear hK K))); (try refine WL.nil ?_))
    replace st := st.tail.tail
    rw [← L.cellsOf_append, ← L.cellsOf_append, ← eX, ← eY] at st
    have hFX : ∀ a ∈ X, 0 ≤ a.f ∧ a.f ≤ 31 := by rw [← hX.out]; exact L.rBelow_FOk dir o g false HG1.out
    have hFY : ∀ a ∈ Y, 0 ≤ a.f ∧ a.f ≤ 31 := by rw [← hY.out]; exact L.rBelow_FOk dir o g false HG2.out
    replace eX := Lib.hid eX
    replace eY := Lib.hid eY
    have hnx1 : n3 + n7 ≤ 60 := by omega
    have hny1 : n4 + n8 ≤ 60 := by omega
    have x1 := Lib.hid (St.len st (i := 0) (l := X) rfl)
    have y1 := Lib.hid (St.len st (i := 1) (l := Y) rfl)
    by_cases h3 : (n3 : Int) + (n7 : Int) ≤ 16
    · have h3' : ((16 : Int) < (n3 : Int) + (n7 : Int)) = False := by simp; omega
      by_cases h4 : (n4 : Int) + (n8 : Int) ≤ 16
      · have h4' : ((16 : Int) < (n4 : Int) + (n8 : Int)) = False := by simp; omega
        (repeat ((refine WL.op ?_ ?_; (first | exact rfl | (simp [Region.wanted, yielded, *] <;> done)); intro K hK; (first | ((((with_reducible apply ow_move); exact rfl)); (go_simp <;> (try simp (disch := omega) only [wrap_id, sub_left, zac]) <;> rfl)) | ((with_reducible apply ow_eval); (go_simp <;> (try simp (disch := omega) only [wrap_id, sub_left, zac]) <;> rfl); ((with_reducible apply up_value)))); refine WL.next hK (by simp only [Act.put, zpt, zsz, zss]; exact rfl) ?_; clear hK K)))
        (try refine WL.nil ?_)
        go_wp2_with (refine WL.out ?_; (repeat ((refine WL.op ?_ ?_; (exact rfl); intro K hK; (first | ((first | ((with_reducible apply ow_move); exact rfl) | ((with_reducible apply ow_assign); exact rfl)); (go_simp <;> (try simp (disch := omega) only [wrap_id, sub_left, zac]) <;> rfl)) | ((((with_reducible apply ow_loadN st); exact rfl; exact inferInstance; exact rfl; (exact get4); ((try simp only [zta, ztz, zda, zdz, zca, zcn, zan, zsz, zss]) <;> exact rfl))); exact rfl) | ((first | ((with_reducible apply ow_store1' st); exact rfl; exact inferInstance; exact rfl; (exact get4); (go_simp <;> (try simp (disch := omega) only [wrap_id, sub_left, zac]) <;> rfl)) | ((with_reducible apply ow_storeN' st); exact rfl; exact inferInstance; exact rfl; (exact get5); exact rfl)); exact rfl; exact rfl; (simp <;> done); ((try simp only [zta, ztz, zda, zdz, zca, zcn, zan, zsz, zss]) <;> exact rfl); (try clear st); intro w' st) | ((with_reducible apply ow_eval); (go_simp <;> (try simp (disch := omega) only [wrap_id, sub_left, zac]) <;> rfl); first | (with_reducible apply up_value) | ((with_reducible apply up_enter); first | (go_at_call 29; refine (rCanonical_any _ _ _ _ X _ (St.aces st (i := 0) rfl) (Nat.le_refl _) (by omega) hFX).mono ?_; rintro e w' ⟨A5, n5, c5, rfl, st'⟩; replace st := st.join st'; clear st'; simp only [List.cons_append, List.nil_append] at st; refine ⟨_, rfl, ?_⟩) | (go_at_call 29; refine (rCanonical_any _ _ _ _ Y _ (St.aces st (i := 2) rfl) (Nat.le_refl _) (by omega) hFY).mono ?_; rintro e w' ⟨A6, n6, c6, rfl, st'⟩; replace st := st.join st'; clear st'; simp only [List.cons_append, List.nil_append] at st; refine ⟨_, rfl, ?_⟩)))); refine WL.next hK (by simp only [Act.put, zpt, zsz, zss]; exact rfl) ?_; clear hK K))); (try refine WL.nil ?_))
        refine bodyPost_cell_tmp 5 st rfl inferInstance rfl rfl rfl rfl rfl ?_
        rw [hR.out, if_pos ⟨by have := x1.out; omega, by have := y1.out; omega⟩]
        exact ⟨_, _, _, _, _, _, rfl, st.swap.sub (.cons_cons _ (.cons_cons _ (List.nil_sublist _)))⟩
      · (repeat ((refine WL.op ?_ ?_; (first | exact rfl | (simp [Region.wanted, yielded, *] <;> done)); intro K hK; (first | ((((with_reducible apply ow_move); exact rfl)); (go_simp <;> (try simp (disch := omega) only [wrap_id, sub_left, zac]) <;> rfl)) | ((with_reducible apply ow_eval); (go_simp <;> (try simp (disch := omega) only [wrap_id, sub_left, zac]) <;> rfl); ((with_reducible apply up_value)))); refine WL.next hK (by simp only [Act.put, zpt, zsz, zss]; exact rfl) ?_; clear hK K)))
        (try refine WL.nil ?_)
        go_wp2_with (refine WL.out ?_; (repeat ((refine WL.op ?_ ?_; (exact rfl); intro K hK; (first | ((((with_reducible apply ow_assign); exact rfl)); (go_simp <;> (try simp (disch := omega) only [wrap_id, sub_left, zac]) <;> rfl)) | ((((with_reducible apply ow_storeN' st); exact rfl; exact inferInstance; exact rfl; (exact get3); exact rfl)); exact rfl; exact rfl; (simp <;> done); ((try simp only [zta, ztz, zda, zdz, zca, zcn, zan, zsz, zss]) <;> exact rfl); (try clear st); intro w' st) | ((with_reducible apply ow_eval); (go_simp <;> (try simp (disch := omega) only [wrap_id, sub_left, zac]) <;> rfl); ((with_reducible apply up_value)))); refine WL.next hK (by simp only [Act.put, zpt, zsz, zss]; exact rfl) ?_; clear hK K))); (try refine WL.nil ?_))
        refine bodyPost_cell_tmp 3 st rfl inferInstance rfl rfl rfl rfl rfl ?_
        rw [hR.out, if_neg (by have := y1.out; omega)]
        exact ⟨none, 0, 0, none, 0, 0, rfl, ((st.sub (List.nil_sublist _)).nilRow _ _).nilRow _ _⟩
    · (repeat (first | (refine WL.op ?_ ?_; (exact rfl); intro K hK; (((with_reducible apply ow_eval); (go_simp <;> (try simp (disch := omega) only [wrap_id, sub_left, zac]) <;> rfl); ((with_reducible apply up_value)))); refine WL.next hK (by simp only [Act.put, zpt, zsz, zss]; exact rfl) ?_; clear hK K) | (refine WL.skip ?_ (by simp only [Act.put, zpt, zsz, zss]; exact rfl) ?_; ((simp [Region.wanted, yielded] <;> omega)))))
      (try refine WL.nil ?_)
      go_wp2_with (refine WL.out ?_; (repeat ((refine WL.op ?_ ?_; (exact rfl); intro K hK; (first | ((((with_reducible apply ow_assign); exact rfl)); (go_simp <;> (try simp (disch := omega) only [wrap_id, sub_left, zac]) <;> rfl)) | ((((with_reducible apply ow_storeN' st); exact rfl; exact inferInstance; exact rfl; (exact get3); exact rfl)); exact rfl; exact rfl; (simp <;> done); ((try simp only [zta, ztz, zda, zdz, zca, zcn, zan, zsz, zss]) <;> exact rfl); (try clear st); intro w' st) | ((with_reducible apply ow_eval); (go_simp <;> (try simp (disch := omega) only [wrap_id, sub_left, zac]) <;> rfl); ((with_reducible apply up_value)))); refine WL.next hK (by simp only [Act.put, zpt, zsz, zss]; exact rfl) ?_; clear hK K))); (try refine WL.nil ?_))
      refine bodyPost_cell_tmp 3 st rfl inferInstance rfl rfl rfl rfl rfl ?_
      rw [hR.out, if_neg (by have := x1.out; omega)]
      exact ⟨none, 0, 0, none, 0, 0, rfl, ((st.sub (List.nil_sublist _)).nilRow _ _).nilRow _ _⟩
theorem rChild_any (o g : Int) (p h : Bool) (le la : List L.Ace) (o' g' : Int) (p' h' : Bool) (le' la' : List L.Ace) (dir : Bool) (A1 A2 A1' A2' : Option Addr) (n1 n2 n1' n2' c1 c2 c1' c2' B : Nat) (w : World)
    (h1 : Aces w B A1 n1 le) (h2 : Aces w B A2 n2 la) (h1' : Aces w B A1' n1' le') (h2' : Aces w B A2' n2' la') (hB1 : B ≤ w.heap.size) (hn1 : n1 ≤ 20) (hn2 : n2 ≤ 20) (hn1' : n1' ≤ 20) (hn2' : n2' ≤ 20) (hg1 : L.Good le) (hg2 : L.Good la) (hg1' : L.Good le') (hg2' : L.Good la') :
    Calls Tryd.prog 24 #[.agg #[.int .i64 o', .int .i64 g', .bool p', .bool h', .slice A1' n1' c1', .slice A2' n2' c2'], .agg #[.int .i64 o, .int .i64 g, .bool p, .bool h, .slice A1 n1 c1, .slice A2 n2 c2], .bool dir] w
      (RetDescOk w (L.rChild ⟨o', g', p', h', le', la'⟩ ⟨o, g, p, h, le, la⟩ dir)) := by
  cases p with
  | true => exact rChild_true o g h le la o' g' p' h' le' la' dir A1 A2 A1' A2' n1 n2 n1' n2' c1 c2 c1' c2' B w h1 h2 h1' h2' hB1 hn1 hn2 hn1' hn2' hg1 hg2 hg1' hg2'
  | false => exact rChild_false o g h le la o' g' p' h' le' la' dir A1 A2 A1' A2' n1 n2 n1' n2' c1 c2 c1' c2' B w h1 h2 h1' h2' hB1 hn1 hn2 hn1' hn2' hg1 hg2 hg1' hg2'
end Go.Proofs.YtppjhccdgbheiaaDoor
namespace Go.Proofs.YtppjhccdgbheiaaDoor
open Go.RowKit Go.Hp
namespace L
theorem below_eq (dir : Bool) {o g : Int} (p : Bool) (ho : o ≠ 2 ∧ o ≠ 3) (hg : g ≠ 2 ∧ g ≠ 3) {own above : List Ace} (h1 : FOk own) (h2 : FOk above) : below dir o g p own above = rBelow dir o g p own above := by
  unfold below rBelow explicit
  rw [inherited_eq dir ho hg h2, List.filter_congr fun a ha => by rw [show inh a = has a.f 16 from band16 (h1 a ha).1 (h1 a ha).2]]
theorem F_append (l m : List Ace) (i : Int) : F (l ++ m) i = F l i ++ F m i := by unfold F; rw [List.filter_append]
theorem F_F (l : List Ace) (i j : Int) : F (F l i) j = if i = j then F l i else [] := by
  split
  · rename_i h
    exact List.filter_eq_self.2 fun a ha => by rw [F_rk ha]; simpa using h
  · rename_i h
    exact List.filter_eq_nil_iff.2 fun a ha => by rw [F_rk ha]; simpa using h
theorem F_canon (l : List Ace) {i : Int} (hi : i = 0 ∨ i = 1 ∨ i = 2 ∨ i = 3) : F (canon l) i = F l i := by
  rw [canon_four, F_append, F_append, F_append, F_F, F_F, F_F, F_F]
  rcases hi with rfl | rfl | rfl | rfl <;> simp
theorem canon_canon (l : List Ace) : canon (canon l) = canon l := by
  rw [canon_four (canon l), F_canon l (.inl rfl), F_canon l (.inr (.inl rfl)), F_canon l (.inr (.inr (.inl rfl))), F_canon l (.inr (.inr (.inr rfl))), ← canon_four]
theorem canon_left (l m : List Ace) : canon (canon l ++ m) = canon (l ++ m) := by
  rw [canon_four (canon l ++ m), canon_four (l ++ m)]
  simp only [F_append]
  rw [F_canon l (.inl rfl), F_canon l (.inr (.inl rfl)), F_canon l (.inr (.inr (.inl rfl))), F_canon l (.inr (.inr (.inr rfl)))]
theorem F_explicit (l : List Ace) (i : Int) : F (explicit l) i = explicit (F l i) := by
  unfold F explicit
  rw [List.filter_filter, List.filter_filter]
  exact List.filter_congr fun a _ => Bool.and_comm _ _
theorem explicit_append (l m : List Ace) : explicit (l ++ m) = explicit l ++ explicit m := by unfold explicit; rw [List.filter_append]
theorem explicit_canon (l : List Ace) : explicit (canon l) = canon (explicit l) := by
  rw [canon_four, canon_four]
  simp only [explicit_append, F_explicit]
theorem explicit_explicit (l : List Ace) : explicit (explicit l) = explicit l := by
  unfold explicit
  rw [List.filter_filter]
  exact List.filter_congr fun a _ => Bool.and_self _
theorem has16 {f : Int} (h0 : 16 ≤ f) (h1 : f ≤ 31) : has f 16 = true := by
  unfold has
  rw [beq_iff_eq]
  omega
theorem inh1_f {dir fi di sp : Bool} {who : Int} {a x : Ace} (hx : x ∈ inh1 dir fi di sp who a) : 16 ≤ x.f ∧ x.f ≤ 31 := by
  have hb := onOf_bounds fi true sp
  cases dir <;> cases di <;> simp only [inh1] at hx
  · split at hx
    · rw [List.mem_singleton.1 hx]; exact ⟨by show (16 : Int) ≤ 16; decide, by show (16 : Int) ≤ 31; decide⟩
    · cases hx
  · split at hx
    · rw [List.mem_singleton.1 hx]; exact ⟨by show (16 : Int) ≤ 16; decide, by show (16 : Int) ≤ 31; decide⟩
    · cases hx
  · split at hx
    · rw [List.mem_singleton.1 hx]; exact ⟨by show (16 : Int) ≤ 25; decide, by show (25 : Int) ≤ 31; decide⟩
    · cases hx
  · split at hx
    · rw [List.mem_singleton.1 hx]; exact ⟨by show (16 : Int) ≤ 16 + onOf fi true sp; omega, by show 16 + onOf fi true sp ≤ (31 : Int); omega⟩
    · rcases List.mem_cons.1 hx with rfl | hx
      · exact ⟨by show (16 : Int) ≤ 16; decide, by show (16 : Int) ≤ 31; decide⟩
      · rw [List.mem_singleton.1 hx]; exact ⟨by show (16 : Int) ≤ 16 + onOf fi true sp + 8; omega, by show 16 + onOf fi true sp + 8 ≤ (31 : Int); omega⟩
theorem inh1_kmw {dir fi di sp : Bool} {who : Int} {a x : Ace} (hx : x ∈ inh1 dir fi di sp who a) : x.k = a.k ∧ x.m = a.m ∧ (x.w = a.w ∨ x.w = who) := by
  cases dir <;> cases di <;> simp only [inh1] at hx
  · split at hx
    · rw [List.mem_singleton.1 hx]; exact ⟨rfl, rfl, .inr rfl⟩
    · cases hx
  · split at hx
    · rw [List.mem_singleton.1 hx]; exact ⟨rfl, rfl, .inr rfl⟩
    · cases hx
  · split at hx
    · rw [List.mem_singleton.1 hx]; exact ⟨rfl, rfl, .inl rfl⟩
    · cases hx
  · split at hx
    · rw [List.mem_singleton.1 hx]; exact ⟨rfl, rfl, .inr rfl⟩
    · rcases List.mem_cons.1 hx with rfl | hx
      · exact ⟨rfl, rfl, .inr rfl⟩
      · rw [List.mem_singleton.1 hx]; exact ⟨rfl, rfl, .inl rfl⟩
theorem explicit_inherited (dir : Bool) (o g : Int) (l : List Ace) : explicit (rInherited dir o g l) = [] := by
  refine List.filter_eq_nil_iff.2 fun x hx => ?_
  obtain ⟨a, _, hx⟩ := List.mem_flatMap.1 hx
  have h := inh1_f hx
  rw [has16 h.1 h.2]
  simp
theorem rBelow_again (dir : Bool) (o g : Int) (p : Bool) (own above : List Ace) : canon (rBelow dir o g p (canon (rBelow dir o g p own above)) above) = canon (rBelow dir o g p own above) ∧
    (rBelow dir o g p (canon (rBelow dir o g p own above)) above).length = (rBelow dir o g p own above).length := by
  have e : explicit (canon (rBelow dir o g p own above)) = canon (explicit own) := by
    rw [explicit_canon]
    unfold rBelow
    rw [explicit_append, explicit_explicit]
    split
    · rw [show explicit [] = [] from rfl, List.append_nil]
    · rw [explicit_inherited, List.append_nil]
  have e2 : rBelow dir o g p (canon (rBelow dir o g p own above)) above = canon (explicit own) ++ if p then [] else rInherited dir o g above := by
    rw [← e]; rfl
  refine ⟨?_, ?_⟩
  · rw [e2, canon_left]; rfl
  · rw [e2, List.length_append, canon_length, ← List.length_append]; rfl
structure Desc.Valid (d : Desc) : Prop where
  pair : rPairErr d.o d.g = 0
  le : d.e.length ≤ 16
  la : d.a.length ≤ 16
  form : d.h = false → d.e = []
  e : ∀ a ∈ d.e, rErr a = 0 ∧ a.k ≠ 2
  a : ∀ a ∈ d.a, rErr a = 0 ∧ a.k = 2
theorem rAuditErr_zero {n i : Nat} {a : Ace} (h : rAuditErr n i a = 0) : rErr a = 0 ∧ (a.k == 2) = decide (n ≤ i) := by
  unfold rAuditErr at h
  split at h
  · rename_i h0
    refine ⟨h0, ?_⟩
    split at h
    · cases h
    · rename_i h1; simpa using h1
  · rename_i h0; exact absurd h h0
theorem Desc.valid_of {d : Desc} (h : d.rErrs.2 = 0) : d.Valid := by
  unfold Desc.rErrs at h
  by_cases h0 : rPairErr d.o d.g = 0
  · rw [if_pos h0] at h
    by_cases h1 : 16 < d.e.length ∨ 16 < d.a.length
    · rw [if_pos h1] at h; cases h
    · rw [if_neg h1] at h
      by_cases h2 : 0 < d.e.length ∧ d.h = false
      · rw [if_pos h2] at h; cases h
      · rw [if_neg h2] at h
        have hz := each_zero _ 0 _ h
        refine ⟨h0, by omega, by omega, fun hh => ?_, fun a ha => ?_, fun a ha => ?_⟩
        · exact List.eq_nil_of_length_eq_zero (by rcases Nat.eq_zero_or_pos d.e.length with h3 | h3; exact h3; exact absurd ⟨h3, hh⟩ h2)
        · obtain ⟨j, hj⟩ := List.mem_iff_getElem?.1 ha
          have hjl := (List.getElem?_eq_some_iff.1 hj).1
          have := rAuditErr_zero (hz j a (by rw [List.getElem?_append_left hjl]; exact hj))
          refine ⟨this.1, fun hk => ?_⟩
          have h4 := this.2
          rw [hk, decide_eq_false (by omega)] at h4
          cases h4
        · obtain ⟨j, hj⟩ := List.mem_iff_getElem?.1 ha
          have := rAuditErr_zero (hz (d.e.length + j) a (by rw [List.getElem?_append_right (by omega), Nat.add_sub_cancel_left]; exact hj))
          refine ⟨this.1, ?_⟩
          have h4 := this.2
          rw [decide_eq_true (by omega)] at h4
          simpa using h4
  · rw [if_neg h0] at h; exact absurd h h0
theorem each_ok (E : Nat → Ace → Int) : ∀ (i : Nat) (l : List Ace), (∀ j a, l[j]? = some a → E (i + j) a = 0) → each E i l = (0, 0)
  | i, [], _ => rfl
  | i, b :: l, h => by
    have h0 : E i b = 0 := h 0 b rfl
    unfold each
    rw [if_pos h0]
    exact each_ok E (i + 1) l fun j a hj => by rw [show i + 1 + j = i + (j + 1) by omega]; exact h (j + 1) a (by simpa using hj)
theorem Desc.Valid.errs {d : Desc} (h : d.Valid) : d.rErrs = (0, 0) := by
  unfold Desc.rErrs
  rw [if_pos h.pair, if_neg (by have := h.le; have := h.la; omega), if_neg (fun h2 => by have := h.form h2.2; rw [this] at h2; simp at h2)]
  refine each_ok _ 0 _ fun j a hj => ?_
  unfold rAuditErr
  rcases Nat.lt_or_ge j d.e.length with hl | hl
  · rw [List.getElem?_append_left hl] at hj
    have := h.e a (List.mem_of_getElem? hj)
    rw [if_pos this.1, if_neg]
    have h3 : (a.k == 2) = false := by simpa using this.2
    rw [h3, decide_eq_false (by omega)]
    decide
  · rw [List.getElem?_append_right hl] at hj
    have := h.a a (List.mem_of_getElem? hj)
    rw [if_pos this.1, if_neg]
    have h3 : (a.k == 2) = true := by simpa using this.2
    rw [h3, decide_eq_true (by omega)]
    decide
theorem rErr_parts {a : Ace} : rErr a = 0 ↔ within a.k 0 2 = true ∧ within a.f 0 31 = true ∧ within a.m 1 511 = true ∧ isWho a.w = true := by
  unfold rErr rAceErr
  cases within a.k 0 2 <;> cases within a.f 0 31 <;> cases within a.m 1 511 <;> cases isWho a.w <;> simp
theorem rHolder_who {n : Int} (h : rHolder n = true) : isWho n = true := by
  simp [rHolder, isWho, isUser, within] at h ⊢
  omega
theorem pair_holders {o g : Int} (h : rPairErr o g = 0) : rHolder o = true ∧ rHolder g = true := by
  unfold rPairErr at h
  cases h1 : rHolder o <;> cases h2 : rHolder g <;> rw [h1, h2] at h <;> simp at h ⊢
theorem holder_who {who o g : Int} (h : isWho who = true) (ho : rHolder o = true) (hg : rHolder g = true) : isWho (holder who o g) = true := by
  unfold holder
  split
  · exact rHolder_who ho
  · split
    · exact rHolder_who hg
    · exact h
theorem rBelow_ok (dir : Bool) {o g : Int} (p : Bool) {own above : List Ace} (q : Int → Prop) (hp : rPairErr o g = 0) (h1 : ∀ a ∈ own, rErr a = 0 ∧ q a.k) (h2 : ∀ a ∈ above, rErr a = 0 ∧ q a.k) : ∀ a ∈ rBelow dir o g p own above, rErr a = 0 ∧ q a.k := by
  intro x hx
  unfold rBelow at hx
  rcases List.mem_append.1 hx with hx | hx
  · exact h1 x (List.mem_filter.1 hx).1
  · split at hx
    · cases hx
    · obtain ⟨a, ha, hx⟩ := List.mem_flatMap.1 hx
      obtain ⟨h3, h4⟩ := h2 a ha
      have hf := inh1_f hx
      obtain ⟨e1, e2, e3⟩ := inh1_kmw hx
      obtain ⟨p1, p2⟩ := pair_holders hp
      obtain ⟨a1, a2, a3, a4⟩ := rErr_parts.1 h3
      refine ⟨rErr_parts.2 ⟨by rw [e1]; exact a1, ?_, by rw [e2]; exact a3, ?_⟩, by rw [e1]; exact h4⟩
      · unfold within
        rw [decide_eq_true (by omega), decide_eq_true (by omega)]; rfl
      · rcases e3 with e3 | e3
        · rw [e3]; exact a4
        · rw [e3]; exact holder_who a4 p1 p2
theorem rChild_valid {above own : Desc} (dir : Bool) (h1 : above.Valid) (h2 : own.Valid) (hok : (rChild above own dir).2 = true) : (rChild above own dir).1.Valid := by
  unfold rChild at hok ⊢
  split at hok
  · rename_i hl
    rw [if_pos hl]
    refine ⟨h2.pair, by rw [canon_length]; exact hl.1, by rw [canon_length]; exact hl.2, fun hh => ?_, fun a ha => ?_, fun a ha => ?_⟩
    · simp only [Bool.or_eq_false_iff, Bool.and_eq_false_iff, Bool.not_eq_false'] at hh
      refine List.eq_nil_of_length_eq_zero ?_
      rw [canon_length]
      unfold rBelow
      rw [h2.form hh.1]
      rcases hh.2 with h3 | h3
      · rw [h1.form h3]; cases own.p <;> rfl
      · rw [h3]; rfl
    · exact rBelow_ok dir own.p (fun k => k ≠ 2) h2.pair h2.e h1.e a (canon_mem.1 ha)
    · exact rBelow_ok dir own.p (fun k => k = 2) h2.pair h2.a h1.a a (canon_mem.1 ha)
  · cases hok
theorem rChild_again {above own : Desc} (dir : Bool) (hok : (rChild above own dir).2 = true) : rChild above (rChild above own dir).1 dir = rChild above own dir := by
  unfold rChild at hok
  split at hok
  · rename_i hl
    have e : rChild above own dir = (⟨own.o, own.g, own.p, own.h || (above.h && !own.p), canon (rBelow dir own.o own.g own.p own.e above.e), canon (rBelow dir own.o own.g own.p own.a above.a)⟩, true) := by
      unfold rChild; rw [if_pos hl]
    rw [e]
    have a1 := rBelow_again dir own.o own.g own.p own.e above.e
    have a2 := rBelow_again dir own.o own.g own.p own.a above.a
    unfold rChild
    simp only [a1.1, a2.1, a1.2, a2.2]
    rw [if_pos hl]
    cases own.h <;> cases above.h <;> cases own.p <;> rfl
  · cases hok
theorem child_eq {above own : Desc} (dir : Bool) (h1 : above.Valid) (h2 : own.Valid) : child above own dir = ((rChild above own dir).1, if (rChild above own dir).2 then 0 else 16) := by
  have g : ∀ {l : List Ace}, (∀ a ∈ l, rErr a = 0) → FOk l := fun h a ha => by
    obtain ⟨_, hf, _⟩ := rErr_parts.1 (h a ha)
    simp only [within, Bool.and_eq_true, decide_eq_true_eq] at hf
    exact hf
  have hp := pair_ne h2.pair
  unfold child rChild
  rw [below_eq dir own.p hp.1 hp.2 (g fun a ha => (h2.e a ha).1) (g fun a ha => (h1.e a ha).1), below_eq dir own.p hp.1 hp.2 (g fun a ha => (h2.a a ha).1) (g fun a ha => (h1.a a ha).1)]
  split <;> rfl
theorem childOf_eq {above own : Desc} (dir : Bool) (h1 : above.Valid) (h2 : own.Valid) : childOf above own dir = ((rChild above own dir).1, if (rChild above own dir).2 then 0 else 16) := by
  have e1 : above.err.2 = 0 := by rw [Desc.err_eq, h1.errs]
  have e2 : own.err.2 = 0 := by rw [Desc.err_eq, h2.errs]
  unfold childOf
  rw [e1, e2, if_pos (show firstErr [0, 0] = 0 from rfl), child_eq dir h1 h2]
theorem childOf_err1 {above own : Desc} (dir : Bool) (h : above.rErrs.2 ≠ 0) : childOf above own dir = (Desc.none, above.rErrs.2) := by
  have e : firstErr [above.err.2, own.err.2] = above.rErrs.2 := by
    rw [Desc.err_eq]
    unfold firstErr
    rw [List.find?_cons_of_pos (by simpa using h)]
    rfl
  unfold childOf
  rw [e, if_neg h]
theorem childOf_err2 {above own : Desc} (dir : Bool) (h : above.rErrs.2 = 0) (h2 : own.rErrs.2 ≠ 0) : childOf above own dir = (Desc.none, own.rErrs.2) := by
  have e : firstErr [above.err.2, own.err.2] = own.rErrs.2 := by
    rw [Desc.err_eq, Desc.err_eq, h]
    unfold firstErr
    rw [List.find?_cons_of_neg (by simp), List.find?_cons_of_pos (by simpa using h2)]
    rfl
  unfold childOf
  rw [e, if_neg h2]
end L
end Go.Proofs.YtppjhccdgbheiaaDoor
namespace Go.Proofs.YtppjhccdgbheiaaDoor
open Go.RowKit Go.Hp
namespace L
theorem acesErr_of {m : List Ace} (hl : m.length ≤ 16) (h : ∀ a ∈ m, aErr a = 0) : acesErr m = 0 := by
  unfold acesErr
  rw [if_neg (by omega), each_ok _ 0 m fun j a hj => h a (List.mem_of_getElem? hj)]
theorem acesErr_all {l : List Ace} (h : acesErr l = 0) : ∀ a ∈ l, aErr a = 0 := by
  have hl := acesErr_len h
  unfold acesErr at h
  rw [if_neg (by omega)] at h
  intro a ha
  obtain ⟨j, hj⟩ := List.mem_iff_getElem?.1 ha
  exact each_zero _ 0 l h j a hj
theorem acesErr_canon {l : List Ace} (h : acesErr l = 0) : acesErr (canon l) = 0 :=
  acesErr_of (by rw [canon_length]; exact acesErr_len h) fun a ha => acesErr_all h a (canon_mem.1 ha)
theorem canon_is (l : List Ace) : rSorted (canon l) = true := by
  unfold rSorted rSortedFrom
  rw [List.all_eq_true]
  intro i hi
  have hi' := List.mem_range.1 hi
  have hs := List.pairwise_iff_getElem.1 (canon_sorted l) i (1 + i) (by omega) (by omega) (by omega)
  rw [ax_eq _ _ (by omega), ax_eq _ (1 + i - 1) (by omega)]
  have e : (canon l)[1 + i - 1]'(by omega) = (canon l)[i]'(by omega) := by congr 1; omega
  rw [e]
  simp
  omega
end L
theorem CanonicalOf_at {l m : List L.Ace} {E : Int} (h : L.canonicalOf l = (m, E)) (A : Option Addr) (n c B : Nat) (w : World) (h1 : Aces w B A n l) (hB1 : B ≤ w.heap.size) (hn : n ≤ 100) :
    Calls Tryd.prog 26 #[.slice A n c] w fun e w' => ∃ A n c, e = .returned (.tuple #[.slice A n c, .int .i64 E]) ∧ St w w' [aceRow (.slice A n c) n m] := by
  show Calls Tryd.prog 26 _ w (RetAcesErr w (m, E))
  rw [← h]
  exact CanonicalOf_any A n c B l w h1 hB1 hn
theorem MergedOf_at {l m : List L.Ace} {E : Int} (h : L.mergedOf l = (m, E)) (A : Option Addr) (n c B : Nat) (w : World) (h1 : Aces w B A n l) (hB1 : B ≤ w.heap.size) (hn : n ≤ 100) :
    Calls Tryd.prog 27 #[.slice A n c] w fun e w' => ∃ A n c, e = .returned (.tuple #[.slice A n c, .int .i64 E]) ∧ St w w' [aceRow (.slice A n c) n m] := by
  show Calls Tryd.prog 27 _ w (RetAcesErr w (m, E))
  rw [← h]
  exact MergedOf_any A n c B l w h1 hB1 hn
set_option maxRecDepth 8000 in
set_option maxHeartbeats 4000000 in
theorem AclOrders_any (A : Option Addr) (n c B : Nat) (l : List L.Ace) (w : World) (h1 : Aces w B A n l) (hB1 : B ≤ w.heap.size) (hm : n ≤ maxLen) :
    Calls Tryd.prog 6 #[.slice A n c] w fun e w' => e = .returned (.bool true) ∧ Below w.heap.size w w' := by
  have e1 := Lib.hid h1.len
  have H1 := Lib.hid h1
  clear h1
  unfold maxLen at hm
  have st := St.start w
  by_cases hn : n ≤ 20
  · by_cases ha : L.rAcesErr l = 0
    · have ha2 : L.acesErr l = 0 := by rw [L.acesErr_eq]; exact ha
      have HF := Lib.hid (L.acesErr_good ha2).fok
      have HF2 := Lib.hid (fun (a : L.Ace) (h : a ∈ l) => HF.out a h)
      have HFC := Lib.hid (fun (a : L.Ace) (h : a ∈ L.canon l) => HF.out a (L.canon_mem.1 h))
      have HI : Hid (L.isCanonical l = (L.rSorted l, 0)) := Lib.hid (by unfold L.isCanonical; rw [if_pos ha2])
      have HC : Hid (L.canonicalOf l = (L.canon l, 0)) := Lib.hid (by unfold L.canonicalOf; rw [if_pos ha2])
      have HC2 : Hid (L.canonicalOf (L.canon l) = (L.canon l, 0)) := Lib.hid (by unfold L.canonicalOf; rw [if_pos (L.acesErr_canon ha2), L.canon_canon])
      have HM : Hid (L.mergedOf l = (L.merged l, 0)) := Lib.hid (by unfold L.mergedOf; rw [if_pos ha2])
      have HSC := Lib.hid (L.canon_is l)
      have HLC : Hid ((L.canon l).length ≤ 16) := Lib.hid (by rw [L.canon_length]; exact L.acesErr_len ha2)
      have HLM : Hid ((L.merged l).length ≤ 16) := Lib.hid (Nat.le_trans (L.merged_len l) (L.acesErr_len ha2))
      have HD := Lib.hid (L.merged_distinct l)
      have HA := Lib.hid ha
      clear ha ha2
      go_enter Tryd.func6, Tryd.ntmps6
      go_wp2_with (refine WL.out ?_; (repeat ((refine WL.op ?_ ?_; (exact rfl); intro K hK; (first | ((first | ((with_reducible apply ow_move); exact rfl) | ((with_reducible apply ow_assign); exact rfl)); (go_simp <;> (try simp (disch := omega) only [wrap_id, sub_left, zac]) <;> rfl)) | ((with_reducible apply ow_eval); (go_simp <;> (try simp (disch := omega) only [wrap_id, sub_left, zac]) <;> rfl); first | (with_reducible apply up_value) | ((with_reducible apply up_enter); first | (go_at_call 8; refine (awake_any _).mono ?_; rintro e w' ⟨rfl, hb⟩; replace st := st.call hb; clear hb; refine ⟨_, rfl, ?_⟩) | (go_at_call 16; ((with_reducible refine (CopyAces_any A n c B l _ (H1.out.st st hB1) (Nat.le_trans hB1 st.size) (by omega)).mono ?_); rintro e w' ⟨A3, n3, c3, rfl, st'⟩; have l3 := Lib.hid (St.len st' (i := 0) rfl); have h3 : n3 ≤ 20 := (by have := l3.out; have := e1.out; omega); replace st := st.join st'; clear st'; simp only [List.cons_append, List.nil_append] at st; refine ⟨_, rfl, ?_⟩)) | (go_at_call 25; refine (IsCanonical_any _ _ _ _ l _ (St.aces st (i := 0) rfl) (Nat.le_refl _) (by omega)).mono ?_; rw [HI.out]; rintro e w' ⟨rfl, hb⟩; replace st := (st.call hb).tail; clear hb; refine ⟨_, rfl, ?_⟩) | (go_at_call 26; (with_reducible refine (CanonicalOf_at HC.out _ _ _ _ _ (St.aces st (i := 0) rfl) (Nat.le_refl _) (by omega)).mono ?_); rintro e w' ⟨A4, n4, c4, rfl, st'⟩; have l4 := Lib.hid (St.len st' (i := 0) rfl); replace st := st.join st'; clear st'; simp only [List.cons_append, List.nil_append] at st; have h4 : n4 ≤ 16 := (by have := l4.out; have := HLC.out; omega); replace st := st.sub (.cons_cons _ (List.nil_sublist _)); refine ⟨_, rfl, ?_⟩) | (go_at_call 27; refine (MergedOf_at HM.out _ _ _ _ _ (St.aces st (i := 0) rfl) (Nat.le_refl _) (by omega)).mono ?_; rintro e w' ⟨A5, n5, c5, rfl, st'⟩; have l5 := Lib.hid (St.len st' (i := 0) rfl); replace st := st.join st'; clear st'; simp only [List.cons_append, List.nil_append] at st; have h5 : n5 ≤ 16 := (by have := l5.out; have := HLM.out; omega); replace st := st.sub (.cons_cons _ (.cons _ (.cons_cons _ (List.nil_sublist _)))); refine ⟨_, rfl, ?_⟩) | (go_at_call 17; refine (AcesErr_any A n c B l _ (H1.out.st st hB1) (Nat.le_trans hB1 st.size) (by omega)).mono ?_; rw [HA.out]; rintro e w' ⟨rfl, hb⟩; replace st := st.call hb; clear hb; refine ⟨_, rfl, ?_⟩) | (go_at_call 28; ((with_reducible refine (rIsCanonical_any A n c B l _ (H1.out.st st hB1) (Nat.le_trans hB1 st.size) (by omega) HF2.out).mono ?_); rintro e w' ⟨rfl, hb⟩; replace st := st.call hb; clear hb; refine ⟨_, rfl, ?_⟩)) | (go_at_call 29; refine (rCanonical_any A n c B l _ (H1.out.st st hB1) (Nat.le_trans hB1 st.size) (by omega) HF.out).mono ?_; rintro e w' ⟨A6, n6, c6, rfl, st'⟩; have l6 := Lib.hid (St.len st' (i := 0) rfl); have h6 : n6 ≤ 16 := (by have := l6.out; have := HLC.out; omega); replace st := st.join st'; clear st'; simp only [List.cons_append, List.nil_append] at st; refine ⟨_, rfl, ?_⟩) | (go_at_call 20; ((with_reducible refine (SameAces_any A4 A6 n4 n6 c4 c6 _ _ _ _ _ (St.aces st (i := 2) rfl) (St.aces st (i := 0) rfl) (Nat.le_refl _) (Nat.le_refl _) (by omega) (by omega)).mono ?_); rintro e w' ⟨rfl, hb⟩; replace st := (st.call hb).tail; clear hb; rw [L.same_refl]; refine ⟨_, rfl, ?_⟩)) | (go_at_call 30; refine (rMerged_any A n c B l _ (H1.out.st st hB1) (Nat.le_trans hB1 st.size) (by omega)).mono ?_; rintro e w' ⟨A7, n7, c7, rfl, st'⟩; have l7 := Lib.hid (St.len st' (i := 0) rfl); have h7 : n7 ≤ 16 := (by have := l7.out; have := HLM.out; omega); replace st := st.join st'; clear st'; simp only [List.cons_append, List.nil_append] at st; refine ⟨_, rfl, ?_⟩) | (go_at_call 20; ((with_reducible refine (SameAces_any A5 A7 n5 n7 c5 c7 _ _ _ _ _ (St.aces st (i := 1) rfl) (St.aces st (i := 0) rfl) (Nat.le_refl _) (Nat.le_refl _) (by omega) (by omega)).mono ?_); rintro e w' ⟨rfl, hb⟩; replace st := (st.call hb).tail; clear hb; rw [L.same_refl]; refine ⟨_, rfl, ?_⟩)) | (go_at_call 16; ((with_reducible refine (CopyAces_any A4 n4 c4 _ (L.canon l) _ (St.aces st (i := 1) rfl) (Nat.le_refl _) (by omega)).mono ?_); rintro e w' ⟨A8, n8, c8, rfl, st'⟩; have l8 := Lib.hid (St.len st' (i := 0) rfl); have h8 : n8 ≤ 16 := (by have := l8.out; have := HLC.out; omega); replace st := st.join st'; clear st'; simp only [List.cons_append, List.nil_append] at st; refine ⟨_, rfl, ?_⟩)) | (go_at_call 26; (with_reducible refine (CanonicalOf_at HC2.out _ _ _ _ _ (St.aces st (i := 0) rfl) (Nat.le_refl _) (by omega)).mono ?_); rintro e w' ⟨A9, n9, c9, rfl, st'⟩; have l9 := Lib.hid (St.len st' (i := 0) rfl); replace st := st.join st'; clear st'; simp only [List.cons_append, List.nil_append] at st; have h9 : n9 ≤ 16 := (by have := l9.out; have := HLC.out; omega); replace st := st.sub (.cons_cons _ (.cons _ (.cons_cons _ (.cons_cons _ (List.nil_sublist _))))); refine ⟨_, rfl, ?_⟩) | (go_at_call 20; ((with_reducible refine (SameAces_any A9 A4 n9 n4 c9 c4 _ _ _ _ _ (St.aces st (i := 0) rfl) (St.aces st (i := 2) rfl) (Nat.le_refl _) (Nat.le_refl _) (by omega) (by omega)).mono ?_); rintro e w' ⟨rfl, hb⟩; replace st := (st.call hb).tail; clear hb; rw [L.same_refl]; refine ⟨_, rfl, ?_⟩)) | (go_at_call 28; ((with_reducible refine (rIsCanonical_any A4 n4 c4 _ (L.canon l) _ (St.aces st (i := 1) rfl) (Nat.le_refl _) (by omega) HFC.out).mono ?_); rw [HSC.out]; rintro e w' ⟨rfl, hb⟩; replace st := st.call hb; clear hb; refine ⟨_, rfl, ?_⟩))))); refine WL.next hK (by simp only [Act.put, zpt, zsz, zss]; exact rfl) ?_; clear hK K))); (try refine WL.nil ?_))
      replace st := st.sub (rs' := [_]) (.cons_cons _ (List.nil_sublist _))
      have hM2 := Lib.hid (rfl : L.merged l = L.merged l)
      generalize L.merged l = M at st HD l5 hM2
      clear hM2
      go_loopw [12] (fun i wr => ∃ q : Nat, q ≤ n5 ∧ i = .int .i64 q ∧ St w wr [aceRow (.slice A5 n5 c5) n5 M]) (fun i _ => n5 - (intOf i).toNat)
      case atStart => exact ⟨0, by omega, rfl, st⟩
      case round =>
        clear st
        obtain ⟨q, hq, rfl, st⟩ := hrel
        by_cases hlt : q < n5
        · go_wp2_with (refine WL.out ?_; (repeat ((refine WL.op ?_ ?_; (exact rfl); intro K hK; (((with_reducible apply ow_eval); (go_simp <;> (try simp (disch := omega) only [wrap_id, sub_left, zac]) <;> rfl); ((with_reducible apply up_value)))); refine WL.next hK (by simp only [Act.put, zpt, zsz, zss]; exact rfl) ?_; clear hK K))); (try refine WL.nil ?_))
          go_loopw [13] (fun i wr => ∃ r : Nat, r ≤ q ∧ i = .int .i64 r ∧ St w wr [aceRow (.slice A5 n5 c5) n5 M]) (fun i _ => q - (intOf i).toNat)
          case atStart => exact ⟨0, by omega, rfl, st⟩
          case round =>
            clear st
            obtain ⟨r, hr, rfl, st⟩ := hrel
            by_cases hrq : r < q
            · have hql : q < M.length := by rw [← l5.out]; exact hlt
              have hrl : r < M.length := by omega
              have hrn : r < n5 := by omega
              have hal : Hid (L.alike (L.ax M q) (L.ax M r) = false) := Lib.hid (by
                have := List.pairwise_iff_getElem.1 HD.out r q hrl hql hrq
                rw [← L.ax_eq M r hrl, ← L.ax_eq M q hql] at this
                cases h : L.alike (L.ax M q) (L.ax M r) with
                | false => rfl
                | true => rw [L.alike_symm h] at this; cases this)
              obtain ⟨g, R, rfl, hl, hcc, hnc, hcm, st⟩ := st.toBox (by omega)
              have HC := Lib.hid hcc
              clear hl hcc
              by_cases c1 : ((L.ax M q).k == (L.ax M r).k) = true
              · by_cases c2 : ((L.ax M q).f == (L.ax M r).f) = true
                · have c3 : ((L.ax M q).w == (L.ax M r).w) = false := by
                    cases h : ((L.ax M q).w == (L.ax M r).w) with
                    | false => rfl
                    | true =>
                      have := hal.out
                      unfold L.alike at this
                      rw [c1, c2, h] at this
                      cases this
                  go_wp2_with (refine WL.out ?_; (repeat ((refine WL.op ?_ ?_; (exact rfl); intro K hK; (((with_reducible apply ow_eval); (go_simp <;> (try simp (disch := omega) only [wrap_id, sub_left, zac]) <;> rfl); ((with_reducible apply up_value)))); refine WL.next hK (by simp only [Act.put, zpt, zsz, zss]; exact rfl) ?_; clear hK K))); (try refine WL.nil ?_))
                  refine wp_region_plan 37 (by kernel_rfl) (by kernel_rfl) ?_; replace st := st.drew; generalize World.drew _ = W at st ⊢
                  iterate 4 (apply Plan.val'; (focus (intro x0 x1 x2 x3 x4 x5 x6 x7 x8 x9 x10 x11 x12 x13 x14 x15 x16 x17 x18 x19 x20 x21 x22 x23 x24 x25 x26 x27 x28 x29 x30 x31 x32 x33 x34 x35 x36 w1 hb; (try simp only [depF, fillA, Act.put, zta, ztz, zpt, zsz, zss, zl0, zls]); (repeat (rintro rfl)); have st := st.call hb; ((apply Yphi.run; (exact rfl); (go_simp <;> (try simp (disch := omega) only [wrap_id, sub_left, zac]) <;> rfl); exact rfl)))); (simp only [zca, zcn] <;> exact rfl))
                  (apply Plan.val'; (focus (intro x0 x1 x2 x3 x4 x5 x6 x7 x8 x9 x10 x11 x12 x13 x14 x15 x16 x17 x18 x19 x20 x21 x22 x23 x24 x25 x26 x27 x28 x29 x30 x31 x32 x33 x34 x35 x36 w1 hb; (try simp only [depF, fillA, Act.put, zta, ztz, zpt, zsz, zss, zl0, zls]); (repeat (rintro rfl)); have st := st.call hb; apply Yphi.load1 st; exact rfl; exact inferInstance; (exact rfl); exact rfl; (exact get0); (exact L.cells_k _ _ _ (hql)))); (simp only [zca, zcn] <;> exact rfl))
                  iterate 4 (apply Plan.val'; (focus (intro x0 x1 x2 x3 x4 x5 x6 x7 x8 x9 x10 x11 x12 x13 x14 x15 x16 x17 x18 x19 x20 x21 x22 x23 x24 x25 x26 x27 x28 x29 x30 x31 x32 x33 x34 x35 x36 w1 hb; (try simp only [depF, fillA, Act.put, zta, ztz, zpt, zsz, zss, zl0, zls]); (repeat (rintro rfl)); have st := st.call hb; ((apply Yphi.run; (exact rfl); (go_simp <;> (try simp (disch := omega) only [wrap_id, sub_left, zac]) <;> rfl); exact rfl)))); (simp only [zca, zcn] <;> exact rfl))
                  (apply Plan.val'; (focus (intro x0 x1 x2 x3 x4 x5 x6 x7 x8 x9 x10 x11 x12 x13 x14 x15 x16 x17 x18 x19 x20 x21 x22 x23 x24 x25 x26 x27 x28 x29 x30 x31 x32 x33 x34 x35 x36 w1 hb; (try simp only [depF, fillA, Act.put, zta, ztz, zpt, zsz, zss, zl0, zls]); (repeat (rintro rfl)); have st := st.call hb; apply Yphi.load1 st; exact rfl; exact inferInstance; (exact rfl); exact rfl; (exact get0); (exact L.cells_k _ _ _ (hrl)))); (simp only [zca, zcn] <;> exact rfl))
                  iterate 2 (apply Plan.val'; (focus (intro x0 x1 x2 x3 x4 x5 x6 x7 x8 x9 x10 x11 x12 x13 x14 x15 x16 x17 x18 x19 x20 x21 x22 x23 x24 x25 x26 x27 x28 x29 x30 x31 x32 x33 x34 x35 x36 w1 hb; (try simp only [depF, fillA, Act.put, zta, ztz, zpt, zsz, zss, zl0, zls]); (repeat (rintro rfl)); have st := st.call hb; ((apply Yphi.run; (exact rfl); (go_simp <;> (try simp (disch := omega) only [wrap_id, sub_left, zac]) <;> rfl); exact rfl)))); (simp only [zca, zcn] <;> exact rfl))
                  iterate 4 (apply Plan.val'; (focus (intro x0 x1 x2 x3 x4 x5 x6 x7 x8 x9 x10 x11 x12 x13 x14 x15 x16 x17 x18 x19 x20 x21 x22 x23 x24 x25 x26 x27 x28 x29 x30 x31 x32 x33 x34 x35 x36 w1 hb; (try simp only [depF, fillA, Act.put, zta, ztz, zpt, zsz, zss, zl0, zls]); (repeat (rintro rfl)); have st := st.call hb; ((apply Yphi.run; (exact rfl); (go_simp <;> (try simp (disch := omega) only [wrap_id, sub_left, zac]) <;> rfl); exact rfl)))); (simp only [zca, zcn] <;> exact rfl))
                  (apply Plan.val'; (focus (intro x0 x1 x2 x3 x4 x5 x6 x7 x8 x9 x10 x11 x12 x13 x14 x15 x16 x17 x18 x19 x20 x21 x22 x23 x24 x25 x26 x27 x28 x29 x30 x31 x32 x33 x34 x35 x36 w1 hb; (try simp only [depF, fillA, Act.put, zta, ztz, zpt, zsz, zss, zl0, zls]); (repeat (rintro rfl)); have st := st.call hb; apply Yphi.load1 st; exact rfl; exact inferInstance; (exact rfl); exact rfl; (exact get0); (exact L.cells_f _ _ _ (hql)))); (simp only [zca, zcn] <;> exact rfl))
                  iterate 4 (apply Plan.val'; (focus (intro x0 x1 x2 x3 x4 x5 x6 x7 x8 x9 x10 x11 x12 x13 x14 x15 x16 x17 x18 x19 x20 x21 x22 x23 x24 x25 x26 x27 x28 x29 x30 x31 x32 x33 x34 x35 x36 w1 hb; (try simp only [depF, fillA, Act.put, zta, ztz, zpt, zsz, zss, zl0, zls]); (repeat (rintro rfl)); have st := st.call hb; ((apply Yphi.run; (exact rfl); (go_simp <;> (try simp (disch := omega) only [wrap_id, sub_left, zac]) <;> rfl); exact rfl)))); (simp only [zca, zcn] <;> exact rfl))
                  (apply Plan.val'; (focus (intro x0 x1 x2 x3 x4 x5 x6 x7 x8 x9 x10 x11 x12 x13 x14 x15 x16 x17 x18 x19 x20 x21 x22 x23 x24 x25 x26 x27 x28 x29 x30 x31 x32 x33 x34 x35 x36 w1 hb; (try simp only [depF, fillA, Act.put, zta, ztz, zpt, zsz, zss, zl0, zls]); (repeat (rintro rfl)); have st := st.call hb; apply Yphi.load1 st; exact rfl; exact inferInstance; (exact rfl); exact rfl; (exact get0); (exact L.cells_f _ _ _ (hrl)))); (simp only [zca, zcn] <;> exact rfl))
                  (apply Plan.val'; (focus (intro x0 x1 x2 x3 x4 x5 x6 x7 x8 x9 x10 x11 x12 x13 x14 x15 x16 x17 x18 x19 x20 x21 x22 x23 x24 x25 x26 x27 x28 x29 x30 x31 x32 x33 x34 x35 x36 w1 hb; (try simp only [depF, fillA, Act.put, zta, ztz, zpt, zsz, zss, zl0, zls]); (repeat (rintro rfl)); have st := st.call hb; ((apply Yphi.run; (exact rfl); (go_simp <;> (try simp (disch := omega) only [wrap_id, sub_left, zac]) <;> rfl); exact rfl)))); (simp only [zca, zcn] <;> exact rfl))
                  iterate 2 (apply Plan.val'; (focus (intro x0 x1 x2 x3 x4 x5 x6 x7 x8 x9 x10 x11 x12 x13 x14 x15 x16 x17 x18 x19 x20 x21 x22 x23 x24 x25 x26 x27 x28 x29 x30 x31 x32 x33 x34 x35 x36 w1 hb; (try simp only [depF, fillA, Act.put, zta, ztz, zpt, zsz, zss, zl0, zls]); (repeat (rintro rfl)); have st := st.call hb; ((apply Yphi.run; (exact rfl); (go_simp <;> (try simp (disch := omega) only [wrap_id, sub_left, zac]) <;> rfl); exact rfl)))); (simp only [zca, zcn] <;> exact rfl))
                  iterate 4 (apply Plan.val'; (focus (intro x0 x1 x2 x3 x4 x5 x6 x7 x8 x9 x10 x11 x12 x13 x14 x15 x16 x17 x18 x19 x20 x21 x22 x23 x24 x25 x26 x27 x28 x29 x30 x31 x32 x33 x34 x35 x36 w1 hb; (try simp only [depF, fillA, Act.put, zta, ztz, zpt, zsz, zss, zl0, zls]); (repeat (rintro rfl)); have st := st.call hb; ((apply Yphi.run; (exact rfl); (go_simp <;> (try simp (disch := omega) only [wrap_id, sub_left, zac]) <;> rfl); exact rfl)))); (simp only [zca, zcn] <;> exact rfl))
                  (apply Plan.val'; (focus (intro x0 x1 x2 x3 x4 x5 x6 x7 x8 x9 x10 x11 x12 x13 x14 x15 x16 x17 x18 x19 x20 x21 x22 x23 x24 x25 x26 x27 x28 x29 x30 x31 x32 x33 x34 x35 x36 w1 hb; (try simp only [depF, fillA, Act.put, zta, ztz, zpt, zsz, zss, zl0, zls]); (repeat (rintro rfl)); have st := st.call hb; apply Yphi.load1 st; exact rfl; exact inferInstance; (exact rfl); exact rfl; (exact get0); (exact L.cells_w _ _ _ (hql)))); (simp only [zca, zcn] <;> exact rfl))
                  iterate 4 (apply Plan.val'; (focus (intro x0 x1 x2 x3 x4 x5 x6 x7 x8 x9 x10 x11 x12 x13 x14 x15 x16 x17 x18 x19 x20 x21 x22 x23 x24 x25 x26 x27 x28 x29 x30 x31 x32 x33 x34 x35 x36 w1 hb; (try simp only [depF, fillA, Act.put, zta, ztz, zpt, zsz, zss, zl0, zls]); (repeat (rintro rfl)); have st := st.call hb; ((apply Yphi.run; (exact rfl); (go_simp <;> (try simp (disch := omega) only [wrap_id, sub_left, zac]) <;> rfl); exact rfl)))); (simp only [zca, zcn] <;> exact rfl))
                  (apply Plan.val'; (focus (intro x0 x1 x2 x3 x4 x5 x6 x7 x8 x9 x10 x11 x12 x13 x14 x15 x16 x17 x18 x19 x20 x21 x22 x23 x24 x25 x26 x27 x28 x29 x30 x31 x32 x33 x34 x35 x36 w1 hb; (try simp only [depF, fillA, Act.put, zta, ztz, zpt, zsz, zss, zl0, zls]); (repeat (rintro rfl)); have st := st.call hb; apply Yphi.load1 st; exact rfl; exact inferInstance; (exact rfl); exact rfl; (exact get0); (exact L.cells_w _ _ _ (hrl)))); (simp only [zca, zcn] <;> exact rfl))
                  (apply Plan.val'; (focus (intro x0 x1 x2 x3 x4 x5 x6 x7 x8 x9 x10 x11 x12 x13 x14 x15 x16 x17 x18 x19 x20 x21 x22 x23 x24 x25 x26 x27 x28 x29 x30 x31 x32 x33 x34 x35 x36 w1 hb; (try simp only [depF, fillA, Act.put, zta, ztz, zpt, zsz, zss, zl0, zls]); (repeat (rintro rfl)); have st := st.call hb; ((apply Yphi.run; (exact rfl); (go_simp <;> (try simp (disch := omega) only [wrap_id, sub_left, zac]) <;> rfl); exact rfl)))); (simp only [zca, zcn] <;> exact rfl))
                  (apply Plan.val'; (focus (intro x0 x1 x2 x3 x4 x5 x6 x7 x8 x9 x10 x11 x12 x13 x14 x15 x16 x17 x18 x19 x20 x21 x22 x23 x24 x25 x26 x27 x28 x29 x30 x31 x32 x33 x34 x35 x36 w1 hb; (try simp only [depF, fillA, Act.put, zta, ztz, zpt, zsz, zss, zl0, zls]); (repeat (rintro rfl)); have st := st.call hb; ((apply Yphi.run; (exact rfl); (go_simp <;> (try simp (disch := omega) only [wrap_id, sub_left, zac]) <;> rfl); exact rfl)))); (simp only [zca, zcn] <;> exact rfl))
                  intro x0 x1 x2 x3 x4 x5 x6 x7 x8 x9 x10 x11 x12 x13 x14 x15 x16 x17 x18 x19 x20 x21 x22 x23 x24 x25 x26 x27 x28 x29 x30 x31 x32 x33 x34 x35 x36 lo hi w1 hb hap
                  rintro rfl rfl rfl rfl rfl rfl rfl rfl rfl rfl rfl rfl rfl rfl rfl rfl rfl rfl rfl rfl rfl rfl rfl rfl rfl rfl rfl rfl rfl rfl rfl rfl rfl rfl rfl rfl rfl
                  simp only [allPhi, fillA, Act.put, zta, ztz, zpt, zsz, zss, zda, zdz]
                  have st := st.call hb
                  clear hap hb
                  go_wp2_with (refine WL.out ?_; (repeat ((refine WL.op ?_ ?_; (exact rfl); intro K hK; (first | ((((with_reducible apply ow_assign); exact rfl)); (go_simp <;> (try simp (disch := omega) only [wrap_id, sub_left, zac]) <;> rfl)) | ((with_reducible apply ow_eval); (go_simp <;> (try simp (disch := omega) only [wrap_id, sub_left, zac]) <;> rfl); ((with_reducible apply up_value)))); refine WL.next hK (by simp only [Act.put, zpt, zsz, zss]; exact rfl) ?_; clear hK K))); (try refine WL.nil ?_))
                  exact ⟨⟨r + 1, by omega, by go_num, st.ofBox (by rw [L.cellsOf_length, ← l5.out]) HC.out hnc hcm⟩, by simp [intOf]; omega⟩
                · simp only [Bool.not_eq_true] at c2
                  go_wp2_with (refine WL.out ?_; (repeat ((refine WL.op ?_ ?_; (exact rfl); intro K hK; (((with_reducible apply ow_eval); (go_simp <;> (try simp (disch := omega) only [wrap_id, sub_left, zac]) <;> rfl); ((with_reducible apply up_value)))); refine WL.next hK (by simp only [Act.put, zpt, zsz, zss]; exact rfl) ?_; clear hK K))); (try refine WL.nil ?_))
                  refine wp_region_plan 37 (by kernel_rfl) (by kernel_rfl) ?_; replace st := st.drew; generalize World.drew _ = W at st ⊢
                  iterate 4 (apply Plan.val'; (focus (intro x0 x1 x2 x3 x4 x5 x6 x7 x8 x9 x10 x11 x12 x13 x14 x15 x16 x17 x18 x19 x20 x21 x22 x23 x24 x25 x26 x27 x28 x29 x30 x31 x32 x33 x34 x35 x36 w1 hb; (try simp only [depF, fillA, Act.put, zta, ztz, zpt, zsz, zss, zl0, zls]); (repeat (rintro rfl)); have st := st.call hb; ((apply Yphi.run; (exact rfl); (go_simp <;> (try simp (disch := omega) only [wrap_id, sub_left, zac]) <;> rfl); exact rfl)))); (simp only [zca, zcn] <;> exact rfl))
                  (apply Plan.val'; (focus (intro x0 x1 x2 x3 x4 x5 x6 x7 x8 x9 x10 x11 x12 x13 x14 x15 x16 x17 x18 x19 x20 x21 x22 x23 x24 x25 x26 x27 x28 x29 x30 x31 x32 x33 x34 x35 x36 w1 hb; (try simp only [depF, fillA, Act.put, zta, ztz, zpt, zsz, zss, zl0, zls]); (repeat (rintro rfl)); have st := st.call hb; apply Yphi.load1 st; exact rfl; exact inferInstance; (exact rfl); exact rfl; (exact get0); (exact L.cells_k _ _ _ (hql)))); (simp only [zca, zcn] <;> exact rfl))
                  iterate 4 (apply Plan.val'; (focus (intro x0 x1 x2 x3 x4 x5 x6 x7 x8 x9 x10 x11 x12 x13 x14 x15 x16 x17 x18 x19 x20 x21 x22 x23 x24 x25 x26 x27 x28 x29 x30 x31 x32 x33 x34 x35 x36 w1 hb; (try simp only [depF, fillA, Act.put, zta, ztz, zpt, zsz, zss, zl0, zls]); (repeat (rintro rfl)); have st := st.call hb; ((apply Yphi.run; (exact rfl); (go_simp <;> (try simp (disch := omega) only [wrap_id, sub_left, zac]) <;> rfl); exact rfl)))); (simp only [zca, zcn] <;> exact rfl))
                  (apply Plan.val'; (focus (intro x0 x1 x2 x3 x4 x5 x6 x7 x8 x9 x10 x11 x12 x13 x14 x15 x16 x17 x18 x19 x20 x21 x22 x23 x24 x25 x26 x27 x28 x29 x30 x31 x32 x33 x34 x35 x36 w1 hb; (try simp only [depF, fillA, Act.put, zta, ztz, zpt, zsz, zss, zl0, zls]); (repeat (rintro rfl)); have st := st.call hb; apply Yphi.load1 st; exact rfl; exact inferInstance; (exact rfl); exact rfl; (exact get0); (exact L.cells_k _ _ _ (hrl)))); (simp only [zca, zcn] <;> exact rfl))
                  iterate 2 (apply Plan.val'; (focus (intro x0 x1 x2 x3 x4 x5 x6 x7 x8 x9 x10 x11 x12 x13 x14 x15 x16 x17 x18 x19 x20 x21 x22 x23 x24 x25 x26 x27 x28 x29 x30 x31 x32 x33 x34 x35 x36 w1 hb; (try simp only [depF, fillA, Act.put, zta, ztz, zpt, zsz, zss, zl0, zls]); (repeat (rintro rfl)); have st := st.call hb; ((apply Yphi.run; (exact rfl); (go_simp <;> (try simp (disch := omega) only [wrap_id, sub_left, zac]) <;> rfl); exact rfl)))); (simp only [zca, zcn] <;> exact rfl))
                  iterate 4 (apply Plan.val'; (focus (intro x0 x1 x2 x3 x4 x5 x6 x7 x8 x9 x10 x11 x12 x13 x14 x15 x16 x17 x18 x19 x20 x21 x22 x23 x24 x25 x26 x27 x28 x29 x30 x31 x32 x33 x34 x35 x36 w1 hb; (try simp only [depF, fillA, Act.put, zta, ztz, zpt, zsz, zss, zl0, zls]); (repeat (rintro rfl)); have st := st.call hb; ((apply Yphi.run; (exact rfl); (go_simp <;> (try simp (disch := omega) only [wrap_id, sub_left, zac]) <;> rfl); exact rfl)))); (simp only [zca, zcn] <;> exact rfl))
                  (apply Plan.val'; (focus (intro x0 x1 x2 x3 x4 x5 x6 x7 x8 x9 x10 x11 x12 x13 x14 x15 x16 x17 x18 x19 x20 x21 x22 x23 x24 x25 x26 x27 x28 x29 x30 x31 x32 x33 x34 x35 x36 w1 hb; (try simp only [depF, fillA, Act.put, zta, ztz, zpt, zsz, zss, zl0, zls]); (repeat (rintro rfl)); have st := st.call hb; apply Yphi.load1 st; exact rfl; exact inferInstance; (exact rfl); exact rfl; (exact get0); (exact L.cells_f _ _ _ (hql)))); (simp only [zca, zcn] <;> exact rfl))
                  iterate 4 (apply Plan.val'; (focus (intro x0 x1 x2 x3 x4 x5 x6 x7 x8 x9 x10 x11 x12 x13 x14 x15 x16 x17 x18 x19 x20 x21 x22 x23 x24 x25 x26 x27 x28 x29 x30 x31 x32 x33 x34 x35 x36 w1 hb; (try simp only [depF, fillA, Act.put, zta, ztz, zpt, zsz, zss, zl0, zls]); (repeat (rintro rfl)); have st := st.call hb; ((apply Yphi.run; (exact rfl); (go_simp <;> (try simp (disch := omega) only [wrap_id, sub_left, zac]) <;> rfl); exact rfl)))); (simp only [zca, zcn] <;> exact rfl))
                  (apply Plan.val'; (focus (intro x0 x1 x2 x3 x4 x5 x6 x7 x8 x9 x10 x11 x12 x13 x14 x15 x16 x17 x18 x19 x20 x21 x22 x23 x24 x25 x26 x27 x28 x29 x30 x31 x32 x33 x34 x35 x36 w1 hb; (try simp only [depF, fillA, Act.put, zta, ztz, zpt, zsz, zss, zl0, zls]); (repeat (rintro rfl)); have st := st.call hb; apply Yphi.load1 st; exact rfl; exact inferInstance; (exact rfl); exact rfl; (exact get0); (exact L.cells_f _ _ _ (hrl)))); (simp only [zca, zcn] <;> exact rfl))
                  (apply Plan.val'; (focus (intro x0 x1 x2 x3 x4 x5 x6 x7 x8 x9 x10 x11 x12 x13 x14 x15 x16 x17 x18 x19 x20 x21 x22 x23 x24 x25 x26 x27 x28 x29 x30 x31 x32 x33 x34 x35 x36 w1 hb; (try simp only [depF, fillA, Act.put, zta, ztz, zpt, zsz, zss, zl0, zls]); (repeat (rintro rfl)); have st := st.call hb; ((apply Yphi.run; (exact rfl); (go_simp <;> (try simp (disch := omega) only [wrap_id, sub_left, zac]) <;> rfl); exact rfl)))); (simp only [zca, zcn] <;> exact rfl))
                  iterate 2 (apply Plan.val'; (focus (intro x0 x1 x2 x3 x4 x5 x6 x7 x8 x9 x10 x11 x12 x13 x14 x15 x16 x17 x18 x19 x20 x21 x22 x23 x24 x25 x26 x27 x28 x29 x30 x31 x32 x33 x34 x35 x36 w1 hb; (try simp only [depF, fillA, Act.put, zta, ztz, zpt, zsz, zss, zl0, zls]); (repeat (rintro rfl)); have st := st.call hb; ((apply Yphi.run; (exact rfl); (go_simp <;> (try simp (disch := omega) only [wrap_id, sub_left, zac]) <;> rfl); exact rfl)))); (simp only [zca, zcn] <;> exact rfl))
                  iterate 11 (apply Plan.val'; (focus (intro x0 x1 x2 x3 x4 x5 x6 x7 x8 x9 x10 x11 x12 x13 x14 x15 x16 x17 x18 x19 x20 x21 x22 x23 x24 x25 x26 x27 x28 x29 x30 x31 x32 x33 x34 x35 x36 w1 hb; (try simp only [depF, fillA, Act.put, zta, ztz, zpt, zsz, zss, zl0, zls]); (repeat (rintro rfl)); have st := st.call hb; apply Yphi.skip; (exact rfl))); (simp only [zca, zcn] <;> exact rfl))
                  (apply Plan.val'; (focus (intro x0 x1 x2 x3 x4 x5 x6 x7 x8 x9 x10 x11 x12 x13 x14 x15 x16 x17 x18 x19 x20 x21 x22 x23 x24 x25 x26 x27 x28 x29 x30 x31 x32 x33 x34 x35 x36 w1 hb; (try simp only [depF, fillA, Act.put, zta, ztz, zpt, zsz, zss, zl0, zls]); (repeat (rintro rfl)); have st := st.call hb; ((apply Yphi.run; (exact rfl); (go_simp <;> (try simp (disch := omega) only [wrap_id, sub_left, zac]) <;> rfl); exact rfl)))); (simp only [zca, zcn] <;> exact rfl))
                  intro x0 x1 x2 x3 x4 x5 x6 x7 x8 x9 x10 x11 x12 x13 x14 x15 x16 x17 x18 x19 x20 x21 x22 x23 x24 x25 x26 x27 x28 x29 x30 x31 x32 x33 x34 x35 x36 lo hi w1 hb hap
                  rintro rfl rfl rfl rfl rfl rfl rfl rfl rfl rfl rfl rfl rfl rfl rfl rfl rfl rfl rfl rfl rfl rfl rfl rfl rfl rfl rfl rfl rfl rfl rfl rfl rfl rfl rfl rfl rfl
                  simp only [allPhi, fillA, Act.put, zta, ztz, zpt, zsz, zss, zda, zdz]
                  have st := st.call hb
                  clear hap hb
                  go_wp2_with (refine WL.out ?_; (repeat ((refine WL.op ?_ ?_; (exact rfl); intro K hK; (first | ((((with_reducible apply ow_assign); exact rfl)); (go_simp <;> (try simp (disch := omega) only [wrap_id, sub_left, zac]) <;> rfl)) | ((with_reducible apply ow_eval); (go_simp <;> (try simp (disch := omega) only [wrap_id, sub_left, zac]) <;> rfl); ((with_reducible apply up_value)))); refine WL.next hK (by simp only [Act.put, zpt, zsz, zss]; exact rfl) ?_; clear hK K))); (try refine WL.nil ?_))
                  exact ⟨⟨r + 1, by omega, by go_num, st.ofBox (by rw [L.cellsOf_length, ← l5.out]) HC.out hnc hcm⟩, by simp [intOf]; omega⟩
              · simp only [Bool.not_eq_true] at c1
                go_wp2_with (refine WL.out ?_; (repeat ((refine WL.op ?_ ?_; (exact rfl); intro K hK; (((with_reducible apply ow_eval); (go_simp <;> (try simp (disch := omega) only [wrap_id, sub_left, zac]) <;> rfl); ((with_reducible apply up_value)))); refine WL.next hK (by simp only [Act.put, zpt, zsz, zss]; exact rfl) ?_; clear hK K))); (try refine WL.nil ?_))
                refine wp_region_plan 37 (by kernel_rfl) (by kernel_rfl) ?_; replace st := st.drew; generalize World.drew _ = W at st ⊢
                iterate 4 (apply Plan.val'; (focus (intro x0 x1 x2 x3 x4 x5 x6 x7 x8 x9 x10 x11 x12 x13 x14 x15 x16 x17 x18 x19 x20 x21 x22 x23 x24 x25 x26 x27 x28 x29 x30 x31 x32 x33 x34 x35 x36 w1 hb; (try simp only [depF, fillA, Act.put, zta, ztz, zpt, zsz, zss, zl0, zls]); (repeat (rintro rfl)); have st := st.call hb; ((apply Yphi.run; (exact rfl); (go_simp <;> (try simp (disch := omega) only [wrap_id, sub_left, zac]) <;> rfl); exact rfl)))); (simp only [zca, zcn] <;> exact rfl))
                (apply Plan.val'; (focus (intro x0 x1 x2 x3 x4 x5 x6 x7 x8 x9 x10 x11 x12 x13 x14 x15 x16 x17 x18 x19 x20 x21 x22 x23 x24 x25 x26 x27 x28 x29 x30 x31 x32 x33 x34 x35 x36 w1 hb; (try simp only [depF, fillA, Act.put, zta, ztz, zpt, zsz, zss, zl0, zls]); (repeat (rintro rfl)); have st := st.call hb; apply Yphi.load1 st; exact rfl; exact inferInstance; (exact rfl); exact rfl; (exact get0); (exact L.cells_k _ _ _ (hql)))); (simp only [zca, zcn] <;> exact rfl))
                iterate 4 (apply Plan.val'; (focus (intro x0 x1 x2 x3 x4 x5 x6 x7 x8 x9 x10 x11 x12 x13 x14 x15 x16 x17 x18 x19 x20 x21 x22 x23 x24 x25 x26 x27 x28 x29 x30 x31 x32 x33 x34 x35 x36 w1 hb; (try simp only [depF, fillA, Act.put, zta, ztz, zpt, zsz, zss, zl0, zls]); (repeat (rintro rfl)); have st := st.call hb; ((apply Yphi.run; (exact rfl); (go_simp <;> (try simp (disch := omega) only [wrap_id, sub_left, zac]) <;> rfl); exact rfl)))); (simp only [zca, zcn] <;> exact rfl))
                (apply Plan.val'; (focus (intro x0 x1 x2 x3 x4 x5 x6 x7 x8 x9 x10 x11 x12 x13 x14 x15 x16 x17 x18 x19 x20 x21 x22 x23 x24 x25 x26 x27 x28 x29 x30 x31 x32 x33 x34 x35 x36 w1 hb; (try simp only [depF, fillA, Act.put, zta, ztz, zpt, zsz, zss, zl0, zls]); (repeat (rintro rfl)); have st := st.call hb; apply Yphi.load1 st; exact rfl; exact inferInstance; (exact rfl); exact rfl; (exact get0); (exact L.cells_k _ _ _ (hrl)))); (simp only [zca, zcn] <;> exact rfl))
                iterate 2 (apply Plan.val'; (focus (intro x0 x1 x2 x3 x4 x5 x6 x7 x8 x9 x10 x11 x12 x13 x14 x15 x16 x17 x18 x19 x20 x21 x22 x23 x24 x25 x26 x27 x28 x29 x30 x31 x32 x33 x34 x35 x36 w1 hb; (try simp only [depF, fillA, Act.put, zta, ztz, zpt, zsz, zss, zl0, zls]); (repeat (rintro rfl)); have st := st.call hb; ((apply Yphi.run; (exact rfl); (go_simp <;> (try simp (disch := omega) only [wrap_id, sub_left, zac]) <;> rfl); exact rfl)))); (simp only [zca, zcn] <;> exact rfl))
                iterate 11 (apply Plan.val'; (focus (intro x0 x1 x2 x3 x4 x5 x6 x7 x8 x9 x10 x11 x12 x13 x14 x15 x16 x17 x18 x19 x20 x21 x22 x23 x24 x25 x26 x27 x28 x29 x30 x31 x32 x33 x34 x35 x36 w1 hb; (try simp only [depF, fillA, Act.put, zta, ztz, zpt, zsz, zss, zl0, zls]); (repeat (rintro rfl)); have st := st.call hb; apply Yphi.skip; (exact rfl))); (simp only [zca, zcn] <;> exact rfl))
                iterate 2 (apply Plan.val'; (focus (intro x0 x1 x2 x3 x4 x5 x6 x7 x8 x9 x10 x11 x12 x13 x14 x15 x16 x17 x18 x19 x20 x21 x22 x23 x24 x25 x26 x27 x28 x29 x30 x31 x32 x33 x34 x35 x36 w1 hb; (try simp only [depF, fillA, Act.put, zta, ztz, zpt, zsz, zss, zl0, zls]); (repeat (rintro rfl)); have st := st.call hb; ((apply Yphi.run; (exact rfl); (go_simp <;> (try simp (disch := omega) only [wrap_id, sub_left, zac]) <;> rfl); exact rfl)))); (simp only [zca, zcn] <;> exact rfl))
                iterate 11 (apply Plan.val'; (focus (intro x0 x1 x2 x3 x4 x5 x6 x7 x8 x9 x10 x11 x12 x13 x14 x15 x16 x17 x18 x19 x20 x21 x22 x23 x24 x25 x26 x27 x28 x29 x30 x31 x32 x33 x34 x35 x36 w1 hb; (try simp only [depF, fillA, Act.put, zta, ztz, zpt, zsz, zss, zl0, zls]); (repeat (rintro rfl)); have st := st.call hb; apply Yphi.skip; (exact rfl))); (simp only [zca, zcn] <;> exact rfl))
                (apply Plan.val'; (focus (intro x0 x1 x2 x3 x4 x5 x6 x7 x8 x9 x10 x11 x12 x13 x14 x15 x16 x17 x18 x19 x20 x21 x22 x23 x24 x25 x26 x27 x28 x29 x30 x31 x32 x33 x34 x35 x36 w1 hb; (try simp only [depF, fillA, Act.put, zta, ztz, zpt, zsz, zss, zl0, zls]); (repeat (rintro rfl)); have st := st.call hb; ((apply Yphi.run; (exact rfl); (go_simp <;> (try simp (disch := omega) only [wrap_id, sub_left, zac]) <;> rfl); exact rfl)))); (simp only [zca, zcn] <;> exact rfl))
                intro x0 x1 x2 x3 x4 x5 x6 x7 x8 x9 x10 x11 x12 x13 x14 x15 x16 x17 x18 x19 x20 x21 x22 x23 x24 x25 x26 x27 x28 x29 x30 x31 x32 x33 x34 x35 x36 lo hi w1 hb hap
                rintro rfl rfl rfl rfl rfl rfl rfl rfl rfl rfl rfl rfl rfl rfl rfl rfl rfl rfl rfl rfl rfl rfl rfl rfl rfl rfl rfl rfl rfl rfl rfl rfl rfl rfl rfl rfl rfl
                simp only [allPhi, fillA, Act.put, zta, ztz, zpt, zsz, zss, zda, zdz]
                have st := st.call hb
                clear hap hb
                go_wp2_with (refine WL.out ?_; (repeat ((refine WL.op ?_ ?_; (exact rfl); intro K hK; (first | ((((with_reducible apply ow_assign); exact rfl)); (go_simp <;> (try simp (disch := omega) only [wrap_id, sub_left, zac]) <;> rfl)) | ((with_reducible apply ow_eval); (go_simp <;> (try simp (disch := omega) only [wrap_id, sub_left, zac]) <;> rfl); ((with_reducible apply up_value)))); refine WL.next hK (by simp only [Act.put, zpt, zsz, zss]; exact rfl) ?_; clear hK K))); (try refine WL.nil ?_))
                exact ⟨⟨r + 1, by omega, by go_num, st.ofBox (by rw [L.cellsOf_length, ← l5.out]) HC.out hnc hcm⟩, by simp [intOf]; omega⟩
            · obtain rfl : r = q := by omega
              go_wp2_with (refine WL.out ?_; (repeat ((refine WL.op ?_ ?_; (exact rfl); intro K hK; (first | ((((with_reducible apply ow_assign); exact rfl)); (go_simp <;> (try simp (disch := omega) only [wrap_id, sub_left, zac]) <;> rfl)) | ((with_reducible apply ow_eval); (go_simp <;> (try simp (disch := omega) only [wrap_id, sub_left, zac]) <;> rfl); ((with_reducible apply up_value)))); refine WL.next hK (by simp only [Act.put, zpt, zsz, zss]; exact rfl) ?_; clear hK K))); (try refine WL.nil ?_))
              exact ⟨⟨r + 1, by omega, by go_num, st⟩, by simp [intOf]; omega⟩
        · go_wp2_with (refine WL.out ?_; (repeat ((refine WL.op ?_ ?_; (exact rfl); intro K hK; (((with_reducible apply ow_eval); (go_simp <;> (try simp (disch := omega) only [wrap_id, sub_left, zac]) <;> rfl); ((with_reducible apply up_value)))); refine WL.next hK (by simp only [Act.put, zpt, zsz, zss]; exact rfl) ?_; clear hK K))); (try refine WL.nil ?_))
          go_ret
          exact ⟨rfl, st.below⟩
    · have HA := Lib.hid ha
      obtain ⟨V, hV⟩ : ∃ V, L.rAcesErr l = V := ⟨_, rfl⟩
      have hV2 : L.acesErr l = V := by rw [L.acesErr_eq]; exact hV
      rw [hV] at ha
      have hv0 : (V == 0) = false := by simpa using ha
      have hv2 : L.acesErr l ≠ 0 := by rw [hV2]; exact ha
      have HV := Lib.hid hV
      have HI : Hid (L.isCanonical l = (false, V)) := Lib.hid (by unfold L.isCanonical; rw [if_neg hv2, hV2])
      have HC : Hid (L.canonicalOf l = ([], V)) := Lib.hid (by unfold L.canonicalOf; rw [if_neg hv2, hV2])
      have HM : Hid (L.mergedOf l = ([], V)) := Lib.hid (by unfold L.mergedOf; rw [if_neg hv2, hV2])
      clear ha hV hV2 hv2
      go_enter Tryd.func6, Tryd.ntmps6
      go_wp2_with (refine WL.out ?_; (repeat ((refine WL.op ?_ ?_; (exact rfl); intro K hK; (first | ((first | ((with_reducible apply ow_move); exact rfl) | ((with_reducible apply ow_assign); exact rfl)); (go_simp <;> (try simp (disch := omega) only [wrap_id, sub_left, zac]) <;> rfl)) | ((with_reducible apply ow_eval); (go_simp <;> (try simp (disch := omega) only [wrap_id, sub_left, zac]) <;> rfl); first | (with_reducible apply up_value) | ((with_reducible apply up_enter); first | (go_at_call 8; refine (awake_any _).mono ?_; rintro e w' ⟨rfl, hb⟩; replace st := st.call hb; clear hb; refine ⟨_, rfl, ?_⟩) | (go_at_call 16; ((with_reducible refine (CopyAces_any A n c B l _ (H1.out.st st hB1) (Nat.le_trans hB1 st.size) (by omega)).mono ?_); rintro e w' ⟨A3, n3, c3, rfl, st'⟩; have l3 := Lib.hid (St.len st' (i := 0) rfl); have h3 : n3 ≤ 20 := (by have := l3.out; have := e1.out; omega); replace st := st.join st'; clear st'; simp only [List.cons_append, List.nil_append] at st; refine ⟨_, rfl, ?_⟩)) | (go_at_call 25; refine (IsCanonical_any _ _ _ _ l _ (St.aces st (i := 0) rfl) (Nat.le_refl _) (by omega)).mono ?_; rw [HI.out]; rintro e w' ⟨rfl, hb⟩; replace st := (st.call hb).tail; clear hb; refine ⟨_, rfl, ?_⟩) | (go_at_call 26; (with_reducible refine (CanonicalOf_at HC.out _ _ _ _ _ (St.aces st (i := 0) rfl) (Nat.le_refl _) (by omega)).mono ?_); rintro e w' ⟨A4, n4, c4, rfl, st'⟩; have l4 := Lib.hid (St.len st' (i := 0) rfl); replace st := st.join st'; clear st'; simp only [List.cons_append, List.nil_append] at st; obtain rfl : n4 = 0 := l4.out; replace st := st.sub (.cons_cons _ (List.nil_sublist _)); refine ⟨_, rfl, ?_⟩) | (go_at_call 27; refine (MergedOf_at HM.out _ _ _ _ _ (St.aces st (i := 0) rfl) (Nat.le_refl _) (by omega)).mono ?_; rintro e w' ⟨A5, n5, c5, rfl, st'⟩; have l5 := Lib.hid (St.len st' (i := 0) rfl); replace st := st.join st'; clear st'; simp only [List.cons_append, List.nil_append] at st; obtain rfl : n5 = 0 := l5.out; replace st := st.sub (.cons_cons _ (.cons _ (.cons_cons _ (List.nil_sublist _)))); refine ⟨_, rfl, ?_⟩) | (go_at_call 17; refine (AcesErr_any A n c B l _ (H1.out.st st hB1) (Nat.le_trans hB1 st.size) (by omega)).mono ?_; rw [HV.out]; rintro e w' ⟨rfl, hb⟩; replace st := st.call hb; clear hb; refine ⟨_, rfl, ?_⟩)))); refine WL.next hK (by simp only [Act.put, zpt, zsz, zss]; exact rfl) ?_; clear hK K))); (try refine WL.nil ?_))
      go_ret
      exact ⟨rfl, st.below⟩
  · have hI : (20 : Int) < (n : Int) := by omega
    go_enter Tryd.func6, Tryd.ntmps6
    go_wp2_with (refine WL.out ?_; (repeat ((refine WL.op ?_ ?_; (exact rfl); intro K hK; (((with_reducible apply ow_eval); (go_simp <;> (try simp (disch := omega) only [wrap_id, sub_left, zac]) <;> rfl); first | (with_reducible apply up_value) | ((with_reducible apply up_enter); ((go_at_call 8; refine (awake_any _).mono ?_; rintro e w' ⟨rfl, hb⟩; replace st := st.call hb; clear hb; refine ⟨_, rfl, ?_⟩))))); refine WL.next hK (by simp only [Act.put, zpt, zsz, zss]; exact rfl) ?_; clear hK K))); (try refine WL.nil ?_))
    go_ret
    exact ⟨rfl, st.below⟩
end Go.Proofs.YtppjhccdgbheiaaDoor
namespace Go.Proofs.YtppjhccdgbheiaaDoor
open Go.ChangeShapes Go.WideShapes Go.ChangeAt Go.WideElems Go.RowKit

theorem aclOrders_met (os : Os) (args : Array Value) : laidMetH Tryd.prog Rows.aclOrdersRow.laid ((World.doorLaid Tryd.prog 400 os).forCall (fun _ _ => 0) ⟨#[], args, []⟩).memory :=
  laidMetH_of_parts3 (fuel := 8) (laidMet_of_run' 8 (by kernel_rfl) (by kernel_rfl)) (by kernel_rfl) (by kernel_rfl)

set_option maxRecDepth 100000 in
theorem aclOrders_lifted (os : Os) (started : os.Started) (H : Type) (enc : TypeId × Value → H) :
    ReturnsInHanded {} Tryd.checked os 6 .any (fun w args => (Rows.aclOrdersSpec.pre enc Tryd.prog Tryd.f6 [] false w args ∧ laidMetH Tryd.prog Rows.aclOrdersRow.laid w) ∧ sizedMet enc Tryd.prog Tryd.f6 (OpenSpec.ofChange Rows.aclOrdersSpec) false w args)
      (Rows.aclOrdersSpec.post enc Tryd.prog Tryd.f6 false true false false) := by
  refine returnsInHanded_of_change_and (C := Tryd.checked) (X := fun w _ => laidMetH Tryd.prog Rows.aclOrdersRow.laid w) (fun _ _ _ hh h => h.of_heap hh) Tryd.own started (by kernel_rfl) Tryd.func6
    (ChangeSpec.witness_shaped (enc := enc) (C := Tryd.checked) (os := os) (X := fun w _ => laidMetH Tryd.prog Rows.aclOrdersRow.laid w) false (World.doorLaid Tryd.prog 400 os) #[.slice none 0 0] 8 rfl (World.shaped_of_RefB (by kernel_rfl) (by kernel_rfl)) (by kernel_rfl) (by kernel_rfl) (by kernel_rfl) (aclOrders_met os _)) ?_
  intro W base args ds gs before hval0 hW _ _ hL _
  have hval : ∀ (j : Nat) t v, Tryd.f6.params[j]? = some t → args[j]? = some v → Value.okWide Tryd.prog W .any base t v := hval0
  have hW' := hW
  obtain ⟨p, q, hA0, hV, rfl, hfz, hnd⟩ := hW
  have hA : DataW.TrodAll enc Tryd.prog W 0 (fun _ => true) true Tryd.f6.params.toList args.toList ds p := hA0
  have hlt : ∀ x ∈ p, x.block < W.heap.size := fun x hx => hW'.lt x (List.mem_append_left _ hx)
  rw [Tryd.params6] at hA hval
  obtain ⟨v0, d0, rfl, rfl, h0⟩ := trodAll_one hA
  obtain ⟨rfl, rfl⟩ := trodVars_none hV
  obtain ⟨A0, n0, c0, l0, rfl, hl0, hm0⟩ := open_acesV (hval 0 _ v0 rfl rfl) h0 (fun x hx => hlt x (hx))
  clear hA0 hval0
  refine (AclOrders_any A0 n0 c0 _ l0 W hl0 (Nat.le_refl _) hm0).mono fun e W' ⟨he, hb⟩ => ?_
  subst he
  exact ⟨_, rfl, law_post Tryd.laidOut Tryd.underlying4 rfl (by kernel_rfl) rfl hW' (by rw [Tryd.params6]; intro t ht; simp at ht; rcases ht with rfl <;> exact ⟨by kernel_rfl, of_decide_eq_true (by kernel_rfl)⟩) hb⟩

theorem aclOrders_holds : Rows.AclOrdersSaid :=
  OpenClaim.holds_of_wide 6 Tryd.f6 rfl rfl rfl rfl rfl rfl rfl ⟨rfl, rfl, rfl, rfl, rfl⟩ rfl rfl rfl rfl rfl (by kernel_rfl) Tryd.func6 (by kernel_rfl)
    (of_decide_eq_true (by kernel_rfl)) (by unfold Func.isWrapper; ((rw [if_neg (by decide +kernel)]; exact ⟨rfl, rfl⟩)))
    (fun os started H enc _ => aclOrders_lifted os started H enc)
set_option maxRecDepth 100000 in
theorem aclOrders_card : Rows.AclOrdersCardSaid :=
  Claim7.holds_tied_plain_at .later [] [.data, .data, .data] true (true, "7b58f35dfa9e08ea00186690e530b63ca1eaa6542b58d38336e5d9b585ab7f7d") false
    aclOrders_holds (fun _ h => by cases h) (by kernel_rfl) (fun _ h => by cases h) aclOrders_row_tie rfl ⟨rfl, rfl⟩ (by kernel_rfl) rfl
    (fun f fn hf hfn => by
      obtain rfl : f = 6 := Option.some.inj ((show Tryd.prog.funcNamed Rows.aclOrdersRow.func = some 6 by kernel_rfl).symm.trans hf) |>.symm
      obtain rfl : fn = Tryd.f6 := (Option.some.inj (Tryd.func6.symm.trans hfn)).symm
      exact ⟨by kernel_rfl, fun j t ht => by
        rw [Tryd.params6] at ht
        have hm : t ∈ [24] := by simpa using Array.mem_of_getElem? ht
        have hall : ([24].all fun u => !Tryd.prog.wantsStandIn u) = true := by kernel_rfl
        exact (show Tryd.prog.wantsStandIn t = false by simpa using List.all_eq_true.1 hall t hm)⟩)
    (by kernel_rfl)
end Go.Proofs.YtppjhccdgbheiaaDoor
