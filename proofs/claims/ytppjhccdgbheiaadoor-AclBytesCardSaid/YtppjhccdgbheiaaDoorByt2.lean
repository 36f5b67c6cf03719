/- For every input the law AclBytes (the bytes of a descriptor, and the descriptor with any bytes, are as specified, or the errors; both reverse each other) returns true without a panic, and each argument reads behind the call as it read before: its tied card holds. Conditions: none but the row's own (the three listed tables of the standard library read as their text lays them). -/
import Derived.Test.YtppjhccdgbheiaaDoorBase3
import Derived.Test.YtppjhccdgbheiaaDoorByt1
import Derived.Test.YtppjhccdgbheiaaDoorRows
import Derived.Test.YtppjhccdgbheiaaDoorTie
import Derived.Test.YtppjhccdgbheiaaDoorCards
import Derived.SevenTiedAt
import Derived.Stop.Joined
import Derived.ChangeMaps5
set_option linter.all false
namespace Go.Proofs.YtppjhccdgbheiaaDoor
open Go.RowKit Go.Hp
namespace L
theorem rSortedFrom_false {l : List Ace} : ∀ (k j : Nat), k ≤ j → j < l.length → rk (ax l j) < rk (ax l (j - 1)) → rSortedFrom l k = false := by
  intro k j hk hj h
  unfold rSortedFrom
  rw [List.all_eq_false]
  exact ⟨j - k, List.mem_range.2 (by omega), by rw [show k + (j - k) = j by omega]; simpa using h⟩
theorem cmp_lt {a b : Ace} (h1 : 0 ≤ a.f ∧ a.f ≤ 31) (h2 : 0 ≤ b.f ∧ b.f ≤ 31) : cmp a b < 0 ↔ rk a < rk b := by
  unfold cmp
  rw [rkU_eq h1.1 h1.2, rkU_eq h2.1 h2.2]
  omega
end L
set_option maxHeartbeats 2000000 in
theorem IsSorted_any (A : Option Addr) (n c B : Nat) (l : List L.Ace) (w : World) (h1 : Aces w B A n l) (hB1 : B ≤ w.heap.size) (hn : n ≤ 100) (hf : L.FOk l) :
    Calls Tryd.prog 57 #[.slice A n c, .func (.func 58) #[] #[]] w fun e w' => e = .returned (.bool (L.rSorted l)) ∧ Below w.heap.size w w' := by
  have e1 := Lib.hid h1.len
  have H1 := Lib.hid h1
  have HF := Lib.hid hf
  clear hf h1
  have st := St.start w
  rcases Nat.eq_zero_or_pos n with h0 | h0
  · subst h0
    have hs' : Hid (L.rSorted l = true) := Lib.hid (L.rSorted_end l 1 (by rw [← e1.out]; omega))
    go_enter Tryd.func57, Tryd.ntmps57
    go_wp2_with (refine WL.out ?_; (repeat ((refine WL.op ?_ ?_; (exact rfl); intro K hK; (first | ((((with_reducible apply ow_assign); exact rfl)); (go_simp <;> (try simp (disch := omega) only [wrap_id, sub_left, zac]) <;> rfl)) | ((with_reducible apply ow_eval); (go_simp <;> (try simp (disch := omega) only [wrap_id, sub_left, zac]) <;> rfl); ((with_reducible apply up_value)))); refine WL.next hK (by simp only [Act.put, zpt, zsz, zss]; exact rfl) ?_; clear hK K))); (try refine WL.nil ?_))
    go_loopw [5] (fun i wr => i = .int .i64 (-1) ∧ St w wr []) (fun i _ => 0)
    case atStart => exact ⟨rfl, st⟩
    case round =>
      clear st
      obtain ⟨rfl, st⟩ := hrel
      go_wp2_with (refine WL.out ?_; (repeat ((refine WL.op ?_ ?_; (exact rfl); intro K hK; (((with_reducible apply ow_eval); (go_simp <;> (try simp (disch := omega) only [wrap_id, sub_left, zac]) <;> rfl); ((with_reducible apply up_value)))); refine WL.next hK (by simp only [Act.put, zpt, zsz, zss]; exact rfl) ?_; clear hK K))); (try refine WL.nil ?_))
      go_ret
      exact ⟨ret_bool hs'.out.symm, st.below⟩
  · obtain ⟨m, rfl⟩ : ∃ m, n = m + 1 := ⟨n - 1, by omega⟩
    go_enter Tryd.func57, Tryd.ntmps57
    go_wp2_with (refine WL.out ?_; (repeat ((refine WL.op ?_ ?_; (exact rfl); intro K hK; (first | ((((with_reducible apply ow_assign); exact rfl)); (go_simp <;> (try simp (disch := omega) only [wrap_id, sub_left, zac]) <;> rfl)) | ((with_reducible apply ow_eval); (go_simp <;> (try simp (disch := omega) only [wrap_id, sub_left, zac]) <;> rfl); ((with_reducible apply up_value)))); refine WL.next hK (by simp only [Act.put, zpt, zsz, zss]; exact rfl) ?_; clear hK K))); (try refine WL.nil ?_))
    go_loopw [5] (fun i wr => ∃ k : Nat, k ≤ m ∧ i = .int .i64 k ∧ St w wr [] ∧ Hid (L.rSortedFrom l (k + 1) = true)) (fun i _ => (intOf i).toNat)
    case atStart => exact ⟨m, Nat.le_refl _, (by (rfl)), st, Lib.hid (L.rSorted_end l (m + 1) (by rw [← e1.out]; omega))⟩
    case round =>
      clear st
      obtain ⟨k, hk, rfl, st, hs⟩ := hrel
      rcases Nat.eq_zero_or_pos k with hk0 | hk0
      · subst hk0
        have hs' : Hid (L.rSorted l = true) := hs
        go_wp2_with (refine WL.out ?_; (repeat ((refine WL.op ?_ ?_; (exact rfl); intro K hK; (((with_reducible apply ow_eval); (go_simp <;> (try simp (disch := omega) only [wrap_id, sub_left, zac]) <;> rfl); ((with_reducible apply up_value)))); refine WL.next hK (by simp only [Act.put, zpt, zsz, zss]; exact rfl) ?_; clear hK K))); (try refine WL.nil ?_))
        go_ret
        exact ⟨ret_bool hs'.out.symm, st.below⟩
      · obtain ⟨j, rfl⟩ : ∃ j, k = j + 1 := ⟨k - 1, by omega⟩
        have hst : Hid (L.rSortedFrom l (j + 1) = (!decide (L.rk (L.ax l (j + 1)) < L.rk (L.ax l j)) && L.rSortedFrom l (j + 2))) := Lib.hid (L.rSorted_step l j (by rw [← e1.out]; omega))
        have hgk := HF.out (L.ax l (j + 1)) (by rw [L.ax_eq l (j + 1) (by rw [← e1.out]; omega)]; exact List.getElem_mem _)
        have hgj := HF.out (L.ax l j) (by rw [L.ax_eq l j (by rw [← e1.out]; omega)]; exact List.getElem_mem _)
        have hcm := Lib.hid (L.cmp_lt hgk hgj)
        obtain ⟨b1, o1, rfl, hb1, hc⟩ := H1.out.at_ (by omega)
        have hb1 := Nat.lt_of_lt_of_le hb1 hB1
        obtain ⟨f1, f2, f3, f4⟩ := hc (j + 1) (by omega)
        obtain ⟨g1, g2, g3, g4⟩ := hc j (by omega)
        clear hc hgk hgj
        have hjn : (j : Int) < (m : Int) := by omega
        have hpos : (0 : Int) < (j : Int) + 1 := by omega
        have hjn1 : (j : Int) < (m : Int) + 1 := by omega
        have hjn2 : j < m + 1 := by omega
        go_wp2_with (refine WL.out ?_; (repeat ((refine WL.op ?_ ?_; (exact rfl); intro K hK; (((with_reducible apply ow_eval); (go_simp <;> (try simp (disch := omega) only [wrap_id, sub_left, zac]) <;> rfl); ((with_reducible apply up_value)))); refine WL.next hK (by simp only [Act.put, zpt, zsz, zss]; exact rfl) ?_; clear hK K))); (try refine WL.nil ?_))
        refine wp_region_plan 12 (by kernel_rfl) (by kernel_rfl) ?_; replace st := st.drew; generalize World.drew _ = W at st ⊢
        iterate 10 (apply Plan.val'; (focus (intro x0 x1 x2 x3 x4 x5 x6 x7 x8 x9 x10 x11 w1 hb; (try simp only [depF, fillA, Act.put, zta, ztz, zpt, zsz, zss, zl0, zls]); (repeat (rintro rfl)); have st := st.call hb; (first | (apply Yphi.run; (exact rfl); (go_simp <;> (try simp (disch := omega) only [wrap_id, sub_left, zac]) <;> rfl); exact rfl) | (apply Yphi.old4 st; exact rfl; exact inferInstance; (exact rfl); exact rfl; assumption; assumption; assumption; assumption; assumption)))); (simp only [zca, zcn] <;> exact rfl))
        (apply Plan.val'; (focus (intro x0 x1 x2 x3 x4 x5 x6 x7 x8 x9 x10 x11 w1 hb; (try simp only [depF, fillA, Act.put, zta, ztz, zpt, zsz, zss, zl0, zls]); (repeat (rintro rfl)); have st := st.call hb; apply Yphi.call; (exact rfl); (go_simp <;> (try simp (disch := omega) only [wrap_id, sub_left, zac]) <;> rfl); exact rfl; refine (byRank_any (L.ax l (j + 1)) (L.ax l j) _).mono ?_; rintro e w' ⟨rfl, hb'⟩; exact ⟨_, rfl, hb', rfl⟩)); (simp only [zca, zcn] <;> exact rfl))
        (apply Plan.val'; (focus (intro x0 x1 x2 x3 x4 x5 x6 x7 x8 x9 x10 x11 w1 hb; (try simp only [depF, fillA, Act.put, zta, ztz, zpt, zsz, zss, zl0, zls]); (repeat (rintro rfl)); have st := st.call hb; ((apply Yphi.run; (exact rfl); (go_simp <;> (try simp (disch := omega) only [wrap_id, sub_left, zac]) <;> rfl); exact rfl)))); (simp only [zca, zcn] <;> exact rfl))
        intro x0 x1 x2 x3 x4 x5 x6 x7 x8 x9 x10 x11 lo hi w1 hb hap
        rintro rfl rfl rfl rfl rfl rfl rfl rfl rfl rfl rfl rfl
        simp only [allPhi, fillA, Act.put, zta, ztz, zpt, zsz, zss, zda, zdz]
        have st := st.call hb
        clear hap hb
        by_cases hx : L.cmp (L.ax l (j + 1)) (L.ax l j) < 0
        · have hs' : Hid (L.rSorted l = false) := Lib.hid (L.rSortedFrom_false 1 (j + 1) (by omega) (by rw [← e1.out]; omega) (hcm.out.1 hx))
          go_wp2_with (refine WL.out ?_; (repeat (fail)); (try refine WL.nil ?_))
          go_ret
          exact ⟨ret_bool hs'.out.symm, st.below⟩
        · have hs' : Hid (L.rSortedFrom l (j + 1) = true) := Lib.hid (by rw [hst.out, hs.out, decide_eq_false (fun h => hx (hcm.out.2 h))]; rfl)
          go_wp2_with (refine WL.out ?_; (repeat ((refine WL.op ?_ ?_; (exact rfl); intro K hK; (first | ((((with_reducible apply ow_assign); exact rfl)); (go_simp <;> (try simp (disch := omega) only [wrap_id, sub_left, zac]) <;> rfl)) | ((with_reducible apply ow_eval); (go_simp <;> (try simp (disch := omega) only [wrap_id, sub_left, zac]) <;> rfl); ((with_reducible apply up_value)))); refine WL.next hK (by simp only [Act.put, zpt, zsz, zss]; exact rfl) ?_; clear hK K))); (try refine WL.nil ?_))
          exact ⟨⟨j, by omega, (by (rfl)), st, hs'⟩, by simp [intOf]; try omega⟩
namespace L
def isCanonical (l : List Ace) : Bool × Int := if acesErr l = 0 then (rSorted l, 0) else (false, acesErr l)
def canonicalOf (l : List Ace) : List Ace × Int := if acesErr l = 0 then (canon l, 0) else ([], acesErr l)
theorem acesErr_len {l : List Ace} (h : acesErr l = 0) : l.length ≤ 16 := by
  unfold acesErr at h
  split at h
  · cases h
  · omega
end L
set_option maxHeartbeats 1000000 in
theorem IsCanonical_any (A : Option Addr) (n c B : Nat) (l : List L.Ace) (w : World) (h1 : Aces w B A n l) (hB1 : B ≤ w.heap.size) (hn : n ≤ 100) :
    Calls Tryd.prog 25 #[.slice A n c] w fun e w' => e = .returned (.tuple #[.bool (L.isCanonical l).1, .int .i64 (L.isCanonical l).2]) ∧ Below w.heap.size w w' := by
  have H1 := Lib.hid h1
  clear h1
  have st := St.start w
  by_cases hx : L.acesErr l = 0
  · have HE := Lib.hid hx
    have HF := Lib.hid (L.acesErr_good hx).fok
    have HR : Hid (L.isCanonical l = (L.rSorted l, 0)) := Lib.hid (by unfold L.isCanonical; rw [if_pos hx])
    clear hx
    rw [HR.out]
    go_enter Tryd.func25, Tryd.ntmps25
    go_wp2_with (refine WL.out ?_; (repeat ((refine WL.op ?_ ?_; (exact rfl); intro K hK; (first | ((((with_reducible apply ow_assign); exact rfl)); (go_simp <;> (try simp (disch := omega) only [wrap_id, sub_left, zac]) <;> rfl)) | ((with_reducible apply ow_eval); (go_simp <;> (try simp (disch := omega) only [wrap_id, sub_left, zac]) <;> rfl); first | (with_reducible apply up_value) | ((with_reducible apply up_enter); first | (go_at_call 48; refine (acesErr_any A n c B l _ (H1.out.st st hB1) (Nat.le_trans hB1 st.size) (by omega)).mono ?_; rw [HE.out]; rintro e w' ⟨rfl, hb⟩; replace st := st.call hb; clear hb; refine ⟨_, rfl, ?_⟩) | (go_at_call 57; refine (IsSorted_any A n c B l _ (H1.out.st st hB1) (Nat.le_trans hB1 st.size) hn HF.out).mono ?_; rintro e w' ⟨rfl, hb⟩; replace st := st.call hb; clear hb; refine ⟨_, rfl, ?_⟩)))); refine WL.next hK (by simp only [Act.put, zpt, zsz, zss]; exact rfl) ?_; clear hK K))); (try refine WL.nil ?_))
    go_ret2
    exact ⟨rfl, st.below⟩
  · obtain ⟨V, hV⟩ : ∃ V, L.acesErr l = V := ⟨_, rfl⟩
    have HR : Hid (L.isCanonical l = (false, V)) := Lib.hid (by unfold L.isCanonical; rw [if_neg hx, hV])
    rw [hV] at hx
    have hv0 : (V == 0) = false := by simpa using hx
    have HV := Lib.hid hV
    clear hx hV
    rw [HR.out]
    go_enter Tryd.func25, Tryd.ntmps25
    go_wp2_with (refine WL.out ?_; (repeat ((refine WL.op ?_ ?_; (exact rfl); intro K hK; (first | ((((with_reducible apply ow_assign); exact rfl)); (go_simp <;> (try simp (disch := omega) only [wrap_id, sub_left, zac]) <;> rfl)) | ((with_reducible apply ow_eval); (go_simp <;> (try simp (disch := omega) only [wrap_id, sub_left, zac]) <;> rfl); first | (with_reducible apply up_value) | ((with_reducible apply up_enter); ((go_at_call 48; refine (acesErr_any A n c B l _ (H1.out.st st hB1) (Nat.le_trans hB1 st.size) (by omega)).mono ?_; rw [HV.out]; rintro e w' ⟨rfl, hb⟩; replace st := st.call hb; clear hb; refine ⟨_, rfl, ?_⟩))))); refine WL.next hK (by simp only [Act.put, zpt, zsz, zss]; exact rfl) ?_; clear hK K))); (try refine WL.nil ?_))
    go_ret2
    exact ⟨rfl, st.below⟩
set_option maxHeartbeats 1000000 in
theorem CanonicalOf_any (A : Option Addr) (n c B : Nat) (l : List L.Ace) (w : World) (h1 : Aces w B A n l) (hB1 : B ≤ w.heap.size) (hn : n ≤ 100) :
    Calls Tryd.prog 26 #[.slice A n c] w (RetAcesErr w (L.canonicalOf l)) := by
  have H1 := Lib.hid h1
  clear h1
  have st := St.start w
  by_cases hx : L.acesErr l = 0
  · have HE := Lib.hid hx
    have HF := Lib.hid (L.acesErr_good hx).fok
    have HL := Lib.hid (L.acesErr_len hx)
    have HR : Hid (L.canonicalOf l = (L.canon l, 0)) := Lib.hid (by unfold L.canonicalOf; rw [if_pos hx])
    clear hx
    rw [HR.out]
    go_enter Tryd.func26, Tryd.ntmps26
    go_wp2_with (refine WL.out ?_; (repeat ((refine WL.op ?_ ?_; (exact rfl); intro K hK; (first | ((((with_reducible apply ow_assign); exact rfl)); (go_simp <;> (try simp (disch := omega) only [wrap_id, sub_left, zac]) <;> rfl)) | ((with_reducible apply ow_eval); (go_simp <;> (try simp (disch := omega) only [wrap_id, sub_left, zac]) <;> rfl); first | (with_reducible apply up_value) | ((with_reducible apply up_enter); first | (go_at_call 48; refine (acesErr_any A n c B l _ (H1.out.st st hB1) (Nat.le_trans hB1 st.size) (by omega)).mono ?_; rw [HE.out]; rintro e w' ⟨rfl, hb⟩; replace st := st.call hb; clear hb; refine ⟨_, rfl, ?_⟩) | (go_at_call 59; refine (canonical_any A n c B l _ (H1.out.st st hB1) (Nat.le_trans hB1 st.size) (by omega) HF.out).mono ?_; rintro e w' ⟨M, A5, n5, c5, rfl, st', hM⟩; obtain rfl := hM.2 (Nat.le_trans HL.out (by omega)); clear hM; replace st := st.join st'; clear st'; simp only [List.cons_append, List.nil_append] at st; refine ⟨_, rfl, ?_⟩)))); refine WL.next hK (by simp only [Act.put, zpt, zsz, zss]; exact rfl) ?_; clear hK K))); (try refine WL.nil ?_))
    go_ret2
    exact ⟨_, _, _, rfl, st⟩
  · obtain ⟨V, hV⟩ : ∃ V, L.acesErr l = V := ⟨_, rfl⟩
    have HR : Hid (L.canonicalOf l = ([], V)) := Lib.hid (by unfold L.canonicalOf; rw [if_neg hx, hV])
    rw [hV] at hx
    have hv0 : (V == 0) = false := by simpa using hx
    have HV := Lib.hid hV
    clear hx hV
    rw [HR.out]
    go_enter Tryd.func26, Tryd.ntmps26
    go_wp2_with (refine WL.out ?_; (repeat ((refine WL.op ?_ ?_; (exact rfl); intro K hK; (first | ((((with_reducible apply ow_assign); exact rfl)); (go_simp <;> (try simp (disch := omega) only [wrap_id, sub_left, zac]) <;> rfl)) | ((with_reducible apply ow_eval); (go_simp <;> (try simp (disch := omega) only [wrap_id, sub_left, zac]) <;> rfl); first | (with_reducible apply up_value) | ((with_reducible apply up_enter); ((go_at_call 48; refine (acesErr_any A n c B l _ (H1.out.st st hB1) (Nat.le_trans hB1 st.size) (by omega)).mono ?_; rw [HV.out]; rintro e w' ⟨rfl, hb⟩; replace st := st.call hb; clear hb; refine ⟨_, rfl, ?_⟩))))); refine WL.next hK (by simp only [Act.put, zpt, zsz, zss]; exact rfl) ?_; clear hK K))); (try refine WL.nil ?_))
    go_ret2
    exact ⟨none, 0, 0, rfl, st.nilRow _ _⟩
end Go.Proofs.YtppjhccdgbheiaaDoor
namespace Go.Proofs.YtppjhccdgbheiaaDoor
open Go.RowKit Go.Hp
namespace L
theorem cells_k (M : List Ace) (R : List Value) (k : Nat) (h : k < M.length) : (cellsOf M ++ R)[k * 4]? = some (.int .i64 (ax M k).k) := by
  rw [List.getElem?_append_left (by rw [cellsOf_length]; omega)]
  exact cellsOf_get M k h 0 (by decide)
theorem cells_f (M : List Ace) (R : List Value) (k : Nat) (h : k < M.length) : (cellsOf M ++ R)[k * 4 + 1]? = some (.int .i64 (ax M k).f) := by
  rw [List.getElem?_append_left (by rw [cellsOf_length]; omega)]
  exact cellsOf_get M k h 1 (by decide)
theorem cells_m (M : List Ace) (R : List Value) (k : Nat) (h : k < M.length) : (cellsOf M ++ R)[k * 4 + 2]? = some (.int .i64 (ax M k).m) := by
  rw [List.getElem?_append_left (by rw [cellsOf_length]; omega)]
  exact cellsOf_get M k h 2 (by decide)
theorem cells_w (M : List Ace) (R : List Value) (k : Nat) (h : k < M.length) : (cellsOf M ++ R)[k * 4 + 3]? = some (.int .i64 (ax M k).w) := by
  rw [List.getElem?_append_left (by rw [cellsOf_length]; omega)]
  exact cellsOf_get M k h 3 (by decide)
def Ace.mask (a : Ace) (m : Int) : Ace := ⟨a.k, a.f, m, a.w⟩
theorem cells_set1 (M : List Ace) (R : List Value) (k : Nat) (v : Int) (h : k < M.length) : (cellsOf M ++ R).take (k * 4 + 2) ++ [.int .i64 v] ++ (cellsOf M ++ R).drop (k * 4 + 2 + 1) = cellsOf (M.set k ((ax M k).mask v)) ++ R := by
  rw [← cells_set M R k ((ax M k).mask v) h]
  have ht := cells_take M R k h
  have hl : k * 4 + 4 ≤ (cellsOf M ++ R).length := by rw [List.length_append, cellsOf_length]; omega
  generalize cellsOf M ++ R = C at ht hl ⊢
  have hC : C = C.take (k * 4) ++ ((ax M k).cells ++ C.drop (k * 4 + 4)) := by
    rw [← ht, List.take_drop, ← List.append_assoc]
    conv => lhs; rw [← List.take_append_drop (k * 4 + 4) C]
    congr 1
    have : List.take (k * 4) C = List.take (k * 4) (List.take (k * 4 + 4) C) := by rw [List.take_take]; congr 1; omega
    rw [this, List.take_append_drop]
  have hp : (C.take (k * 4)).length = k * 4 := by rw [List.length_take]; omega
  generalize C.take (k * 4) = P at hC hp ⊢
  generalize C.drop (k * 4 + 4) = S at hC ⊢
  subst hC
  have e1 : List.take (k * 4 + 2) (P ++ ((ax M k).cells ++ S)) = P ++ [.int .i64 (ax M k).k, .int .i64 (ax M k).f] := by
    rw [List.take_append, List.take_of_length_le (by omega), hp, show k * 4 + 2 - k * 4 = 2 by omega]
    rfl
  have e2 : List.drop (k * 4 + 2 + 1) (P ++ ((ax M k).cells ++ S)) = .int .i64 (ax M k).w :: S := by
    rw [List.drop_append, List.drop_of_length_le (by omega), hp, show k * 4 + 2 + 1 - k * 4 = 3 by omega]
    rfl
  rw [e1, e2]
  simp [Ace.cells, Ace.mask]
def alike (x a : Ace) : Bool := x.k == a.k && (x.f == a.f && x.w == a.w)
def mput : List Ace → Ace → List Ace
  | [], a => [a]
  | x :: r, a => if alike x a then x.mask (bor x.m a.m) :: r else x :: mput r a
def merged (l : List Ace) : List Ace := l.foldl mput []
theorem merged_step (l : List Ace) (q : Nat) (h : q < l.length) : merged (l.take (q + 1)) = mput (merged (l.take q)) (ax l q) := by
  unfold merged
  rw [take_succ_ax l q h, List.foldl_append]
  rfl
theorem mput_len : ∀ (M : List Ace) (a : Ace), (mput M a).length ≤ M.length + 1
  | [], _ => Nat.le_refl _
  | x :: r, a => by
    unfold mput
    have := mput_len r a
    split <;> simp <;> omega
theorem merged_len (l : List Ace) : (merged l).length ≤ l.length := by
  have key : ∀ (l M : List Ace), (l.foldl mput M).length ≤ M.length + l.length := by
    intro l
    induction l with
    | nil => intro M; simp
    | cons a l ih =>
      intro M
      have h1 := ih (mput M a)
      have h2 := mput_len M a
      simp only [List.foldl_cons, List.length_cons]
      omega
  have := key l []
  simpa [merged] using this
theorem mput_at (M : List Ace) (a : Ace) (k : Nat) (h : k < M.length) (hx : alike (ax M k) a = true) : mput (M.drop k) a = (ax M k).mask (bor (ax M k).m a.m) :: M.drop (k + 1) := by
  rw [drop_ax M k h, mput, if_pos hx]
theorem mput_past (M : List Ace) (a : Ace) (k : Nat) (h : k < M.length) (hx : alike (ax M k) a = false) : M.take k ++ mput (M.drop k) a = M.take (k + 1) ++ mput (M.drop (k + 1)) a := by
  rw [drop_ax M k h, mput, if_neg (by rw [hx]; simp), take_succ_ax M k h]
  simp
theorem mput_set {M : List Ace} {a : Ace} {k : Nat} (h : k < M.length) (hx : alike (ax M k) a = true) (hp : mput M a = M.take k ++ mput (M.drop k) a) : mput M a = M.set k ((ax M k).mask (bor (ax M k).m a.m)) := by
  rw [hp, mput_at M a k h hx, List.set_eq_take_append_cons_drop, if_pos h]
end L
theorem bits_bor (a b : Int) : bits BinOp.or IntKind.i64 a b = L.bor a b := rfl
set_option maxRecDepth 8000 in
set_option maxHeartbeats 4000000 in
theorem rMerged_any (A : Option Addr) (n c B : Nat) (l : List L.Ace) (w : World) (h1 : Aces w B A n l) (hB1 : B ≤ w.heap.size) (hn : n ≤ 100) :
    Calls Tryd.prog 30 #[.slice A n c] w (RetAces w (L.merged l)) := by
  have e1 := Lib.hid h1.len
  have H1 := Lib.hid h1
  clear h1
  have st := St.start w
  go_enter Tryd.func30, Tryd.ntmps30
  go_wp2_with (refine WL.out ?_; (repeat (fail)); (try refine WL.nil ?_))
  go_loopw [3, 4] (fun v i wr => ∃ (q : Nat) (A' : Option Addr) (m c' : Nat), q ≤ n ∧ i = .int .i64 q ∧ v = .slice A' m c' ∧ St w wr [aceRow (.slice A' m c') m (L.merged (l.take q))]) (fun _ i _ => n - (intOf i).toNat)
  case atStart => exact ⟨0, none, 0, 0, by omega, rfl, rfl, st.nilRow _ _⟩
  case round =>
    clear st
    obtain ⟨q, A', m, c', hq, rfl, rfl, st⟩ := hrel
    have hm : m ≤ 100 := by
      have h := St.len st (i := 0) rfl
      have h2 := L.merged_len (l.take q)
      have h3 := List.length_take_le q l
      omega
    by_cases hlt : q < n
    · have hst := Lib.hid (L.merged_step l q (by rw [← e1.out]; omega))
      generalize hM : L.merged (l.take q) = M at st hst
      replace hM := Lib.hid hM
      obtain ⟨b1, o1, rfl, hb1, hc⟩ := H1.out.at_ (by omega)
      have hb1 := Nat.lt_of_lt_of_le hb1 hB1
      obtain ⟨f1, f2, f3, f4⟩ := hc q hlt
      clear hc
      go_wp2_with (refine WL.out ?_; (repeat ((refine WL.op ?_ ?_; (exact rfl); intro K hK; (((with_reducible apply ow_eval); (go_simp <;> (try simp (disch := omega) only [wrap_id, sub_left, zac]) <;> rfl); ((with_reducible apply up_value)))); refine WL.next hK (by simp only [Act.put, zpt, zsz, zss]; exact rfl) ?_; clear hK K))); (try refine WL.nil ?_))
      go_loopw [5, 6] (fun f i wr => ∃ (k : Nat) (fd : Bool) (M' : List L.Ace), k ≤ m ∧ i = .int .i64 k ∧ f = .bool fd ∧ St w wr [aceRow (.slice A' m c') m M'] ∧ Hid ((fd = false ∧ M' = M ∧ L.mput M (L.ax l q) = M.take k ++ L.mput (M.drop k) (L.ax l q)) ∨ (fd = true ∧ M' = L.mput M (L.ax l q)))) (fun _ i _ => m - (intOf i).toNat)
      case atStart => exact ⟨0, false, M, by omega, rfl, rfl, st, Lib.hid (.inl ⟨rfl, rfl, by simp⟩)⟩
      case round =>
        clear st
        obtain ⟨k, fd, M', hk, rfl, rfl, st, hs⟩ := hrel
        cases fd with
        | true =>
          have hM' : Hid (M' = L.merged (l.take (q + 1))) := Lib.hid (by
            rcases hs.out with ⟨h, _⟩ | ⟨_, h⟩
            · cases h
            · rw [h, hst.out])
          clear hs
          by_cases hkm : k < m
          · go_wp2_with (refine WL.out ?_; (repeat ((refine WL.op ?_ ?_; (exact rfl); intro K hK; (first | ((first | ((with_reducible apply ow_move); exact rfl) | ((with_reducible apply ow_assign); exact rfl)); (go_simp <;> (try simp (disch := omega) only [wrap_id, sub_left, zac]) <;> rfl)) | ((with_reducible apply ow_eval); (go_simp <;> (try simp (disch := omega) only [wrap_id, sub_left, zac]) <;> rfl); ((with_reducible apply up_value)))); refine WL.next hK (by simp only [Act.put, zpt, zsz, zss]; exact rfl) ?_; clear hK K))); (try refine WL.nil ?_))
            exact ⟨⟨q + 1, A', m, c', by omega, by go_num, rfl, by rw [← hM'.out]; exact st⟩, by simp [intOf]; omega⟩
          · go_wp2_with (refine WL.out ?_; (repeat (first | (refine WL.op ?_ ?_; (exact rfl); intro K hK; (first | ((first | ((with_reducible apply ow_move); exact rfl) | ((with_reducible apply ow_assign); exact rfl)); (go_simp <;> (try simp (disch := omega) only [wrap_id, sub_left, zac]) <;> rfl)) | ((with_reducible apply ow_eval); (go_simp <;> (try simp (disch := omega) only [wrap_id, sub_left, zac]) <;> rfl); ((with_reducible apply up_value)))); refine WL.next hK (by simp only [Act.put, zpt, zsz, zss]; exact rfl) ?_; clear hK K) | (refine WL.skip ?_ (by simp only [Act.put, zpt, zsz, zss]; exact rfl) ?_; (exact rfl)))); (try refine WL.nil ?_))
            exact ⟨⟨q + 1, A', m, c', by omega, by go_num, rfl, by rw [← hM'.out]; exact st⟩, by simp [intOf]; omega⟩
        | false =>
          obtain ⟨rfl, hp⟩ : M' = M ∧ L.mput M (L.ax l q) = M.take k ++ L.mput (M.drop k) (L.ax l q) := by
            rcases hs.out with ⟨_, h⟩ | ⟨h, _⟩
            · exact h
            · cases h
          clear hs
          have HP := Lib.hid hp
          clear hp
          by_cases hkm : k < m
          · have e2 := Lib.hid (St.len st (i := 0) rfl)
            obtain ⟨g, R, rfl, hl, hcc, hnc, hcm, st⟩ := st.toBox (by omega)
            have hkl : k < M'.length := by rw [← e2.out]; exact hkm
            have HC := Lib.hid hcc
            clear hl hcc
            have hpast : L.alike (L.ax M' k) (L.ax l q) = false → Hid (L.mput M' (L.ax l q) = M'.take (k + 1) ++ L.mput (M'.drop (k + 1)) (L.ax l q)) := fun h => Lib.hid (by rw [HP.out]; exact L.mput_past M' _ k hkl h)
            have hhit : L.alike (L.ax M' k) (L.ax l q) = true → Hid (L.mput M' (L.ax l q) = M'.set k ((L.ax M' k).mask (L.bor (L.ax M' k).m (L.ax l q).m))) := fun h => Lib.hid (L.mput_set hkl h HP.out)
            by_cases c1 : ((L.ax M' k).k == (L.ax l q).k) = true
            · by_cases c2 : ((L.ax M' k).f == (L.ax l q).f) = true
              · by_cases c3 : ((L.ax M' k).w == (L.ax l q).w) = true
                · have hs' := hhit (by unfold L.alike; rw [c1, c2, c3]; rfl)
                  clear hpast hhit
                  go_wp2_with (refine WL.out ?_; (repeat ((refine WL.op ?_ ?_; (exact rfl); intro K hK; (first | ((((with_reducible apply ow_move); exact rfl)); (go_simp <;> (try simp (disch := omega) only [wrap_id, sub_left, zac]) <;> rfl)) | ((with_reducible apply ow_eval); (go_simp <;> (try simp (disch := omega) only [wrap_id, sub_left, zac]) <;> rfl); ((with_reducible apply up_value)))); refine WL.next hK (by simp only [Act.put, zpt, zsz, zss]; exact rfl) ?_; clear hK K))); (try refine WL.nil ?_))
                  refine wp_region_plan 37 (by kernel_rfl) (by kernel_rfl) ?_; replace st := st.drew; generalize World.drew _ = W at st ⊢
                  iterate 4 (apply Plan.val'; (focus (intro x0 x1 x2 x3 x4 x5 x6 x7 x8 x9 x10 x11 x12 x13 x14 x15 x16 x17 x18 x19 x20 x21 x22 x23 x24 x25 x26 x27 x28 x29 x30 x31 x32 x33 x34 x35 x36 w1 hb; (try simp only [depF, fillA, Act.put, zta, ztz, zpt, zsz, zss, zl0, zls]); (repeat (rintro rfl)); have st := st.call hb; ((apply Yphi.run; (exact rfl); (go_simp <;> (try simp (disch := omega) only [wrap_id, sub_left, zac]) <;> rfl); exact rfl)))); (simp only [zca, zcn] <;> exact rfl))
                  (apply Plan.val'; (focus (intro x0 x1 x2 x3 x4 x5 x6 x7 x8 x9 x10 x11 x12 x13 x14 x15 x16 x17 x18 x19 x20 x21 x22 x23 x24 x25 x26 x27 x28 x29 x30 x31 x32 x33 x34 x35 x36 w1 hb; (try simp only [depF, fillA, Act.put, zta, ztz, zpt, zsz, zss, zl0, zls]); (repeat (rintro rfl)); have st := st.call hb; apply Yphi.load1 st; exact rfl; exact inferInstance; (exact rfl); exact rfl; (exact get0); (exact L.cells_k _ _ _ (hkl)))); (simp only [zca, zcn] <;> exact rfl))
                  iterate 7 (apply Plan.val'; (focus (intro x0 x1 x2 x3 x4 x5 x6 x7 x8 x9 x10 x11 x12 x13 x14 x15 x16 x17 x18 x19 x20 x21 x22 x23 x24 x25 x26 x27 x28 x29 x30 x31 x32 x33 x34 x35 x36 w1 hb; (try simp only [depF, fillA, Act.put, zta, ztz, zpt, zsz, zss, zl0, zls]); (repeat (rintro rfl)); have st := st.call hb; (first | (apply Yphi.run; (exact rfl); (go_simp <;> (try simp (disch := omega) only [wrap_id, sub_left, zac]) <;> rfl); exact rfl) | (apply Yphi.old1 st; exact rfl; exact inferInstance; (exact rfl); exact rfl; assumption; assumption)))); (simp only [zca, zcn] <;> exact rfl))
                  iterate 4 (apply Plan.val'; (focus (intro x0 x1 x2 x3 x4 x5 x6 x7 x8 x9 x10 x11 x12 x13 x14 x15 x16 x17 x18 x19 x20 x21 x22 x23 x24 x25 x26 x27 x28 x29 x30 x31 x32 x33 x34 x35 x36 w1 hb; (try simp only [depF, fillA, Act.put, zta, ztz, zpt, zsz, zss, zl0, zls]); (repeat (rintro rfl)); have st := st.call hb; ((apply Yphi.run; (exact rfl); (go_simp <;> (try simp (disch := omega) only [wrap_id, sub_left, zac]) <;> rfl); exact rfl)))); (simp only [zca, zcn] <;> exact rfl))
                  (apply Plan.val'; (focus (intro x0 x1 x2 x3 x4 x5 x6 x7 x8 x9 x10 x11 x12 x13 x14 x15 x16 x17 x18 x19 x20 x21 x22 x23 x24 x25 x26 x27 x28 x29 x30 x31 x32 x33 x34 x35 x36 w1 hb; (try simp only [depF, fillA, Act.put, zta, ztz, zpt, zsz, zss, zl0, zls]); (repeat (rintro rfl)); have st := st.call hb; apply Yphi.load1 st; exact rfl; exact inferInstance; (exact rfl); exact rfl; (exact get0); (exact L.cells_f _ _ _ (hkl)))); (simp only [zca, zcn] <;> exact rfl))
                  iterate 6 (apply Plan.val'; (focus (intro x0 x1 x2 x3 x4 x5 x6 x7 x8 x9 x10 x11 x12 x13 x14 x15 x16 x17 x18 x19 x20 x21 x22 x23 x24 x25 x26 x27 x28 x29 x30 x31 x32 x33 x34 x35 x36 w1 hb; (try simp only [depF, fillA, Act.put, zta, ztz, zpt, zsz, zss, zl0, zls]); (repeat (rintro rfl)); have st := st.call hb; (first | (apply Yphi.run; (exact rfl); (go_simp <;> (try simp (disch := omega) only [wrap_id, sub_left, zac]) <;> rfl); exact rfl) | (apply Yphi.old1 st; exact rfl; exact inferInstance; (exact rfl); exact rfl; assumption; assumption)))); (simp only [zca, zcn] <;> exact rfl))
                  iterate 2 (apply Plan.val'; (focus (intro x0 x1 x2 x3 x4 x5 x6 x7 x8 x9 x10 x11 x12 x13 x14 x15 x16 x17 x18 x19 x20 x21 x22 x23 x24 x25 x26 x27 x28 x29 x30 x31 x32 x33 x34 x35 x36 w1 hb; (try simp only [depF, fillA, Act.put, zta, ztz, zpt, zsz, zss, zl0, zls]); (repeat (rintro rfl)); have st := st.call hb; ((apply Yphi.run; (exact rfl); (go_simp <;> (try simp (disch := omega) only [wrap_id, sub_left, zac]) <;> rfl); exact rfl)))); (simp only [zca, zcn] <;> exact rfl))
                  iterate 4 (apply Plan.val'; (focus (intro x0 x1 x2 x3 x4 x5 x6 x7 x8 x9 x10 x11 x12 x13 x14 x15 x16 x17 x18 x19 x20 x21 x22 x23 x24 x25 x26 x27 x28 x29 x30 x31 x32 x33 x34 x35 x36 w1 hb; (try simp only [depF, fillA, Act.put, zta, ztz, zpt, zsz, zss, zl0, zls]); (repeat (rintro rfl)); have st := st.call hb; ((apply Yphi.run; (exact rfl); (go_simp <;> (try simp (disch := omega) only [wrap_id, sub_left, zac]) <;> rfl); exact rfl)))); (simp only [zca, zcn] <;> exact rfl))
                  (apply Plan.val'; (focus (intro x0 x1 x2 x3 x4 x5 x6 x7 x8 x9 x10 x11 x12 x13 x14 x15 x16 x17 x18 x19 x20 x21 x22 x23 x24 x25 x26 x27 x28 x29 x30 x31 x32 x33 x34 x35 x36 w1 hb; (try simp only [depF, fillA, Act.put, zta, ztz, zpt, zsz, zss, zl0, zls]); (repeat (rintro rfl)); have st := st.call hb; apply Yphi.load1 st; exact rfl; exact inferInstance; (exact rfl); exact rfl; (exact get0); (exact L.cells_w _ _ _ (hkl)))); (simp only [zca, zcn] <;> exact rfl))
                  iterate 6 (apply Plan.val'; (focus (intro x0 x1 x2 x3 x4 x5 x6 x7 x8 x9 x10 x11 x12 x13 x14 x15 x16 x17 x18 x19 x20 x21 x22 x23 x24 x25 x26 x27 x28 x29 x30 x31 x32 x33 x34 x35 x36 w1 hb; (try simp only [depF, fillA, Act.put, zta, ztz, zpt, zsz, zss, zl0, zls]); (repeat (rintro rfl)); have st := st.call hb; (first | (apply Yphi.run; (exact rfl); (go_simp <;> (try simp (disch := omega) only [wrap_id, sub_left, zac]) <;> rfl); exact rfl) | (apply Yphi.old1 st; exact rfl; exact inferInstance; (exact rfl); exact rfl; assumption; assumption)))); (simp only [zca, zcn] <;> exact rfl))
                  (apply Plan.val'; (focus (intro x0 x1 x2 x3 x4 x5 x6 x7 x8 x9 x10 x11 x12 x13 x14 x15 x16 x17 x18 x19 x20 x21 x22 x23 x24 x25 x26 x27 x28 x29 x30 x31 x32 x33 x34 x35 x36 w1 hb; (try simp only [depF, fillA, Act.put, zta, ztz, zpt, zsz, zss, zl0, zls]); (repeat (rintro rfl)); have st := st.call hb; ((apply Yphi.run; (exact rfl); (go_simp <;> (try simp (disch := omega) only [wrap_id, sub_left, zac]) <;> rfl); exact rfl)))); (simp only [zca, zcn] <;> exact rfl))
                  intro x0 x1 x2 x3 x4 x5 x6 x7 x8 x9 x10 x11 x12 x13 x14 x15 x16 x17 x18 x19 x20 x21 x22 x23 x24 x25 x26 x27 x28 x29 x30 x31 x32 x33 x34 x35 x36 lo hi w1 hb hap
                  rintro rfl rfl rfl rfl rfl rfl rfl rfl rfl rfl rfl rfl rfl rfl rfl rfl rfl rfl rfl rfl rfl rfl rfl rfl rfl rfl rfl rfl rfl rfl rfl rfl rfl rfl rfl rfl rfl
                  simp only [allPhi, fillA, Act.put, zta, ztz, zpt, zsz, zss, zda, zdz]
                  have st := st.call hb
                  clear hap hb
                  go_wp2_with (refine WL.out ?_; (repeat (fail)); (try refine WL.nil ?_))
                  refine wp_region_plan 15 (by kernel_rfl) (by kernel_rfl) ?_; replace st := st.drew; generalize World.drew _ = W at st ⊢
                  iterate 6 (apply Plan.val'; (focus (intro x0 x1 x2 x3 x4 x5 x6 x7 x8 x9 x10 x11 x12 x13 x14 w1 hb; (try simp only [depF, fillA, Act.put, zta, ztz, zpt, zsz, zss, zl0, zls]); (repeat (rintro rfl)); have st := st.call hb; ((apply Yphi.run; (exact rfl); (go_simp <;> (try simp (disch := omega) only [wrap_id, sub_left, zac]) <;> rfl); exact rfl)))); (simp only [zca, zcn] <;> exact rfl))
                  (apply Plan.val'; (focus (intro x0 x1 x2 x3 x4 x5 x6 x7 x8 x9 x10 x11 x12 x13 x14 w1 hb; (try simp only [depF, fillA, Act.put, zta, ztz, zpt, zsz, zss, zl0, zls]); (repeat (rintro rfl)); have st := st.call hb; apply Yphi.load1 st; exact rfl; exact inferInstance; (exact rfl); exact rfl; (exact get0); (exact L.cells_m _ _ _ (hkl)))); (simp only [zca, zcn] <;> exact rfl))
                  iterate 8 (apply Plan.val'; (focus (intro x0 x1 x2 x3 x4 x5 x6 x7 x8 x9 x10 x11 x12 x13 x14 w1 hb; (try simp only [depF, fillA, Act.put, zta, ztz, zpt, zsz, zss, zl0, zls]); (repeat (first | rintro rfl | intro lo hi hlo hhi hphi)); have st := st.call hb; (first | (apply Yphi.run; (exact rfl); (go_simp <;> (try simp (disch := omega) only [wrap_id, sub_left, zac]) <;> rfl); exact rfl) | (apply Yphi.old1 st; exact rfl; exact inferInstance; (exact rfl); exact rfl; assumption; assumption)))); (simp only [zca, zcn] <;> exact rfl))
                  intro x0 x1 x2 x3 x4 x5 x6 x7 x8 x9 x10 x11 x12 x13 x14 lo hi w1 hb hap
                  rintro rfl rfl rfl rfl rfl rfl rfl rfl rfl rfl rfl rfl rfl rfl rfl
                  simp only [allPhi, fillA, Act.put, zta, ztz, zpt, zsz, zss, zda, zdz]
                  have st := st.call hb
                  clear hap hb
                  go_wp2_with (refine WL.out ?_; (repeat ((refine WL.op ?_ ?_; (exact rfl); intro K hK; (first | ((((with_reducible apply ow_assign); exact rfl)); (go_simp <;> (try simp (disch := omega) only [wrap_id, sub_left, zac]) <;> rfl)) | ((with_reducible apply ow_store1' st); exact rfl; exact inferInstance; exact rfl; (exact get0); exact rfl; exact rfl; exact rfl; (focus (rw [List.length_append, L.cellsOf_length]; omega)); (focus (exact congrArg (fun x => [Res.box g 23 x]) (L.cells_set1 M' R k _ hkl))); (try clear st); intro w' st) | ((with_reducible apply ow_eval); (go_simp <;> (try simp (disch := omega) only [wrap_id, sub_left, zac]) <;> rfl); ((with_reducible apply up_value)))); refine WL.next hK (by simp only [Act.put, zpt, zsz, zss]; exact rfl) ?_; clear hK K))); (try refine WL.nil ?_))
                  exact ⟨⟨k + 1, true, _, by omega, by go_num, rfl, st.ofBox (by rw [L.cellsOf_length, List.length_set, ← e2.out]) (by rw [List.length_append, L.cellsOf_length, List.length_set, ← L.cellsOf_length, ← List.length_append]; exact HC.out) hnc hcm, Lib.hid (.inr ⟨rfl, hs'.out.symm⟩)⟩, by simp [intOf]; omega⟩
                · have hs' := hpast (by unfold L.alike; simp [c1, c2, c3])
                  simp only [Bool.not_eq_true] at c3
                  clear hpast hhit
                  go_wp2_with (refine WL.out ?_; (repeat ((refine WL.op ?_ ?_; (exact rfl); intro K hK; (first | ((((with_reducible apply ow_move); exact rfl)); (go_simp <;> (try simp (disch := omega) only [wrap_id, sub_left, zac]) <;> rfl)) | ((with_reducible apply ow_eval); (go_simp <;> (try simp (disch := omega) only [wrap_id, sub_left, zac]) <;> rfl); ((with_reducible apply up_value)))); refine WL.next hK (by simp only [Act.put, zpt, zsz, zss]; exact rfl) ?_; clear hK K))); (try refine WL.nil ?_))
                  refine wp_region_plan 37 (by kernel_rfl) (by kernel_rfl) ?_; replace st := st.drew; generalize World.drew _ = W at st ⊢
                  iterate 4 (apply Plan.val'; (focus (intro x0 x1 x2 x3 x4 x5 x6 x7 x8 x9 x10 x11 x12 x13 x14 x15 x16 x17 x18 x19 x20 x21 x22 x23 x24 x25 x26 x27 x28 x29 x30 x31 x32 x33 x34 x35 x36 w1 hb; (try simp only [depF, fillA, Act.put, zta, ztz, zpt, zsz, zss, zl0, zls]); (repeat (rintro rfl)); have st := st.call hb; ((apply Yphi.run; (exact rfl); (go_simp <;> (try simp (disch := omega) only [wrap_id, sub_left, zac]) <;> rfl); exact rfl)))); (simp only [zca, zcn] <;> exact rfl))
                  (apply Plan.val'; (focus (intro x0 x1 x2 x3 x4 x5 x6 x7 x8 x9 x10 x11 x12 x13 x14 x15 x16 x17 x18 x19 x20 x21 x22 x23 x24 x25 x26 x27 x28 x29 x30 x31 x32 x33 x34 x35 x36 w1 hb; (try simp only [depF, fillA, Act.put, zta, ztz, zpt, zsz, zss, zl0, zls]); (repeat (rintro rfl)); have st := st.call hb; apply Yphi.load1 st; exact rfl; exact inferInstance; (exact rfl); exact rfl; (exact get0); (exact L.cells_k _ _ _ (hkl)))); (simp only [zca, zcn] <;> exact rfl))
                  iterate 7 (apply Plan.val'; (focus (intro x0 x1 x2 x3 x4 x5 x6 x7 x8 x9 x10 x11 x12 x13 x14 x15 x16 x17 x18 x19 x20 x21 x22 x23 x24 x25 x26 x27 x28 x29 x30 x31 x32 x33 x34 x35 x36 w1 hb; (try simp only [depF, fillA, Act.put, zta, ztz, zpt, zsz, zss, zl0, zls]); (repeat (rintro rfl)); have st := st.call hb; (first | (apply Yphi.run; (exact rfl); (go_simp <;> (try simp (disch := omega) only [wrap_id, sub_left, zac]) <;> rfl); exact rfl) | (apply Yphi.old1 st; exact rfl; exact inferInstance; (exact rfl); exact rfl; assumption; assumption)))); (simp only [zca, zcn] <;> exact rfl))
                  iterate 4 (apply Plan.val'; (focus (intro x0 x1 x2 x3 x4 x5 x6 x7 x8 x9 x10 x11 x12 x13 x14 x15 x16 x17 x18 x19 x20 x21 x22 x23 x24 x25 x26 x27 x28 x29 x30 x31 x32 x33 x34 x35 x36 w1 hb; (try simp only [depF, fillA, Act.put, zta, ztz, zpt, zsz, zss, zl0, zls]); (repeat (rintro rfl)); have st := st.call hb; ((apply Yphi.run; (exact rfl); (go_simp <;> (try simp (disch := omega) only [wrap_id, sub_left, zac]) <;> rfl); exact rfl)))); (simp only [zca, zcn] <;> exact rfl))
                  (apply Plan.val'; (focus (intro x0 x1 x2 x3 x4 x5 x6 x7 x8 x9 x10 x11 x12 x13 x14 x15 x16 x17 x18 x19 x20 x21 x22 x23 x24 x25 x26 x27 x28 x29 x30 x31 x32 x33 x34 x35 x36 w1 hb; (try simp only [depF, fillA, Act.put, zta, ztz, zpt, zsz, zss, zl0, zls]); (repeat (rintro rfl)); have st := st.call hb; apply Yphi.load1 st; exact rfl; exact inferInstance; (exact rfl); exact rfl; (exact get0); (exact L.cells_f _ _ _ (hkl)))); (simp only [zca, zcn] <;> exact rfl))
                  iterate 6 (apply Plan.val'; (focus (intro x0 x1 x2 x3 x4 x5 x6 x7 x8 x9 x10 x11 x12 x13 x14 x15 x16 x17 x18 x19 x20 x21 x22 x23 x24 x25 x26 x27 x28 x29 x30 x31 x32 x33 x34 x35 x36 w1 hb; (try simp only [depF, fillA, Act.put, zta, ztz, zpt, zsz, zss, zl0, zls]); (repeat (rintro rfl)); have st := st.call hb; (first | (apply Yphi.run; (exact rfl); (go_simp <;> (try simp (disch := omega) only [wrap_id, sub_left, zac]) <;> rfl); exact rfl) | (apply Yphi.old1 st; exact rfl; exact inferInstance; (exact rfl); exact rfl; assumption; assumption)))); (simp only [zca, zcn] <;> exact rfl))
                  iterate 2 (apply Plan.val'; (focus (intro x0 x1 x2 x3 x4 x5 x6 x7 x8 x9 x10 x11 x12 x13 x14 x15 x16 x17 x18 x19 x20 x21 x22 x23 x24 x25 x26 x27 x28 x29 x30 x31 x32 x33 x34 x35 x36 w1 hb; (try simp only [depF, fillA, Act.put, zta, ztz, zpt, zsz, zss, zl0, zls]); (repeat (rintro rfl)); have st := st.call hb; ((apply Yphi.run; (exact rfl); (go_simp <;> (try simp (disch := omega) only [wrap_id, sub_left, zac]) <;> rfl); exact rfl)))); (simp only [zca, zcn] <;> exact rfl))
                  iterate 4 (apply Plan.val'; (focus (intro x0 x1 x2 x3 x4 x5 x6 x7 x8 x9 x10 x11 x12 x13 x14 x15 x16 x17 x18 x19 x20 x21 x22 x23 x24 x25 x26 x27 x28 x29 x30 x31 x32 x33 x34 x35 x36 w1 hb; (try simp only [depF, fillA, Act.put, zta, ztz, zpt, zsz, zss, zl0, zls]); (repeat (rintro rfl)); have st := st.call hb; ((apply Yphi.run; (exact rfl); (go_simp <;> (try simp (disch := omega) only [wrap_id, sub_left, zac]) <;> rfl); exact rfl)))); (simp only [zca, zcn] <;> exact rfl))
                  (apply Plan.val'; (focus (intro x0 x1 x2 x3 x4 x5 x6 x7 x8 x9 x10 x11 x12 x13 x14 x15 x16 x17 x18 x19 x20 x21 x22 x23 x24 x25 x26 x27 x28 x29 x30 x31 x32 x33 x34 x35 x36 w1 hb; (try simp only [depF, fillA, Act.put, zta, ztz, zpt, zsz, zss, zl0, zls]); (repeat (rintro rfl)); have st := st.call hb; apply Yphi.load1 st; exact rfl; exact inferInstance; (exact rfl); exact rfl; (exact get0); (exact L.cells_w _ _ _ (hkl)))); (simp only [zca, zcn] <;> exact rfl))
                  iterate 6 (apply Plan.val'; (focus (intro x0 x1 x2 x3 x4 x5 x6 x7 x8 x9 x10 x11 x12 x13 x14 x15 x16 x17 x18 x19 x20 x21 x22 x23 x24 x25 x26 x27 x28 x29 x30 x31 x32 x33 x34 x35 x36 w1 hb; (try simp only [depF, fillA, Act.put, zta, ztz, zpt, zsz, zss, zl0, zls]); (repeat (rintro rfl)); have st := st.call hb; (first | (apply Yphi.run; (exact rfl); (go_simp <;> (try simp (disch := omega) only [wrap_id, sub_left, zac]) <;> rfl); exact rfl) | (apply Yphi.old1 st; exact rfl; exact inferInstance; (exact rfl); exact rfl; assumption; assumption)))); (simp only [zca, zcn] <;> exact rfl))
                  (apply Plan.val'; (focus (intro x0 x1 x2 x3 x4 x5 x6 x7 x8 x9 x10 x11 x12 x13 x14 x15 x16 x17 x18 x19 x20 x21 x22 x23 x24 x25 x26 x27 x28 x29 x30 x31 x32 x33 x34 x35 x36 w1 hb; (try simp only [depF, fillA, Act.put, zta, ztz, zpt, zsz, zss, zl0, zls]); (repeat (rintro rfl)); have st := st.call hb; ((apply Yphi.run; (exact rfl); (go_simp <;> (try simp (disch := omega) only [wrap_id, sub_left, zac]) <;> rfl); exact rfl)))); (simp only [zca, zcn] <;> exact rfl))
                  intro x0 x1 x2 x3 x4 x5 x6 x7 x8 x9 x10 x11 x12 x13 x14 x15 x16 x17 x18 x19 x20 x21 x22 x23 x24 x25 x26 x27 x28 x29 x30 x31 x32 x33 x34 x35 x36 lo hi w1 hb hap
                  rintro rfl rfl rfl rfl rfl rfl rfl rfl rfl rfl rfl rfl rfl rfl rfl rfl rfl rfl rfl rfl rfl rfl rfl rfl rfl rfl rfl rfl rfl rfl rfl rfl rfl rfl rfl rfl rfl
                  simp only [allPhi, fillA, Act.put, zta, ztz, zpt, zsz, zss, zda, zdz]
                  have st := st.call hb
                  clear hap hb
                  go_wp2_with (refine WL.out ?_; (repeat ((refine WL.op ?_ ?_; (exact rfl); intro K hK; (first | ((((with_reducible apply ow_assign); exact rfl)); (go_simp <;> (try simp (disch := omega) only [wrap_id, sub_left, zac]) <;> rfl)) | ((with_reducible apply ow_eval); (go_simp <;> (try simp (disch := omega) only [wrap_id, sub_left, zac]) <;> rfl); ((with_reducible apply up_value)))); refine WL.next hK (by simp only [Act.put, zpt, zsz, zss]; exact rfl) ?_; clear hK K))); (try refine WL.nil ?_))
                  exact ⟨⟨k + 1, false, M', by omega, by go_num, rfl, st.ofBox (by rw [L.cellsOf_length, ← e2.out]) HC.out hnc hcm, Lib.hid (.inl ⟨rfl, rfl, hs'.out⟩)⟩, by simp [intOf]; omega⟩
              · have hs' := hpast (by unfold L.alike; simp [c1, c2])
                simp only [Bool.not_eq_true] at c2
                clear hpast hhit
                go_wp2_with (refine WL.out ?_; (repeat ((refine WL.op ?_ ?_; (exact rfl); intro K hK; (first | ((((with_reducible apply ow_move); exact rfl)); (go_simp <;> (try simp (disch := omega) only [wrap_id, sub_left, zac]) <;> rfl)) | ((with_reducible apply ow_eval); (go_simp <;> (try simp (disch := omega) only [wrap_id, sub_left, zac]) <;> rfl); ((with_reducible apply up_value)))); refine WL.next hK (by simp only [Act.put, zpt, zsz, zss]; exact rfl) ?_; clear hK K))); (try refine WL.nil ?_))
                refine wp_region_plan 37 (by kernel_rfl) (by kernel_rfl) ?_; replace st := st.drew; generalize World.drew _ = W at st ⊢
                iterate 4 (apply Plan.val'; (focus (intro x0 x1 x2 x3 x4 x5 x6 x7 x8 x9 x10 x11 x12 x13 x14 x15 x16 x17 x18 x19 x20 x21 x22 x23 x24 x25 x26 x27 x28 x29 x30 x31 x32 x33 x34 x35 x36 w1 hb; (try simp only [depF, fillA, Act.put, zta, ztz, zpt, zsz, zss, zl0, zls]); (repeat (rintro rfl)); have st := st.call hb; ((apply Yphi.run; (exact rfl); (go_simp <;> (try simp (disch := omega) only [wrap_id, sub_left, zac]) <;> rfl); exact rfl)))); (simp only [zca, zcn] <;> exact rfl))
                (apply Plan.val'; (focus (intro x0 x1 x2 x3 x4 x5 x6 x7 x8 x9 x10 x11 x12 x13 x14 x15 x16 x17 x18 x19 x20 x21 x22 x23 x24 x25 x26 x27 x28 x29 x30 x31 x32 x33 x34 x35 x36 w1 hb; (try simp only [depF, fillA, Act.put, zta, ztz, zpt, zsz, zss, zl0, zls]); (repeat (rintro rfl)); have st := st.call hb; apply Yphi.load1 st; exact rfl; exact inferInstance; (exact rfl); exact rfl; (exact get0); (exact L.cells_k _ _ _ (hkl)))); (simp only [zca, zcn] <;> exact rfl))
                iterate 7 (apply Plan.val'; (focus (intro x0 x1 x2 x3 x4 x5 x6 x7 x8 x9 x10 x11 x12 x13 x14 x15 x16 x17 x18 x19 x20 x21 x22 x23 x24 x25 x26 x27 x28 x29 x30 x31 x32 x33 x34 x35 x36 w1 hb; (try simp only [depF, fillA, Act.put, zta, ztz, zpt, zsz, zss, zl0, zls]); (repeat (rintro rfl)); have st := st.call hb; (first | (apply Yphi.run; (exact rfl); (go_simp <;> (try simp (disch := omega) only [wrap_id, sub_left, zac]) <;> rfl); exact rfl) | (apply Yphi.old1 st; exact rfl; exact inferInstance; (exact rfl); exact rfl; assumption; assumption)))); (simp only [zca, zcn] <;> exact rfl))
                iterate 4 (apply Plan.val'; (focus (intro x0 x1 x2 x3 x4 x5 x6 x7 x8 x9 x10 x11 x12 x13 x14 x15 x16 x17 x18 x19 x20 x21 x22 x23 x24 x25 x26 x27 x28 x29 x30 x31 x32 x33 x34 x35 x36 w1 hb; (try simp only [depF, fillA, Act.put, zta, ztz, zpt, zsz, zss, zl0, zls]); (repeat (rintro rfl)); have st := st.call hb; ((apply Yphi.run; (exact rfl); (go_simp <;> (try simp (disch := omega) only [wrap_id, sub_left, zac]) <;> rfl); exact rfl)))); (simp only [zca, zcn] <;> exact rfl))
                (apply Plan.val'; (focus (intro x0 x1 x2 x3 x4 x5 x6 x7 x8 x9 x10 x11 x12 x13 x14 x15 x16 x17 x18 x19 x20 x21 x22 x23 x24 x25 x26 x27 x28 x29 x30 x31 x32 x33 x34 x35 x36 w1 hb; (try simp only [depF, fillA, Act.put, zta, ztz, zpt, zsz, zss, zl0, zls]); (repeat (rintro rfl)); have st := st.call hb; apply Yphi.load1 st; exact rfl; exact inferInstance; (exact rfl); exact rfl; (exact get0); (exact L.cells_f _ _ _ (hkl)))); (simp only [zca, zcn] <;> exact rfl))
                iterate 6 (apply Plan.val'; (focus (intro x0 x1 x2 x3 x4 x5 x6 x7 x8 x9 x10 x11 x12 x13 x14 x15 x16 x17 x18 x19 x20 x21 x22 x23 x24 x25 x26 x27 x28 x29 x30 x31 x32 x33 x34 x35 x36 w1 hb; (try simp only [depF, fillA, Act.put, zta, ztz, zpt, zsz, zss, zl0, zls]); (repeat (rintro rfl)); have st := st.call hb; (first | (apply Yphi.run; (exact rfl); (go_simp <;> (try simp (disch := omega) only [wrap_id, sub_left, zac]) <;> rfl); exact rfl) | (apply Yphi.old1 st; exact rfl; exact inferInstance; (exact rfl); exact rfl; assumption; assumption)))); (simp only [zca, zcn] <;> exact rfl))
                iterate 2 (apply Plan.val'; (focus (intro x0 x1 x2 x3 x4 x5 x6 x7 x8 x9 x10 x11 x12 x13 x14 x15 x16 x17 x18 x19 x20 x21 x22 x23 x24 x25 x26 x27 x28 x29 x30 x31 x32 x33 x34 x35 x36 w1 hb; (try simp only [depF, fillA, Act.put, zta, ztz, zpt, zsz, zss, zl0, zls]); (repeat (rintro rfl)); have st := st.call hb; ((apply Yphi.run; (exact rfl); (go_simp <;> (try simp (disch := omega) only [wrap_id, sub_left, zac]) <;> rfl); exact rfl)))); (simp only [zca, zcn] <;> exact rfl))
                iterate 11 (apply Plan.val'; (focus (intro x0 x1 x2 x3 x4 x5 x6 x7 x8 x9 x10 x11 x12 x13 x14 x15 x16 x17 x18 x19 x20 x21 x22 x23 x24 x25 x26 x27 x28 x29 x30 x31 x32 x33 x34 x35 x36 w1 hb; (try simp only [depF, fillA, Act.put, zta, ztz, zpt, zsz, zss, zl0, zls]); (repeat (rintro rfl)); have st := st.call hb; apply Yphi.skip; (exact rfl))); (simp only [zca, zcn] <;> exact rfl))
                (apply Plan.val'; (focus (intro x0 x1 x2 x3 x4 x5 x6 x7 x8 x9 x10 x11 x12 x13 x14 x15 x16 x17 x18 x19 x20 x21 x22 x23 x24 x25 x26 x27 x28 x29 x30 x31 x32 x33 x34 x35 x36 w1 hb; (try simp only [depF, fillA, Act.put, zta, ztz, zpt, zsz, zss, zl0, zls]); (repeat (rintro rfl)); have st := st.call hb; ((apply Yphi.run; (exact rfl); (go_simp <;> (try simp (disch := omega) only [wrap_id, sub_left, zac]) <;> rfl); exact rfl)))); (simp only [zca, zcn] <;> exact rfl))
                intro x0 x1 x2 x3 x4 x5 x6 x7 x8 x9 x10 x11 x12 x13 x14 x15 x16 x17 x18 x19 x20 x21 x22 x23 x24 x25 x26 x27 x28 x29 x30 x31 x32 x33 x34 x35 x36 lo hi w1 hb hap
                rintro rfl rfl rfl rfl rfl rfl rfl rfl rfl rfl rfl rfl rfl rfl rfl rfl rfl rfl rfl rfl rfl rfl rfl rfl rfl rfl rfl rfl rfl rfl rfl rfl rfl rfl rfl rfl rfl
                simp only [allPhi, fillA, Act.put, zta, ztz, zpt, zsz, zss, zda, zdz]
                have st := st.call hb
                clear hap hb
                go_wp2_with (refine WL.out ?_; (repeat ((refine WL.op ?_ ?_; (exact rfl); intro K hK; (first | ((((with_reducible apply ow_assign); exact rfl)); (go_simp <;> (try simp (disch := omega) only [wrap_id, sub_left, zac]) <;> rfl)) | ((with_reducible apply ow_eval); (go_simp <;> (try simp (disch := omega) only [wrap_id, sub_left, zac]) <;> rfl); ((with_reducible apply up_value)))); refine WL.next hK (by simp only [Act.put, zpt, zsz, zss]; exact rfl) ?_; clear hK K))); (try refine WL.nil ?_))
                exact ⟨⟨k + 1, false, M', by omega, by go_num, rfl, st.ofBox (by rw [L.cellsOf_length, ← e2.out]) HC.out hnc hcm, Lib.hid (.inl ⟨rfl, rfl, hs'.out⟩)⟩, by simp [intOf]; omega⟩
            · have hs' := hpast (by unfold L.alike; simp [c1])
              simp only [Bool.not_eq_true] at c1
              clear hpast hhit
              go_wp2_with (refine WL.out ?_; (repeat ((refine WL.op ?_ ?_; (exact rfl); intro K hK; (first | ((((with_reducible apply ow_move); exact rfl)); (go_simp <;> (try simp (disch := omega) only [wrap_id, sub_left, zac]) <;> rfl)) | ((with_reducible apply ow_eval); (go_simp <;> (try simp (disch := omega) only [wrap_id, sub_left, zac]) <;> rfl); ((with_reducible apply up_value)))); refine WL.next hK (by simp only [Act.put, zpt, zsz, zss]; exact rfl) ?_; clear hK K))); (try refine WL.nil ?_))
              refine wp_region_plan 37 (by kernel_rfl) (by kernel_rfl) ?_; replace st := st.drew; generalize World.drew _ = W at st ⊢
              iterate 4 (apply Plan.val'; (focus (intro x0 x1 x2 x3 x4 x5 x6 x7 x8 x9 x10 x11 x12 x13 x14 x15 x16 x17 x18 x19 x20 x21 x22 x23 x24 x25 x26 x27 x28 x29 x30 x31 x32 x33 x34 x35 x36 w1 hb; (try simp only [depF, fillA, Act.put, zta, ztz, zpt, zsz, zss, zl0, zls]); (repeat (rintro rfl)); have st := st.call hb; ((apply Yphi.run; (exact rfl); (go_simp <;> (try simp (disch := omega) only [wrap_id, sub_left, zac]) <;> rfl); exact rfl)))); (simp only [zca, zcn] <;> exact rfl))
              (apply Plan.val'; (focus (intro x0 x1 x2 x3 x4 x5 x6 x7 x8 x9 x10 x11 x12 x13 x14 x15 x16 x17 x18 x19 x20 x21 x22 x23 x24 x25 x26 x27 x28 x29 x30 x31 x32 x33 x34 x35 x36 w1 hb; (try simp only [depF, fillA, Act.put, zta, ztz, zpt, zsz, zss, zl0, zls]); (repeat (rintro rfl)); have st := st.call hb; apply Yphi.load1 st; exact rfl; exact inferInstance; (exact rfl); exact rfl; (exact get0); (exact L.cells_k _ _ _ (hkl)))); (simp only [zca, zcn] <;> exact rfl))
              iterate 7 (apply Plan.val'; (focus (intro x0 x1 x2 x3 x4 x5 x6 x7 x8 x9 x10 x11 x12 x13 x14 x15 x16 x17 x18 x19 x20 x21 x22 x23 x24 x25 x26 x27 x28 x29 x30 x31 x32 x33 x34 x35 x36 w1 hb; (try simp only [depF, fillA, Act.put, zta, ztz, zpt, zsz, zss, zl0, zls]); (repeat (rintro rfl)); have st := st.call hb; (first | (apply Yphi.run; (exact rfl); (go_simp <;> (try simp (disch := omega) only [wrap_id, sub_left, zac]) <;> rfl); exact rfl) | (apply Yphi.old1 st; exact rfl; exact inferInstance; (exact rfl); exact rfl; assumption; assumption)))); (simp only [zca, zcn] <;> exact rfl))
              iterate 11 (apply Plan.val'; (focus (intro x0 x1 x2 x3 x4 x5 x6 x7 x8 x9 x10 x11 x12 x13 x14 x15 x16 x17 x18 x19 x20 x21 x22 x23 x24 x25 x26 x27 x28 x29 x30 x31 x32 x33 x34 x35 x36 w1 hb; (try simp only [depF, fillA, Act.put, zta, ztz, zpt, zsz, zss, zl0, zls]); (repeat (rintro rfl)); have st := st.call hb; apply Yphi.skip; (exact rfl))); (simp only [zca, zcn] <;> exact rfl))
              iterate 2 (apply Plan.val'; (focus (intro x0 x1 x2 x3 x4 x5 x6 x7 x8 x9 x10 x11 x12 x13 x14 x15 x16 x17 x18 x19 x20 x21 x22 x23 x24 x25 x26 x27 x28 x29 x30 x31 x32 x33 x34 x35 x36 w1 hb; (try simp only [depF, fillA, Act.put, zta, ztz, zpt, zsz, zss, zl0, zls]); (repeat (rintro rfl)); have st := st.call hb; ((apply Yphi.run; (exact rfl); (go_simp <;> (try simp (disch := omega) only [wrap_id, sub_left, zac]) <;> rfl); exact rfl)))); (simp only [zca, zcn] <;> exact rfl))
              iterate 11 (apply Plan.val'; (focus (intro x0 x1 x2 x3 x4 x5 x6 x7 x8 x9 x10 x11 x12 x13 x14 x15 x16 x17 x18 x19 x20 x21 x22 x23 x24 x25 x26 x27 x28 x29 x30 x31 x32 x33 x34 x35 x36 w1 hb; (try simp only [depF, fillA, Act.put, zta, ztz, zpt, zsz, zss, zl0, zls]); (repeat (rintro rfl)); have st := st.call hb; apply Yphi.skip; (exact rfl))); (simp only [zca, zcn] <;> exact rfl))
              (apply Plan.val'; (focus (intro x0 x1 x2 x3 x4 x5 x6 x7 x8 x9 x10 x11 x12 x13 x14 x15 x16 x17 x18 x19 x20 x21 x22 x23 x24 x25 x26 x27 x28 x29 x30 x31 x32 x33 x34 x35 x36 w1 hb; (try simp only [depF, fillA, Act.put, zta, ztz, zpt, zsz, zss, zl0, zls]); (repeat (rintro rfl)); have st := st.call hb; ((apply Yphi.run; (exact rfl); (go_simp <;> (try simp (disch := omega) only [wrap_id, sub_left, zac]) <;> rfl); exact rfl)))); (simp only [zca, zcn] <;> exact rfl))
              intro x0 x1 x2 x3 x4 x5 x6 x7 x8 x9 x10 x11 x12 x13 x14 x15 x16 x17 x18 x19 x20 x21 x22 x23 x24 x25 x26 x27 x28 x29 x30 x31 x32 x33 x34 x35 x36 lo hi w1 hb hap
              rintro rfl rfl rfl rfl rfl rfl rfl rfl rfl rfl rfl rfl rfl rfl rfl rfl rfl rfl rfl rfl rfl rfl rfl rfl rfl rfl rfl rfl rfl rfl rfl rfl rfl rfl rfl rfl rfl
              simp only [allPhi, fillA, Act.put, zta, ztz, zpt, zsz, zss, zda, zdz]
              have st := st.call hb
              clear hap hb
              go_wp2_with (refine WL.out ?_; (repeat ((refine WL.op ?_ ?_; (exact rfl); intro K hK; (first | ((((with_reducible apply ow_assign); exact rfl)); (go_simp <;> (try simp (disch := omega) only [wrap_id, sub_left, zac]) <;> rfl)) | ((with_reducible apply ow_eval); (go_simp <;> (try simp (disch := omega) only [wrap_id, sub_left, zac]) <;> rfl); ((with_reducible apply up_value)))); refine WL.next hK (by simp only [Act.put, zpt, zsz, zss]; exact rfl) ?_; clear hK K))); (try refine WL.nil ?_))
              exact ⟨⟨k + 1, false, M', by omega, by go_num, rfl, st.ofBox (by rw [L.cellsOf_length, ← e2.out]) HC.out hnc hcm, Lib.hid (.inl ⟨rfl, rfl, hs'.out⟩)⟩, by simp [intOf]; omega⟩
          · have e2 := Lib.hid (St.len st (i := 0) rfl)
            have hs' : Hid (L.merged (l.take (q + 1)) = M' ++ [L.ax l q]) := Lib.hid (by rw [hst.out, HP.out, List.drop_of_length_le (by rw [← e2.out]; omega), List.take_of_length_le (by rw [← e2.out]; omega)]; rfl)
            go_wp2_with (refine WL.out ?_; (repeat (first | (refine WL.op ?_ ?_; (exact rfl); intro K hK; (first | ((first | ((with_reducible apply ow_move); exact rfl) | ((with_reducible apply ow_assign); exact rfl)); (go_simp <;> (try simp (disch := omega) only [wrap_id, sub_left, zac]) <;> rfl)) | ((((with_reducible apply ow_newSlice st); exact rfl; (go_simp <;> (try simp (disch := omega) only [wrap_id, sub_left, zac]) <;> rfl); exact rfl)); (try clear st); intro b w' st) | ((with_reducible apply ow_old4 st); exact rfl; exact inferInstance; exact rfl; assumption; assumption; assumption; assumption; assumption) | ((with_reducible apply ow_append 1 st); exact rfl; exact inferInstance; exact rfl; exact rfl; exact rfl; exact st.rdBox (i := 0) (n := 1) (size := 4) rfl rfl; (focus ((simp [Value.oneCell']; done))); (focus (unfold maxLen; omega)); (focus omega); (try clear st); intro A' c' w' st; (try simp only [List.set_cons_zero, List.set_cons_succ, Nat.zero_add, List.nil_append] at st)) | ((with_reducible apply ow_eval); (go_simp <;> (try simp (disch := omega) only [wrap_id, sub_left, zac]) <;> rfl); ((with_reducible apply up_value)))); refine WL.next hK (by simp only [Act.put, zpt, zsz, zss]; exact rfl) ?_; clear hK K) | (refine WL.skip ?_ (by simp only [Act.put, zpt, zsz, zss]; exact rfl) ?_; (exact rfl)))); (try refine WL.nil ?_))
            exact ⟨⟨q + 1, A', m + 1, c', by omega, by go_num, rfl, by unfold aceRow; rw [hs'.out, L.cellsOf_append]; exact st.tail⟩, by simp [intOf]; omega⟩
    · have hs' : Hid (L.merged (l.take q) = L.merged l) := Lib.hid (by rw [List.take_of_length_le (by rw [← e1.out]; omega)])
      go_wp2_with (refine WL.out ?_; (repeat ((refine WL.op ?_ ?_; (exact rfl); intro K hK; (((with_reducible apply ow_eval); (go_simp <;> (try simp (disch := omega) only [wrap_id, sub_left, zac]) <;> rfl); ((with_reducible apply up_value)))); refine WL.next hK (by simp only [Act.put, zpt, zsz, zss]; exact rfl) ?_; clear hK K))); (try refine WL.nil ?_))
      go_ret
      exact ⟨_, _, _, rfl, by rw [← hs'.out]; exact st⟩
end Go.Proofs.YtppjhccdgbheiaaDoor
namespace Go.Proofs.YtppjhccdgbheiaaDoor
open Go.RowKit Go.Hp
theorem Little1_any (n : Int) (w : World) (h0 : 0 ≤ n) (h1 : n ≤ 1099511627776) : Calls Tryd.prog 68 #[.int .i64 n, .int .i64 1] w fun e w' => e = .returned (.string ⟨[L.b8 n].toArray⟩) ∧ Below w.heap.size w w' := Little_any n 1 w h0 h1 (by decide) (by decide)
theorem Little2_any (n : Int) (w : World) (h0 : 0 ≤ n) (h1 : n ≤ 1099511627776) : Calls Tryd.prog 68 #[.int .i64 n, .int .i64 2] w fun e w' => e = .returned (.string ⟨(L.le16 n).toArray⟩) ∧ Below w.heap.size w w' := Little_any n 2 w h0 h1 (by decide) (by decide)
theorem Little4_any (n : Int) (w : World) (h0 : 0 ≤ n) (h1 : n ≤ 1099511627776) : Calls Tryd.prog 68 #[.int .i64 n, .int .i64 4] w fun e w' => e = .returned (.string ⟨(L.le32 n).toArray⟩) ∧ Below w.heap.size w w' := by
  have := Little_any n 4 w h0 h1 (by decide) (by decide)
  rw [L.little4] at this
  exact this
namespace L
theorem le16_len (n : Int) : (le16 n).length ≤ 2 := Nat.le_refl _
theorem le32_len (n : Int) : (le32 n).length ≤ 4 := Nat.le_refl _
theorem encAces_len : ∀ l : List Ace, (encAces l).length = 8 * l.length
  | [] => rfl
  | a :: l => by
    have ih := encAces_len l
    have e : encAces (a :: l) = encA a ++ encAces l := by unfold encAces; rw [List.flatMap_cons]
    rw [e, List.length_append, ih, List.length_cons]
    show 8 + _ = _
    omega
theorem enc_head_eq (d : Desc) : (((([b8 1] ++ [b8 d.fl]) ++ [b8 d.e.length]) ++ [b8 d.a.length]) ++ le32 d.o) ++ le32 d.g = d.encHead := by
  unfold Desc.encHead
  have : b8 1 = 1 := by decide
  rw [this]
  simp
end L
set_option maxRecDepth 8000 in
set_option maxHeartbeats 4000000 in
theorem rEncode_any (d : L.Desc) (A1 A2 : Option Addr) (n1 n2 c1 c2 B : Nat) (w : World) (h1 : Aces w B A1 n1 d.e) (h2 : Aces w B A2 n2 d.a) (hB1 : B ≤ w.heap.size) (hn1 : n1 ≤ 100) (hn2 : n2 ≤ 100) (hE : d.err.2 = 0) :
    Calls Tryd.prog 34 #[.agg #[.int .i64 d.o, .int .i64 d.g, .bool d.p, .bool d.h, .slice A1 n1 c1, .slice A2 n2 c2]] w fun e w' => e = .returned (.string ⟨d.enc.toArray⟩) ∧ Below w.heap.size w w' := by
  have e1 := Lib.hid h1.len
  have e2 := Lib.hid h2.len
  have H1 := Lib.hid h1
  have H2 := Lib.hid h2
  have HG := Lib.hid (L.Desc.err_good hE)
  have hh := L.Desc.err_holders hE
  have ho0 : 0 ≤ d.o := by omega
  have ho1 : d.o ≤ 1099511627776 := by omega
  have hg0 : 0 ≤ d.g := by omega
  have hg1 : d.g ≤ 1099511627776 := by omega
  have hbit : ∀ b : Bool, 0 ≤ L.bit b ∧ L.bit b ≤ 1 := fun b => by cases b <;> decide
  have hp0 := (hbit d.p).1
  have hp1 := (hbit d.p).2
  have hq0 := (hbit d.h).1
  have hq1 := (hbit d.h).2
  have hfl0 : 0 ≤ L.bit d.p + 2 * L.bit d.h := by omega
  have hfl1 : L.bit d.p + 2 * L.bit d.h ≤ 1099511627776 := by omega
  have z1 := L.le32_len d.o
  have z2 := L.le32_len d.g
  clear h1 h2 hE hh hbit
  have st := St.start w
  go_enter Tryd.func34, Tryd.ntmps34
  go_wp2_with (refine WL.out ?_; (repeat ((refine WL.op ?_ ?_; (exact rfl); intro K hK; (first | ((((with_reducible apply ow_assign); exact rfl)); (go_simp <;> (try simp (disch := omega) only [wrap_id, sub_left, zac]) <;> rfl)) | ((((with_reducible apply ow_box st); exact rfl; (go_simp <;> (try simp (disch := omega) only [wrap_id, sub_left, zac]) <;> rfl); (go_simp <;> (try simp (disch := omega) only [wrap_id, sub_left, zac]) <;> rfl))); (try clear st); intro b w' st)); refine WL.next hK (by simp only [Act.put, zpt, zsz, zss]; exact rfl) ?_; clear hK K))); (try refine WL.nil ?_))
  refine wp_region_plan 9 (by kernel_rfl) (by kernel_rfl) ?_; replace st := st.drew; generalize World.drew _ = W at st ⊢
  iterate 2 (apply Plan.val'; (focus (intro x0 x1 x2 x3 x4 x5 x6 x7 x8 w1 hb; (try simp only [depF, fillA, Act.put, zta, ztz, zpt, zsz, zss, zl0, zls]); (repeat (rintro rfl)); have st := st.call hb; (first | (apply Yphi.run; (exact rfl); (go_simp <;> (try simp (disch := omega) only [wrap_id, sub_left, zac]) <;> rfl); exact rfl) | (apply Yphi.load1 st; exact rfl; exact inferInstance; (exact rfl); exact rfl; (exact get0); exact rfl)))); (simp only [zca, zcn] <;> exact rfl))
  (apply Plan.val'; (focus (intro x0 x1 x2 x3 x4 x5 x6 x7 x8 w1 hb; (try simp only [depF, fillA, Act.put, zta, ztz, zpt, zsz, zss, zl0, zls]); (repeat (rintro rfl)); have st := st.call hb; apply Yphi.call; (exact rfl); (go_simp <;> (try simp (disch := omega) only [wrap_id, sub_left, zac]) <;> rfl); exact rfl; refine (Bit_any _ _).mono ?_; rintro e w' ⟨rfl, rfl⟩; exact ⟨_, rfl, Below.refl _ _, rfl⟩)); (simp only [zca, zcn] <;> exact rfl))
  iterate 2 (apply Plan.val'; (focus (intro x0 x1 x2 x3 x4 x5 x6 x7 x8 w1 hb; (try simp only [depF, fillA, Act.put, zta, ztz, zpt, zsz, zss, zl0, zls]); (repeat (rintro rfl)); have st := st.call hb; (first | (apply Yphi.run; (exact rfl); (go_simp <;> (try simp (disch := omega) only [wrap_id, sub_left, zac]) <;> rfl); exact rfl) | (apply Yphi.load1 st; exact rfl; exact inferInstance; (exact rfl); exact rfl; (exact get0); exact rfl)))); (simp only [zca, zcn] <;> exact rfl))
  (apply Plan.val'; (focus (intro x0 x1 x2 x3 x4 x5 x6 x7 x8 w1 hb; (try simp only [depF, fillA, Act.put, zta, ztz, zpt, zsz, zss, zl0, zls]); (repeat (rintro rfl)); have st := st.call hb; apply Yphi.call; (exact rfl); (go_simp <;> (try simp (disch := omega) only [wrap_id, sub_left, zac]) <;> rfl); exact rfl; refine (Bit_any _ _).mono ?_; rintro e w' ⟨rfl, rfl⟩; exact ⟨_, rfl, Below.refl _ _, rfl⟩)); (simp only [zca, zcn] <;> exact rfl))
  iterate 3 (apply Plan.val'; (focus (intro x0 x1 x2 x3 x4 x5 x6 x7 x8 w1 hb; (try simp only [depF, fillA, Act.put, zta, ztz, zpt, zsz, zss, zl0, zls]); (repeat (first | rintro rfl | intro _)); have st := st.call hb; ((apply Yphi.run; (exact rfl); (go_simp <;> (try simp (disch := omega) only [wrap_id, sub_left, zac]) <;> rfl); exact rfl)))); (simp only [zca, zcn] <;> exact rfl))
  intro x0 x1 x2 x3 x4 x5 x6 x7 x8 lo hi w1 hb hap
  rintro rfl rfl rfl rfl rfl rfl rfl rfl rfl
  simp only [allPhi, fillA, Act.put, zta, ztz, zpt, zsz, zss, zda, zdz]
  have st := st.call hb
  clear hap hb
  go_wp2_with (refine WL.out ?_; (repeat (fail)); (try refine WL.nil ?_))
  refine wp_region_plan 23 (by kernel_rfl) (by kernel_rfl) ?_; replace st := st.drew; generalize World.drew _ = W at st ⊢
  (apply Plan.val'; (focus (intro x0 x1 x2 x3 x4 x5 x6 x7 x8 x9 x10 x11 x12 x13 x14 x15 x16 x17 x18 x19 x20 x21 x22 w1 hb; (try simp only [depF, fillA, Act.put, zta, ztz, zpt, zsz, zss, zl0, zls]); (repeat (fail)); have st := st.call hb; apply Yphi.call; (exact rfl); (go_simp <;> (try simp (disch := omega) only [wrap_id, sub_left, zac]) <;> rfl); exact rfl; refine (Little1_any 1 _ (by decide) (by decide)).mono ?_; rintro e w' ⟨rfl, hb'⟩; exact ⟨_, rfl, hb', rfl⟩)); (simp only [zca, zcn] <;> exact rfl))
  (apply Plan.val'; (focus (intro x0 x1 x2 x3 x4 x5 x6 x7 x8 x9 x10 x11 x12 x13 x14 x15 x16 x17 x18 x19 x20 x21 x22 w1 hb; (try simp only [depF, fillA, Act.put, zta, ztz, zpt, zsz, zss, zl0, zls]); (repeat (fail)); have st := st.call hb; ((apply Yphi.run; (exact rfl); (go_simp <;> (try simp (disch := omega) only [wrap_id, sub_left, zac]) <;> rfl); exact rfl)))); (simp only [zca, zcn] <;> exact rfl))
  (apply Plan.val'; (focus (intro x0 x1 x2 x3 x4 x5 x6 x7 x8 x9 x10 x11 x12 x13 x14 x15 x16 x17 x18 x19 x20 x21 x22 w1 hb; (try simp only [depF, fillA, Act.put, zta, ztz, zpt, zsz, zss, zl0, zls]); (repeat (rintro rfl)); have st := st.call hb; apply Yphi.call; (exact rfl); (go_simp <;> (try simp (disch := omega) only [wrap_id, sub_left, zac]) <;> rfl); exact rfl; refine (Little1_any _ _ hfl0 hfl1).mono ?_; rintro e w' ⟨rfl, hb'⟩; exact ⟨_, rfl, hb', rfl⟩)); (simp only [zca, zcn] <;> exact rfl))
  (apply Plan.val'; (focus (intro x0 x1 x2 x3 x4 x5 x6 x7 x8 x9 x10 x11 x12 x13 x14 x15 x16 x17 x18 x19 x20 x21 x22 w1 hb; (try simp only [depF, fillA, Act.put, zta, ztz, zpt, zsz, zss, zl0, zls]); (repeat (rintro rfl)); have st := st.call hb; apply Yphi.cat; (exact rfl); exact rfl; exact rfl; exact rfl; (focus (simp only [List.length_append, List.length_cons, List.length_nil]; omega)))); (simp only [zca, zcn] <;> exact rfl))
  iterate 3 (apply Plan.val'; (focus (intro x0 x1 x2 x3 x4 x5 x6 x7 x8 x9 x10 x11 x12 x13 x14 x15 x16 x17 x18 x19 x20 x21 x22 w1 hb; (try simp only [depF, fillA, Act.put, zta, ztz, zpt, zsz, zss, zl0, zls]); (repeat (rintro rfl)); have st := st.call hb; (first | (apply Yphi.run; (exact rfl); (go_simp <;> (try simp (disch := omega) only [wrap_id, sub_left, zac]) <;> rfl); exact rfl) | (apply Yphi.load1 st; exact rfl; exact inferInstance; (exact rfl); exact rfl; (exact get0); exact rfl)))); (simp only [zca, zcn] <;> exact rfl))
  (apply Plan.val'; (focus (intro x0 x1 x2 x3 x4 x5 x6 x7 x8 x9 x10 x11 x12 x13 x14 x15 x16 x17 x18 x19 x20 x21 x22 w1 hb; (try simp only [depF, fillA, Act.put, zta, ztz, zpt, zsz, zss, zl0, zls]); (repeat (rintro rfl)); have st := st.call hb; apply Yphi.call; (exact rfl); (go_simp <;> (try simp (disch := omega) only [wrap_id, sub_left, zac]) <;> rfl); exact rfl; refine (Little1_any (n1 : Int) _ (by omega) (by omega)).mono ?_; rintro e w' ⟨rfl, hb'⟩; exact ⟨_, rfl, hb', rfl⟩)); (simp only [zca, zcn] <;> exact rfl))
  (apply Plan.val'; (focus (intro x0 x1 x2 x3 x4 x5 x6 x7 x8 x9 x10 x11 x12 x13 x14 x15 x16 x17 x18 x19 x20 x21 x22 w1 hb; (try simp only [depF, fillA, Act.put, zta, ztz, zpt, zsz, zss, zl0, zls]); (repeat (rintro rfl)); have st := st.call hb; apply Yphi.cat; (exact rfl); exact rfl; exact rfl; exact rfl; (focus (simp only [List.length_append, List.length_cons, List.length_nil]; omega)))); (simp only [zca, zcn] <;> exact rfl))
  iterate 3 (apply Plan.val'; (focus (intro x0 x1 x2 x3 x4 x5 x6 x7 x8 x9 x10 x11 x12 x13 x14 x15 x16 x17 x18 x19 x20 x21 x22 w1 hb; (try simp only [depF, fillA, Act.put, zta, ztz, zpt, zsz, zss, zl0, zls]); (repeat (rintro rfl)); have st := st.call hb; (first | (apply Yphi.run; (exact rfl); (go_simp <;> (try simp (disch := omega) only [wrap_id, sub_left, zac]) <;> rfl); exact rfl) | (apply Yphi.load1 st; exact rfl; exact inferInstance; (exact rfl); exact rfl; (exact get0); exact rfl)))); (simp only [zca, zcn] <;> exact rfl))
  (apply Plan.val'; (focus (intro x0 x1 x2 x3 x4 x5 x6 x7 x8 x9 x10 x11 x12 x13 x14 x15 x16 x17 x18 x19 x20 x21 x22 w1 hb; (try simp only [depF, fillA, Act.put, zta, ztz, zpt, zsz, zss, zl0, zls]); (repeat (rintro rfl)); have st := st.call hb; apply Yphi.call; (exact rfl); (go_simp <;> (try simp (disch := omega) only [wrap_id, sub_left, zac]) <;> rfl); exact rfl; refine (Little1_any (n2 : Int) _ (by omega) (by omega)).mono ?_; rintro e w' ⟨rfl, hb'⟩; exact ⟨_, rfl, hb', rfl⟩)); (simp only [zca, zcn] <;> exact rfl))
  (apply Plan.val'; (focus (intro x0 x1 x2 x3 x4 x5 x6 x7 x8 x9 x10 x11 x12 x13 x14 x15 x16 x17 x18 x19 x20 x21 x22 w1 hb; (try simp only [depF, fillA, Act.put, zta, ztz, zpt, zsz, zss, zl0, zls]); (repeat (rintro rfl)); have st := st.call hb; apply Yphi.cat; (exact rfl); exact rfl; exact rfl; exact rfl; (focus (simp only [List.length_append, List.length_cons, List.length_nil]; omega)))); (simp only [zca, zcn] <;> exact rfl))
  iterate 2 (apply Plan.val'; (focus (intro x0 x1 x2 x3 x4 x5 x6 x7 x8 x9 x10 x11 x12 x13 x14 x15 x16 x17 x18 x19 x20 x21 x22 w1 hb; (try simp only [depF, fillA, Act.put, zta, ztz, zpt, zsz, zss, zl0, zls]); (repeat (rintro rfl)); have st := st.call hb; (first | (apply Yphi.run; (exact rfl); (go_simp <;> (try simp (disch := omega) only [wrap_id, sub_left, zac]) <;> rfl); exact rfl) | (apply Yphi.load1 st; exact rfl; exact inferInstance; (exact rfl); exact rfl; (exact get0); exact rfl)))); (simp only [zca, zcn] <;> exact rfl))
  (apply Plan.val'; (focus (intro x0 x1 x2 x3 x4 x5 x6 x7 x8 x9 x10 x11 x12 x13 x14 x15 x16 x17 x18 x19 x20 x21 x22 w1 hb; (try simp only [depF, fillA, Act.put, zta, ztz, zpt, zsz, zss, zl0, zls]); (repeat (rintro rfl)); have st := st.call hb; apply Yphi.call; (exact rfl); (go_simp <;> (try simp (disch := omega) only [wrap_id, sub_left, zac]) <;> rfl); exact rfl; refine (Little4_any _ _ ho0 ho1).mono ?_; rintro e w' ⟨rfl, hb'⟩; exact ⟨_, rfl, hb', rfl⟩)); (simp only [zca, zcn] <;> exact rfl))
  (apply Plan.val'; (focus (intro x0 x1 x2 x3 x4 x5 x6 x7 x8 x9 x10 x11 x12 x13 x14 x15 x16 x17 x18 x19 x20 x21 x22 w1 hb; (try simp only [depF, fillA, Act.put, zta, ztz, zpt, zsz, zss, zl0, zls]); (repeat (rintro rfl)); have st := st.call hb; apply Yphi.cat; (exact rfl); exact rfl; exact rfl; exact rfl; (focus (simp only [List.length_append, List.length_cons, List.length_nil]; omega)))); (simp only [zca, zcn] <;> exact rfl))
  iterate 2 (apply Plan.val'; (focus (intro x0 x1 x2 x3 x4 x5 x6 x7 x8 x9 x10 x11 x12 x13 x14 x15 x16 x17 x18 x19 x20 x21 x22 w1 hb; (try simp only [depF, fillA, Act.put, zta, ztz, zpt, zsz, zss, zl0, zls]); (repeat (rintro rfl)); have st := st.call hb; (first | (apply Yphi.run; (exact rfl); (go_simp <;> (try simp (disch := omega) only [wrap_id, sub_left, zac]) <;> rfl); exact rfl) | (apply Yphi.load1 st; exact rfl; exact inferInstance; (exact rfl); exact rfl; (exact get0); exact rfl)))); (simp only [zca, zcn] <;> exact rfl))
  (apply Plan.val'; (focus (intro x0 x1 x2 x3 x4 x5 x6 x7 x8 x9 x10 x11 x12 x13 x14 x15 x16 x17 x18 x19 x20 x21 x22 w1 hb; (try simp only [depF, fillA, Act.put, zta, ztz, zpt, zsz, zss, zl0, zls]); (repeat (rintro rfl)); have st := st.call hb; apply Yphi.call; (exact rfl); (go_simp <;> (try simp (disch := omega) only [wrap_id, sub_left, zac]) <;> rfl); exact rfl; refine (Little4_any _ _ hg0 hg1).mono ?_; rintro e w' ⟨rfl, hb'⟩; exact ⟨_, rfl, hb', rfl⟩)); (simp only [zca, zcn] <;> exact rfl))
  (apply Plan.val'; (focus (intro x0 x1 x2 x3 x4 x5 x6 x7 x8 x9 x10 x11 x12 x13 x14 x15 x16 x17 x18 x19 x20 x21 x22 w1 hb; (try simp only [depF, fillA, Act.put, zta, ztz, zpt, zsz, zss, zl0, zls]); (repeat (rintro rfl)); have st := st.call hb; apply Yphi.cat; (exact rfl); exact rfl; exact rfl; exact rfl; (focus (simp only [List.length_append, List.length_cons, List.length_nil]; omega)))); (simp only [zca, zcn] <;> exact rfl))
  (apply Plan.val'; (focus (intro x0 x1 x2 x3 x4 x5 x6 x7 x8 x9 x10 x11 x12 x13 x14 x15 x16 x17 x18 x19 x20 x21 x22 w1 hb; (try simp only [depF, fillA, Act.put, zta, ztz, zpt, zsz, zss, zl0, zls]); (repeat (first | rintro rfl | intro _)); have st := st.call hb; ((apply Yphi.run; (exact rfl); (go_simp <;> (try simp (disch := omega) only [wrap_id, sub_left, zac]) <;> rfl); exact rfl)))); (simp only [zca, zcn] <;> exact rfl))
  intro x0 x1 x2 x3 x4 x5 x6 x7 x8 x9 x10 x11 x12 x13 x14 x15 x16 x17 x18 x19 x20 x21 x22 lo hi w1 hb hap
  rintro rfl rfl rfl rfl rfl rfl rfl rfl rfl rfl rfl rfl rfl rfl rfl rfl rfl rfl rfl rfl rfl rfl rfl
  simp only [allPhi, fillA, Act.put, zta, ztz, zpt, zsz, zss, zda, zdz]
  have st := st.call hb
  clear hap hb
  go_wp2_with (refine WL.out ?_; (repeat (fail)); (try refine WL.nil ?_))
  refine wp_region_plan 5 (by kernel_rfl) (by kernel_rfl) ?_; replace st := st.drew; generalize World.drew _ = W at st ⊢
  iterate 2 (apply Plan.val'; (focus (intro x0 x1 x2 x3 x4 w1 hb; (try simp only [depF, fillA, Act.put, zta, ztz, zpt, zsz, zss, zl0, zls]); (repeat (rintro rfl)); have st := st.call hb; (first | (apply Yphi.run; (exact rfl); (go_simp <;> (try simp (disch := omega) only [wrap_id, sub_left, zac]) <;> rfl); exact rfl) | (apply Yphi.load1 st; exact rfl; exact inferInstance; (exact rfl); exact rfl; (exact get0); exact rfl)))); (simp only [zca, zcn] <;> exact rfl))
  (apply Plan.fact' (freshRow 23 4 (L.cellsOf (d.e))) (freshRow_stable _ _ _); (focus (intro x0 x1 x2 x3 x4 w1 hb; (try simp only [depF, fillA, Act.put, zta, ztz, zpt, zsz, zss, zl0, zls]); (repeat (rintro rfl)); have st := st.call hb; apply Yphi.call; (exact rfl); (go_simp <;> (try simp (disch := omega) only [wrap_id, sub_left, zac]) <;> rfl); exact rfl; refine (CopyAces_any A1 n1 c1 B d.e _ (H1.out.st st hB1) (Nat.le_trans hB1 st.size) (by omega)).mono ?_; rintro e w' ⟨A', n', c', rfl, st'⟩; exact ⟨_, rfl, st'.below, freshRow_mk (st'.get (i := 0) rfl)⟩)); (simp only [zca, zcn] <;> exact rfl))
  iterate 2 (apply Plan.val'; (focus (intro x0 x1 x2 x3 x4 w1 hb; (try simp only [depF, fillA, Act.put, zta, ztz, zpt, zsz, zss, zl0, zls]); (repeat (rintro rfl)); have st := st.call hb; (first | (apply Yphi.run; (exact rfl); (go_simp <;> (try simp (disch := omega) only [wrap_id, sub_left, zac]) <;> rfl); exact rfl) | (apply Yphi.load1 st; exact rfl; exact inferInstance; (exact rfl); exact rfl; (exact get0); exact rfl)))); (simp only [zca, zcn] <;> exact rfl))
  intro x0 x1 x2 x3 x4 lo hi w1 hb hap
  rintro rfl rfl hl1 _ ⟨A3, n3, c3, rfl, ho3, hk3⟩ rfl rfl
  simp only [allPhi, fillA, Act.put, zta, ztz, zpt, zsz, zss, zda, zdz]
  have st := rows_one st hb ho3 hl1
  clear ho3 hk3 hl1 hap hb
  have l3 := Lib.hid (St.len st (i := 0) rfl)
  have h3 : n3 ≤ 100 := by have := l3.out; have := e1.out; omega
  go_wp2_with (refine WL.out ?_; (repeat ((refine WL.op ?_ ?_; (exact rfl); intro K hK; (first | ((((with_reducible apply ow_assign); exact rfl)); (go_simp <;> (try simp (disch := omega) only [wrap_id, sub_left, zac]) <;> rfl)) | ((with_reducible apply ow_append 0 st); exact rfl; exact inferInstance; exact rfl; exact rfl; exact rfl; exact (H2.out.st st hB1).rd; (focus (exact cells_one _)); (focus (unfold maxLen; omega)); (focus omega); (try clear st); intro A' c' w' st; (try simp only [List.set_cons_zero, List.set_cons_succ, Nat.zero_add, List.nil_append] at st))); refine WL.next hK (by simp only [Act.put, zpt, zsz, zss]; exact rfl) ?_; clear hK K))); (try refine WL.nil ?_))
  rw [← L.cellsOf_append] at st
  have hM : (d.e ++ d.a).length = n3 + n2 := by rw [List.length_append, l3.out, e2.out]
  have HM := Lib.hid hM
  clear hM
  go_loopw [4, 6] (fun v i wr => ∃ k : Nat, k ≤ n3 + n2 ∧ i = .int .i64 k ∧ v = .string ⟨(d.encHead ++ L.encAces ((d.e ++ d.a).take k)).toArray⟩ ∧ St w wr [aceRow (.slice A' (n3 + n2) c') (n3 + n2) (d.e ++ d.a)]) (fun _ i _ => n3 + n2 - (intOf i).toNat)
  case atStart => exact ⟨0, by omega, rfl, by rw [List.take_zero, show L.encAces [] = [] from rfl, List.append_nil, ← L.enc_head_eq, ← e1.out, ← e2.out]; rfl, st.sub (.cons_cons _ (List.nil_sublist _))⟩
  case round =>
    clear st
    obtain ⟨k, hk, rfl, rfl, st⟩ := hrel
    by_cases hlt : k < n3 + n2
    · have hlI : (k : Int) < (n3 : Int) + (n2 : Int) := by omega
      have hkl : k < (d.e ++ d.a).length := by rw [HM.out]; exact hlt
      have hst := Lib.hid (L.encAces_step (d.e ++ d.a) k hkl)
      have hgk := HG.out.ax hkl
      have hXl : (d.encHead ++ L.encAces ((d.e ++ d.a).take k)).length ≤ 5000 := by
        rw [List.length_append, L.encAces_len, List.length_take]
        show 12 + _ ≤ 5000
        omega
      generalize d.e ++ d.a = M at HM hkl hst hgk st hXl ⊢
      generalize hX : d.encHead ++ L.encAces (M.take k) = X at hXl ⊢
      replace hX := Lib.hid hX
      have hk0 := hgk.k0
      have hk1 : (L.ax M k).k ≤ 1099511627776 := by have := hgk.k1; omega
      have hf0 := hgk.f0
      have hf1 : (L.ax M k).f ≤ 1099511627776 := by have := hgk.f1; omega
      have hm0 : 0 ≤ (L.ax M k).m := by have := hgk.m0; omega
      have hm1 : (L.ax M k).m ≤ 1099511627776 := by have := hgk.m1; omega
      have hw0 : 0 ≤ (L.ax M k).w := by have := hgk.w0; omega
      have hw1 : (L.ax M k).w ≤ 1099511627776 := by have := hgk.w1; omega
      have z3 := L.le16_len (L.ax M k).m
      have z4 := L.le32_len (L.ax M k).w
      clear hgk
      have e4 := Lib.hid (St.len st (i := 0) rfl)
      obtain ⟨g, R, rfl, hl, hcc, hnc, hcm, st⟩ := st.toBox (by omega)
      have HC := Lib.hid hcc
      clear hl hcc
      go_wp2_with (refine WL.out ?_; (repeat ((refine WL.op ?_ ?_; (exact rfl); intro K hK; (((with_reducible apply ow_eval); (go_simp <;> (try simp (disch := omega) only [wrap_id, sub_left, zac]) <;> rfl); ((with_reducible apply up_value)))); refine WL.next hK (by simp only [Act.put, zpt, zsz, zss]; exact rfl) ?_; clear hK K))); (try refine WL.nil ?_))
      refine wp_region_plan 29 (by kernel_rfl) (by kernel_rfl) ?_; replace st := st.drew; generalize World.drew _ = W at st ⊢
      iterate 5 (apply Plan.val'; (focus (intro x0 x1 x2 x3 x4 x5 x6 x7 x8 x9 x10 x11 x12 x13 x14 x15 x16 x17 x18 x19 x20 x21 x22 x23 x24 x25 x26 x27 x28 w1 hb; (try simp only [depF, fillA, Act.put, zta, ztz, zpt, zsz, zss, zl0, zls]); (repeat (rintro rfl)); have st := st.call hb; ((apply Yphi.run; (exact rfl); (go_simp <;> (try simp (disch := omega) only [wrap_id, sub_left, zac]) <;> rfl); exact rfl)))); (simp only [zca, zcn] <;> exact rfl))
      (apply Plan.val'; (focus (intro x0 x1 x2 x3 x4 x5 x6 x7 x8 x9 x10 x11 x12 x13 x14 x15 x16 x17 x18 x19 x20 x21 x22 x23 x24 x25 x26 x27 x28 w1 hb; (try simp only [depF, fillA, Act.put, zta, ztz, zpt, zsz, zss, zl0, zls]); (repeat (rintro rfl)); have st := st.call hb; apply Yphi.load1 st; exact rfl; exact inferInstance; (exact rfl); exact rfl; (exact get0); (exact L.cells_k _ _ _ (hkl)))); (simp only [zca, zcn] <;> exact rfl))
      (apply Plan.val'; (focus (intro x0 x1 x2 x3 x4 x5 x6 x7 x8 x9 x10 x11 x12 x13 x14 x15 x16 x17 x18 x19 x20 x21 x22 x23 x24 x25 x26 x27 x28 w1 hb; (try simp only [depF, fillA, Act.put, zta, ztz, zpt, zsz, zss, zl0, zls]); (repeat (rintro rfl)); have st := st.call hb; apply Yphi.call; (exact rfl); (go_simp <;> (try simp (disch := omega) only [wrap_id, sub_left, zac]) <;> rfl); exact rfl; refine (Little1_any _ _ hk0 hk1).mono ?_; rintro e w' ⟨rfl, hb'⟩; exact ⟨_, rfl, hb', rfl⟩)); (simp only [zca, zcn] <;> exact rfl))
      (apply Plan.val'; (focus (intro x0 x1 x2 x3 x4 x5 x6 x7 x8 x9 x10 x11 x12 x13 x14 x15 x16 x17 x18 x19 x20 x21 x22 x23 x24 x25 x26 x27 x28 w1 hb; (try simp only [depF, fillA, Act.put, zta, ztz, zpt, zsz, zss, zl0, zls]); (repeat (rintro rfl)); have st := st.call hb; apply Yphi.cat; (exact rfl); exact rfl; exact rfl; exact rfl; (focus (simp only [List.length_append, List.length_cons, List.length_nil]; omega)))); (simp only [zca, zcn] <;> exact rfl))
      iterate 4 (apply Plan.val'; (focus (intro x0 x1 x2 x3 x4 x5 x6 x7 x8 x9 x10 x11 x12 x13 x14 x15 x16 x17 x18 x19 x20 x21 x22 x23 x24 x25 x26 x27 x28 w1 hb; (try simp only [depF, fillA, Act.put, zta, ztz, zpt, zsz, zss, zl0, zls]); (repeat (rintro rfl)); have st := st.call hb; ((apply Yphi.run; (exact rfl); (go_simp <;> (try simp (disch := omega) only [wrap_id, sub_left, zac]) <;> rfl); exact rfl)))); (simp only [zca, zcn] <;> exact rfl))
      (apply Plan.val'; (focus (intro x0 x1 x2 x3 x4 x5 x6 x7 x8 x9 x10 x11 x12 x13 x14 x15 x16 x17 x18 x19 x20 x21 x22 x23 x24 x25 x26 x27 x28 w1 hb; (try simp only [depF, fillA, Act.put, zta, ztz, zpt, zsz, zss, zl0, zls]); (repeat (rintro rfl)); have st := st.call hb; apply Yphi.load1 st; exact rfl; exact inferInstance; (exact rfl); exact rfl; (exact get0); (exact L.cells_f _ _ _ (hkl)))); (simp only [zca, zcn] <;> exact rfl))
      (apply Plan.val'; (focus (intro x0 x1 x2 x3 x4 x5 x6 x7 x8 x9 x10 x11 x12 x13 x14 x15 x16 x17 x18 x19 x20 x21 x22 x23 x24 x25 x26 x27 x28 w1 hb; (try simp only [depF, fillA, Act.put, zta, ztz, zpt, zsz, zss, zl0, zls]); (repeat (rintro rfl)); have st := st.call hb; apply Yphi.call; (exact rfl); (go_simp <;> (try simp (disch := omega) only [wrap_id, sub_left, zac]) <;> rfl); exact rfl; refine (Little1_any _ _ hf0 hf1).mono ?_; rintro e w' ⟨rfl, hb'⟩; exact ⟨_, rfl, hb', rfl⟩)); (simp only [zca, zcn] <;> exact rfl))
      (apply Plan.val'; (focus (intro x0 x1 x2 x3 x4 x5 x6 x7 x8 x9 x10 x11 x12 x13 x14 x15 x16 x17 x18 x19 x20 x21 x22 x23 x24 x25 x26 x27 x28 w1 hb; (try simp only [depF, fillA, Act.put, zta, ztz, zpt, zsz, zss, zl0, zls]); (repeat (rintro rfl)); have st := st.call hb; apply Yphi.cat; (exact rfl); exact rfl; exact rfl; exact rfl; (focus (simp only [List.length_append, List.length_cons, List.length_nil]; omega)))); (simp only [zca, zcn] <;> exact rfl))
      iterate 4 (apply Plan.val'; (focus (intro x0 x1 x2 x3 x4 x5 x6 x7 x8 x9 x10 x11 x12 x13 x14 x15 x16 x17 x18 x19 x20 x21 x22 x23 x24 x25 x26 x27 x28 w1 hb; (try simp only [depF, fillA, Act.put, zta, ztz, zpt, zsz, zss, zl0, zls]); (repeat (rintro rfl)); have st := st.call hb; ((apply Yphi.run; (exact rfl); (go_simp <;> (try simp (disch := omega) only [wrap_id, sub_left, zac]) <;> rfl); exact rfl)))); (simp only [zca, zcn] <;> exact rfl))
      (apply Plan.val'; (focus (intro x0 x1 x2 x3 x4 x5 x6 x7 x8 x9 x10 x11 x12 x13 x14 x15 x16 x17 x18 x19 x20 x21 x22 x23 x24 x25 x26 x27 x28 w1 hb; (try simp only [depF, fillA, Act.put, zta, ztz, zpt, zsz, zss, zl0, zls]); (repeat (rintro rfl)); have st := st.call hb; apply Yphi.load1 st; exact rfl; exact inferInstance; (exact rfl); exact rfl; (exact get0); (exact L.cells_m _ _ _ (hkl)))); (simp only [zca, zcn] <;> exact rfl))
      (apply Plan.val'; (focus (intro x0 x1 x2 x3 x4 x5 x6 x7 x8 x9 x10 x11 x12 x13 x14 x15 x16 x17 x18 x19 x20 x21 x22 x23 x24 x25 x26 x27 x28 w1 hb; (try simp only [depF, fillA, Act.put, zta, ztz, zpt, zsz, zss, zl0, zls]); (repeat (rintro rfl)); have st := st.call hb; apply Yphi.call; (exact rfl); (go_simp <;> (try simp (disch := omega) only [wrap_id, sub_left, zac]) <;> rfl); exact rfl; refine (Little2_any _ _ hm0 hm1).mono ?_; rintro e w' ⟨rfl, hb'⟩; exact ⟨_, rfl, hb', rfl⟩)); (simp only [zca, zcn] <;> exact rfl))
      (apply Plan.val'; (focus (intro x0 x1 x2 x3 x4 x5 x6 x7 x8 x9 x10 x11 x12 x13 x14 x15 x16 x17 x18 x19 x20 x21 x22 x23 x24 x25 x26 x27 x28 w1 hb; (try simp only [depF, fillA, Act.put, zta, ztz, zpt, zsz, zss, zl0, zls]); (repeat (rintro rfl)); have st := st.call hb; apply Yphi.cat; (exact rfl); exact rfl; exact rfl; exact rfl; (focus (simp only [List.length_append, List.length_cons, List.length_nil]; omega)))); (simp only [zca, zcn] <;> exact rfl))
      iterate 4 (apply Plan.val'; (focus (intro x0 x1 x2 x3 x4 x5 x6 x7 x8 x9 x10 x11 x12 x13 x14 x15 x16 x17 x18 x19 x20 x21 x22 x23 x24 x25 x26 x27 x28 w1 hb; (try simp only [depF, fillA, Act.put, zta, ztz, zpt, zsz, zss, zl0, zls]); (repeat (rintro rfl)); have st := st.call hb; ((apply Yphi.run; (exact rfl); (go_simp <;> (try simp (disch := omega) only [wrap_id, sub_left, zac]) <;> rfl); exact rfl)))); (simp only [zca, zcn] <;> exact rfl))
      (apply Plan.val'; (focus (intro x0 x1 x2 x3 x4 x5 x6 x7 x8 x9 x10 x11 x12 x13 x14 x15 x16 x17 x18 x19 x20 x21 x22 x23 x24 x25 x26 x27 x28 w1 hb; (try simp only [depF, fillA, Act.put, zta, ztz, zpt, zsz, zss, zl0, zls]); (repeat (rintro rfl)); have st := st.call hb; apply Yphi.load1 st; exact rfl; exact inferInstance; (exact rfl); exact rfl; (exact get0); (exact L.cells_w _ _ _ (hkl)))); (simp only [zca, zcn] <;> exact rfl))
      (apply Plan.val'; (focus (intro x0 x1 x2 x3 x4 x5 x6 x7 x8 x9 x10 x11 x12 x13 x14 x15 x16 x17 x18 x19 x20 x21 x22 x23 x24 x25 x26 x27 x28 w1 hb; (try simp only [depF, fillA, Act.put, zta, ztz, zpt, zsz, zss, zl0, zls]); (repeat (rintro rfl)); have st := st.call hb; apply Yphi.call; (exact rfl); (go_simp <;> (try simp (disch := omega) only [wrap_id, sub_left, zac]) <;> rfl); exact rfl; refine (Little4_any _ _ hw0 hw1).mono ?_; rintro e w' ⟨rfl, hb'⟩; exact ⟨_, rfl, hb', rfl⟩)); (simp only [zca, zcn] <;> exact rfl))
      (apply Plan.val'; (focus (intro x0 x1 x2 x3 x4 x5 x6 x7 x8 x9 x10 x11 x12 x13 x14 x15 x16 x17 x18 x19 x20 x21 x22 x23 x24 x25 x26 x27 x28 w1 hb; (try simp only [depF, fillA, Act.put, zta, ztz, zpt, zsz, zss, zl0, zls]); (repeat (rintro rfl)); have st := st.call hb; apply Yphi.cat; (exact rfl); exact rfl; exact rfl; exact rfl; (focus (simp only [List.length_append, List.length_cons, List.length_nil]; omega)))); (simp only [zca, zcn] <;> exact rfl))
      intro x0 x1 x2 x3 x4 x5 x6 x7 x8 x9 x10 x11 x12 x13 x14 x15 x16 x17 x18 x19 x20 x21 x22 x23 x24 x25 x26 x27 x28 lo hi w1 hb hap
      rintro rfl rfl rfl rfl rfl rfl rfl rfl rfl rfl rfl rfl rfl rfl rfl rfl rfl rfl rfl rfl rfl rfl rfl rfl rfl rfl rfl rfl rfl
      simp only [allPhi, fillA, Act.put, zta, ztz, zpt, zsz, zss, zda, zdz]
      have st := st.call hb
      clear hap hb
      go_wp2_with (refine WL.out ?_; (repeat ((refine WL.op ?_ ?_; (exact rfl); intro K hK; (first | ((((with_reducible apply ow_assign); exact rfl)); (go_simp <;> (try simp (disch := omega) only [wrap_id, sub_left, zac]) <;> rfl)) | ((with_reducible apply ow_eval); (go_simp <;> (try simp (disch := omega) only [wrap_id, sub_left, zac]) <;> rfl); ((with_reducible apply up_value)))); refine WL.next hK (by simp only [Act.put, zpt, zsz, zss]; exact rfl) ?_; clear hK K))); (try refine WL.nil ?_))
      exact ⟨⟨k + 1, by omega, by go_num, by rw [hst.out, ← List.append_assoc d.encHead, hX.out]; unfold L.encA; simp only [List.append_assoc, List.cons_append, List.nil_append], st.ofBox (by rw [L.cellsOf_length, ← e4.out]) HC.out hnc hcm⟩, by simp [intOf]; omega⟩
    · obtain rfl : k = n3 + n2 := by omega
      have hs' : Hid ((d.e ++ d.a).take (n3 + n2) = d.e ++ d.a) := Lib.hid (List.take_of_length_le (by rw [HM.out]; exact Nat.le_refl _))
      have hlI : ¬ ((n3 : Int) + (n2 : Int) < (n3 : Int) + (n2 : Int)) := by omega
      go_wp2_with (refine WL.out ?_; (repeat ((refine WL.op ?_ ?_; (exact rfl); intro K hK; (((with_reducible apply ow_eval); (go_simp <;> (try simp (disch := omega) only [wrap_id, sub_left, zac]) <;> rfl); ((with_reducible apply up_value)))); refine WL.next hK (by simp only [Act.put, zpt, zsz, zss]; exact rfl) ?_; clear hK K))); (try refine WL.nil ?_))
      go_ret
      exact ⟨by rw [hs'.out]; rfl, st.below⟩
end Go.Proofs.YtppjhccdgbheiaaDoor
namespace Go.Proofs.YtppjhccdgbheiaaDoor
open Go.RowKit Go.Hp
namespace L
theorem b8_byte (x : UInt8) (r : Int) : b8 (((x.toNat : Nat) : Int) + 256 * r) = x := by
  unfold b8
  have h := x.toNat_lt
  have e : ((((x.toNat : Nat) : Int) + 256 * r) % 256).toNat = x.toNat := by omega
  rw [e]
  exact UInt8.ofNat_toNat
theorem little_lev (l : List UInt8) : ∀ (c p : Nat), p + c ≤ l.length → little c (lev l p c) = (l.drop p).take c
  | 0, _, _ => rfl
  | c + 1, p, h => by
    have ih := little_lev l c (p + 1) (by omega)
    have hp : p < l.length := by omega
    have hb := bx_bound l p
    rw [List.drop_eq_getElem_cons hp, List.take_succ_cons, ← ih]
    show b8 (bx l p + 256 * lev l (p + 1) c) :: little c ((bx l p + 256 * lev l (p + 1) c) / 256) = _
    rw [show (bx l p + 256 * lev l (p + 1) c) / 256 = lev l (p + 1) c by omega]
    congr 1
    unfold bx
    rw [List.getElem?_eq_getElem hp]
    exact b8_byte _ _
theorem one_byte (l : List UInt8) (p : Nat) (h : p < l.length) : [b8 (bx l p)] = (l.drop p).take 1 := by
  have := little_lev l 1 p (by omega)
  rw [lev_one] at this
  exact this
theorem encA_at (l : List UInt8) (p : Nat) (h : p + 8 ≤ l.length) : encA (aceAt l p) = (l.drop p).take 8 := by
  have e1 := one_byte l p (by omega)
  have e2 := one_byte l (p + 1) (by omega)
  have e3 := little_lev l 2 (p + 2) (by omega)
  have e4 := little_lev l 4 (p + 4) (by omega)
  rw [little2] at e3
  rw [little4] at e4
  show [b8 (bx l p), b8 (bx l (p + 1))] ++ (le16 (lev l (p + 2) 2) ++ le32 (lev l (p + 4) 4)) = _
  rw [show [b8 (bx l p), b8 (bx l (p + 1))] = [b8 (bx l p)] ++ [b8 (bx l (p + 1))] from rfl, e1, e2, e3, e4]
  have key : ∀ (m : List UInt8) (a b : Nat), m.take (a + b) = m.take a ++ (m.drop a).take b := fun m a b => List.take_add ..
  rw [show (8 : Nat) = 1 + (1 + (2 + 4)) from rfl, key, key, key]
  simp only [List.drop_drop, List.append_assoc]
theorem encAces_to (l : List UInt8) : ∀ k : Nat, 12 + 8 * k ≤ l.length → encAces (acesTo l k) = (l.drop 12).take (8 * k)
  | 0, _ => rfl
  | k + 1, h => by
    have ih := encAces_to l k (by omega)
    rw [acesTo_snoc]
    have e : encAces (acesTo l k ++ [aceAt l (12 + 8 * k)]) = encAces (acesTo l k) ++ encA (aceAt l (12 + 8 * k)) := by unfold encAces; rw [List.flatMap_append]; simp
    rw [e, ih, encA_at l _ (by omega), show 8 * (k + 1) = 8 * k + 8 by omega, List.take_add, List.drop_drop]
theorem enc_decD {l : List UInt8} (hl : l.length = 12 + 8 * (nb l 2 + nb l 3)) (h0 : bx l 0 = 1) (h1 : bx l 1 ≤ 3) : (decD l).enc = l := by
  have hb := (bx_bound l 1).1
  have hea : (decD l).e ++ (decD l).a = acesTo l (nb l 2 + nb l 3) := List.take_append_drop _ _
  have hle : (decD l).e.length = nb l 2 := by
    show ((acesTo l (nb l 2 + nb l 3)).take (nb l 2)).length = _
    rw [List.length_take, acesTo_len]; omega
  have hla : (decD l).a.length = nb l 3 := by
    show ((acesTo l (nb l 2 + nb l 3)).drop (nb l 2)).length = _
    rw [List.length_drop, acesTo_len]; omega
  have hfl : (decD l).fl = bx l 1 := by
    show bit (bx l 1 % 2 == 1) + 2 * bit (bx l 1 / 2 == 1) = bx l 1
    rcases (show bx l 1 = 0 ∨ bx l 1 = 1 ∨ bx l 1 = 2 ∨ bx l 1 = 3 by omega) with h | h | h | h <;> rw [h] <;> decide
  have f0 := one_byte l 0 (by omega)
  have f1 := one_byte l 1 (by omega)
  have f2 := one_byte l 2 (by omega)
  have f3 := one_byte l 3 (by omega)
  have f4 := little_lev l 4 4 (by omega)
  have f8 := little_lev l 4 8 (by omega)
  rw [little4] at f4 f8
  rw [h0] at f0
  have hb1 : b8 1 = 1 := by decide
  rw [hb1] at f0
  have hhead : (decD l).encHead = l.take 12 := by
    unfold Desc.encHead
    rw [hfl, hle, hla]
    show [1, b8 (bx l 1), b8 (bx l 2), b8 (bx l 3)] ++ (le32 (lev l 4 4) ++ le32 (lev l 8 4)) = _
    rw [show [1, b8 (bx l 1), b8 (bx l 2), b8 (bx l 3)] = [1] ++ ([b8 (bx l 1)] ++ ([b8 (bx l 2)] ++ [b8 (bx l 3)])) from rfl, f0, f1, f2, f3, f4, f8]
    have key : ∀ (m : List UInt8) (a b : Nat), m.take (a + b) = m.take a ++ (m.drop a).take b := fun m a b => List.take_add ..
    rw [show (12 : Nat) = 1 + (1 + (1 + (1 + (4 + 4)))) from rfl, key, key, key, key, key]
    simp only [List.drop_drop, List.append_assoc, List.drop_zero]
  unfold Desc.enc
  rw [hhead, hea, encAces_to l _ (by omega), List.take_of_length_le (l := l.drop 12) (by rw [List.length_drop]; omega), List.take_append_drop]
end L
end Go.Proofs.YtppjhccdgbheiaaDoor
namespace Go.Proofs.YtppjhccdgbheiaaDoor
open Go.RowKit Go.Hp
namespace L
theorem lev_little : ∀ (c : Nat) (pre post : List UInt8) (n : Int), 0 ≤ n → n < 256 ^ c → lev (pre ++ (little c n ++ post)) pre.length c = n
  | 0, _, _, n, h0, h1 => by
    have : n < 1 := by simpa using h1
    show (0 : Int) = n
    omega
  | c + 1, pre, post, n, h0, h1 => by
    have hq : n / 256 < 256 ^ c := by
      rw [Int.pow_succ] at h1
      exact Int.ediv_lt_of_lt_mul (by decide) h1
    have ih := lev_little c (pre ++ [b8 n]) post (n / 256) (by omega) hq
    rw [List.length_append, List.length_singleton, List.append_assoc] at ih
    show bx (pre ++ (b8 n :: (little c (n / 256) ++ post))) pre.length + 256 * lev (pre ++ ([b8 n] ++ (little c (n / 256) ++ post))) (pre.length + 1) c = n
    rw [ih]
    have : bx (pre ++ (b8 n :: (little c (n / 256) ++ post))) pre.length = n % 256 := by
      unfold bx
      rw [List.getElem?_append_right (Nat.le_refl _), Nat.sub_self]
      exact b8_toNat n
    rw [this]
    omega
theorem bx_little (pre post : List UInt8) {n : Int} (h0 : 0 ≤ n) (h1 : n < 256) : bx (pre ++ (b8 n :: post)) pre.length = n := by
  have := lev_little 1 pre post n h0 (by simpa using h1)
  rw [lev_one] at this
  exact this
theorem encAces_len' : ∀ l : List Ace, (encAces l).length = 8 * l.length
  | [] => rfl
  | a :: l => by
    have ih := encAces_len' l
    have e : encAces (a :: l) = encA a ++ encAces l := by unfold encAces; rw [List.flatMap_cons]
    rw [e, List.length_append, ih, List.length_cons]
    show 8 + _ = _
    omega
theorem aceAt_enc (pre post : List UInt8) {a : Ace} (h : Ok a) {p : Nat} (hp : p = pre.length) : aceAt (pre ++ (encA a ++ post)) p = a := by
  subst hp
  have hk0 := h.k0; have hk1 := h.k1; have hf0 := h.f0; have hf1 := h.f1; have hm0 := h.m0; have hm1 := h.m1; have hw0 := h.w0; have hw1 := h.w1
  have e1 := bx_little pre ([b8 a.f] ++ (le16 a.m ++ le32 a.w) ++ post) (n := a.k) (by omega) (by omega)
  have e2 := bx_little (pre ++ [b8 a.k]) ((le16 a.m ++ le32 a.w) ++ post) (n := a.f) (by omega) (by omega)
  have e3 := lev_little 2 (pre ++ [b8 a.k, b8 a.f]) (le32 a.w ++ post) a.m (by omega) (by have : (256 : Int) ^ 2 = 65536 := by decide
                                                                                          omega)
  have e4 := lev_little 4 (pre ++ [b8 a.k, b8 a.f] ++ le16 a.m) post a.w (by omega) (by have : (256 : Int) ^ 4 = 4294967296 := by decide
                                                                                        omega)
  rw [little2] at e3
  rw [little4] at e4
  have s1 : pre ++ (encA a ++ post) = pre ++ (b8 a.k :: ([b8 a.f] ++ (le16 a.m ++ le32 a.w) ++ post)) := by unfold encA; simp
  have s2 : pre ++ (encA a ++ post) = (pre ++ [b8 a.k]) ++ (b8 a.f :: ((le16 a.m ++ le32 a.w) ++ post)) := by unfold encA; simp
  have s3 : pre ++ (encA a ++ post) = (pre ++ [b8 a.k, b8 a.f]) ++ (le16 a.m ++ (le32 a.w ++ post)) := by unfold encA; simp
  have s4 : pre ++ (encA a ++ post) = (pre ++ [b8 a.k, b8 a.f] ++ le16 a.m) ++ (le32 a.w ++ post) := by unfold encA; simp
  have g1 : bx (pre ++ (encA a ++ post)) pre.length = a.k := by rw [s1]; exact e1
  have g2 : bx (pre ++ (encA a ++ post)) (pre.length + 1) = a.f := by
    rw [s2]
    rw [List.length_append, List.length_singleton] at e2
    exact e2
  have g3 : lev (pre ++ (encA a ++ post)) (pre.length + 2) 2 = a.m := by
    rw [s3]
    rw [List.length_append] at e3
    exact e3
  have g4 : lev (pre ++ (encA a ++ post)) (pre.length + 4) 4 = a.w := by
    rw [s4]
    rw [List.length_append, List.length_append] at e4
    exact e4
  unfold aceAt
  rw [g1, g2, g3, g4]
theorem acesTo_at (pre : List UInt8) (M : List Ace) (hp : pre.length = 12) (hg : Good M) (i : Nat) (h2 : i < M.length) : aceAt (pre ++ encAces M) (12 + 8 * i) = M[i] := by
  have hs : encAces M = encAces (M.take i) ++ (encA M[i] ++ encAces (M.drop (i + 1))) := by
    conv => lhs; rw [← List.take_append_drop i M, List.drop_eq_getElem_cons h2]
    unfold encAces
    rw [List.flatMap_append, List.flatMap_cons]
  rw [hs, ← List.append_assoc]
  refine aceAt_enc _ _ (hg _ (List.getElem_mem h2)) ?_
  rw [List.length_append, hp, encAces_len', List.length_take]
  omega
theorem acesTo_enc (pre : List UInt8) (M : List Ace) (hp : pre.length = 12) (hg : Good M) : acesTo (pre ++ encAces M) M.length = M := by
  apply List.ext_getElem?
  intro i
  show ((List.range M.length).map fun i => aceAt (pre ++ encAces M) (12 + 8 * i))[i]? = _
  rw [List.getElem?_map]
  by_cases h : i < M.length
  · rw [List.getElem?_range h, List.getElem?_eq_getElem h, ← acesTo_at pre M hp hg i h]
    rfl
  · rw [List.getElem?_eq_none (by rw [List.length_range]; omega), List.getElem?_eq_none (by omega)]
    rfl
end L
end Go.Proofs.YtppjhccdgbheiaaDoor
namespace Go.Proofs.YtppjhccdgbheiaaDoor
open Go.RowKit Go.Hp
namespace L
theorem rHolder_bound {n : Int} (h : rHolder n = true) : 0 ≤ n ∧ n < 4294967296 := by
  unfold rHolder isUser at h
  try unfold within at h
  simp only [Bool.or_eq_true, Bool.and_eq_true, beq_iff_eq, decide_eq_true_eq] at h
  omega
theorem fl_parts (d : Desc) : 0 ≤ d.fl ∧ d.fl ≤ 3 ∧ (d.fl % 2 == 1) = d.p ∧ (d.fl / 2 == 1) = d.h := by
  unfold Desc.fl
  cases d.p <;> cases d.h <;> decide
theorem bx_nat {l : List UInt8} {i k : Nat} (h : bx l i = (k : Int)) : nb l i = k := by
  have := bx_nb l i
  omega
theorem rDec_enc {d : Desc} (h : d.rErrs.2 = 0) : rDec d.enc = (d, 0) := by
  have hv := Desc.valid_of h
  have hg : Good (d.e ++ d.a) := Desc.err_good (by rw [Desc.err_eq]; exact h)
  obtain ⟨ho, hgr⟩ := pair_holders hv.pair
  obtain ⟨o0, o1⟩ := rHolder_bound ho
  obtain ⟨r0, r1⟩ := rHolder_bound hgr
  have le := hv.le
  have la := hv.la
  obtain ⟨f0, f1, f2, f3⟩ := fl_parts d
  have hhl : d.encHead.length = 12 := rfl
  have hlen : d.enc.length = 12 + 8 * (d.e.length + d.a.length) := by
    unfold Desc.enc
    rw [List.length_append, encAces_len', hhl, List.length_append]
  have x0 : bx d.enc 0 = 1 := by rfl
  have x1 : bx d.enc 1 = d.fl := bx_little [1] ([b8 d.e.length, b8 d.a.length] ++ (le32 d.o ++ le32 d.g) ++ encAces (d.e ++ d.a)) f0 (by omega)
  have x2 : bx d.enc 2 = (d.e.length : Int) := bx_little [1, b8 d.fl] ([b8 d.a.length] ++ (le32 d.o ++ le32 d.g) ++ encAces (d.e ++ d.a)) (by omega) (by omega)
  have x3 : bx d.enc 3 = (d.a.length : Int) := bx_little [1, b8 d.fl, b8 d.e.length] ((le32 d.o ++ le32 d.g) ++ encAces (d.e ++ d.a)) (by omega) (by omega)
  have p4 : (256 : Int) ^ 4 = 4294967296 := by decide
  have x4 := lev_little 4 [1, b8 d.fl, b8 d.e.length, b8 d.a.length] (le32 d.g ++ encAces (d.e ++ d.a)) d.o o0 (by omega)
  have x8 := lev_little 4 ([1, b8 d.fl, b8 d.e.length, b8 d.a.length] ++ le32 d.o) (encAces (d.e ++ d.a)) d.g r0 (by omega)
  rw [little4] at x4 x8
  have s4 : d.enc = [1, b8 d.fl, b8 d.e.length, b8 d.a.length] ++ (le32 d.o ++ (le32 d.g ++ encAces (d.e ++ d.a))) := by
    unfold Desc.enc Desc.encHead
    simp only [List.append_assoc]
  have s8 : d.enc = [1, b8 d.fl, b8 d.e.length, b8 d.a.length] ++ le32 d.o ++ (le32 d.g ++ encAces (d.e ++ d.a)) := by
    rw [s4]; simp only [List.append_assoc]
  rw [← s4] at x4
  rw [← s8] at x8
  have y4 : lev d.enc 4 4 = d.o := x4
  have y8 : lev d.enc 8 4 = d.g := x8
  have n2 := bx_nat x2
  have n3 := bx_nat x3
  have ha : acesTo d.enc (d.e.length + d.a.length) = d.e ++ d.a := by
    have := acesTo_enc d.encHead (d.e ++ d.a) hhl hg
    rw [List.length_append] at this
    exact this
  have hd : decD d.enc = d := by
    unfold decD
    rw [n2, n3, y4, y8, x1, f2, f3, ha, List.take_left', List.drop_left'] <;> rfl
  unfold rDec
  rw [hlen, n2, n3, x0, x1, hd, h]
  rw [if_neg (by omega), if_neg (by omega), if_neg (by omega), if_neg (by omega), if_neg (by omega)]
end L
end Go.Proofs.YtppjhccdgbheiaaDoor
namespace Go.Proofs.YtppjhccdgbheiaaDoor
open Go.RowKit Go.Hp
def DescRows (base : Nat) (d : L.Desc) (w : World) (A1 : Option Addr) (n1 c1 : Nat) (A2 : Option Addr) (n2 c2 : Nat) : Prop :=
  (aceRow (.slice A1 n1 c1) n1 d.e).holds base w ∧ (aceRow (.slice A2 n2 c2) n2 d.a).holds base w ∧ Res.ne (aceRow (.slice A1 n1 c1) n1 d.e) (aceRow (.slice A2 n2 c2) n2 d.a)
section
variable {base : Nat} {d : L.Desc} {w w' w0 : World} {A1 A2 : Option Addr} {n1 c1 n2 c2 : Nat} {rs : List Res}
theorem DescRows.keep (h : DescRows base d w A1 n1 c1 A2 n2 c2) (hb : Below w.heap.size w w') : DescRows base d w' A1 n1 c1 A2 n2 c2 :=
  ⟨Res.holds_keep h.1 hb.size fun k hk => hb.block k (Res.holds_lt h.1 hk).2, Res.holds_keep h.2.1 hb.size fun k hk => hb.block k (Res.holds_lt h.2.1 hk).2, h.2.2⟩
theorem DescRows.of_st (hb : base ≤ w.heap.size) (st : St w w' [aceRow (.slice A1 n1 c1) n1 d.e, aceRow (.slice A2 n2 c2) n2 d.a]) : DescRows base d w' A1 n1 c1 A2 n2 c2 :=
  ⟨Res.holds_mono (st.get (i := 0) rfl) hb, Res.holds_mono (st.get (i := 1) rfl) hb, (List.pairwise_cons.1 st.apart).1 _ (List.mem_cons_self ..)⟩
theorem DescRows.a1 (h : DescRows base d w A1 n1 c1 A2 n2 c2) : Aces w w.heap.size A1 n1 d.e := Rd.aces (Rd.of_row h.1)
theorem DescRows.a2 (h : DescRows base d w A1 n1 c1 A2 n2 c2) : Aces w w.heap.size A2 n2 d.a := Rd.aces (Rd.of_row h.2.1)
theorem St.desc (st : St w0 w rs) (hb : Below w.heap.size w w') (h : DescRows base d w' A1 n1 c1 A2 n2 c2) (hbase : w.heap.size ≤ base) :
    St w0 w' (aceRow (.slice A1 n1 c1) n1 d.e :: aceRow (.slice A2 n2 c2) n2 d.a :: rs) := by
  have hs := st.size
  have far : ∀ {r : Res}, r.holds base w' → ∀ s ∈ rs, r.ne s := fun hr s hs k hk hk' => by
    have a1 := (Res.holds_lt hr hk).1
    have a2 := (Res.holds_lt (st.holds s hs) hk').2
    omega
  refine ((st.call hb).cons (Res.holds_mono h.2.1 (by omega)) (far h.2.1)).cons (Res.holds_mono h.1 (by omega)) fun s hs => ?_
  rcases List.mem_cons.1 hs with rfl | hs
  · exact h.2.2
  · exact far h.1 s hs
theorem St.descBox {b t lo : Nat} {cs : List Value} (st : St w0 w rs) (hb : Below w.heap.size w w') (h : DescRows base d w' A1 n1 c1 A2 n2 c2) (hx : (Res.box b t cs).holds lo w') (hlo : w.heap.size ≤ lo) (hbase : w.heap.size ≤ base) (ht : t ≠ 23) :
    St w0 w' (.box b t cs :: aceRow (.slice A1 n1 c1) n1 d.e :: aceRow (.slice A2 n2 c2) n2 d.a :: rs) := by
  have hs := st.size
  have st2 := St.desc st hb h hbase
  have far : ∀ {A : Option Addr} {n c : Nat} {l : List L.Ace}, (aceRow (.slice A n c) n l).holds base w' → (Res.box b t cs).ne (aceRow (.slice A n c) n l) := by
    intro A n c l hr k hk hk'
    cases hk
    rcases hr.2 with ⟨hn, _⟩ | ⟨g, cap, cur, hv, _, hg, _⟩
    · rw [hn] at hk'; cases hk'
    · rw [hv] at hk'
      cases hk'
      have := hx.2.symm.trans hg
      injection this with this
      injection this with _ h2
      exact ht h2
  refine st2.cons (Res.holds_mono hx (by omega)) fun s hs => ?_
  rcases List.mem_cons.1 hs with rfl | hs
  · exact far h.1
  · rcases List.mem_cons.1 hs with rfl | hs
    · exact far h.2.1
    · intro k hk hk'
      have a1 := (Res.holds_lt hx hk).1
      have a2 := (Res.holds_lt (st.holds s hs) hk').2
      omega
end
def descFrom (base : Nat) (d : L.Desc) : Phi := fun _ _ v w => ∃ A1 n1 c1 A2 n2 c2, v = .agg #[.int .i64 d.o, .int .i64 d.g, .bool d.p, .bool d.h, .slice A1 n1 c1, .slice A2 n2 c2] ∧ DescRows base d w A1 n1 c1 A2 n2 c2
theorem descFrom_stable (base : Nat) (d : L.Desc) : (descFrom base d).stable := by
  rintro lo hi v w1 w2 hb hh ⟨A1, n1, c1, A2, n2, c2, rfl, h⟩
  exact ⟨A1, n1, c1, A2, n2, c2, rfl, h.keep hb⟩
def tupDesc (base : Nat) (d : L.Desc) (E : Value) : Phi := fun _ _ v w => ∃ A1 n1 c1 A2 n2 c2, v = .tuple #[.agg #[.int .i64 d.o, .int .i64 d.g, .bool d.p, .bool d.h, .slice A1 n1 c1, .slice A2 n2 c2], E] ∧ DescRows base d w A1 n1 c1 A2 n2 c2
theorem tupDesc_stable (base : Nat) (d : L.Desc) (E : Value) : (tupDesc base d E).stable := by
  rintro lo hi v w1 w2 hb hh ⟨A1, n1, c1, A2, n2, c2, rfl, h⟩
  exact ⟨A1, n1, c1, A2, n2, c2, rfl, h.keep hb⟩
theorem ChildOf_at {d' d m : L.Desc} {dir : Bool} {E : Int} (h : L.childOf d' d dir = (m, E)) (A1 A2 A1' A2' : Option Addr) (n1 n2 n1' n2' c1 c2 c1' c2' B : Nat) (w : World)
    (h1 : Aces w B A1 n1 d.e) (h2 : Aces w B A2 n2 d.a) (h1' : Aces w B A1' n1' d'.e) (h2' : Aces w B A2' n2' d'.a) (hB1 : B ≤ w.heap.size) (hn1 : n1 ≤ 100) (hn2 : n2 ≤ 100) (hn1' : n1' ≤ 100) (hn2' : n2' ≤ 100) :
    Calls Tryd.prog 21 #[.agg #[.int .i64 d'.o, .int .i64 d'.g, .bool d'.p, .bool d'.h, .slice A1' n1' c1', .slice A2' n2' c2'], .agg #[.int .i64 d.o, .int .i64 d.g, .bool d.p, .bool d.h, .slice A1 n1 c1, .slice A2 n2 c2], .bool dir] w (RetDescErr w (m, E)) := by
  rw [← h]
  exact ChildOf_any d' d dir A1 A2 A1' A2' n1 n2 n1' n2' c1 c2 c1' c2' B w h1 h2 h1' h2' hB1 hn1 hn2 hn1' hn2'
theorem rChild_at {d' d m : L.Desc} {dir ok : Bool} (h : L.rChild d' d dir = (m, ok)) (A1 A2 A1' A2' : Option Addr) (n1 n2 n1' n2' c1 c2 c1' c2' B : Nat) (w : World)
    (h1 : Aces w B A1 n1 d.e) (h2 : Aces w B A2 n2 d.a) (h1' : Aces w B A1' n1' d'.e) (h2' : Aces w B A2' n2' d'.a) (hB1 : B ≤ w.heap.size) (hn1 : n1 ≤ 20) (hn2 : n2 ≤ 20) (hn1' : n1' ≤ 20) (hn2' : n2' ≤ 20) (hg1 : L.Good d.e) (hg2 : L.Good d.a) (hg1' : L.Good d'.e) (hg2' : L.Good d'.a) :
    Calls Tryd.prog 24 #[.agg #[.int .i64 d'.o, .int .i64 d'.g, .bool d'.p, .bool d'.h, .slice A1' n1' c1', .slice A2' n2' c2'], .agg #[.int .i64 d.o, .int .i64 d.g, .bool d.p, .bool d.h, .slice A1 n1 c1, .slice A2 n2 c2], .bool dir] w (fun e w' => ∃ A1 n1 c1 A2 n2 c2, e = .returned (.tuple #[.agg #[.int .i64 m.o, .int .i64 m.g, .bool m.p, .bool m.h, .slice A1 n1 c1, .slice A2 n2 c2], .bool ok]) ∧ St w w' [aceRow (.slice A1 n1 c1) n1 m.e, aceRow (.slice A2 n2 c2) n2 m.a]) := by
  show Calls Tryd.prog 24 _ w (RetDescOk w (m, ok))
  rw [← h]
  exact rChild_any d.o d.g d.p d.h d.e d.a d'.o d'.g d'.p d'.h d'.e d'.a dir A1 A2 A1' A2' n1 n2 n1' n2' c1 c2 c1' c2' B w h1 h2 h1' h2' hB1 hn1 hn2 hn1' hn2' hg1 hg2 hg1' hg2'
namespace L
theorem rChild_no {d' d : Desc} {dir : Bool} (h : (rChild d' d dir).2 = false) : (rChild d' d dir).1 = Desc.none := by
  unfold rChild at h ⊢
  split at h
  · cases h
  · rename_i hl; rw [if_neg hl]
theorem childOf_len (d' d : Desc) (dir : Bool) : (childOf d' d dir).1.e.length ≤ 16 ∧ (childOf d' d dir).1.a.length ≤ 16 := by
  unfold childOf
  split
  · unfold child
    split
    · rename_i h; exact ⟨by rw [canon_length]; exact h.1, by rw [canon_length]; exact h.2⟩
    · exact ⟨by decide, by decide⟩
  · exact ⟨Nat.zero_le 16, Nat.zero_le 16⟩
theorem rChild_len (d' d : Desc) (dir : Bool) : (rChild d' d dir).1.e.length ≤ 16 ∧ (rChild d' d dir).1.a.length ≤ 16 := by
  unfold rChild
  split
  · rename_i h; exact ⟨by rw [canon_length]; exact h.1, by rw [canon_length]; exact h.2⟩
  · exact ⟨by decide, by decide⟩
theorem Desc.same_refl (d : Desc) : d.same d = true := by
  unfold Desc.same
  have : ∀ l : List Ace, L.same l l = true := by
    intro l
    induction l with
    | nil => rfl
    | cons a l ih => unfold L.same; rw [ih]; simp [aeq]
  rw [this, this]
  simp
end L
end Go.Proofs.YtppjhccdgbheiaaDoor
namespace Go.Proofs.YtppjhccdgbheiaaDoor
open Go.RowKit Go.Hp
namespace L
theorem rDec_len (l : List UInt8) : (rDec l).1.e.length ≤ 16 ∧ (rDec l).1.a.length ≤ 16 := by
  unfold rDec
  split
  · exact ⟨Nat.zero_le _, Nat.zero_le _⟩
  split
  · exact ⟨Nat.zero_le _, Nat.zero_le _⟩
  rename_i h2
  split
  · exact ⟨Nat.zero_le _, Nat.zero_le _⟩
  split
  · exact ⟨Nat.zero_le _, Nat.zero_le _⟩
  have hk : (decD l).e.length ≤ 16 ∧ (decD l).a.length ≤ 16 := by
    show ((acesTo l _).take _).length ≤ 16 ∧ ((acesTo l _).drop _).length ≤ 16
    rw [List.length_take, List.length_drop, acesTo_len]
    omega
  split
  · exact ⟨Nat.zero_le _, Nat.zero_le _⟩
  · exact hk
theorem rDec_good {l : List UInt8} {m : Desc} (h : rDec l = (m, 0)) : m.err.2 = 0 ∧ m.enc = l := by
  unfold rDec at h
  split at h
  · exact absurd (Prod.mk.inj h).2 (by decide)
  split at h
  · exact absurd (Prod.mk.inj h).2 (by decide)
  split at h
  · exact absurd (Prod.mk.inj h).2 (by decide)
  rename_i h3
  split at h
  · exact absurd (Prod.mk.inj h).2 (by decide)
  rename_i h4
  split at h
  · rename_i h5
    exact absurd (Prod.mk.inj h).2 h5
  · rename_i h5
    obtain ⟨rfl, _⟩ := Prod.mk.inj h
    refine ⟨by rw [Desc.err_eq]; exact Decidable.not_not.1 h5, enc_decD (by omega) (by omega) (by omega)⟩
theorem enc_len (d : Desc) : d.enc.length = 12 + 8 * (d.e.length + d.a.length) := by
  unfold Desc.enc Desc.encHead
  have h : ∀ k : List Ace, (encAces k).length = 8 * k.length := by
    intro k
    induction k with
    | nil => rfl
    | cons a k ih =>
      show (encA a ++ encAces k).length = _
      rw [List.length_append, ih, List.length_cons]
      have : (encA a).length = 8 := rfl
      omega
  rw [List.length_append, h, List.length_append]
  have h2 : ∀ x, (le32 x).length = 4 := fun x => rfl
  simp only [List.length_append, List.length_cons, List.length_nil, h2]
end L
theorem Encode_is {d : L.Desc} {X : List UInt8} {E : Int} (hX : encRes d = (X, E)) (A1 A2 : Option Addr) (n1 n2 c1 c2 B : Nat) (w : World) (h1 : Aces w B A1 n1 d.e) (h2 : Aces w B A2 n2 d.a) (hB1 : B ≤ w.heap.size) (hn1 : n1 ≤ 100) (hn2 : n2 ≤ 100) :
    Calls Tryd.prog 31 #[.agg #[.int .i64 d.o, .int .i64 d.g, .bool d.p, .bool d.h, .slice A1 n1 c1, .slice A2 n2 c2]] w fun e w' => e = .returned (.tuple #[.string ⟨X.toArray⟩, .int .i64 E]) ∧ Below w.heap.size w w' :=
  (EncodeDescriptor_any d A1 A2 n1 n2 c1 c2 B w h1 h2 hB1 hn1 hn2).mono fun e w' h => by rw [hX] at h; exact h
theorem rEncode_is {d : L.Desc} {X : List UInt8} (hX : d.enc = X) (A1 A2 : Option Addr) (n1 n2 c1 c2 B : Nat) (w : World) (h1 : Aces w B A1 n1 d.e) (h2 : Aces w B A2 n2 d.a) (hB1 : B ≤ w.heap.size) (hn1 : n1 ≤ 100) (hn2 : n2 ≤ 100) (hE : d.err.2 = 0) :
    Calls Tryd.prog 34 #[.agg #[.int .i64 d.o, .int .i64 d.g, .bool d.p, .bool d.h, .slice A1 n1 c1, .slice A2 n2 c2]] w fun e w' => e = .returned (.string ⟨X.toArray⟩) ∧ Below w.heap.size w w' :=
  (rEncode_any d A1 A2 n1 n2 c1 c2 B w h1 h2 hB1 hn1 hn2 hE).mono fun e w' h => by rw [hX] at h; exact h
def RetDescIs (w : World) (m : L.Desc) (E : Int) (e : Ending) (w' : World) : Prop := ∃ A1 n1 c1 A2 n2 c2, e = .returned (.tuple #[.agg #[.int .i64 m.o, .int .i64 m.g, .bool m.p, .bool m.h, .slice A1 n1 c1, .slice A2 n2 c2], .int .i64 E]) ∧ St w w' [aceRow (.slice A1 n1 c1) n1 m.e, aceRow (.slice A2 n2 c2) n2 m.a]
theorem Decode_is {l : List UInt8} {m : L.Desc} {E : Int} (hD : L.rDec l = (m, E)) (w : World) (hl : l.length ≤ 100000) : Calls Tryd.prog 32 #[.string ⟨l.toArray⟩] w (RetDescIs w m E) :=
  (decode_any l w hl).mono fun e w' h => by rw [hD] at h; exact h
theorem rDecode_is {l : List UInt8} {m : L.Desc} {E : Int} (hD : L.rDec l = (m, E)) (w : World) (hl : l.length ≤ 100000) : Calls Tryd.prog 33 #[.string ⟨l.toArray⟩] w (RetDescIs w m E) :=
  (rDecode_any l w hl).mono fun e w' h => by rw [hD] at h; exact h
set_option maxRecDepth 8000 in
set_option maxHeartbeats 4000000 in
theorem AclBytes_gv (d : L.Desc) (l : List UInt8) (A1 A2 : Option Addr) (n1 n2 c1 c2 B : Nat) (w : World) (h1 : Aces w B A1 n1 d.e) (h2 : Aces w B A2 n2 d.a) (hB1 : B ≤ w.heap.size) (hn1 : n1 ≤ 20) (hn2 : n2 ≤ 20) (hl : l.length ≤ 300) (m : L.Desc) (hD : L.rDec l = (m, 0)) (hXM : encRes m = (l, 0)) (X : List UInt8) (hXe : d.enc = X) (hX : encRes d = (X, 0)) (hE : d.rErrs.2 = 0) (hE3 : d.err.2 = 0) (hD2 : L.rDec X = (d, 0)) :
    Calls Tryd.prog 7 #[.agg #[.int .i64 d.o, .int .i64 d.g, .bool d.p, .bool d.h, .slice A1 n1 c1, .slice A2 n2 c2], .string ⟨l.toArray⟩] w fun e w' => e = .returned (.bool true) ∧ Below w.heap.size w w' := by
  have H1 := Lib.hid h1
  have H2 := Lib.hid h2
  clear h1 h2
  have hf : (decide (n1 ≤ 20) && decide (n2 ≤ 20)) = true := by simp [hn1, hn2]
  have HN1 : Hid (n1 ≤ maxLen) := Lib.hid (by unfold maxLen; omega)
  have HN2 : Hid (n2 ≤ maxLen) := Lib.hid (by unfold maxLen; omega)
  have hml := L.rDec_len l
  rw [hD] at hml
  have HM : Hid (m.e.length ≤ 16 ∧ m.a.length ≤ 16) := Lib.hid hml
  have HD := Lib.hid hD
  have HX := Lib.hid hX
  have HE := Lib.hid hE
  clear hml hD hX hE
  have hlen : ((ByteArray.mk l.toArray).size : Int) ≤ 300 := by rw [bytes_size]; omega
  have hlen2 : ¬ ((300 : Int) < (l.length : Int)) := by omega
  have hsz := bytes_size l
  have HXM := Lib.hid hXM
  clear hXM
  have HE3 := Lib.hid hE3
  have HD2 := Lib.hid hD2
  have HL2 : Hid (X.length ≤ 100000) := Lib.hid (by rw [← hXe, L.enc_len, ← H1.out.len, ← H2.out.len]; omega)
  have HXE := Lib.hid hXe
  clear hE3 hD2 hXe
  have st := St.start w
  go_enter Tryd.func7, Tryd.ntmps7
  go_wp2_with (refine WL.out ?_; (repeat ((refine WL.op ?_ ?_; (exact rfl); intro K hK; (first | ((first | ((with_reducible apply ow_move); exact rfl) | ((with_reducible apply ow_assign); exact rfl)); (go_simp <;> (try simp (disch := omega) only [wrap_id, sub_left, zac]) <;> rfl)) | ((((with_reducible apply ow_loadN st); exact rfl; exact inferInstance; exact rfl; (first | exact get0 | exact get3 | exact get6); ((try simp only [zta, ztz, zda, zdz, zca, zcn, zan, zsz, zss]) <;> exact rfl))); exact rfl) | ((first | ((with_reducible apply ow_box st); exact rfl; (go_simp <;> (try simp (disch := omega) only [wrap_id, sub_left, zac]) <;> rfl); (go_simp <;> (try simp (disch := omega) only [wrap_id, sub_left, zac]) <;> rfl)) | ((with_reducible apply ow_alloc st); exact rfl; exact inferInstance; (go_simp <;> (try simp (disch := omega) only [wrap_id, sub_left, zac]) <;> rfl))); (try clear st); intro b w' st) | ((((with_reducible apply ow_storeN' st); exact rfl; exact inferInstance; exact rfl; (exact get0); exact rfl)); exact rfl; exact rfl; (simp <;> done); ((try simp only [zta, ztz, zda, zdz, zca, zcn, zan, zsz, zss]) <;> exact rfl); (try clear st); intro w' st) | ((with_reducible apply ow_eval); (go_simp <;> (try simp (disch := omega) only [wrap_id, sub_left, zac]) <;> rfl); first | (with_reducible apply up_value) | ((with_reducible apply up_enter); first | (go_at_call 8; refine (awake_any _).mono ?_; rintro e w' ⟨rfl, hb⟩; replace st := st.call hb; clear hb; refine ⟨_, rfl, ?_⟩) | (go_at_call 9; ((with_reducible refine (Few_any d A1 A2 n1 n2 c1 c2 _ HN1.out HN2.out).mono ?_); rw [hf]); rintro e w' ⟨rfl, hb⟩; replace st := st.call hb; clear hb; refine ⟨_, rfl, ?_⟩) | (go_at_call 12; ((with_reducible refine (CopyDescriptor_any d A1 A2 n1 n2 c1 c2 B _ (H1.out.st st hB1) (H2.out.st st hB1) (Nat.le_trans hB1 st.size) (by omega) (by omega)).mono ?_); rintro e w' ⟨A5, n5, c5, A6, n6, c6, rfl, st'⟩; replace st := st.join st'; clear st'; simp only [List.cons_append, List.nil_append] at st; refine ⟨_, rfl, ?_⟩)) | (go_at_call 31; ((with_reducible refine (Encode_is HX.out A5 A6 n5 n6 c5 c6 _ _ (St.aces st (i := 0) rfl) (St.aces st (i := 1) rfl) (Nat.le_refl _) (by have h3 := St.len st (i := 0) rfl; have h4 := H1.out.len; omega) (by have h3 := St.len st (i := 1) rfl; have h4 := H2.out.len; omega)).mono ?_); rintro e w' ⟨rfl, hb⟩; replace st := st.call hb; clear hb; replace st := st.tail.tail; refine ⟨_, rfl, ?_⟩)) | (go_at_call 32; ((with_reducible refine (Decode_is HD.out _ (by omega)).mono ?_); rintro e w' ⟨A7, n7, c7, A8, n8, c8, rfl, st'⟩; replace st := st.join st'; clear st'; simp only [List.cons_append, List.nil_append] at st; refine ⟨_, rfl, ?_⟩)) | (go_at_call 33; ((with_reducible refine (rDecode_is HD.out _ (by omega)).mono ?_); rintro e w' ⟨A9, n9, c9, Aa, na, ca, rfl, st'⟩; replace st := st.join st'; clear st'; simp only [List.cons_append, List.nil_append] at st; refine ⟨_, rfl, ?_⟩)) | (go_at_call 23; ((with_reducible refine (SameDescriptor_any m m A7 A8 A9 Aa n7 n8 n9 na c7 c8 c9 ca _ _ (St.aces st (i := 4) rfl) (St.aces st (i := 5) rfl) (St.aces st (i := 1) rfl) (St.aces st (i := 2) rfl) (Nat.le_refl _) (by have h3 := St.len st (i := 4) rfl; have h4 := HM.out.1; omega) (by have h3 := St.len st (i := 5) rfl; have h4 := HM.out.2; omega) (by have h3 := St.len st (i := 1) rfl; have h4 := HM.out.1; omega) (by have h3 := St.len st (i := 2) rfl; have h4 := HM.out.2; omega)).mono ?_); rw [L.Desc.same_refl]; rintro e w' ⟨rfl, hb⟩; replace st := st.call hb; clear hb; refine ⟨_, rfl, ?_⟩)) | (go_at_call 12; ((with_reducible refine (CopyDescriptor_any m A7 A8 n7 n8 c7 c8 _ _ (St.aces st (i := 4) rfl) (St.aces st (i := 5) rfl) (Nat.le_refl _) (by have h3 := St.len st (i := 4) rfl; have h4 := HM.out.1; omega) (by have h3 := St.len st (i := 5) rfl; have h4 := HM.out.2; omega)).mono ?_); rintro e w' ⟨Ab, nb, cb, Ac, nc, cc, rfl, st'⟩; replace st := st.join st'; clear st'; simp only [List.cons_append, List.nil_append] at st; refine ⟨_, rfl, ?_⟩)) | (go_at_call 31; ((with_reducible refine (Encode_is HXM.out Ab Ac nb nc cb cc _ _ (St.aces st (i := 0) rfl) (St.aces st (i := 1) rfl) (Nat.le_refl _) (by have h3 := St.len st (i := 0) rfl; have h4 := HM.out.1; omega) (by have h3 := St.len st (i := 1) rfl; have h4 := HM.out.2; omega)).mono ?_); rintro e w' ⟨rfl, hb⟩; replace st := st.call hb; clear hb; replace st := st.tail.tail; refine ⟨_, rfl, ?_⟩)) | (go_at_call 22; ((with_reducible refine (rDescriptorErr_any d A1 A2 n1 n2 c1 c2 B _ (H1.out.st st hB1) (H2.out.st st hB1) (Nat.le_trans hB1 st.size) (by omega) (by omega)).mono ?_); rw [HE.out]; rintro e w' ⟨rfl, hb⟩; replace st := st.call hb; clear hb; replace st := st.drop 6; refine ⟨_, rfl, ?_⟩)) | (go_at_call 32; ((with_reducible refine (Decode_is HD2.out _ (by have h3 := HL2.out; omega)).mono ?_); rintro e w' ⟨Ad, nd, cd, Ae, ne, ce, rfl, st'⟩; replace st := st.join st'; clear st'; simp only [List.cons_append, List.nil_append] at st; refine ⟨_, rfl, ?_⟩)) | (go_at_call 34; ((with_reducible refine (rEncode_is HXE.out A1 A2 n1 n2 c1 c2 B _ (H1.out.st st hB1) (H2.out.st st hB1) (Nat.le_trans hB1 st.size) (by omega) (by omega) HE3.out).mono ?_); rintro e w' ⟨rfl, hb⟩; replace st := st.call hb; clear hb; refine ⟨_, rfl, ?_⟩)) | (go_at_call 23; ((with_reducible refine (SameDescriptor_any d d Ad Ae A1 A2 nd ne n1 n2 cd ce c1 c2 _ _ (St.aces st (i := 1) rfl) (St.aces st (i := 2) rfl) ((H1.out.st st hB1).more (Nat.le_trans hB1 st.size)) ((H2.out.st st hB1).more (Nat.le_trans hB1 st.size)) (Nat.le_refl _) (by have h3 := St.len st (i := 1) rfl; have h4 := H1.out.len; omega) (by have h3 := St.len st (i := 2) rfl; have h4 := H2.out.len; omega) (by omega) (by omega)).mono ?_); rw [L.Desc.same_refl]; rintro e w' ⟨rfl, hb⟩; replace st := st.call hb; clear hb; refine ⟨_, rfl, ?_⟩))))); refine WL.next hK (by simp only [Act.put, zpt, zsz, zss]; exact rfl) ?_; clear hK K))); (try refine WL.nil ?_))
  go_ret
  exact ⟨(by (rfl)), st.below⟩
set_option maxRecDepth 8000 in
set_option maxHeartbeats 4000000 in
theorem AclBytes_ge (d : L.Desc) (l : List UInt8) (A1 A2 : Option Addr) (n1 n2 c1 c2 B : Nat) (w : World) (h1 : Aces w B A1 n1 d.e) (h2 : Aces w B A2 n2 d.a) (hB1 : B ≤ w.heap.size) (hn1 : n1 ≤ 20) (hn2 : n2 ≤ 20) (hl : l.length ≤ 300) (m : L.Desc) (hD : L.rDec l = (m, 0)) (hXM : encRes m = (l, 0)) (X : List UInt8) (E1 : Int) (hX : encRes d = ([], E1)) (hE : d.rErrs.2 = E1) (hE0 : E1 ≠ 0) :
    Calls Tryd.prog 7 #[.agg #[.int .i64 d.o, .int .i64 d.g, .bool d.p, .bool d.h, .slice A1 n1 c1, .slice A2 n2 c2], .string ⟨l.toArray⟩] w fun e w' => e = .returned (.bool true) ∧ Below w.heap.size w w' := by
  have H1 := Lib.hid h1
  have H2 := Lib.hid h2
  clear h1 h2
  have hf : (decide (n1 ≤ 20) && decide (n2 ≤ 20)) = true := by simp [hn1, hn2]
  have HN1 : Hid (n1 ≤ maxLen) := Lib.hid (by unfold maxLen; omega)
  have HN2 : Hid (n2 ≤ maxLen) := Lib.hid (by unfold maxLen; omega)
  have hml := L.rDec_len l
  rw [hD] at hml
  have HM : Hid (m.e.length ≤ 16 ∧ m.a.length ≤ 16) := Lib.hid hml
  have HD := Lib.hid hD
  have HX := Lib.hid hX
  have HE := Lib.hid hE
  clear hml hD hX hE
  have hlen : ((ByteArray.mk l.toArray).size : Int) ≤ 300 := by rw [bytes_size]; omega
  have hlen2 : ¬ ((300 : Int) < (l.length : Int)) := by omega
  have hsz := bytes_size l
  have HXM := Lib.hid hXM
  clear hXM
  have st := St.start w
  go_enter Tryd.func7, Tryd.ntmps7
  go_wp2_with (refine WL.out ?_; (repeat ((refine WL.op ?_ ?_; (exact rfl); intro K hK; (first | ((first | ((with_reducible apply ow_move); exact rfl) | ((with_reducible apply ow_assign); exact rfl)); (go_simp <;> (try simp (disch := omega) only [wrap_id, sub_left, zac]) <;> rfl)) | ((((with_reducible apply ow_loadN st); exact rfl; exact inferInstance; exact rfl; (first | exact get0 | exact get3 | exact get6); ((try simp only [zta, ztz, zda, zdz, zca, zcn, zan, zsz, zss]) <;> exact rfl))); exact rfl) | ((first | ((with_reducible apply ow_box st); exact rfl; (go_simp <;> (try simp (disch := omega) only [wrap_id, sub_left, zac]) <;> rfl); (go_simp <;> (try simp (disch := omega) only [wrap_id, sub_left, zac]) <;> rfl)) | ((with_reducible apply ow_alloc st); exact rfl; exact inferInstance; (go_simp <;> (try simp (disch := omega) only [wrap_id, sub_left, zac]) <;> rfl))); (try clear st); intro b w' st) | ((((with_reducible apply ow_storeN' st); exact rfl; exact inferInstance; exact rfl; (exact get0); exact rfl)); exact rfl; exact rfl; (simp <;> done); ((try simp only [zta, ztz, zda, zdz, zca, zcn, zan, zsz, zss]) <;> exact rfl); (try clear st); intro w' st) | ((with_reducible apply ow_eval); (go_simp <;> (try simp (disch := omega) only [wrap_id, sub_left, zac]) <;> rfl); first | (with_reducible apply up_value) | ((with_reducible apply up_enter); first | (go_at_call 8; refine (awake_any _).mono ?_; rintro e w' ⟨rfl, hb⟩; replace st := st.call hb; clear hb; refine ⟨_, rfl, ?_⟩) | (go_at_call 9; ((with_reducible refine (Few_any d A1 A2 n1 n2 c1 c2 _ HN1.out HN2.out).mono ?_); rw [hf]); rintro e w' ⟨rfl, hb⟩; replace st := st.call hb; clear hb; refine ⟨_, rfl, ?_⟩) | (go_at_call 12; ((with_reducible refine (CopyDescriptor_any d A1 A2 n1 n2 c1 c2 B _ (H1.out.st st hB1) (H2.out.st st hB1) (Nat.le_trans hB1 st.size) (by omega) (by omega)).mono ?_); rintro e w' ⟨A5, n5, c5, A6, n6, c6, rfl, st'⟩; replace st := st.join st'; clear st'; simp only [List.cons_append, List.nil_append] at st; refine ⟨_, rfl, ?_⟩)) | (go_at_call 31; ((with_reducible refine (Encode_is HX.out A5 A6 n5 n6 c5 c6 _ _ (St.aces st (i := 0) rfl) (St.aces st (i := 1) rfl) (Nat.le_refl _) (by have h3 := St.len st (i := 0) rfl; have h4 := H1.out.len; omega) (by have h3 := St.len st (i := 1) rfl; have h4 := H2.out.len; omega)).mono ?_); rintro e w' ⟨rfl, hb⟩; replace st := st.call hb; clear hb; replace st := st.tail.tail; refine ⟨_, rfl, ?_⟩)) | (go_at_call 32; ((with_reducible refine (Decode_is HD.out _ (by omega)).mono ?_); rintro e w' ⟨A7, n7, c7, A8, n8, c8, rfl, st'⟩; replace st := st.join st'; clear st'; simp only [List.cons_append, List.nil_append] at st; refine ⟨_, rfl, ?_⟩)) | (go_at_call 33; ((with_reducible refine (rDecode_is HD.out _ (by omega)).mono ?_); rintro e w' ⟨A9, n9, c9, Aa, na, ca, rfl, st'⟩; replace st := st.join st'; clear st'; simp only [List.cons_append, List.nil_append] at st; refine ⟨_, rfl, ?_⟩)) | (go_at_call 23; ((with_reducible refine (SameDescriptor_any m m A7 A8 A9 Aa n7 n8 n9 na c7 c8 c9 ca _ _ (St.aces st (i := 4) rfl) (St.aces st (i := 5) rfl) (St.aces st (i := 1) rfl) (St.aces st (i := 2) rfl) (Nat.le_refl _) (by have h3 := St.len st (i := 4) rfl; have h4 := HM.out.1; omega) (by have h3 := St.len st (i := 5) rfl; have h4 := HM.out.2; omega) (by have h3 := St.len st (i := 1) rfl; have h4 := HM.out.1; omega) (by have h3 := St.len st (i := 2) rfl; have h4 := HM.out.2; omega)).mono ?_); rw [L.Desc.same_refl]; rintro e w' ⟨rfl, hb⟩; replace st := st.call hb; clear hb; refine ⟨_, rfl, ?_⟩)) | (go_at_call 12; ((with_reducible refine (CopyDescriptor_any m A7 A8 n7 n8 c7 c8 _ _ (St.aces st (i := 4) rfl) (St.aces st (i := 5) rfl) (Nat.le_refl _) (by have h3 := St.len st (i := 4) rfl; have h4 := HM.out.1; omega) (by have h3 := St.len st (i := 5) rfl; have h4 := HM.out.2; omega)).mono ?_); rintro e w' ⟨Ab, nb, cb, Ac, nc, cc, rfl, st'⟩; replace st := st.join st'; clear st'; simp only [List.cons_append, List.nil_append] at st; refine ⟨_, rfl, ?_⟩)) | (go_at_call 31; ((with_reducible refine (Encode_is HXM.out Ab Ac nb nc cb cc _ _ (St.aces st (i := 0) rfl) (St.aces st (i := 1) rfl) (Nat.le_refl _) (by have h3 := St.len st (i := 0) rfl; have h4 := HM.out.1; omega) (by have h3 := St.len st (i := 1) rfl; have h4 := HM.out.2; omega)).mono ?_); rintro e w' ⟨rfl, hb⟩; replace st := st.call hb; clear hb; replace st := st.tail.tail; refine ⟨_, rfl, ?_⟩)) | (go_at_call 22; ((with_reducible refine (rDescriptorErr_any d A1 A2 n1 n2 c1 c2 B _ (H1.out.st st hB1) (H2.out.st st hB1) (Nat.le_trans hB1 st.size) (by omega) (by omega)).mono ?_); rw [HE.out]; rintro e w' ⟨rfl, hb⟩; replace st := st.call hb; clear hb; replace st := st.drop 6; refine ⟨_, rfl, ?_⟩))))); refine WL.next hK (by simp only [Act.put, zpt, zsz, zss]; exact rfl) ?_; clear hK K))); (try refine WL.nil ?_))
  go_ret
  exact ⟨(by (rfl)), st.below⟩
set_option maxRecDepth 8000 in
set_option maxHeartbeats 4000000 in
theorem AclBytes_bv (d : L.Desc) (l : List UInt8) (A1 A2 : Option Addr) (n1 n2 c1 c2 B : Nat) (w : World) (h1 : Aces w B A1 n1 d.e) (h2 : Aces w B A2 n2 d.a) (hB1 : B ≤ w.heap.size) (hn1 : n1 ≤ 20) (hn2 : n2 ≤ 20) (hl : l.length ≤ 300) (m : L.Desc) (E2 : Int) (hD : L.rDec l = (m, E2)) (hE2 : E2 ≠ 0) (X : List UInt8) (hXe : d.enc = X) (hX : encRes d = (X, 0)) (hE : d.rErrs.2 = 0) (hE3 : d.err.2 = 0) (hD2 : L.rDec X = (d, 0)) :
    Calls Tryd.prog 7 #[.agg #[.int .i64 d.o, .int .i64 d.g, .bool d.p, .bool d.h, .slice A1 n1 c1, .slice A2 n2 c2], .string ⟨l.toArray⟩] w fun e w' => e = .returned (.bool true) ∧ Below w.heap.size w w' := by
  have H1 := Lib.hid h1
  have H2 := Lib.hid h2
  clear h1 h2
  have hf : (decide (n1 ≤ 20) && decide (n2 ≤ 20)) = true := by simp [hn1, hn2]
  have HN1 : Hid (n1 ≤ maxLen) := Lib.hid (by unfold maxLen; omega)
  have HN2 : Hid (n2 ≤ maxLen) := Lib.hid (by unfold maxLen; omega)
  have hml := L.rDec_len l
  rw [hD] at hml
  have HM : Hid (m.e.length ≤ 16 ∧ m.a.length ≤ 16) := Lib.hid hml
  have HD := Lib.hid hD
  have HX := Lib.hid hX
  have HE := Lib.hid hE
  clear hml hD hX hE
  have hlen : ((ByteArray.mk l.toArray).size : Int) ≤ 300 := by rw [bytes_size]; omega
  have hlen2 : ¬ ((300 : Int) < (l.length : Int)) := by omega
  have hsz := bytes_size l
  have hE2' : (E2 == 0) = false := by simpa using hE2
  have HE3 := Lib.hid hE3
  have HD2 := Lib.hid hD2
  have HL2 : Hid (X.length ≤ 100000) := Lib.hid (by rw [← hXe, L.enc_len, ← H1.out.len, ← H2.out.len]; omega)
  have HXE := Lib.hid hXe
  clear hE3 hD2 hXe
  have st := St.start w
  go_enter Tryd.func7, Tryd.ntmps7
  go_wp2_with (refine WL.out ?_; (repeat ((refine WL.op ?_ ?_; (exact rfl); intro K hK; (first | ((first | ((with_reducible apply ow_move); exact rfl) | ((with_reducible apply ow_assign); exact rfl)); (go_simp <;> (try simp (disch := omega) only [wrap_id, sub_left, zac]) <;> rfl)) | ((((with_reducible apply ow_loadN st); exact rfl; exact inferInstance; exact rfl; (first | exact get0 | exact get3 | exact get6); ((try simp only [zta, ztz, zda, zdz, zca, zcn, zan, zsz, zss]) <;> exact rfl))); exact rfl) | ((first | ((with_reducible apply ow_box st); exact rfl; (go_simp <;> (try simp (disch := omega) only [wrap_id, sub_left, zac]) <;> rfl); (go_simp <;> (try simp (disch := omega) only [wrap_id, sub_left, zac]) <;> rfl)) | ((with_reducible apply ow_alloc st); exact rfl; exact inferInstance; (go_simp <;> (try simp (disch := omega) only [wrap_id, sub_left, zac]) <;> rfl))); (try clear st); intro b w' st) | ((((with_reducible apply ow_storeN' st); exact rfl; exact inferInstance; exact rfl; (exact get0); exact rfl)); exact rfl; exact rfl; (simp <;> done); ((try simp only [zta, ztz, zda, zdz, zca, zcn, zan, zsz, zss]) <;> exact rfl); (try clear st); intro w' st) | ((with_reducible apply ow_eval); (go_simp <;> (try simp (disch := omega) only [wrap_id, sub_left, zac]) <;> rfl); first | (with_reducible apply up_value) | ((with_reducible apply up_enter); first | (go_at_call 8; refine (awake_any _).mono ?_; rintro e w' ⟨rfl, hb⟩; replace st := st.call hb; clear hb; refine ⟨_, rfl, ?_⟩) | (go_at_call 9; ((with_reducible refine (Few_any d A1 A2 n1 n2 c1 c2 _ HN1.out HN2.out).mono ?_); rw [hf]); rintro e w' ⟨rfl, hb⟩; replace st := st.call hb; clear hb; refine ⟨_, rfl, ?_⟩) | (go_at_call 12; ((with_reducible refine (CopyDescriptor_any d A1 A2 n1 n2 c1 c2 B _ (H1.out.st st hB1) (H2.out.st st hB1) (Nat.le_trans hB1 st.size) (by omega) (by omega)).mono ?_); rintro e w' ⟨A5, n5, c5, A6, n6, c6, rfl, st'⟩; replace st := st.join st'; clear st'; simp only [List.cons_append, List.nil_append] at st; refine ⟨_, rfl, ?_⟩)) | (go_at_call 31; ((with_reducible refine (Encode_is HX.out A5 A6 n5 n6 c5 c6 _ _ (St.aces st (i := 0) rfl) (St.aces st (i := 1) rfl) (Nat.le_refl _) (by have h3 := St.len st (i := 0) rfl; have h4 := H1.out.len; omega) (by have h3 := St.len st (i := 1) rfl; have h4 := H2.out.len; omega)).mono ?_); rintro e w' ⟨rfl, hb⟩; replace st := st.call hb; clear hb; replace st := st.tail.tail; refine ⟨_, rfl, ?_⟩)) | (go_at_call 32; ((with_reducible refine (Decode_is HD.out _ (by omega)).mono ?_); rintro e w' ⟨A7, n7, c7, A8, n8, c8, rfl, st'⟩; replace st := st.join st'; clear st'; simp only [List.cons_append, List.nil_append] at st; refine ⟨_, rfl, ?_⟩)) | (go_at_call 33; ((with_reducible refine (rDecode_is HD.out _ (by omega)).mono ?_); rintro e w' ⟨A9, n9, c9, Aa, na, ca, rfl, st'⟩; replace st := st.join st'; clear st'; simp only [List.cons_append, List.nil_append] at st; refine ⟨_, rfl, ?_⟩)) | (go_at_call 23; ((with_reducible refine (SameDescriptor_any m m A7 A8 A9 Aa n7 n8 n9 na c7 c8 c9 ca _ _ (St.aces st (i := 4) rfl) (St.aces st (i := 5) rfl) (St.aces st (i := 1) rfl) (St.aces st (i := 2) rfl) (Nat.le_refl _) (by have h3 := St.len st (i := 4) rfl; have h4 := HM.out.1; omega) (by have h3 := St.len st (i := 5) rfl; have h4 := HM.out.2; omega) (by have h3 := St.len st (i := 1) rfl; have h4 := HM.out.1; omega) (by have h3 := St.len st (i := 2) rfl; have h4 := HM.out.2; omega)).mono ?_); rw [L.Desc.same_refl]; rintro e w' ⟨rfl, hb⟩; replace st := st.call hb; clear hb; refine ⟨_, rfl, ?_⟩)) | (go_at_call 22; ((with_reducible refine (rDescriptorErr_any d A1 A2 n1 n2 c1 c2 B _ (H1.out.st st hB1) (H2.out.st st hB1) (Nat.le_trans hB1 st.size) (by omega) (by omega)).mono ?_); rw [HE.out]; rintro e w' ⟨rfl, hb⟩; replace st := st.call hb; clear hb; replace st := st.drop 6; refine ⟨_, rfl, ?_⟩)) | (go_at_call 32; ((with_reducible refine (Decode_is HD2.out _ (by have h3 := HL2.out; omega)).mono ?_); rintro e w' ⟨Ad, nd, cd, Ae, ne, ce, rfl, st'⟩; replace st := st.join st'; clear st'; simp only [List.cons_append, List.nil_append] at st; refine ⟨_, rfl, ?_⟩)) | (go_at_call 34; ((with_reducible refine (rEncode_is HXE.out A1 A2 n1 n2 c1 c2 B _ (H1.out.st st hB1) (H2.out.st st hB1) (Nat.le_trans hB1 st.size) (by omega) (by omega) HE3.out).mono ?_); rintro e w' ⟨rfl, hb⟩; replace st := st.call hb; clear hb; refine ⟨_, rfl, ?_⟩)) | (go_at_call 23; ((with_reducible refine (SameDescriptor_any d d Ad Ae A1 A2 nd ne n1 n2 cd ce c1 c2 _ _ (St.aces st (i := 1) rfl) (St.aces st (i := 2) rfl) ((H1.out.st st hB1).more (Nat.le_trans hB1 st.size)) ((H2.out.st st hB1).more (Nat.le_trans hB1 st.size)) (Nat.le_refl _) (by have h3 := St.len st (i := 1) rfl; have h4 := H1.out.len; omega) (by have h3 := St.len st (i := 2) rfl; have h4 := H2.out.len; omega) (by omega) (by omega)).mono ?_); rw [L.Desc.same_refl]; rintro e w' ⟨rfl, hb⟩; replace st := st.call hb; clear hb; refine ⟨_, rfl, ?_⟩))))); refine WL.next hK (by simp only [Act.put, zpt, zsz, zss]; exact rfl) ?_; clear hK K))); (try refine WL.nil ?_))
  go_ret
  exact ⟨(by (rfl)), st.below⟩
set_option maxRecDepth 8000 in
set_option maxHeartbeats 4000000 in
theorem AclBytes_be (d : L.Desc) (l : List UInt8) (A1 A2 : Option Addr) (n1 n2 c1 c2 B : Nat) (w : World) (h1 : Aces w B A1 n1 d.e) (h2 : Aces w B A2 n2 d.a) (hB1 : B ≤ w.heap.size) (hn1 : n1 ≤ 20) (hn2 : n2 ≤ 20) (hl : l.length ≤ 300) (m : L.Desc) (E2 : Int) (hD : L.rDec l = (m, E2)) (hE2 : E2 ≠ 0) (X : List UInt8) (E1 : Int) (hX : encRes d = ([], E1)) (hE : d.rErrs.2 = E1) (hE0 : E1 ≠ 0) :
    Calls Tryd.prog 7 #[.agg #[.int .i64 d.o, .int .i64 d.g, .bool d.p, .bool d.h, .slice A1 n1 c1, .slice A2 n2 c2], .string ⟨l.toArray⟩] w fun e w' => e = .returned (.bool true) ∧ Below w.heap.size w w' := by
  have H1 := Lib.hid h1
  have H2 := Lib.hid h2
  clear h1 h2
  have hf : (decide (n1 ≤ 20) && decide (n2 ≤ 20)) = true := by simp [hn1, hn2]
  have HN1 : Hid (n1 ≤ maxLen) := Lib.hid (by unfold maxLen; omega)
  have HN2 : Hid (n2 ≤ maxLen) := Lib.hid (by unfold maxLen; omega)
  have hml := L.rDec_len l
  rw [hD] at hml
  have HM : Hid (m.e.length ≤ 16 ∧ m.a.length ≤ 16) := Lib.hid hml
  have HD := Lib.hid hD
  have HX := Lib.hid hX
  have HE := Lib.hid hE
  clear hml hD hX hE
  have hlen : ((ByteArray.mk l.toArray).size : Int) ≤ 300 := by rw [bytes_size]; omega
  have hlen2 : ¬ ((300 : Int) < (l.length : Int)) := by omega
  have hsz := bytes_size l
  have hE2' : (E2 == 0) = false := by simpa using hE2
  have st := St.start w
  go_enter Tryd.func7, Tryd.ntmps7
  go_wp2_with (refine WL.out ?_; (repeat ((refine WL.op ?_ ?_; (exact rfl); intro K hK; (first | ((first | ((with_reducible apply ow_move); exact rfl) | ((with_reducible apply ow_assign); exact rfl)); (go_simp <;> (try simp (disch := omega) only [wrap_id, sub_left, zac]) <;> rfl)) | ((((with_reducible apply ow_loadN st); exact rfl; exact inferInstance; exact rfl; (first | exact get0 | exact get3 | exact get6); ((try simp only [zta, ztz, zda, zdz, zca, zcn, zan, zsz, zss]) <;> exact rfl))); exact rfl) | ((first | ((with_reducible apply ow_box st); exact rfl; (go_simp <;> (try simp (disch := omega) only [wrap_id, sub_left, zac]) <;> rfl); (go_simp <;> (try simp (disch := omega) only [wrap_id, sub_left, zac]) <;> rfl)) | ((with_reducible apply ow_alloc st); exact rfl; exact inferInstance; (go_simp <;> (try simp (disch := omega) only [wrap_id, sub_left, zac]) <;> rfl))); (try clear st); intro b w' st) | ((((with_reducible apply ow_storeN' st); exact rfl; exact inferInstance; exact rfl; (exact get0); exact rfl)); exact rfl; exact rfl; (simp <;> done); ((try simp only [zta, ztz, zda, zdz, zca, zcn, zan, zsz, zss]) <;> exact rfl); (try clear st); intro w' st) | ((with_reducible apply ow_eval); (go_simp <;> (try simp (disch := omega) only [wrap_id, sub_left, zac]) <;> rfl); first | (with_reducible apply up_value) | ((with_reducible apply up_enter); first | (go_at_call 8; refine (awake_any _).mono ?_; rintro e w' ⟨rfl, hb⟩; replace st := st.call hb; clear hb; refine ⟨_, rfl, ?_⟩) | (go_at_call 9; ((with_reducible refine (Few_any d A1 A2 n1 n2 c1 c2 _ HN1.out HN2.out).mono ?_); rw [hf]); rintro e w' ⟨rfl, hb⟩; replace st := st.call hb; clear hb; refine ⟨_, rfl, ?_⟩) | (go_at_call 12; ((with_reducible refine (CopyDescriptor_any d A1 A2 n1 n2 c1 c2 B _ (H1.out.st st hB1) (H2.out.st st hB1) (Nat.le_trans hB1 st.size) (by omega) (by omega)).mono ?_); rintro e w' ⟨A5, n5, c5, A6, n6, c6, rfl, st'⟩; replace st := st.join st'; clear st'; simp only [List.cons_append, List.nil_append] at st; refine ⟨_, rfl, ?_⟩)) | (go_at_call 31; ((with_reducible refine (Encode_is HX.out A5 A6 n5 n6 c5 c6 _ _ (St.aces st (i := 0) rfl) (St.aces st (i := 1) rfl) (Nat.le_refl _) (by have h3 := St.len st (i := 0) rfl; have h4 := H1.out.len; omega) (by have h3 := St.len st (i := 1) rfl; have h4 := H2.out.len; omega)).mono ?_); rintro e w' ⟨rfl, hb⟩; replace st := st.call hb; clear hb; replace st := st.tail.tail; refine ⟨_, rfl, ?_⟩)) | (go_at_call 32; ((with_reducible refine (Decode_is HD.out _ (by omega)).mono ?_); rintro e w' ⟨A7, n7, c7, A8, n8, c8, rfl, st'⟩; replace st := st.join st'; clear st'; simp only [List.cons_append, List.nil_append] at st; refine ⟨_, rfl, ?_⟩)) | (go_at_call 33; ((with_reducible refine (rDecode_is HD.out _ (by omega)).mono ?_); rintro e w' ⟨A9, n9, c9, Aa, na, ca, rfl, st'⟩; replace st := st.join st'; clear st'; simp only [List.cons_append, List.nil_append] at st; refine ⟨_, rfl, ?_⟩)) | (go_at_call 23; ((with_reducible refine (SameDescriptor_any m m A7 A8 A9 Aa n7 n8 n9 na c7 c8 c9 ca _ _ (St.aces st (i := 4) rfl) (St.aces st (i := 5) rfl) (St.aces st (i := 1) rfl) (St.aces st (i := 2) rfl) (Nat.le_refl _) (by have h3 := St.len st (i := 4) rfl; have h4 := HM.out.1; omega) (by have h3 := St.len st (i := 5) rfl; have h4 := HM.out.2; omega) (by have h3 := St.len st (i := 1) rfl; have h4 := HM.out.1; omega) (by have h3 := St.len st (i := 2) rfl; have h4 := HM.out.2; omega)).mono ?_); rw [L.Desc.same_refl]; rintro e w' ⟨rfl, hb⟩; replace st := st.call hb; clear hb; refine ⟨_, rfl, ?_⟩)) | (go_at_call 22; ((with_reducible refine (rDescriptorErr_any d A1 A2 n1 n2 c1 c2 B _ (H1.out.st st hB1) (H2.out.st st hB1) (Nat.le_trans hB1 st.size) (by omega) (by omega)).mono ?_); rw [HE.out]; rintro e w' ⟨rfl, hb⟩; replace st := st.call hb; clear hb; replace st := st.drop 6; refine ⟨_, rfl, ?_⟩))))); refine WL.next hK (by simp only [Act.put, zpt, zsz, zss]; exact rfl) ?_; clear hK K))); (try refine WL.nil ?_))
  go_ret
  exact ⟨(by (rfl)), st.below⟩
set_option maxRecDepth 8000 in
set_option maxHeartbeats 4000000 in
theorem AclBytes_list (d : L.Desc) (l : List UInt8) (A1 A2 : Option Addr) (n1 n2 c1 c2 B : Nat) (w : World) (h1 : Aces w B A1 n1 d.e) (h2 : Aces w B A2 n2 d.a) (hB1 : B ≤ w.heap.size) (hn1 : n1 ≤ maxLen) (hn2 : n2 ≤ maxLen) :
    Calls Tryd.prog 7 #[.agg #[.int .i64 d.o, .int .i64 d.g, .bool d.p, .bool d.h, .slice A1 n1 c1, .slice A2 n2 c2], .string ⟨l.toArray⟩] w fun e w' => e = .returned (.bool true) ∧ Below w.heap.size w w' := by
  by_cases hn : n1 ≤ 20 ∧ n2 ≤ 20
  · by_cases hl : l.length ≤ 300
    · obtain ⟨m, E2, hD⟩ : ∃ m E2, L.rDec l = (m, E2) := ⟨_, _, rfl⟩
      by_cases hE : d.rErrs.2 = 0
      · have hE3 : d.err.2 = 0 := by rw [L.Desc.err_eq]; exact hE
        have hX : encRes d = (d.enc, 0) := by unfold encRes; rw [if_pos hE3]
        by_cases h0 : E2 = 0
        · subst h0
          obtain ⟨g1, g2⟩ := L.rDec_good hD
          exact AclBytes_gv d l A1 A2 n1 n2 c1 c2 B w h1 h2 hB1 hn.1 hn.2 hl m hD (by unfold encRes; rw [if_pos g1, g2]) _ rfl hX hE hE3 (L.rDec_enc hE)
        · exact AclBytes_bv d l A1 A2 n1 n2 c1 c2 B w h1 h2 hB1 hn.1 hn.2 hl m E2 hD h0 _ rfl hX hE hE3 (L.rDec_enc hE)
      · have hX : encRes d = ([], d.rErrs.2) := by unfold encRes; rw [L.Desc.err_eq, if_neg hE]
        by_cases h0 : E2 = 0
        · subst h0
          obtain ⟨g1, g2⟩ := L.rDec_good hD
          exact AclBytes_ge d l A1 A2 n1 n2 c1 c2 B w h1 h2 hB1 hn.1 hn.2 hl m hD (by unfold encRes; rw [if_pos g1, g2]) [] _ hX rfl hE
        · exact AclBytes_be d l A1 A2 n1 n2 c1 c2 B w h1 h2 hB1 hn.1 hn.2 hl m E2 hD h0 [] _ hX rfl hE
    · have hf : (decide (n1 ≤ 20) && decide (n2 ≤ 20)) = true := by simp [hn.1, hn.2]
      have HN1 := Lib.hid hn1
      have HN2 := Lib.hid hn2
      have hlen2 : (300 : Int) < (l.length : Int) := by omega
      have hsz := bytes_size l
      clear h1 h2 hn hn1 hn2
      have st := St.start w
      go_enter Tryd.func7, Tryd.ntmps7
      go_wp2_with (refine WL.out ?_; (repeat ((refine WL.op ?_ ?_; (exact rfl); intro K hK; (first | ((first | ((with_reducible apply ow_move); exact rfl) | ((with_reducible apply ow_assign); exact rfl)); (go_simp <;> (try simp (disch := omega) only [wrap_id, sub_left, zac]) <;> rfl)) | ((((with_reducible apply ow_loadN st); exact rfl; exact inferInstance; exact rfl; (exact get0); ((try simp only [zta, ztz, zda, zdz, zca, zcn, zan, zsz, zss]) <;> exact rfl))); exact rfl) | ((((with_reducible apply ow_box st); exact rfl; (go_simp <;> (try simp (disch := omega) only [wrap_id, sub_left, zac]) <;> rfl); (go_simp <;> (try simp (disch := omega) only [wrap_id, sub_left, zac]) <;> rfl))); (try clear st); intro b w' st) | ((with_reducible apply ow_eval); (go_simp <;> (try simp (disch := omega) only [wrap_id, sub_left, zac]) <;> rfl); first | (with_reducible apply up_value) | ((with_reducible apply up_enter); first | (go_at_call 8; refine (awake_any _).mono ?_; rintro e w' ⟨rfl, hb⟩; replace st := st.call hb; clear hb; refine ⟨_, rfl, ?_⟩) | (go_at_call 9; ((with_reducible refine (Few_any d A1 A2 n1 n2 c1 c2 _ HN1.out HN2.out).mono ?_); rw [hf]); rintro e w' ⟨rfl, hb⟩; replace st := st.call hb; clear hb; refine ⟨_, rfl, ?_⟩)))); refine WL.next hK (by simp only [Act.put, zpt, zsz, zss]; exact rfl) ?_; clear hK K))); (try refine WL.nil ?_))
      go_ret
      exact ⟨rfl, st.below⟩
  · have hf : (decide (n1 ≤ 20) && decide (n2 ≤ 20)) = false := by
      cases h : (decide (n1 ≤ 20) && decide (n2 ≤ 20)) with
      | false => rfl
      | true => simp at h; exact absurd h hn
    have HN1 := Lib.hid hn1
    have HN2 := Lib.hid hn2
    clear h1 h2 hn hn1 hn2
    have st := St.start w
    go_enter Tryd.func7, Tryd.ntmps7
    go_wp2_with (refine WL.out ?_; (repeat (first | (refine WL.op ?_ ?_; (exact rfl); intro K hK; (first | ((first | ((with_reducible apply ow_move); exact rfl) | ((with_reducible apply ow_assign); exact rfl)); (go_simp <;> (try simp (disch := omega) only [wrap_id, sub_left, zac]) <;> rfl)) | ((((with_reducible apply ow_loadN st); exact rfl; exact inferInstance; exact rfl; (exact get0); ((try simp only [zta, ztz, zda, zdz, zca, zcn, zan, zsz, zss]) <;> exact rfl))); exact rfl) | ((((with_reducible apply ow_box st); exact rfl; (go_simp <;> (try simp (disch := omega) only [wrap_id, sub_left, zac]) <;> rfl); (go_simp <;> (try simp (disch := omega) only [wrap_id, sub_left, zac]) <;> rfl))); (try clear st); intro b w' st) | ((with_reducible apply ow_eval); (go_simp <;> (try simp (disch := omega) only [wrap_id, sub_left, zac]) <;> rfl); first | (with_reducible apply up_value) | ((with_reducible apply up_enter); first | (go_at_call 8; refine (awake_any _).mono ?_; rintro e w' ⟨rfl, hb⟩; replace st := st.call hb; clear hb; refine ⟨_, rfl, ?_⟩) | (go_at_call 9; ((with_reducible refine (Few_any d A1 A2 n1 n2 c1 c2 _ HN1.out HN2.out).mono ?_); rw [hf]); rintro e w' ⟨rfl, hb⟩; replace st := st.call hb; clear hb; refine ⟨_, rfl, ?_⟩)))); refine WL.next hK (by simp only [Act.put, zpt, zsz, zss]; exact rfl) ?_; clear hK K) | (refine WL.skip ?_ (by simp only [Act.put, zpt, zsz, zss]; exact rfl) ?_; (exact rfl)))); (try refine WL.nil ?_))
    go_ret
    exact ⟨rfl, st.below⟩
theorem AclBytes_any (d : L.Desc) (s : ByteArray) (A1 A2 : Option Addr) (n1 n2 c1 c2 B : Nat) (w : World) (h1 : Aces w B A1 n1 d.e) (h2 : Aces w B A2 n2 d.a) (hB1 : B ≤ w.heap.size) (hn1 : n1 ≤ maxLen) (hn2 : n2 ≤ maxLen) :
    Calls Tryd.prog 7 #[.agg #[.int .i64 d.o, .int .i64 d.g, .bool d.p, .bool d.h, .slice A1 n1 c1, .slice A2 n2 c2], .string s] w fun e w' => e = .returned (.bool true) ∧ Below w.heap.size w w' := by
  have h := AclBytes_list d s.data.toList A1 A2 n1 n2 c1 c2 B w h1 h2 hB1 hn1 hn2
  rw [Array.toArray_toList] at h
  exact h
end Go.Proofs.YtppjhccdgbheiaaDoor
namespace Go.Proofs.YtppjhccdgbheiaaDoor
open Go.ChangeShapes Go.WideShapes Go.ChangeAt Go.WideElems Go.RowKit

theorem aclBytes_met (os : Os) (args : Array Value) : laidMetH Tryd.prog Rows.aclBytesRow.laid ((World.doorLaid Tryd.prog 400 os).forCall (fun _ _ => 0) ⟨#[], args, []⟩).memory :=
  laidMetH_of_parts3 (fuel := 8) (laidMet_of_run' 8 (by kernel_rfl) (by kernel_rfl)) (by kernel_rfl) (by kernel_rfl)

set_option maxRecDepth 100000 in
theorem aclBytes_lifted (os : Os) (started : os.Started) (H : Type) (enc : TypeId × Value → H) :
    ReturnsInHanded {} Tryd.checked os 7 .any (fun w args => (Rows.aclBytesSpec.pre enc Tryd.prog Tryd.f7 [] false w args ∧ laidMetH Tryd.prog Rows.aclBytesRow.laid w) ∧ sizedMet enc Tryd.prog Tryd.f7 (OpenSpec.ofChange Rows.aclBytesSpec) false w args)
      (Rows.aclBytesSpec.post enc Tryd.prog Tryd.f7 false true false false) := by
  refine returnsInHanded_of_change_and (C := Tryd.checked) (X := fun w _ => laidMetH Tryd.prog Rows.aclBytesRow.laid w) (fun _ _ _ hh h => h.of_heap hh) Tryd.own started (by kernel_rfl) Tryd.func7
    (ChangeSpec.witness_shaped (enc := enc) (C := Tryd.checked) (os := os) (X := fun w _ => laidMetH Tryd.prog Rows.aclBytesRow.laid w) false (World.doorLaid Tryd.prog 400 os) #[.agg #[.int .i64 0, .int .i64 0, .bool false, .bool false, .slice none 0 0, .slice none 0 0], .string ⟨#[]⟩] 8 rfl (World.shaped_of_RefB (by kernel_rfl) (by kernel_rfl)) (by kernel_rfl) (by kernel_rfl) (by kernel_rfl) (aclBytes_met os _)) ?_
  intro W base args ds gs before hval0 hW _ _ hL _
  have hval : ∀ (j : Nat) t v, Tryd.f7.params[j]? = some t → args[j]? = some v → Value.okWide Tryd.prog W .any base t v := hval0
  have hW' := hW
  obtain ⟨p, q, hA0, hV, rfl, hfz, hnd⟩ := hW
  have hA : DataW.TrodAll enc Tryd.prog W 0 (fun _ => true) true Tryd.f7.params.toList args.toList ds p := hA0
  have hlt : ∀ x ∈ p, x.block < W.heap.size := fun x hx => hW'.lt x (List.mem_append_left _ hx)
  rw [Tryd.params7] at hA hval
  obtain ⟨v0, v1, d0, d1, p0, p1, rfl, rfl, rfl, h0, h1⟩ := trodAll_two hA
  obtain ⟨rfl, rfl⟩ := trodVars_none hV
  obtain ⟨A10, A20, n10, n20, c10, c20, D0, rfl, hl10, hl20, hm10, hm20⟩ := open_descV (hval 0 _ v0 rfl rfl) h0 (fun x hx => hlt x (List.mem_append_left _ hx))
  obtain ⟨s1, rfl, rfl, rfl, ws1⟩ := Go.ChangeMaps.open_string Tryd.underlying9 (hval 1 _ v1 rfl rfl) h1
  clear hA0 hval0
  refine (AclBytes_any D0 s1 A10 A20 n10 n20 c10 c20 _ W hl10 hl20 (Nat.le_refl _) hm10 hm20).mono fun e W' ⟨he, hb⟩ => ?_
  subst he
  exact ⟨_, rfl, law_post Tryd.laidOut Tryd.underlying4 rfl (by kernel_rfl) rfl hW' (by rw [Tryd.params7]; intro t ht; simp at ht; rcases ht with rfl | rfl <;> exact ⟨by kernel_rfl, of_decide_eq_true (by kernel_rfl)⟩) hb⟩

theorem aclBytes_holds : Rows.AclBytesSaid :=
  OpenClaim.holds_of_wide 7 Tryd.f7 rfl rfl rfl rfl rfl rfl rfl ⟨rfl, rfl, rfl, rfl, rfl⟩ rfl rfl rfl rfl rfl (by kernel_rfl) Tryd.func7 (by kernel_rfl)
    (of_decide_eq_true (by kernel_rfl)) (by unfold Func.isWrapper; ((rw [if_neg (by decide +kernel)]; exact ⟨rfl, rfl⟩)))
    (fun os started H enc _ => aclBytes_lifted os started H enc)
set_option maxRecDepth 100000 in
theorem aclBytes_card : Rows.AclBytesCardSaid :=
  Claim7.holds_tied_plain_at .later [] [.data, .data, .data] true (true, "7b58f35dfa9e08ea00186690e530b63ca1eaa6542b58d38336e5d9b585ab7f7d") false
    aclBytes_holds (fun _ h => by cases h) (by kernel_rfl) (fun _ h => by cases h) aclBytes_row_tie rfl ⟨rfl, rfl⟩ (by kernel_rfl) rfl
    (fun f fn hf hfn => by
      obtain rfl : f = 7 := Option.some.inj ((show Tryd.prog.funcNamed Rows.aclBytesRow.func = some 7 by kernel_rfl).symm.trans hf) |>.symm
      obtain rfl : fn = Tryd.f7 := (Option.some.inj (Tryd.func7.symm.trans hfn)).symm
      exact ⟨by kernel_rfl, fun j t ht => by
        rw [Tryd.params7] at ht
        have hm : t ∈ [26, 9] := by simpa using Array.mem_of_getElem? ht
        have hall : ([26, 9].all fun u => !Tryd.prog.wantsStandIn u) = true := by kernel_rfl
        exact (show Tryd.prog.wantsStandIn t = false by simpa using List.all_eq_true.1 hall t hm)⟩)
    (by kernel_rfl)
end Go.Proofs.YtppjhccdgbheiaaDoor
