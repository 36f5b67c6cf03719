/- For every input the law AclReaches (in a tree that is refreshed each inherited entry below comes from an entry of the node above, and a node that is Protected has none and does not depend on what is above) returns true without a panic, and each argument reads behind the call as it read before: its tied card holds. Conditions: none but the row's own (the three listed tables of the standard library read as their text lays them). -/
import Derived.Test.YtppjhccdgbheiaaGreatDoorRea1
import Derived.Test.YtppjhccdgbheiaaGreatDoorBase3
import Derived.Deep.CutRange
import Derived.Test.YtppjhccdgbheiaaGreatDoorBase1
import Derived.Test.YtppjhccdgbheiaaGreatDoorRows
import Derived.Test.YtppjhccdgbheiaaGreatDoorTie
import Derived.Test.YtppjhccdgbheiaaGreatDoorCards
import Derived.SevenTiedAt
import Derived.Stop.Joined
set_option linter.all false
namespace Go.Proofs.YtppjhccdgbheiaaGreatDoor
open Go.RowKit Go.Hp
namespace L
def stale (l out : List Node) : Nat → List Int
  | 0 => []
  | k + 1 => stale l out k ++ (if (nn l k).d.same (nn out k).d = true then [] else [(k : Int)])
theorem stale_step (l out : List Node) (k : Nat) : stale l out (k + 1) = stale l out k ++ (if (nn l k).d.same (nn out k).d = true then [] else [(k : Int)]) := rfl
theorem stale_len (l out : List Node) : ∀ k, (stale l out k).length ≤ k
  | 0 => Nat.le_refl _
  | k + 1 => by
    have ih := stale_len l out k
    rw [stale_step, List.length_append]
    split
    · simp; omega
    · simp; omega
end L
theorem refreshed_err (A : Option Addr) (n c B : Nat) (vs : List (L.Node × L.Place)) (w : World) (h1 : Nodes w B A n vs) (hB1 : B ≤ w.heap.size) (hn : n ≤ 100) (hm : ∀ q ∈ vs, q.2.n1 ≤ 100 ∧ q.2.n2 ≤ 100) {z : Int} (hz : L.rTreeErr (vs.map Prod.fst) = z) (h0 : z ≠ 0) :
    Calls Tryz.prog 32 #[.slice A n c] w fun e w' => e = .returned (.tuple #[.slice none 0 0, .int .i64 z]) ∧ Below w.heap.size w w' :=
  (refreshed_any A n c B vs w h1 hB1 hn hm).mono fun e w' h => by
    rcases h with ⟨_, h2, h3⟩ | ⟨h2, _⟩ | ⟨h2, _⟩
    · rw [hz] at h2; exact ⟨h2, h3⟩
    · exact absurd (hz.symm.trans h2) h0
    · exact absurd (hz.symm.trans h2) h0
theorem refreshed_full (A : Option Addr) (n c B : Nat) (vs : List (L.Node × L.Place)) (w : World) (h1 : Nodes w B A n vs) (hB1 : B ≤ w.heap.size) (hn : n ≤ 100) (hm : ∀ q ∈ vs, q.2.n1 ≤ 100 ∧ q.2.n2 ≤ 100) (hz : L.rTreeErr (vs.map Prod.fst) = 0) (ho : (L.rT (vs.map Prod.fst) n).2 = false) :
    Calls Tryz.prog 32 #[.slice A n c] w fun e w' => e = .returned (.tuple #[.slice none 0 0, .int .i64 16]) ∧ Below w.heap.size w w' :=
  (refreshed_any A n c B vs w h1 hB1 hn hm).mono fun e w' h => by
    rcases h with ⟨h2, _⟩ | ⟨_, _, h2, h3⟩ | ⟨_, A', c', us, _, h2, _⟩
    · exact absurd hz h2
    · exact ⟨h2, h3⟩
    · rw [ho] at h2; cases h2
theorem refreshed_ok (A : Option Addr) (n c B : Nat) (vs : List (L.Node × L.Place)) (w : World) (h1 : Nodes w B A n vs) (hB1 : B ≤ w.heap.size) (hn : n ≤ 100) (hm : ∀ q ∈ vs, q.2.n1 ≤ 100 ∧ q.2.n2 ≤ 100) (hz : L.rTreeErr (vs.map Prod.fst) = 0) (ho : (L.rT (vs.map Prod.fst) n).2 = true) :
    Calls Tryz.prog 32 #[.slice A n c] w fun e w' => ∃ A' c' us, us.map Prod.fst = (L.rT (vs.map Prod.fst) n).1 ∧ e = .returned (.tuple #[.slice A' n c', .int .i64 0]) ∧ Below w.heap.size w w' ∧ Nodes w' w'.heap.size A' n us :=
  (refreshed_any A n c B vs w h1 hB1 hn hm).mono fun e w' h => by
    rcases h with ⟨h2, _⟩ | ⟨_, h2, _⟩ | ⟨_, A', c', us, h4, _, h2, h3, h5⟩
    · exact absurd hz h2
    · rw [h2] at ho; cases ho
    · exact ⟨A', c', us, h4, h2, h3, h5⟩
set_option maxHeartbeats 2000000 in
theorem RefreshedIn_err (A : Option Addr) (n c B : Nat) (vs : List (L.Node × L.Place)) (w : World) (h1 : Nodes w B A n vs) (hB1 : B ≤ w.heap.size) (hn : n ≤ 100) (hm : ∀ q ∈ vs, q.2.n1 ≤ 100 ∧ q.2.n2 ≤ 100) {z : Int} (hz : L.rTreeErr (vs.map Prod.fst) = z) (h0 : z ≠ 0) :
    Calls Tryz.prog 9 #[.slice A n c] w fun e w' => e = .returned (.tuple #[.slice none 0 0, .int .i64 0, .int .i64 z]) ∧ Below w.heap.size w w' := by
  have H1 := Lib.hid h1
  have HM := Lib.hid hm
  have HZ := Lib.hid hz
  have hz0 : (z != 0) = true := by simpa using h0
  clear h1 hm hz
  have st := St.start w
  go_enter Tryz.func9, Tryz.ntmps9
  go_wp2_with (refine WL.out ?_; (repeat ((refine WL.op ?_ ?_; (exact rfl); intro K hK; (first | ((first | ((with_reducible apply ow_move); exact rfl) | ((with_reducible apply ow_assign); exact rfl)); (go_simp <;> (try simp (disch := omega) only [wrap_id, sub_left, zac]) <;> rfl)) | ((with_reducible apply ow_eval); (go_simp <;> (try simp (disch := omega) only [wrap_id, sub_left, zac]) <;> rfl); first | (with_reducible apply up_value) | ((with_reducible apply up_enter); ((go_at_call 32; refine (refreshed_err A n c B vs _ (H1.out.st st hB1) (Nat.le_trans hB1 st.size) hn HM.out HZ.out h0).mono ?_; rintro e w' ⟨rfl, hb⟩; replace st := st.call hb; clear hb; refine ⟨_, rfl, ?_⟩))))); refine WL.next hK (by simp only [Act.put, zpt, zsz, zss]; exact rfl) ?_; clear hK K))); (try refine WL.nil ?_))
  go_ret3
  exact ⟨rfl, st.below⟩
set_option maxHeartbeats 2000000 in
theorem RefreshedIn_full (A : Option Addr) (n c B : Nat) (vs : List (L.Node × L.Place)) (w : World) (h1 : Nodes w B A n vs) (hB1 : B ≤ w.heap.size) (hn : n ≤ 100) (hm : ∀ q ∈ vs, q.2.n1 ≤ 100 ∧ q.2.n2 ≤ 100) (hz : L.rTreeErr (vs.map Prod.fst) = 0) (ho : (L.rT (vs.map Prod.fst) n).2 = false) :
    Calls Tryz.prog 9 #[.slice A n c] w fun e w' => e = .returned (.tuple #[.slice none 0 0, .int .i64 0, .int .i64 16]) ∧ Below w.heap.size w w' := by
  have H1 := Lib.hid h1
  have HM := Lib.hid hm
  have HZ := Lib.hid hz
  have HO := Lib.hid ho
  clear h1 hm hz ho
  have st := St.start w
  go_enter Tryz.func9, Tryz.ntmps9
  go_wp2_with (refine WL.out ?_; (repeat ((refine WL.op ?_ ?_; (exact rfl); intro K hK; (first | ((first | ((with_reducible apply ow_move); exact rfl) | ((with_reducible apply ow_assign); exact rfl)); (go_simp <;> (try simp (disch := omega) only [wrap_id, sub_left, zac]) <;> rfl)) | ((with_reducible apply ow_eval); (go_simp <;> (try simp (disch := omega) only [wrap_id, sub_left, zac]) <;> rfl); first | (with_reducible apply up_value) | ((with_reducible apply up_enter); ((go_at_call 32; refine (refreshed_full A n c B vs _ (H1.out.st st hB1) (Nat.le_trans hB1 st.size) hn HM.out HZ.out HO.out).mono ?_; rintro e w' ⟨rfl, hb⟩; replace st := st.call hb; clear hb; refine ⟨_, rfl, ?_⟩))))); refine WL.next hK (by simp only [Act.put, zpt, zsz, zss]; exact rfl) ?_; clear hK K))); (try refine WL.nil ?_))
  go_ret3
  exact ⟨rfl, st.below⟩
set_option maxRecDepth 8000 in
set_option maxHeartbeats 4000000 in
theorem RefreshedIn_ok (A : Option Addr) (n c B : Nat) (vs : List (L.Node × L.Place)) (w : World) (h1 : Nodes w B A n vs) (hB1 : B ≤ w.heap.size) (hn : n ≤ 100) (hm : ∀ q ∈ vs, q.2.n1 ≤ 100 ∧ q.2.n2 ≤ 100) (hz : L.rTreeErr (vs.map Prod.fst) = 0) (ho : (L.rT (vs.map Prod.fst) n).2 = true) :
    Calls Tryz.prog 9 #[.slice A n c] w fun e w' => ∃ A' c' us, us.map Prod.fst = (L.rT (vs.map Prod.fst) n).1 ∧ e = .returned (.tuple #[.slice A' n c', .int .i64 ((L.stale (vs.map Prod.fst) (L.rT (vs.map Prod.fst) n).1 n).length : Nat), .int .i64 0]) ∧ Below w.heap.size w w' ∧ Nodes w' w'.heap.size A' n us := by
  have H1 := Lib.hid h1
  have HM := Lib.hid hm
  have HZ := Lib.hid hz
  have HO := Lib.hid ho
  have e1 := Lib.hid h1.len
  have el : Hid ((vs.map Prod.fst).length = n) := Lib.hid (by rw [List.length_map, ← e1.out])
  clear h1 hm hz ho
  have st := St.start w
  go_enter Tryz.func9, Tryz.ntmps9
  go_wp2_with (refine WL.out ?_; (repeat ((refine WL.op ?_ ?_; (exact rfl); intro K hK; (first | ((first | ((with_reducible apply ow_move); exact rfl) | ((with_reducible apply ow_assign); exact rfl)); (go_simp <;> (try simp (disch := omega) only [wrap_id, sub_left, zac]) <;> rfl)) | ((with_reducible apply ow_eval); (go_simp <;> (try simp (disch := omega) only [wrap_id, sub_left, zac]) <;> rfl); first | (with_reducible apply up_value) | ((with_reducible apply up_enter); ((go_at_call 32; refine (refreshed_ok A n c B vs _ (H1.out.st st hB1) (Nat.le_trans hB1 st.size) hn HM.out HZ.out HO.out).mono ?_; rintro e w1 ⟨A', c', us, hus, rfl, hb1, hN⟩; replace hb1 := st.call hb1; clear st; have st := St.start w1; refine ⟨_, rfl, ?_⟩))))); refine WL.next hK (by simp only [Act.put, zpt, zsz, zss]; exact rfl) ?_; clear hK K))); (try refine WL.nil ?_))
  have HUS := Lib.hid hus
  have HN := Lib.hid hN
  have e2 := Lib.hid hN.len
  clear hus hN st
  go_loopw [7, 19] (fun v i wr => ∃ k : Nat, k ≤ n ∧ i = .int .i64 k ∧ v = .int .i64 ((L.stale (vs.map Prod.fst) (L.rT (vs.map Prod.fst) n).1 k).length : Nat) ∧ St w1 wr []) (fun _ i _ => n - (intOf i).toNat)
  case atStart => exact ⟨0, Nat.zero_le _, rfl, rfl, St.start w1⟩
  case round =>
    obtain ⟨k, hk, rfl, rfl, st⟩ := hrel
    have hq := L.stale_len (vs.map Prod.fst) (L.rT (vs.map Prod.fst) n).1 k
    by_cases hlt : k < n
    · have hw1 : ((L.stale (vs.map Prod.fst) (L.rT (vs.map Prod.fst) n).1 k).length : Int) ≤ 100 := by omega
      have hkl : k < vs.length := by rw [← e1.out]; exact hlt
      have hku : k < us.length := by rw [← e2.out]; exact hlt
      have HQ := Lib.hid (HM.out _ (L.nx_mem vs k hkl))
      have hr1 := (H1.out.below hb1.below hB1).rows _ (L.nx_mem vs k hkl)
      have R1 : Hid (Aces w1 w1.heap.size (L.nx vs k).2.A1 (L.nx vs k).2.n1 (L.nx vs k).1.d.e ∧ Aces w1 w1.heap.size (L.nx vs k).2.A2 (L.nx vs k).2.n2 (L.nx vs k).1.d.a) := Lib.hid ⟨hr1.1.more (Nat.le_trans hB1 hb1.size), hr1.2.more (Nat.le_trans hB1 hb1.size)⟩
      have R2 := Lib.hid (HN.out.rows _ (L.nx_mem us k hku))
      have HV : Hid ((L.nx us k).1.d.Valid) := Lib.hid (L.rT_valid (L.TreeOk.of HZ.out).2 n (by rw [el.out]; exact Nat.le_refl _) HO.out _ (by rw [← HUS.out]; exact List.mem_map_of_mem (L.nx_mem us k hku)))
      have hst2 := L.stale_step (vs.map Prod.fst) (L.rT (vs.map Prod.fst) n).1 k
      rw [← HUS.out, ← L.nx_fst, ← L.nx_fst] at hst2
      rw [HUS.out] at hst2
      have HST := Lib.hid hst2
      obtain ⟨b, o, hA, hb, hc⟩ := (H1.out.below hb1.below hB1).at_ (by omega)
      obtain ⟨b', o', hA', hb', hc'⟩ := HN.out.at_ (by omega)
      have hb := Nat.lt_of_lt_of_le hb (Nat.le_trans hB1 hb1.size)
      obtain ⟨-, -, f2, -⟩ := hc k hlt
      obtain ⟨-, -, g2, -⟩ := hc' k hlt
      have hkI : (k : Int) < (n : Int) := by omega
      subst hA
      subst hA'
      clear hc hc' hr1 hst2
      obtain ⟨s, hs⟩ : ∃ s, (L.nx vs k).1.d.same (L.nx us k).1.d = s := ⟨_, rfl⟩
      have HS := Lib.hid hs
      clear hs
      go_wp2_with (refine WL.out ?_; (repeat ((refine WL.op ?_ ?_; (exact rfl); intro K hK; (((with_reducible apply ow_eval); (go_simp <;> (try simp (disch := omega) only [wrap_id, sub_left, zac]) <;> rfl); ((with_reducible apply up_value)))); refine WL.next hK (by simp only [Act.put, zpt, zsz, zss]; exact rfl) ?_; clear hK K))); (try refine WL.nil ?_))
      refine wp_region_plan 12 (by kernel_rfl) (by kernel_rfl) ?_; replace st := st.drew; generalize World.drew _ = W at st ⊢
      iterate 4 (apply Plan.val'; (focus (intro x0 x1 x2 x3 x4 x5 x6 x7 x8 x9 x10 x11 w2 hb; (try simp only [depF, fillA, Act.put, zta, ztz, zpt, zsz, zss, zl0, zls]); (repeat (rintro rfl)); have st := st.call hb; ((apply Yphi.run; (exact rfl); (go_simp <;> (try simp (disch := omega) only [wrap_id, sub_left, zac]) <;> rfl); exact rfl)))); (simp only [zca, zcn] <;> exact rfl))
      (apply Plan.val'; (focus (intro x0 x1 x2 x3 x4 x5 x6 x7 x8 x9 x10 x11 w2 hb; (try simp only [depF, fillA, Act.put, zta, ztz, zpt, zsz, zss, zl0, zls]); (repeat (rintro rfl)); have st := st.call hb; apply Yphi.oldC st; exact rfl; exact inferInstance; (exact rfl); exact rfl; assumption; assumption; exact rfl)); (simp only [zca, zcn] <;> exact rfl))
      iterate 4 (apply Plan.val'; (focus (intro x0 x1 x2 x3 x4 x5 x6 x7 x8 x9 x10 x11 w2 hb; (try simp only [depF, fillA, Act.put, zta, ztz, zpt, zsz, zss, zl0, zls]); (repeat (rintro rfl)); have st := st.call hb; ((apply Yphi.run; (exact rfl); (go_simp <;> (try simp (disch := omega) only [wrap_id, sub_left, zac]) <;> rfl); exact rfl)))); (simp only [zca, zcn] <;> exact rfl))
      (apply Plan.val'; (focus (intro x0 x1 x2 x3 x4 x5 x6 x7 x8 x9 x10 x11 w2 hb; (try simp only [depF, fillA, Act.put, zta, ztz, zpt, zsz, zss, zl0, zls]); (repeat (rintro rfl)); have st := st.call hb; apply Yphi.oldC st; exact rfl; exact inferInstance; (exact rfl); exact rfl; assumption; assumption; exact rfl)); (simp only [zca, zcn] <;> exact rfl))
      (apply Plan.val'; (focus (intro x0 x1 x2 x3 x4 x5 x6 x7 x8 x9 x10 x11 w2 hb; (try simp only [depF, fillA, Act.put, zta, ztz, zpt, zsz, zss, zl0, zls]); (repeat (rintro rfl)); have st := st.call hb; apply Yphi.call; (exact rfl); (go_simp <;> (try simp (disch := omega) only [wrap_id, sub_left, zac]) <;> rfl); exact rfl; refine (same_any (L.nx vs k).1.d (L.nx us k).1.d (L.nx vs k).2.A1 (L.nx vs k).2.A2 (L.nx us k).2.A1 (L.nx us k).2.A2 (L.nx vs k).2.n1 (L.nx vs k).2.n2 (L.nx us k).2.n1 (L.nx us k).2.n2 (L.nx vs k).2.c1 (L.nx vs k).2.c2 (L.nx us k).2.c1 (L.nx us k).2.c2 w1.heap.size _ (R1.out.1.st st (Nat.le_refl _)) (R1.out.2.st st (Nat.le_refl _)) (R2.out.1.st st (Nat.le_refl _)) (R2.out.2.st st (Nat.le_refl _)) st.size (by have := HQ.out.1; omega) (by have := HQ.out.2; omega) (by have h3 := R2.out.1.len; have h4 := HV.out.le; omega) (by have h3 := R2.out.2.len; have h4 := HV.out.la; omega)).mono ?_; rintro e w' ⟨rfl, hb'⟩; exact ⟨_, rfl, hb', rfl⟩)); (simp only [zca, zcn] <;> exact rfl))
      (apply Plan.val'; (focus (intro x0 x1 x2 x3 x4 x5 x6 x7 x8 x9 x10 x11 w2 hb; (try simp only [depF, fillA, Act.put, zta, ztz, zpt, zsz, zss, zl0, zls]); (repeat (rintro rfl)); have st := st.call hb; ((apply Yphi.run; (exact rfl); (go_simp <;> (try simp (disch := omega) only [wrap_id, sub_left, zac]) <;> rfl); exact rfl)))); (simp only [zca, zcn] <;> exact rfl))
      intro x0 x1 x2 x3 x4 x5 x6 x7 x8 x9 x10 x11 lo hi w2 hb hap
      rintro rfl rfl rfl rfl rfl rfl rfl rfl rfl rfl rfl rfl
      simp only [allPhi, fillA, Act.put, zta, ztz, zpt, zsz, zss, zda, zdz]
      have st := st.call hb
      clear hap hb
      rw [HS.out]
      cases s with
      | true =>
        have H2 : Hid ((L.stale (vs.map Prod.fst) (L.rT (vs.map Prod.fst) n).1 (k + 1)).length = (L.stale (vs.map Prod.fst) (L.rT (vs.map Prod.fst) n).1 k).length) := Lib.hid (by rw [HST.out, HS.out]; simp)
        go_wp2_with (refine WL.out ?_; (repeat ((refine WL.op ?_ ?_; (exact rfl); intro K hK; (first | ((((with_reducible apply ow_move); exact rfl)); (go_simp <;> (try simp (disch := omega) only [wrap_id, sub_left, zac]) <;> rfl)) | ((with_reducible apply ow_eval); (go_simp <;> (try simp (disch := omega) only [wrap_id, sub_left, zac]) <;> rfl); ((with_reducible apply up_value)))); refine WL.next hK (by simp only [Act.put, zpt, zsz, zss]; exact rfl) ?_; clear hK K))); (try refine WL.nil ?_))
        have hwr : IntKind.i64.wrap ((k : Int) + 1) = (k : Int) + 1 := by rw [IntKind.wrap_i64]; omega
        exact ⟨⟨k + 1, by omega, by (try rw [hwr]); go_num, by rw [H2.out], st⟩, by (try simp only [hwr]); simp [intOf]; omega⟩
      | false =>
        have H2 : Hid ((L.stale (vs.map Prod.fst) (L.rT (vs.map Prod.fst) n).1 (k + 1)).length = (L.stale (vs.map Prod.fst) (L.rT (vs.map Prod.fst) n).1 k).length + 1) := Lib.hid (by rw [HST.out, HS.out]; simp)
        generalize (L.stale (vs.map Prod.fst) (L.rT (vs.map Prod.fst) n).1 k).length = t at *
        have hwt : IntKind.i64.wrap ((t : Int) + 1) = (t : Int) + 1 := wrap_id (by omega) (by omega)
        go_wp2_with (refine WL.out ?_; (repeat ((refine WL.op ?_ ?_; (exact rfl); intro K hK; (first | ((first | ((with_reducible apply ow_move); exact rfl) | ((with_reducible apply ow_assign); exact rfl)); (go_simp <;> (try simp (disch := omega) only [wrap_id, sub_left, zac]) <;> rfl)) | ((with_reducible apply ow_eval); (go_simp <;> (try simp (disch := omega) only [wrap_id, sub_left, zac]) <;> rfl); ((with_reducible apply up_value)))); refine WL.next hK (by simp only [Act.put, zpt, zsz, zss]; exact rfl) ?_; clear hK K))); (try refine WL.nil ?_))
        have hwr : IntKind.i64.wrap ((k : Int) + 1) = (k : Int) + 1 := by rw [IntKind.wrap_i64]; omega
        exact ⟨⟨k + 1, by omega, by (try rw [hwr]); go_num, by rw [H2.out]; (try rw [hwt]); go_num, st⟩, by (try simp only [hwr]); simp [intOf]; omega⟩
    · obtain rfl : k = n := by omega
      go_wp2
      go_ret3
      exact ⟨A', c', us, HUS.out, rfl, hb1.below.trans (st.below.mono hb1.size), HN.out.below st.below (Nat.le_refl _) |>.more st.size⟩
set_option maxHeartbeats 2000000 in
theorem StaleIn_err (A : Option Addr) (n c B : Nat) (vs : List (L.Node × L.Place)) (w : World) (h1 : Nodes w B A n vs) (hB1 : B ≤ w.heap.size) (hn : n ≤ 100) (hm : ∀ q ∈ vs, q.2.n1 ≤ 100 ∧ q.2.n2 ≤ 100) {z : Int} (hz : L.rTreeErr (vs.map Prod.fst) = z) (h0 : z ≠ 0) :
    Calls Tryz.prog 17 #[.slice A n c] w fun e w' => e = .returned (.tuple #[.slice none 0 0, .int .i64 z]) ∧ Below w.heap.size w w' := by
  have H1 := Lib.hid h1
  have HM := Lib.hid hm
  have HZ := Lib.hid hz
  have hz0 : (z != 0) = true := by simpa using h0
  clear h1 hm hz
  have st := St.start w
  go_enter Tryz.func17, Tryz.ntmps17
  go_wp2_with (refine WL.out ?_; (repeat ((refine WL.op ?_ ?_; (exact rfl); intro K hK; (first | ((first | ((with_reducible apply ow_move); exact rfl) | ((with_reducible apply ow_assign); exact rfl)); (go_simp <;> (try simp (disch := omega) only [wrap_id, sub_left, zac]) <;> rfl)) | ((with_reducible apply ow_eval); (go_simp <;> (try simp (disch := omega) only [wrap_id, sub_left, zac]) <;> rfl); first | (with_reducible apply up_value) | ((with_reducible apply up_enter); ((go_at_call 32; refine (refreshed_err A n c B vs _ (H1.out.st st hB1) (Nat.le_trans hB1 st.size) hn HM.out HZ.out h0).mono ?_; rintro e w' ⟨rfl, hb⟩; replace st := st.call hb; clear hb; refine ⟨_, rfl, ?_⟩))))); refine WL.next hK (by simp only [Act.put, zpt, zsz, zss]; exact rfl) ?_; clear hK K))); (try refine WL.nil ?_))
  go_ret2
  exact ⟨rfl, st.below⟩
set_option maxHeartbeats 2000000 in
theorem StaleIn_full (A : Option Addr) (n c B : Nat) (vs : List (L.Node × L.Place)) (w : World) (h1 : Nodes w B A n vs) (hB1 : B ≤ w.heap.size) (hn : n ≤ 100) (hm : ∀ q ∈ vs, q.2.n1 ≤ 100 ∧ q.2.n2 ≤ 100) (hz : L.rTreeErr (vs.map Prod.fst) = 0) (ho : (L.rT (vs.map Prod.fst) n).2 = false) :
    Calls Tryz.prog 17 #[.slice A n c] w fun e w' => e = .returned (.tuple #[.slice none 0 0, .int .i64 16]) ∧ Below w.heap.size w w' := by
  have H1 := Lib.hid h1
  have HM := Lib.hid hm
  have HZ := Lib.hid hz
  have HO := Lib.hid ho
  clear h1 hm hz ho
  have st := St.start w
  go_enter Tryz.func17, Tryz.ntmps17
  go_wp2_with (refine WL.out ?_; (repeat ((refine WL.op ?_ ?_; (exact rfl); intro K hK; (first | ((first | ((with_reducible apply ow_move); exact rfl) | ((with_reducible apply ow_assign); exact rfl)); (go_simp <;> (try simp (disch := omega) only [wrap_id, sub_left, zac]) <;> rfl)) | ((with_reducible apply ow_eval); (go_simp <;> (try simp (disch := omega) only [wrap_id, sub_left, zac]) <;> rfl); first | (with_reducible apply up_value) | ((with_reducible apply up_enter); ((go_at_call 32; refine (refreshed_full A n c B vs _ (H1.out.st st hB1) (Nat.le_trans hB1 st.size) hn HM.out HZ.out HO.out).mono ?_; rintro e w' ⟨rfl, hb⟩; replace st := st.call hb; clear hb; refine ⟨_, rfl, ?_⟩))))); refine WL.next hK (by simp only [Act.put, zpt, zsz, zss]; exact rfl) ?_; clear hK K))); (try refine WL.nil ?_))
  go_ret2
  exact ⟨rfl, st.below⟩
set_option maxRecDepth 8000 in
set_option maxHeartbeats 4000000 in
theorem StaleIn_ok (A : Option Addr) (n c B : Nat) (vs : List (L.Node × L.Place)) (w : World) (h1 : Nodes w B A n vs) (hB1 : B ≤ w.heap.size) (hn : n ≤ 100) (hm : ∀ q ∈ vs, q.2.n1 ≤ 100 ∧ q.2.n2 ≤ 100) (hz : L.rTreeErr (vs.map Prod.fst) = 0) (ho : (L.rT (vs.map Prod.fst) n).2 = true) :
    Calls Tryz.prog 17 #[.slice A n c] w fun e w' => ∃ A' m c', e = .returned (.tuple #[.slice A' m c', .int .i64 0]) ∧ Below w.heap.size w w' ∧ IntsAt w' w'.heap.size A' m (L.stale (vs.map Prod.fst) (L.rT (vs.map Prod.fst) n).1 n) := by
  have H1 := Lib.hid h1
  have HM := Lib.hid hm
  have HZ := Lib.hid hz
  have HO := Lib.hid ho
  have e1 := Lib.hid h1.len
  have el : Hid ((vs.map Prod.fst).length = n) := Lib.hid (by rw [List.length_map, ← e1.out])
  clear h1 hm hz ho
  have st := St.start w
  go_enter Tryz.func17, Tryz.ntmps17
  go_wp2_with (refine WL.out ?_; (repeat ((refine WL.op ?_ ?_; (exact rfl); intro K hK; (first | ((first | ((with_reducible apply ow_move); exact rfl) | ((with_reducible apply ow_assign); exact rfl)); (go_simp <;> (try simp (disch := omega) only [wrap_id, sub_left, zac]) <;> rfl)) | ((with_reducible apply ow_eval); (go_simp <;> (try simp (disch := omega) only [wrap_id, sub_left, zac]) <;> rfl); first | (with_reducible apply up_value) | ((with_reducible apply up_enter); ((go_at_call 32; refine (refreshed_ok A n c B vs _ (H1.out.st st hB1) (Nat.le_trans hB1 st.size) hn HM.out HZ.out HO.out).mono ?_; rintro e w1 ⟨A', c', us, hus, rfl, hb1, hN⟩; replace hb1 := st.call hb1; clear st; have st := St.start w1; refine ⟨_, rfl, ?_⟩))))); refine WL.next hK (by simp only [Act.put, zpt, zsz, zss]; exact rfl) ?_; clear hK K))); (try refine WL.nil ?_))
  have HUS := Lib.hid hus
  have HN := Lib.hid hN
  have e2 := Lib.hid hN.len
  clear hus hN st
  go_loopw [6, 18] (fun v i wr => ∃ (k : Nat) (A9 : Option Addr) (m9 c9 : Nat), k ≤ n ∧ i = .int .i64 k ∧ v = .slice A9 m9 c9 ∧ St w1 wr [.row 3 1 (.slice A9 m9 c9) m9 ((L.stale (vs.map Prod.fst) (L.rT (vs.map Prod.fst) n).1 k).map fun x => Value.int .i64 x)]) (fun _ i _ => n - (intOf i).toNat)
  case atStart => exact ⟨0, none, 0, 0, Nat.zero_le _, rfl, rfl, (St.start w1).nilRow _ _⟩
  case round =>
    obtain ⟨k, A9, m9, c9, hk, rfl, rfl, st⟩ := hrel
    have hq := L.stale_len (vs.map Prod.fst) (L.rT (vs.map Prod.fst) n).1 k
    have hm9 : m9 ≤ 100 := by
      have h3 := (St.get st (i := 0) rfl).1
      rw [List.length_map] at h3
      omega
    by_cases hlt : k < n
    · have hm9I : (m9 : Int) ≤ 100 := by omega
      have hkl : k < vs.length := by rw [← e1.out]; exact hlt
      have hku : k < us.length := by rw [← e2.out]; exact hlt
      have HQ := Lib.hid (HM.out _ (L.nx_mem vs k hkl))
      have hr1 := (H1.out.below hb1.below hB1).rows _ (L.nx_mem vs k hkl)
      have R1 : Hid (Aces w1 w1.heap.size (L.nx vs k).2.A1 (L.nx vs k).2.n1 (L.nx vs k).1.d.e ∧ Aces w1 w1.heap.size (L.nx vs k).2.A2 (L.nx vs k).2.n2 (L.nx vs k).1.d.a) := Lib.hid ⟨hr1.1.more (Nat.le_trans hB1 hb1.size), hr1.2.more (Nat.le_trans hB1 hb1.size)⟩
      have R2 := Lib.hid (HN.out.rows _ (L.nx_mem us k hku))
      have HV : Hid ((L.nx us k).1.d.Valid) := Lib.hid (L.rT_valid (L.TreeOk.of HZ.out).2 n (by rw [el.out]; exact Nat.le_refl _) HO.out _ (by rw [← HUS.out]; exact List.mem_map_of_mem (L.nx_mem us k hku)))
      have hst2 := L.stale_step (vs.map Prod.fst) (L.rT (vs.map Prod.fst) n).1 k
      rw [← HUS.out, ← L.nx_fst, ← L.nx_fst] at hst2
      rw [HUS.out] at hst2
      have HST := Lib.hid hst2
      obtain ⟨b, o, hA, hb, hc⟩ := (H1.out.below hb1.below hB1).at_ (by omega)
      obtain ⟨b', o', hA', hb', hc'⟩ := HN.out.at_ (by omega)
      have hb := Nat.lt_of_lt_of_le hb (Nat.le_trans hB1 hb1.size)
      obtain ⟨-, -, f2, -⟩ := hc k hlt
      obtain ⟨-, -, g2, -⟩ := hc' k hlt
      have hkI : (k : Int) < (n : Int) := by omega
      subst hA
      subst hA'
      clear hc hc' hr1 hst2
      obtain ⟨s, hs⟩ : ∃ s, (L.nx vs k).1.d.same (L.nx us k).1.d = s := ⟨_, rfl⟩
      have HS := Lib.hid hs
      clear hs
      go_wp2_with (refine WL.out ?_; (repeat ((refine WL.op ?_ ?_; (exact rfl); intro K hK; (((with_reducible apply ow_eval); (go_simp <;> (try simp (disch := omega) only [wrap_id, sub_left, zac]) <;> rfl); ((with_reducible apply up_value)))); refine WL.next hK (by simp only [Act.put, zpt, zsz, zss]; exact rfl) ?_; clear hK K))); (try refine WL.nil ?_))
      refine wp_region_plan 12 (by kernel_rfl) (by kernel_rfl) ?_; replace st := st.drew; generalize World.drew _ = W at st ⊢
      iterate 4 (apply Plan.val'; (focus (intro x0 x1 x2 x3 x4 x5 x6 x7 x8 x9 x10 x11 w2 hb; (try simp only [depF, fillA, Act.put, zta, ztz, zpt, zsz, zss, zl0, zls]); (repeat (rintro rfl)); have st := st.call hb; ((apply Yphi.run; (exact rfl); (go_simp <;> (try simp (disch := omega) only [wrap_id, sub_left, zac]) <;> rfl); exact rfl)))); (simp only [zca, zcn] <;> exact rfl))
      (apply Plan.val'; (focus (intro x0 x1 x2 x3 x4 x5 x6 x7 x8 x9 x10 x11 w2 hb; (try simp only [depF, fillA, Act.put, zta, ztz, zpt, zsz, zss, zl0, zls]); (repeat (rintro rfl)); have st := st.call hb; apply Yphi.oldC st; exact rfl; exact inferInstance; (exact rfl); exact rfl; assumption; assumption; exact rfl)); (simp only [zca, zcn] <;> exact rfl))
      iterate 4 (apply Plan.val'; (focus (intro x0 x1 x2 x3 x4 x5 x6 x7 x8 x9 x10 x11 w2 hb; (try simp only [depF, fillA, Act.put, zta, ztz, zpt, zsz, zss, zl0, zls]); (repeat (rintro rfl)); have st := st.call hb; ((apply Yphi.run; (exact rfl); (go_simp <;> (try simp (disch := omega) only [wrap_id, sub_left, zac]) <;> rfl); exact rfl)))); (simp only [zca, zcn] <;> exact rfl))
      (apply Plan.val'; (focus (intro x0 x1 x2 x3 x4 x5 x6 x7 x8 x9 x10 x11 w2 hb; (try simp only [depF, fillA, Act.put, zta, ztz, zpt, zsz, zss, zl0, zls]); (repeat (rintro rfl)); have st := st.call hb; apply Yphi.oldC st; exact rfl; exact inferInstance; (exact rfl); exact rfl; assumption; assumption; exact rfl)); (simp only [zca, zcn] <;> exact rfl))
      (apply Plan.val'; (focus (intro x0 x1 x2 x3 x4 x5 x6 x7 x8 x9 x10 x11 w2 hb; (try simp only [depF, fillA, Act.put, zta, ztz, zpt, zsz, zss, zl0, zls]); (repeat (rintro rfl)); have st := st.call hb; apply Yphi.call; (exact rfl); (go_simp <;> (try simp (disch := omega) only [wrap_id, sub_left, zac]) <;> rfl); exact rfl; refine (same_any (L.nx vs k).1.d (L.nx us k).1.d (L.nx vs k).2.A1 (L.nx vs k).2.A2 (L.nx us k).2.A1 (L.nx us k).2.A2 (L.nx vs k).2.n1 (L.nx vs k).2.n2 (L.nx us k).2.n1 (L.nx us k).2.n2 (L.nx vs k).2.c1 (L.nx vs k).2.c2 (L.nx us k).2.c1 (L.nx us k).2.c2 w1.heap.size _ (R1.out.1.st st (Nat.le_refl _)) (R1.out.2.st st (Nat.le_refl _)) (R2.out.1.st st (Nat.le_refl _)) (R2.out.2.st st (Nat.le_refl _)) st.size (by have := HQ.out.1; omega) (by have := HQ.out.2; omega) (by have h3 := R2.out.1.len; have h4 := HV.out.le; omega) (by have h3 := R2.out.2.len; have h4 := HV.out.la; omega)).mono ?_; rintro e w' ⟨rfl, hb'⟩; exact ⟨_, rfl, hb', rfl⟩)); (simp only [zca, zcn] <;> exact rfl))
      (apply Plan.val'; (focus (intro x0 x1 x2 x3 x4 x5 x6 x7 x8 x9 x10 x11 w2 hb; (try simp only [depF, fillA, Act.put, zta, ztz, zpt, zsz, zss, zl0, zls]); (repeat (rintro rfl)); have st := st.call hb; ((apply Yphi.run; (exact rfl); (go_simp <;> (try simp (disch := omega) only [wrap_id, sub_left, zac]) <;> rfl); exact rfl)))); (simp only [zca, zcn] <;> exact rfl))
      intro x0 x1 x2 x3 x4 x5 x6 x7 x8 x9 x10 x11 lo hi w2 hb hap
      rintro rfl rfl rfl rfl rfl rfl rfl rfl rfl rfl rfl rfl
      simp only [allPhi, fillA, Act.put, zta, ztz, zpt, zsz, zss, zda, zdz]
      have st := st.call hb
      clear hap hb
      rw [HS.out]
      cases s with
      | true =>
        have H2 : Hid (L.stale (vs.map Prod.fst) (L.rT (vs.map Prod.fst) n).1 (k + 1) = L.stale (vs.map Prod.fst) (L.rT (vs.map Prod.fst) n).1 k) := Lib.hid (by rw [HST.out, HS.out]; simp)
        go_wp2_with (refine WL.out ?_; (repeat ((refine WL.op ?_ ?_; (exact rfl); intro K hK; (first | ((((with_reducible apply ow_move); exact rfl)); (go_simp <;> (try simp (disch := omega) only [wrap_id, sub_left, zac]) <;> rfl)) | ((with_reducible apply ow_eval); (go_simp <;> (try simp (disch := omega) only [wrap_id, sub_left, zac]) <;> rfl); ((with_reducible apply up_value)))); refine WL.next hK (by simp only [Act.put, zpt, zsz, zss]; exact rfl) ?_; clear hK K))); (try refine WL.nil ?_))
        have hwr : IntKind.i64.wrap ((k : Int) + 1) = (k : Int) + 1 := by rw [IntKind.wrap_i64]; omega
        exact ⟨⟨k + 1, A9, m9, c9, by omega, by (try rw [hwr]); go_num, rfl, by rw [H2.out]; exact st⟩, by (try simp only [hwr]); simp [intOf]; omega⟩
      | false =>
        have H2 : Hid (L.stale (vs.map Prod.fst) (L.rT (vs.map Prod.fst) n).1 (k + 1) = L.stale (vs.map Prod.fst) (L.rT (vs.map Prod.fst) n).1 k ++ [(k : Int)]) := Lib.hid (by rw [HST.out, HS.out]; simp)
        go_wp2_with (refine WL.out ?_; (repeat ((refine WL.op ?_ ?_; (exact rfl); intro K hK; (first | ((first | ((with_reducible apply ow_move); exact rfl) | ((with_reducible apply ow_assign); exact rfl)); (go_simp <;> (try simp (disch := omega) only [wrap_id, sub_left, zac]) <;> rfl)) | ((((with_reducible apply ow_newSlice st); exact rfl; (go_simp <;> (try simp (disch := omega) only [wrap_id, sub_left, zac]) <;> rfl); exact rfl)); (try clear st); intro b w' st) | ((with_reducible apply ow_append 1 st); exact rfl; exact inferInstance; exact rfl; exact rfl; exact rfl; exact st.rdBox (i := 0) (n := 1) (size := 1) rfl rfl; (focus ((simp [Value.oneCell']; done))); (focus (unfold maxLen; omega)); (focus omega); (try clear st); intro A' c' w' st; (try simp only [List.set_cons_zero, List.set_cons_succ, Nat.zero_add, List.nil_append] at st)) | ((with_reducible apply ow_eval); (go_simp <;> (try simp (disch := omega) only [wrap_id, sub_left, zac]) <;> rfl); ((with_reducible apply up_value)))); refine WL.next hK (by simp only [Act.put, zpt, zsz, zss]; exact rfl) ?_; clear hK K))); (try refine WL.nil ?_))
        have hwr : IntKind.i64.wrap ((k : Int) + 1) = (k : Int) + 1 := by rw [IntKind.wrap_i64]; omega
        exact ⟨⟨k + 1, A', m9 + 1, c', by omega, by (try rw [hwr]); go_num, rfl, by rw [H2.out, List.map_append]; exact st.tail⟩, by (try simp only [hwr]); simp [intOf]; omega⟩
    · obtain rfl : k = n := by omega
      go_wp2
      go_ret2
      exact ⟨A9, m9, c9, rfl, hb1.below.trans (st.below.mono hb1.size), st.rd (i := 0) rfl⟩
end Go.Proofs.YtppjhccdgbheiaaGreatDoor
namespace Go.Proofs.YtppjhccdgbheiaaGreatDoor
open Go.RowKit Go.Hp
namespace L
theorem same_comm : ∀ l m : List Ace, same l m = same m l
  | [], [] => rfl
  | [], _ :: _ => rfl
  | _ :: _, [] => rfl
  | a :: l, b :: m => by
    show (aeq a b && same l m) = (aeq b a && same m l)
    rw [same_comm l m]
    unfold aeq
    rw [BEq.comm (a := a.k), BEq.comm (a := a.f), BEq.comm (a := a.m), BEq.comm (a := a.w)]
theorem Desc.same_comm (a b : Desc) : a.same b = b.same a := by
  unfold Desc.same
  rw [BEq.comm (a := a.o), BEq.comm (a := a.g), BEq.comm (a := a.p), BEq.comm (a := a.h), L.same_comm a.e, L.same_comm a.a]
theorem stale_congr {l out out' : List Node} : ∀ k, (∀ i, i < k → nn out i = nn out' i) → stale l out k = stale l out' k
  | 0, _ => rfl
  | k + 1, h => by
    rw [stale_step, stale_step, stale_congr k (fun i hi => h i (by omega)), h k (by omega)]
theorem stale_rT {l : List Node} {k : Nat} {x : Node} (h : (rT l k).2 = true) (hx : rT l (k + 1) = ((rT l k).1 ++ [x], true)) :
    stale l (rT l (k + 1)).1 (k + 1) = stale l (rT l k).1 k ++ (if (nn l k).d.same x.d = true then [] else [(k : Int)]) := by
  have hl := rT_len k h
  rw [stale_step, hx]
  have e1 : stale l ((rT l k).1 ++ [x]) k = stale l (rT l k).1 k := stale_congr k fun i hi => nn_left _ _ _ (by omega)
  have e2 : nn ((rT l k).1 ++ [x]) k = x := by
    rw [nn_right _ _ _ (by omega), hl, Nat.sub_self]
    rfl
  show stale l ((rT l k).1 ++ [x]) k ++ (if (nn l k).d.same (nn ((rT l k).1 ++ [x]) k).d = true then [] else [(k : Int)]) = _
  rw [e1, e2]
end L
theorem rchild_at {d' d : L.Desc} {dir : Bool} {m : L.Desc} {ok : Bool} (hc : L.rChild d' d dir = (m, ok)) (v' : d'.Valid) (v : d.Valid) (A1 A2 A1' A2' : Option Addr) (n1 n2 n1' n2' c1 c2 c1' c2' B : Nat) (w : World)
    (h : Aces w B A1 n1 d.e ∧ Aces w B A2 n2 d.a) (h' : Aces w B A1' n1' d'.e ∧ Aces w B A2' n2' d'.a) (hB1 : B ≤ w.heap.size) :
    Calls Tryz.prog 36 #[.agg #[.int .i64 d'.o, .int .i64 d'.g, .bool d'.p, .bool d'.h, .slice A1' n1' c1', .slice A2' n2' c2'], .agg #[.int .i64 d.o, .int .i64 d.g, .bool d.p, .bool d.h, .slice A1 n1 c1, .slice A2 n2 c2], .bool dir] w
      fun e w' => ∃ A1 n1 c1 A2 n2 c2, e = .returned (.tuple #[.agg #[.int .i64 m.o, .int .i64 m.g, .bool m.p, .bool m.h, .slice A1 n1 c1, .slice A2 n2 c2], .bool ok]) ∧ St w w' [aceRow (.slice A1 n1 c1) n1 m.e, aceRow (.slice A2 n2 c2) n2 m.a] := by
  have l1 := h.1.len
  have l2 := h.2.len
  have l3 := h'.1.len
  have l4 := h'.2.len
  have e1 := v.le
  have e2 := v.la
  have e3 := v'.le
  have e4 := v'.la
  have g1 := L.Desc.err_e (d := d) (by rw [L.Desc.err_eq, v.errs])
  have g2 := L.Desc.err_a (d := d) (by rw [L.Desc.err_eq, v.errs])
  have g3 := L.Desc.err_e (d := d') (by rw [L.Desc.err_eq, v'.errs])
  have g4 := L.Desc.err_a (d := d') (by rw [L.Desc.err_eq, v'.errs])
  exact rChild_at hc A1 A2 A1' A2' n1 n2 n1' n2' c1 c2 c1' c2' B w h.1 h.2 h'.1 h'.2 hB1 (by omega) (by omega) (by omega) (by omega) g1 g2 g3 g4
def RetRef (w : World) (n : Nat) (l : List L.Node) (e : Ending) (w' : World) : Prop :=
  (L.rT l n = ([], false) ∧ e = .returned (.tuple #[.slice none 0 0, .slice none 0 0, .bool false]) ∧ Below w.heap.size w w') ∨
  (∃ A c us A9 m9 c9, us.map Prod.fst = (L.rT l n).1 ∧ (L.rT l n).2 = true ∧ e = .returned (.tuple #[.slice A n c, .slice A9 m9 c9, .bool true]) ∧ Below w.heap.size w w' ∧ Nodes w' w'.heap.size A n us ∧ IntsAt w' w'.heap.size A9 m9 (L.stale l (L.rT l n).1 n))
set_option maxRecDepth 8000 in
set_option maxHeartbeats 8000000 in
theorem Refreshed_any (A : Option Addr) (n c B : Nat) (vs : List (L.Node × L.Place)) (w : World) (h1 : Nodes w B A n vs) (hB1 : B ≤ w.heap.size) (hn : n ≤ 100) (hm : ∀ q ∈ vs, q.2.n1 ≤ 100 ∧ q.2.n2 ≤ 100) (hz : L.rTreeErr (vs.map Prod.fst) = 0) :
    Calls Tryz.prog 18 #[.slice A n c] w (RetRef w n (vs.map Prod.fst)) := by
  have H1 := Lib.hid h1
  have HM := Lib.hid hm
  have e1 := Lib.hid h1.len
  have el : Hid ((vs.map Prod.fst).length = n) := Lib.hid (by rw [List.length_map, ← e1.out])
  obtain ⟨hn30, hok⟩ := L.TreeOk.of hz
  have HK : Hid (∀ q ∈ vs, q.2.n1 ≤ 1000 ∧ q.2.n2 ≤ 1000) := Lib.hid fun q hq => ⟨by have := (hm q hq).1; omega, by have := (hm q hq).2; omega⟩
  clear h1 hm hz
  have st := St.start w
  go_enter Tryz.func18, Tryz.ntmps18
  go_wp2_with (refine WL.out ?_; (repeat ((refine WL.op ?_ ?_; (exact rfl); intro K hK; (first | ((((with_reducible apply ow_assign); exact rfl)); (go_simp <;> (try simp (disch := omega) only [wrap_id, sub_left, zac]) <;> rfl)) | ((with_reducible apply ow_eval); (go_simp <;> (try simp (disch := omega) only [wrap_id, sub_left, zac]) <;> rfl); (((with_reducible apply up_enter); ((go_at_call 10; refine (CopyNodes_any A n c B vs _ (H1.out.st st hB1) (Nat.le_trans hB1 st.size) hn HK.out).mono ?_; rintro e w' ⟨Ao, n', co, us0, F0, rfl, hus, hF, st'⟩; replace st := st.join st'; clear st'; simp only [List.cons_append, List.nil_append, List.append_nil] at st; refine ⟨_, rfl, ?_⟩)))))); refine WL.next hK (by simp only [Act.put, zpt, zsz, zss]; exact rfl) ?_; clear hK K))); (try refine WL.nil ?_))
  have hnn : n' = n := by
    have h3 := (St.get st (i := 0) rfl).1
    rw [L.nCellsOf_length] at h3
    have h4 := congrArg List.length hus
    rw [List.length_map, el.out] at h4
    omega
  subst hnn
  have HUS0 := Lib.hid hus
  have HF0 := Lib.hid hF
  clear hus hF
  by_cases hn0 : n' = 0
  · subst hn0
    have hv : vs = [] := List.eq_nil_of_length_eq_zero e1.out.symm
    subst hv
    have hu0 : us0 = [] := by have h4 := HUS0.out; simpa using h4
    subst hu0
    go_loopw [6, 7] (fun v i wr => v = .slice none 0 0 ∧ i = .int .i64 1 ∧ St w wr (nodeRow (.slice Ao 0 co) 0 [] :: F0)) (fun _ _ _ => 0)
    case atStart => exact ⟨rfl, rfl, st⟩
    case round =>
      obtain ⟨rfl, rfl, st⟩ := hrel
      go_wp2
      go_ret3
      exact .inr ⟨Ao, co, [], none, 0, 0, rfl, rfl, rfl, st.below, St.nodes (vs := []) st (fun q hq => by cases hq), Rd.nil _⟩
  · have st0 := st
    clear st
    go_loopw [6, 7] (fun v i wr => ∃ (k : Nat) (us : List (L.Node × L.Place)) (F : List Res) (A9 : Option Addr) (m9 c9 : Nat), 1 ≤ k ∧ k ≤ n' ∧ i = .int .i64 k ∧ v = .slice A9 m9 c9 ∧ Hid ((L.rT (vs.map Prod.fst) k).2 = true ∧ us.map Prod.fst = L.mid (vs.map Prod.fst) k ∧ ∀ q ∈ us, RowsOk w B F q) ∧ St w wr (nodeRow (.slice Ao n' co) n' us :: .row 3 1 (.slice A9 m9 c9) m9 ((L.stale (vs.map Prod.fst) (L.rT (vs.map Prod.fst) k).1 k).map fun x => Value.int .i64 x) :: F)) (fun _ i _ => n' - (intOf i).toNat)
    case atStart =>
      refine ⟨1, us0, F0, none, 0, 0, Nat.le_refl _, by omega, rfl, rfl, Lib.hid ⟨rfl, ?_, fun q hq => .inr (HF0.out q hq)⟩, ?_⟩
      · rw [HUS0.out]
        show vs.map Prod.fst = [L.nn (vs.map Prod.fst) 0] ++ (vs.map Prod.fst).drop 1
        exact L.drop_nn (l := vs.map Prod.fst) (k := 0) (by rw [el.out]; omega)
      · have hs0 : L.stale (vs.map Prod.fst) (L.rT (vs.map Prod.fst) 1).1 1 = [] := by
          show [] ++ (if (L.nn (vs.map Prod.fst) 0).d.same (L.nn [L.nn (vs.map Prod.fst) 0] 0).d = true then [] else [((0 : Nat) : Int)]) = []
          rw [show (L.nn [L.nn (vs.map Prod.fst) 0] 0) = L.nn (vs.map Prod.fst) 0 from rfl, L.Desc.same_refl]
          rfl
        rw [hs0]
        exact (st0.nilRow _ _).swap
    case round =>
      clear st0
      obtain ⟨k, us, F, A9, m9, c9, hk1, hk, rfl, rfl, hU, st⟩ := hrel
      have hul : Hid (us.length = n') := Lib.hid (by have h3 := congrArg List.length hU.out.2.1; rw [List.length_map, L.mid_len hU.out.1 (by rw [el.out]; exact hk), el.out] at h3; exact h3)
      have hq := L.stale_len (vs.map Prod.fst) (L.rT (vs.map Prod.fst) k).1 k
      have hm9 : m9 ≤ 100 := by
        have h3 := (St.get st (i := 1) rfl).1
        rw [List.length_map] at h3
        omega
      by_cases hlt : k < n'
      · obtain ⟨g, R, rfl, hx1, hx2, hx3, hx4, st2⟩ := St.toBox st (by omega)
        replace st := st2
        clear st2
        have X2 := Lib.hid hx2
        have X3 := Lib.hid hx3
        have X4 := Lib.hid hx4
        have hku : k < us.length := by rw [hul.out]; exact hlt
        have hkI : (k : Int) < (n' : Int) := by omega
        have hkl : k < vs.length := by rw [← e1.out]; exact hlt
        have hk0 : k ≠ 0 := by omega
        clear hx1 hx2 hx3 hx4 hq
        obtain ⟨j, hj, hjk⟩ := hok.above (k := k) (by rw [el.out]; exact hlt) hk0
        have hju : j < us.length := by omega
        have hown : (L.nx us k).1 = (L.nx vs k).1 := by rw [L.nx_fst, hU.out.2.1, L.mid_own hU.out.1, ← L.nx_fst]
        have hab : (L.nx us j).1 = L.nn (L.rT (vs.map Prod.fst) k).1 j := by rw [L.nx_fst, hU.out.2.1, L.mid_above hU.out.1 hjk]
        have ha : (L.nx vs k).1.a = (j : Int) := by rw [L.nx_fst]; exact hj
        have V1 : Hid ((L.nx vs k).1.d.Valid) := Lib.hid (by rw [L.nx_fst]; exact hok.valid (by rw [el.out]; exact hlt))
        have V2 : Hid ((L.nx us j).1.d.Valid) := Lib.hid (by rw [hab]; exact L.rT_valid hok k (by rw [el.out]; exact hk) hU.out.1 _ (L.nn_mem _ _ (by rw [L.rT_len k hU.out.1]; exact hjk)))
        obtain ⟨m, ok, hc⟩ : ∃ m ok, L.rChild (L.nx us j).1.d (L.nx vs k).1.d (L.nx vs k).1.k = (m, ok) := ⟨_, _, rfl⟩
        have HC := Lib.hid hc
        have hml : m.e.length ≤ 16 ∧ m.a.length ≤ 16 := by
          cases ok with
          | true =>
            have hv := L.rChild_valid (L.nx vs k).1.k V2.out V1.out (by rw [hc])
            rw [hc] at hv
            exact ⟨hv.le, hv.la⟩
          | false =>
            have hv := L.rChild_no (d' := (L.nx us j).1.d) (d := (L.nx vs k).1.d) (dir := (L.nx vs k).1.k) (by rw [hc])
            rw [hc] at hv
            have hv : m = L.Desc.none := hv
            rw [hv]
            exact ⟨by decide, by decide⟩
        have HML := Lib.hid hml
        have hrc : L.rChild (L.nn (L.rT (vs.map Prod.fst) k).1 (L.nn (vs.map Prod.fst) k).a.toNat).d (L.nn (vs.map Prod.fst) k).d (L.nn (vs.map Prod.fst) k).k = (m, ok) := by rw [hj, ← L.nx_fst vs k, ← hc, hab]; rfl
        have HRC := Lib.hid hrc
        have hjI : (j : Int) < (n' : Int) := by omega
        have RK := Lib.hid (H1.out.rows _ (L.nx_mem vs k hkl))
        have RJ := Lib.hid (hU.out.2.2 _ (L.nx_mem us j hju))
        have HO := Lib.hid hown
        have HQ := Lib.hid (HM.out _ (L.nx_mem vs k hkl))
        obtain ⟨b, o, rfl, hb, hcc⟩ := H1.out.at_ (by omega)
        have hb := Nat.lt_of_lt_of_le hb hB1
        obtain ⟨f0, f1, f2, -⟩ := hcc k hlt
        rw [ha] at f0
        clear hown hab hj hc ha hcc hml hrc
        go_wp2_with (refine WL.out ?_; (repeat ((refine WL.op ?_ ?_; (exact rfl); intro K hK; (((with_reducible apply ow_eval); (go_simp <;> (try simp (disch := omega) only [wrap_id, sub_left, zac]) <;> rfl); ((with_reducible apply up_value)))); refine WL.next hK (by simp only [Act.put, zpt, zsz, zss]; exact rfl) ?_; clear hK K))); (try refine WL.nil ?_))
        refine wp_region_mix 25 24 (by kernel_rfl) (by kernel_rfl) (by decide) st.size ?_; replace st := st.drew; generalize World.drew _ = W at st ⊢
        iterate 8 (apply Mix.val'; (focus (intro x0 x1 x2 x3 x4 x5 x6 x7 x8 x9 x10 x11 x12 x13 x14 x15 x16 x17 x18 x19 x20 x21 x22 x23 x24 w1 hb; (try simp only [depM, fillA, Act.put, zta, ztz, zpt, zsz, zss, zl0, zls]); (repeat (rintro rfl)); have st := st.call hb; (first | (apply Yphi.run; (exact rfl); (go_simp <;> (try simp (disch := omega) only [wrap_id, sub_left, zac]) <;> rfl); exact rfl) | (apply Yphi.old1 st; exact rfl; exact inferInstance; (exact rfl); exact rfl; assumption; assumption)))); (simp only [zca, zcn] <;> exact rfl))
        (apply Mix.val'; (focus (intro x0 x1 x2 x3 x4 x5 x6 x7 x8 x9 x10 x11 x12 x13 x14 x15 x16 x17 x18 x19 x20 x21 x22 x23 x24 w1 hb; (try simp only [depM, fillA, Act.put, zta, ztz, zpt, zsz, zss, zl0, zls]); (repeat (rintro rfl)); have st := st.call hb; apply Yphi.loadN st; exact rfl; exact inferInstance; (exact rfl); exact rfl; (exact get0); exact L.nC_desc us R j hju; exact rfl)); (simp only [zca, zcn] <;> exact rfl))
        iterate 4 (apply Mix.val'; (focus (intro x0 x1 x2 x3 x4 x5 x6 x7 x8 x9 x10 x11 x12 x13 x14 x15 x16 x17 x18 x19 x20 x21 x22 x23 x24 w1 hb; (try simp only [depM, fillA, Act.put, zta, ztz, zpt, zsz, zss, zl0, zls]); (repeat (rintro rfl)); have st := st.call hb; ((apply Yphi.run; (exact rfl); (go_simp <;> (try simp (disch := omega) only [wrap_id, sub_left, zac]) <;> rfl); exact rfl)))); (simp only [zca, zcn] <;> exact rfl))
        (apply Mix.val'; (focus (intro x0 x1 x2 x3 x4 x5 x6 x7 x8 x9 x10 x11 x12 x13 x14 x15 x16 x17 x18 x19 x20 x21 x22 x23 x24 w1 hb; (try simp only [depM, fillA, Act.put, zta, ztz, zpt, zsz, zss, zl0, zls]); (repeat (rintro rfl)); have st := st.call hb; apply Yphi.oldC st; exact rfl; exact inferInstance; (exact rfl); exact rfl; assumption; assumption; exact rfl)); (simp only [zca, zcn] <;> exact rfl))
        iterate 5 (apply Mix.val'; (focus (intro x0 x1 x2 x3 x4 x5 x6 x7 x8 x9 x10 x11 x12 x13 x14 x15 x16 x17 x18 x19 x20 x21 x22 x23 x24 w1 hb; (try simp only [depM, fillA, Act.put, zta, ztz, zpt, zsz, zss, zl0, zls]); (repeat (rintro rfl)); have st := st.call hb; (first | (apply Yphi.run; (exact rfl); (go_simp <;> (try simp (disch := omega) only [wrap_id, sub_left, zac]) <;> rfl); exact rfl) | (apply Yphi.old1 st; exact rfl; exact inferInstance; (exact rfl); exact rfl; assumption; assumption)))); (simp only [zca, zcn] <;> exact rfl))
        (apply Mix.fact' (tupDesc W.heap.size m (.bool ok)) (tupDesc_stable _ _ _); (focus (intro x0 x1 x2 x3 x4 x5 x6 x7 x8 x9 x10 x11 x12 x13 x14 x15 x16 x17 x18 x19 x20 x21 x22 x23 x24 w1 hb; (try simp only [depM, fillA, Act.put, zta, ztz, zpt, zsz, zss, zl0, zls]); (repeat (rintro rfl)); have st := st.call hb; apply Yphi.call; (exact rfl); (go_simp <;> (try simp (disch := omega) only [wrap_id, sub_left, zac]) <;> rfl); exact rfl; refine (rchild_at HC.out V2.out V1.out _ _ _ _ _ _ _ _ _ _ _ _ _ _ ⟨(RK.out.1.st st hB1).more (Nat.le_trans hB1 st.size), (RK.out.2.st st hB1).more (Nat.le_trans hB1 st.size)⟩ (RJ.out.aces st (fun r hr => List.mem_cons_of_mem _ (List.mem_cons_of_mem _ hr)) hB1) (Nat.le_refl _)).mono ?_; rintro e w' ⟨A7, n7, c7, A8, n8, c8, rfl, st'⟩; exact ⟨_, rfl, st'.below, _, _, _, _, _, _, rfl, DescRows.of_st hb.size st'⟩)); (simp only [zca, zcn] <;> exact rfl))
        (apply Mix.fact' (tupDesc W.heap.size m (.bool ok)) (tupDesc_stable _ _ _); (focus (intro x0 x1 x2 x3 x4 x5 x6 x7 x8 x9 x10 x11 x12 x13 x14 x15 x16 x17 x18 x19 x20 x21 x22 x23 x24 w1 hb; (try simp only [depM, fillA, Act.put, zta, ztz, zpt, zsz, zss, zl0, zls]); (repeat (intro lo hi hlo hhi hphi)); have st := st.call hb; obtain ⟨A3, n3, c3, A4, n4, c4, rfl, hr⟩ := hphi; apply Yphi.known; (exact rfl); (go_simp <;> (try simp (disch := omega) only [wrap_id, sub_left, zac]) <;> rfl); exact rfl; exact ⟨_, _, _, _, _, _, rfl, hr⟩)); (simp only [zca, zcn] <;> exact rfl))
        (apply Mix.fact' (descFrom W.heap.size m) (descFrom_stable _ _); (focus (intro x0 x1 x2 x3 x4 x5 x6 x7 x8 x9 x10 x11 x12 x13 x14 x15 x16 x17 x18 x19 x20 x21 x22 x23 x24 w1 hb; (try simp only [depM, fillA, Act.put, zta, ztz, zpt, zsz, zss, zl0, zls]); (repeat (intro lo hi hlo hhi hphi)); have st := st.call hb; obtain ⟨A3, n3, c3, A4, n4, c4, rfl, hr⟩ := hphi; apply Yphi.known; (exact rfl); (go_simp <;> (try simp (disch := omega) only [wrap_id, sub_left, zac]) <;> rfl); exact rfl; exact ⟨_, _, _, _, _, _, rfl, hr⟩)); (simp only [zca, zcn] <;> exact rfl))
        (apply Mix.free'; (focus (intro x0 x1 x2 x3 x4 x5 x6 x7 x8 x9 x10 x11 x12 x13 x14 x15 x16 x17 x18 x19 x20 x21 x22 x23 x24 w1 hb; (try simp only [depM, fillA, Act.put, zta, ztz, zpt, zsz, zss, zl0, zls]); (repeat (first | intro lo hi hlo hhi hphi | intro _)); have st := st.call hb; obtain ⟨A3, n3, c3, A4, n4, c4, rfl, hr⟩ := hphi; apply YX.run; (exact rfl); (go_simp <;> (try simp (disch := omega) only [wrap_id, sub_left, zac]) <;> rfl); exact rfl)); (simp only [zca, zcn] <;> exact rfl))
        (apply Mix.fact' (freshBox (25) ([.int .i64 0, .int .i64 0, .bool false, .bool false, .slice none 0 0, .slice none 0 0])) (freshBox_stable _ _); (focus (intro x0 x1 x2 x3 x4 x5 x6 x7 x8 x9 x10 x11 x12 x13 x14 x15 x16 x17 x18 x19 x20 x21 x22 x23 x24 w1 hb; (try simp only [depM, fillA, Act.put, zta, ztz, zpt, zsz, zss, zl0, zls]); (repeat (fail)); have st := st.call hb; apply Yphi.alloc; exact rfl; exact inferInstance; exact rfl; (exact rfl))); (simp only [zca, zcn] <;> exact rfl))
        (apply Mix.store'; exact rfl; (simp only [zca, zcn] <;> exact rfl))
        refine Mix.fin (by kernel_rfl) (by kernel_rfl) rfl ?_
        intro x0 x1 x2 x3 x4 x5 x6 x7 x8 x9 x10 x11 x12 x13 x14 x15 x16 x17 x18 x19 x20 x21 x22 x23 x24 lo hi w1 hb hap
        rintro rfl rfl rfl rfl rfl rfl rfl rfl rfl rfl rfl rfl rfl rfl rfl rfl rfl rfl rfl - - - - - - - - ⟨A3, n3, c3, A4, n4, c4, rfl, hr⟩ h9 - ⟨b8, rfl, hb9, -⟩
        have stO := st
        have st := St.descBox st hb hr hb9 h9 (Nat.le_refl _) (by decide)
        clear hap hb hr hb9 h9
        simp only [allMix, fixF, fillA, Act.put, zta, ztz, zpt, zsz, zss, zda, zdz]
        refine ⟨?_, ?_⟩
        (exact rfl)
        ((((with_reducible apply ow_storeN' st); exact rfl; exact inferInstance; exact rfl; (exact get0); exact rfl)); exact rfl; exact rfl; (simp <;> done); ((try simp only [zta, ztz, zda, zdz, zca, zcn, zan, zsz, zss]) <;> exact rfl); (try clear st); intro w' st)
        refine ⟨undef, rfl, SameBelow.of_st stO st, ?_⟩
        clear stO
        (repeat ((refine WL.op ?_ ?_; (exact rfl); intro K hK; (((((with_reducible apply ow_assign); exact rfl)); (go_simp <;> (try simp (disch := omega) only [wrap_id, sub_left, zac]) <;> rfl))); refine WL.next hK (by simp only [Act.put, zpt, zsz, zss]; exact rfl) ?_; clear hK K)))
        refine WL.nil ?_
        have q3 : n3 ≤ 16 := by have := St.len st (i := 1) rfl; have := HML.out.1; omega
        have q4 : n4 ≤ 16 := by have := St.len st (i := 2) rfl; have := HML.out.2; omega
        cases ok with
        | false =>
          have H6 : Hid (L.rT (vs.map Prod.fst) n' = ([], false)) := Lib.hid (L.rT_off (L.rT_fail hU.out.1 hk0 (by rw [HRC.out])) n' (by omega))
          go_wp2_with (refine WL.out ?_; (repeat ((refine WL.op ?_ ?_; (exact rfl); intro K hK; (((with_reducible apply ow_eval); (go_simp <;> (try simp (disch := omega) only [wrap_id, sub_left, zac]) <;> rfl); ((with_reducible apply up_value)))); refine WL.next hK (by simp only [Act.put, zpt, zsz, zss]; exact rfl) ?_; clear hK K))); (try refine WL.nil ?_))
          go_ret3
          exact .inl ⟨H6.out, rfl, st.below⟩
        | true =>
          have HRT : Hid (L.rT (vs.map Prod.fst) (k + 1) = ((L.rT (vs.map Prod.fst) k).1 ++ [⟨(L.nx us k).1.a, (L.nx us k).1.k, m⟩], true)) := Lib.hid (by rw [L.rT_next hU.out.1 hk0 (by rw [HRC.out]), HRC.out, HO.out, L.nx_fst])
          obtain ⟨s, hs⟩ : ∃ s, m.same (L.nx vs k).1.d = s := ⟨_, rfl⟩
          have hst2 := L.stale_rT hU.out.1 HRT.out
          rw [← L.nx_fst, L.Desc.same_comm] at hst2
          have hst2 : L.stale (vs.map Prod.fst) (L.rT (vs.map Prod.fst) (k + 1)).1 (k + 1) = L.stale (vs.map Prod.fst) (L.rT (vs.map Prod.fst) k).1 k ++ (if m.same (L.nx vs k).1.d = true then [] else [(k : Int)]) := hst2
          rw [hs] at hst2
          have HST := Lib.hid hst2
          have HS := Lib.hid hs
          clear hst2 hs
          go_wp2_with (refine WL.out ?_; (repeat ((refine WL.op ?_ ?_; (exact rfl); intro K hK; (((with_reducible apply ow_eval); (go_simp <;> (try simp (disch := omega) only [wrap_id, sub_left, zac]) <;> rfl); ((with_reducible apply up_value)))); refine WL.next hK (by simp only [Act.put, zpt, zsz, zss]; exact rfl) ?_; clear hK K))); (try refine WL.nil ?_))
          refine wp_region_plan 8 (by kernel_rfl) (by kernel_rfl) ?_; replace st := st.drew; generalize World.drew _ = W at st ⊢
          iterate 5 (apply Plan.val'; (focus (intro x0 x1 x2 x3 x4 x5 x6 x7 w1 hb; (try simp only [depF, fillA, Act.put, zta, ztz, zpt, zsz, zss, zl0, zls]); (repeat (rintro rfl)); have st := st.call hb; (first | (apply Yphi.run; (exact rfl); (go_simp <;> (try simp (disch := omega) only [wrap_id, sub_left, zac]) <;> rfl); exact rfl) | (apply Yphi.loadN st; exact rfl; exact inferInstance; (exact rfl); exact rfl; (exact get0); ((try simp only [zta, ztz, zda, zdz, zca, zcn, zan, zsz, zss]) <;> exact rfl); exact rfl)))); (simp only [zca, zcn] <;> exact rfl))
          (apply Plan.val'; (focus (intro x0 x1 x2 x3 x4 x5 x6 x7 w1 hb; (try simp only [depF, fillA, Act.put, zta, ztz, zpt, zsz, zss, zl0, zls]); (repeat (rintro rfl)); have st := st.call hb; apply Yphi.oldC st; exact rfl; exact inferInstance; (exact rfl); exact rfl; assumption; assumption; exact rfl)); (simp only [zca, zcn] <;> exact rfl))
          (apply Plan.val'; (focus (intro x0 x1 x2 x3 x4 x5 x6 x7 w1 hb; (try simp only [depF, fillA, Act.put, zta, ztz, zpt, zsz, zss, zl0, zls]); (repeat (rintro rfl)); have st := st.call hb; apply Yphi.call; (exact rfl); (go_simp <;> (try simp (disch := omega) only [wrap_id, sub_left, zac]) <;> rfl); exact rfl; refine (SameDescriptor_any m (L.nx vs k).1.d A3 A4 (L.nx vs k).2.A1 (L.nx vs k).2.A2 n3 n4 (L.nx vs k).2.n1 (L.nx vs k).2.n2 c3 c4 (L.nx vs k).2.c1 (L.nx vs k).2.c2 _ _ (St.aces st (i := 1) rfl) (St.aces st (i := 2) rfl) ((RK.out.1.st st hB1).more (Nat.le_trans hB1 st.size)) ((RK.out.2.st st hB1).more (Nat.le_trans hB1 st.size)) (Nat.le_refl _) (by omega) (by omega) (by have := HQ.out.1; omega) (by have := HQ.out.2; omega)).mono ?_; rintro e w' ⟨rfl, hb'⟩; exact ⟨_, rfl, hb', rfl⟩)); (simp only [zca, zcn] <;> exact rfl))
          (apply Plan.val'; (focus (intro x0 x1 x2 x3 x4 x5 x6 x7 w1 hb; (try simp only [depF, fillA, Act.put, zta, ztz, zpt, zsz, zss, zl0, zls]); (repeat (rintro rfl)); have st := st.call hb; ((apply Yphi.run; (exact rfl); (go_simp <;> (try simp (disch := omega) only [wrap_id, sub_left, zac]) <;> rfl); exact rfl)))); (simp only [zca, zcn] <;> exact rfl))
          intro x0 x1 x2 x3 x4 x5 x6 x7 lo hi w1 hb hap
          rintro rfl rfl rfl rfl rfl rfl rfl rfl
          simp only [allPhi, fillA, Act.put, zta, ztz, zpt, zsz, zss, zda, zdz]
          have st := st.call hb
          clear hap hb
          rw [HS.out]
          cases s with
          | true =>
            go_wp2_with (refine WL.out ?_; (repeat ((refine WL.op ?_ ?_; (exact rfl); intro K hK; (first | ((((with_reducible apply ow_assign); exact rfl)); (go_simp <;> (try simp (disch := omega) only [wrap_id, sub_left, zac]) <;> rfl)) | ((((with_reducible apply ow_loadN st); exact rfl; exact inferInstance; exact rfl; (exact get0); ((try simp only [zta, ztz, zda, zdz, zca, zcn, zan, zsz, zss]) <;> exact rfl))); exact rfl) | ((with_reducible apply ow_storeN' st); exact rfl; exact inferInstance; exact rfl; (exact get3); exact rfl; exact rfl; exact rfl; (focus (rw [List.length_append, L.nCellsOf_length]; omega)); (focus (exact congrArg (fun x => _ :: _ :: _ :: Res.box g 34 x :: _ :: F) (L.nC_set us R k m ⟨A3, n3, c3, A4, n4, c4⟩ hku))); (try clear st); intro w' st) | ((with_reducible apply ow_eval); (go_simp <;> (try simp (disch := omega) only [wrap_id, sub_left, zac]) <;> rfl); ((with_reducible apply up_value)))); refine WL.next hK (by simp only [Act.put, zpt, zsz, zss]; exact rfl) ?_; clear hK K))); (try refine WL.nil ?_))
            have hwr : IntKind.i64.wrap ((k : Int) + 1) = (k : Int) + 1 := by rw [IntKind.wrap_i64]; omega
            refine ⟨⟨k + 1, us.set k (⟨(L.nx us k).1.a, (L.nx us k).1.k, m⟩, ⟨A3, n3, c3, A4, n4, c4⟩), rowE (⟨(L.nx us k).1.a, (L.nx us k).1.k, m⟩, ⟨A3, n3, c3, A4, n4, c4⟩) :: rowA (⟨(L.nx us k).1.a, (L.nx us k).1.k, m⟩, ⟨A3, n3, c3, A4, n4, c4⟩) :: F, A9, m9, c9, by omega, by omega, by (try rw [hwr]); go_num, rfl, Lib.hid ⟨by rw [HRT.out], ?_, fun x hx => ?_⟩, ?_⟩, by (try simp only [hwr]); simp [intOf]; omega⟩
            · rw [L.mid_set hU.out.1 (by rw [el.out]; exact hlt) HRT.out, List.map_set, hU.out.2.1]
            · rcases List.mem_or_eq_of_mem_set hx with hx | rfl
              · exact (hU.out.2.2 x hx).more fun r hr => List.mem_cons_of_mem _ (List.mem_cons_of_mem _ hr)
              · exact .inr ⟨List.mem_cons_self .., List.mem_cons_of_mem _ (List.mem_cons_self ..)⟩
            · rw [HST.out]
              simp only [if_true, List.append_nil]
              have st3 := st.sub (.cons _ (.refl _))
              have st4 := st3.perm (List.Perm.append_right F (List.perm_append_comm (l₁ := [_, _]) (l₂ := [_, _])))
              refine St.ofBox st4 (by rw [L.nCellsOf_length, List.length_set, hul.out]) ?_ X3.out X4.out
              have h5 := X2.out
              rw [List.length_append, L.nCellsOf_length] at h5
              rw [List.length_append, L.nCellsOf_length, List.length_set]
              exact h5
          | false =>
            go_wp2_with (refine WL.out ?_; (repeat ((refine WL.op ?_ ?_; (exact rfl); intro K hK; (first | ((((with_reducible apply ow_assign); exact rfl)); (go_simp <;> (try simp (disch := omega) only [wrap_id, sub_left, zac]) <;> rfl)) | ((((with_reducible apply ow_loadN st); exact rfl; exact inferInstance; exact rfl; (exact get1); ((try simp only [zta, ztz, zda, zdz, zca, zcn, zan, zsz, zss]) <;> exact rfl))); exact rfl) | ((((with_reducible apply ow_newSlice st); exact rfl; (go_simp <;> (try simp (disch := omega) only [wrap_id, sub_left, zac]) <;> rfl); exact rfl)); (try clear st); intro b w' st) | ((with_reducible apply ow_append 5 st); exact rfl; exact inferInstance; exact rfl; exact rfl; exact rfl; exact st.rdBox (i := 0) (n := 1) (size := 1) rfl rfl; (focus ((simp [Value.oneCell']; done))); (focus (unfold maxLen; omega)); (focus omega); (try clear st); intro A' c' w' st; (try simp only [List.set_cons_zero, List.set_cons_succ, Nat.zero_add, List.nil_append] at st)) | ((with_reducible apply ow_storeN' st); exact rfl; exact inferInstance; exact rfl; (exact get4); exact rfl; exact rfl; exact rfl; (focus (rw [List.length_append, L.nCellsOf_length]; omega)); (focus (exact congrArg (fun x => _ :: _ :: _ :: _ :: Res.box g 34 x :: _ :: F) (L.nC_set us R k m ⟨A3, n3, c3, A4, n4, c4⟩ hku))); (try clear st); intro w' st) | ((with_reducible apply ow_eval); (go_simp <;> (try simp (disch := omega) only [wrap_id, sub_left, zac]) <;> rfl); ((with_reducible apply up_value)))); refine WL.next hK (by simp only [Act.put, zpt, zsz, zss]; exact rfl) ?_; clear hK K))); (try refine WL.nil ?_))
            have hwr : IntKind.i64.wrap ((k : Int) + 1) = (k : Int) + 1 := by rw [IntKind.wrap_i64]; omega
            refine ⟨⟨k + 1, us.set k (⟨(L.nx us k).1.a, (L.nx us k).1.k, m⟩, ⟨A3, n3, c3, A4, n4, c4⟩), rowE (⟨(L.nx us k).1.a, (L.nx us k).1.k, m⟩, ⟨A3, n3, c3, A4, n4, c4⟩) :: rowA (⟨(L.nx us k).1.a, (L.nx us k).1.k, m⟩, ⟨A3, n3, c3, A4, n4, c4⟩) :: F, A', m9 + 1, c', by omega, by omega, by (try rw [hwr]); go_num, rfl, Lib.hid ⟨by rw [HRT.out], ?_, fun x hx => ?_⟩, ?_⟩, by (try simp only [hwr]); simp [intOf]; omega⟩
            · rw [L.mid_set hU.out.1 (by rw [el.out]; exact hlt) HRT.out, List.map_set, hU.out.2.1]
            · rcases List.mem_or_eq_of_mem_set hx with hx | rfl
              · exact (hU.out.2.2 x hx).more fun r hr => List.mem_cons_of_mem _ (List.mem_cons_of_mem _ hr)
              · exact .inr ⟨List.mem_cons_self .., List.mem_cons_of_mem _ (List.mem_cons_self ..)⟩
            · rw [HST.out]
              simp only [Bool.false_eq_true, if_false, List.map_append, List.map_cons, List.map_nil]
              have st3 := st.sub (.cons _ (.cons _ (.refl _)))
              have st4 := st3.perm (List.Perm.append_right F (List.perm_append_comm (l₁ := [_, _]) (l₂ := [_, _])))
              refine St.ofBox st4 (by rw [L.nCellsOf_length, List.length_set, hul.out]) ?_ X3.out X4.out
              have h5 := X2.out
              rw [List.length_append, L.nCellsOf_length] at h5
              rw [List.length_append, L.nCellsOf_length, List.length_set]
              exact h5
      · obtain rfl : k = n' := by omega
        have hd : L.mid (vs.map Prod.fst) k = (L.rT (vs.map Prod.fst) k).1 := by
          unfold L.mid
          rw [List.drop_of_length_le (by rw [el.out]; exact Nat.le_refl _), List.append_nil]
        have HD := Lib.hid hd
        clear hd hok
        go_wp2
        go_ret3
        refine .inr ⟨Ao, co, us, A9, m9, c9, by rw [← HD.out]; exact hU.out.2.1, hU.out.1, rfl, st.below, ⟨st.rd (i := 0) rfl, fun q hq => ?_⟩, st.rd (i := 1) rfl⟩
        exact (hU.out.2.2 q hq).aces st (fun r hr => List.mem_cons_of_mem _ (List.mem_cons_of_mem _ hr)) hB1
end Go.Proofs.YtppjhccdgbheiaaGreatDoor
namespace Go.Proofs.YtppjhccdgbheiaaGreatDoor
open Go.RowKit Go.Hp
namespace L
theorem rT_true {l : List Node} {n : Nat} (h : (rT l n).2 = true) : ∀ k, k ≤ n → (rT l k).2 = true := by
  intro k hk
  cases h2 : (rT l k).2 with
  | true => rfl
  | false =>
    by_cases hkn : k = n
    · rw [hkn] at h2; rw [h] at h2; cases h2
    · have h3 := rT_off (rT_down h2) n (by omega)
      rw [h3] at h
      cases h
theorem rT_step {l : List Node} {k : Nat} (h : (rT l (k + 1)).2 = true) : ∃ x : Node, rT l (k + 1) = ((rT l k).1 ++ [x], true) ∧ x.a = (nn l k).a ∧ x.k = (nn l k).k ∧
    (k = 0 → x = nn l k) ∧ (k ≠ 0 → (rChild (nn (rT l k).1 (nn l k).a.toNat).d (nn l k).d (nn l k).k).2 = true ∧ x.d = (rChild (nn (rT l k).1 (nn l k).a.toNat).d (nn l k).d (nn l k).k).1) := by
  have h2 := rT_ok h
  by_cases h0 : k = 0
  · exact ⟨nn l k, rT_root h2 h0, rfl, rfl, fun _ => rfl, fun h3 => absurd h0 h3⟩
  · cases hc : (rChild (nn (rT l k).1 (nn l k).a.toNat).d (nn l k).d (nn l k).k).2 with
    | false => rw [rT_fail h2 h0 hc] at h; cases h
    | true => exact ⟨_, rT_next h2 h0 hc, rfl, rfl, fun h3 => absurd h3 h0, fun _ => ⟨rfl, rfl⟩⟩
theorem rT_take {l : List Node} : ∀ n, (rT l n).2 = true → ∀ k, k ≤ n → (rT l n).1.take k = (rT l k).1
  | 0, _, k, hk => by obtain rfl : k = 0 := by omega
                      rfl
  | n + 1, h, k, hk => by
    obtain ⟨x, hx, _⟩ := rT_step h
    have hl := rT_len n (rT_ok h)
    by_cases hkn : k = n + 1
    · rw [hkn]
      exact List.take_of_length_le (by rw [rT_len _ h]; exact Nat.le_refl _)
    · rw [hx]
      show ((rT l n).1 ++ [x]).take k = _
      rw [List.take_append_of_le_length (by omega)]
      exact rT_take n (rT_ok h) k (by omega)
theorem nn_take (m : List Node) (k i : Nat) (h : i < k) : nn (m.take k) i = nn m i := by
  unfold nn
  rw [List.getElem?_take, if_pos h]
theorem take_nn (m : List Node) (k : Nat) (h : k < m.length) : m.take (k + 1) = m.take k ++ [nn m k] := by
  rw [List.take_succ_eq_append_getElem h]
  unfold nn
  rw [List.getElem?_eq_getElem h]
  rfl
theorem rT_node {l : List Node} {n k : Nat} (h : (rT l n).2 = true) (hk : k < n) : (nn (rT l n).1 k).a = (nn l k).a ∧ (nn (rT l n).1 k).k = (nn l k).k ∧
    (k ≠ 0 → (rChild (nn (rT l k).1 (nn l k).a.toNat).d (nn l k).d (nn l k).k).2 = true ∧ (nn (rT l n).1 k).d = (rChild (nn (rT l k).1 (nn l k).a.toNat).d (nn l k).d (nn l k).k).1) := by
  have h1 := rT_true h (k + 1) (by omega)
  obtain ⟨x, hx, ha, hb, _, hd⟩ := rT_step h1
  have hl := rT_len k (rT_ok h1)
  have e : nn (rT l n).1 k = x := by
    rw [← nn_take _ (k + 1) k (by omega), rT_take n h (k + 1) (by omega), hx]
    show nn ((rT l k).1 ++ [x]) k = x
    rw [nn_right _ _ _ (by omega), hl, Nat.sub_self]
    rfl
  rw [e]
  exact ⟨ha, hb, hd⟩
theorem rT_again {l : List Node} (hok : TreeOk l) {n : Nat} (hn : n = l.length) (h : (rT l n).2 = true) : ∀ k, k ≤ n → rT (rT l n).1 k = ((rT l n).1.take k, true)
  | 0, _ => rfl
  | k + 1, hk => by
    have ih := rT_again hok hn h k (by omega)
    have hl := rT_len n h
    have h2 : (rT (rT l n).1 k).2 = true := by rw [ih]
    rw [take_nn _ _ (by omega)]
    by_cases h0 : k = 0
    · rw [rT_root h2 h0, ih]
    · obtain ⟨ha, hb, hd⟩ := rT_node h (k := k) (by omega)
      obtain ⟨hc, hd⟩ := hd h0
      obtain ⟨j, hj, hjk⟩ := hok.above (k := k) (by omega) h0
      have e : rChild (nn (rT (rT l n).1 k).1 (nn (rT l n).1 k).a.toNat).d (nn (rT l n).1 k).d (nn (rT l n).1 k).k = rChild (nn (rT l k).1 (nn l k).a.toNat).d (nn l k).d (nn l k).k := by
        rw [ih, ha, hb, hd]
        show rChild (nn ((rT l n).1.take k) (nn l k).a.toNat).d _ _ = _
        rw [rT_take n h k (by omega)]
        exact rChild_again _ hc
      rw [rT_next h2 h0 (by rw [e]; exact hc), e, ← hd, ih]
theorem rT_treeErr {l : List Node} (h0 : rTreeErr l = 0) {n : Nat} (hn : n = l.length) (h : (rT l n).2 = true) : rTreeErr (rT l n).1 = 0 := by
  obtain ⟨h30, hok⟩ := TreeOk.of h0
  have hl := rT_len n h
  unfold rTreeErr
  rw [if_neg (by omega), hl]
  have key : ∀ k, k < n → nodeErr (rT l n).1 k = 0 := by
    intro k hk
    have hv := (rT_valid hok n (by omega) h _ (nn_mem _ k (by omega))).errs
    obtain ⟨ha, hb, _⟩ := rT_node h hk
    have he := hok k (by omega)
    unfold nodeErr at he ⊢
    rw [ha]
    by_cases k0 : k = 0
    · subst k0
      rw [if_pos rfl] at he ⊢
      rw [ha]
      split at he
      · rename_i h3
        rw [if_pos h3, hv]
      · exact absurd he (by decide)
    · rw [if_neg k0] at he ⊢
      split at he
      · rename_i hw
        rw [if_pos hw]
        obtain ⟨j, hj, hjk⟩ := hok.above (k := k) (by omega) k0
        rw [hj] at he ⊢
        rw [show (rT l n).1 = (rT l n).1 from rfl, (rT_node h (k := (j : Int).toNat) (by simpa using Nat.lt_trans hjk hk)).2.1]
        split at he
        · rename_i hd
          rw [if_pos hd, hv]
        · exact absurd he (by decide)
      · exact absurd he (by decide)
  have : ∀ k, k ≤ n → goE (nodeErr (rT l n).1) k = 0 := by
    intro k
    induction k with
    | zero => intro _; rfl
    | succ k ih =>
      intro hk
      rw [goE_next _ (ih (by omega))]
      exact key k (by omega)
  exact this n (Nat.le_refl _)
theorem stale_self (l : List Node) : ∀ k, stale l l k = []
  | 0 => rfl
  | k + 1 => by
    rw [stale_step, stale_self l k, Desc.same_refl]
    rfl
theorem stale_again {l : List Node} (h0 : rTreeErr l = 0) {n : Nat} (hn : n = l.length) (h : (rT l n).2 = true) : (rT (rT l n).1 n).2 = true ∧ stale (rT l n).1 (rT (rT l n).1 n).1 n = [] := by
  have h1 := rT_again (TreeOk.of h0).2 hn h n (Nat.le_refl _)
  refine ⟨by rw [h1], ?_⟩
  rw [h1]
  show stale (rT l n).1 ((rT l n).1.take n) n = []
  rw [List.take_of_length_le (by rw [rT_len n h]; exact Nat.le_refl _)]
  exact stale_self _ _
end L
end Go.Proofs.YtppjhccdgbheiaaGreatDoor
namespace Go.Proofs.YtppjhccdgbheiaaGreatDoor
open Go.RowKit Go.Hp
namespace L
def comesB (a : Ace) (dir : Bool) (o g : Int) (b : Ace) : Bool :=
  a.k == b.k && (a.m == b.m && ((a.w == b.w || (b.w == 2 && a.w == o) || (b.w == 3 && a.w == g)) && (((has b.f 1 && !dir) || (dir && (has b.f 2 || (has b.f 1 && !has b.f 4)))) && (!(has b.f 4 && (has a.f 1 || has a.f 2)) && !((has a.f 1 || has a.f 2) && !dir)))))
theorem any_step (p : Ace → Bool) (l : List Ace) (k : Nat) (h : k < l.length) : (l.take (k + 1)).any p = ((l.take k).any p || p (ax l k)) := by
  rw [take_succ_ax l k h, List.any_append]
  simp
theorem any_hit (p : Ace → Bool) (l : List Ace) (k : Nat) (h : k < l.length) (hp : p (ax l k) = true) : l.any p = true := by
  rw [List.any_eq_true]
  exact ⟨ax l k, by rw [ax_eq l k h]; exact List.getElem_mem h, hp⟩
end L
set_option maxRecDepth 8000 in
set_option maxHeartbeats 8000000 in
theorem comes_any (a : L.Ace) (dir : Bool) (o g : Int) (p h : Bool) (A A1 A2 : Option Addr) (n n1 n2 c c1 c2 B : Nat) (l : List L.Ace) (w : World) (hA : Aces w B A n l) (hB1 : B ≤ w.heap.size) (hn : n ≤ 100) (hf : 0 ≤ a.f ∧ a.f ≤ 31) (hl : ∀ b ∈ l, 0 ≤ b.f ∧ b.f ≤ 31) :
    Calls Tryz.prog 13 #[.agg #[.int .i64 a.k, .int .i64 a.f, .int .i64 a.m, .int .i64 a.w], .slice A n c, .bool dir, .agg #[.int .i64 o, .int .i64 g, .bool p, .bool h, .slice A1 n1 c1, .slice A2 n2 c2]] w fun e w' => e = .returned (.bool (l.any (L.comesB a dir o g))) ∧ Below w.heap.size w w' := by
  have e1 := Lib.hid hA.len
  have HL := Lib.hid hl
  obtain ⟨va, vb⟩ := hf
  clear hl
  have st := St.start w
  go_enter Tryz.func13, Tryz.ntmps13
  go_wp2_with (refine WL.out ?_; (repeat ((refine WL.op ?_ ?_; (exact rfl); intro K hK; (first | ((((with_reducible apply ow_assign); exact rfl)); (go_simp <;> (try simp (disch := omega) only [wrap_id, sub_left, zac]) <;> rfl)) | ((((with_reducible apply ow_box st); exact rfl; (go_simp <;> (try simp (disch := omega) only [wrap_id, sub_left, zac]) <;> rfl); (go_simp <;> (try simp (disch := omega) only [wrap_id, sub_left, zac]) <;> rfl))); (try clear st); intro b w' st)); refine WL.next hK (by simp only [Act.put, zpt, zsz, zss]; exact rfl) ?_; clear hK K))); (try refine WL.nil ?_))
  rename_i b4 _ _ _
  obtain ⟨b7, rfl⟩ : ∃ x, x = b := ⟨_, rfl⟩
  have st0 := st
  clear st
  go_loopw [9] (fun i wr => ∃ k : Nat, k ≤ n ∧ i = .int .i64 k ∧ Hid ((l.take k).any (L.comesB a dir o g) = false) ∧ St w wr [.box b7 25 [.int .i64 o, .int .i64 g, .bool p, .bool h, .slice A1 n1 c1, .slice A2 n2 c2], .box b4 37 [.int .i64 a.k, .int .i64 a.f, .int .i64 a.m, .int .i64 a.w]]) (fun i _ => n - (intOf i).toNat)
  case atStart => exact ⟨0, Nat.zero_le _, rfl, Lib.hid rfl, st0⟩
  case round =>
    clear st0
    obtain ⟨k, hk, rfl, hg, st⟩ := hrel
    by_cases hlt : k < n
    · have hkl : k < l.length := by rw [← e1.out]; exact hlt
      have hst := Lib.hid (L.any_step (L.comesB a dir o g) l k hkl)
      have hit := Lib.hid (L.any_hit (L.comesB a dir o g) l k hkl)
      have hbf := HL.out (L.ax l k) (by rw [L.ax_eq l k hkl]; exact List.getElem_mem hkl)
      obtain ⟨bb, q, rfl, hb, hc⟩ := hA.at_ (by omega)
      have hb := Nat.lt_of_lt_of_le hb hB1
      obtain ⟨f1, f2, f3, f4⟩ := hc k hlt
      obtain ⟨vc, vd⟩ := hbf
      have hkI : (k : Int) < (n : Int) := by omega
      clear hc hA
      go_upto_region 5 with (refine WL.out ?_; (repeat ((refine WL.op ?_ ?_; (exact rfl); intro K hK; (first | ((((with_reducible apply ow_move); exact rfl)); (go_simp <;> (try simp (disch := omega) only [wrap_id, sub_left, zac]) <;> rfl)) | ((((with_reducible apply ow_alloc st); exact rfl; exact inferInstance; (go_simp <;> (try simp (disch := omega) only [wrap_id, sub_left, zac]) <;> rfl))); (try clear st); intro b w' st) | ((((with_reducible apply ow_storeN' st); exact rfl; exact inferInstance; exact rfl; (exact get0); exact rfl)); exact rfl; exact rfl; (simp <;> done); ((try simp only [zta, ztz, zda, zdz, zca, zcn, zan, zsz, zss]) <;> exact rfl); (try clear st); intro w' st) | ((with_reducible apply ow_old4 st); exact rfl; exact inferInstance; exact rfl; assumption; assumption; assumption; assumption; assumption) | ((with_reducible apply ow_eval); (go_simp <;> (try simp (disch := omega) only [wrap_id, sub_left, zac]) <;> rfl); ((with_reducible apply up_value)))); refine WL.next hK (by simp only [Act.put, zpt, zsz, zss]; exact rfl) ?_; clear hK K))); (try refine WL.nil ?_))
      obtain ⟨b10, rfl⟩ : ∃ x, x = b := ⟨_, rfl⟩
      refine wp_region_plan 6 (by kernel_rfl) (by kernel_rfl) ?_; replace st := st.drew; generalize World.drew _ = W at st ⊢
      iterate 2 (apply Plan.val'; (focus (intro x0 x1 x2 x3 x4 x5 w1 hb; (try simp only [depF, fillA, Act.put, zta, ztz, zpt, zsz, zss, zl0, zls]); (repeat (rintro rfl)); have st := st.call hb; (first | (apply Yphi.run; (exact rfl); (go_simp <;> (try simp (disch := omega) only [wrap_id, sub_left, zac]) <;> rfl); exact rfl) | (apply Yphi.load1 st; exact rfl; exact inferInstance; (exact rfl); exact rfl; (exact get0); exact rfl)))); (simp only [zca, zcn] <;> exact rfl))
      (apply Plan.val'; (focus (intro x0 x1 x2 x3 x4 x5 w1 hb; (try simp only [depF, fillA, Act.put, zta, ztz, zpt, zsz, zss, zl0, zls]); (repeat (rintro rfl)); have st := st.call hb; apply Yphi.call; (exact rfl); (go_simp <;> (try simp (disch := omega) only [wrap_id, sub_left, zac]) <;> rfl); exact rfl; refine (Has_any _ _ _ (by omega) (by omega) (by omega) (by omega)).mono ?_; rintro e w' ⟨rfl, rfl⟩; exact ⟨_, rfl, Below.refl _ _, rfl⟩)); (simp only [zca, zcn] <;> exact rfl))
      iterate 2 (apply Plan.val'; (focus (intro x0 x1 x2 x3 x4 x5 w1 hb; (try simp only [depF, fillA, Act.put, zta, ztz, zpt, zsz, zss, zl0, zls]); (repeat (rintro rfl)); have st := st.call hb; (first | (apply Yphi.run; (exact rfl); (go_simp <;> (try simp (disch := omega) only [wrap_id, sub_left, zac]) <;> rfl); exact rfl) | (apply Yphi.load1 st; exact rfl; exact inferInstance; (exact rfl); exact rfl; (exact get0); exact rfl)))); (simp only [zca, zcn] <;> exact rfl))
      (apply Plan.val'; (focus (intro x0 x1 x2 x3 x4 x5 w1 hb; (try simp only [depF, fillA, Act.put, zta, ztz, zpt, zsz, zss, zl0, zls]); (repeat (rintro rfl)); have st := st.call hb; apply Yphi.call; (exact rfl); (go_simp <;> (try simp (disch := omega) only [wrap_id, sub_left, zac]) <;> rfl); exact rfl; refine (Has_any _ _ _ (by omega) (by omega) (by omega) (by omega)).mono ?_; rintro e w' ⟨rfl, rfl⟩; exact ⟨_, rfl, Below.refl _ _, rfl⟩)); (simp only [zca, zcn] <;> exact rfl))
      intro x0 x1 x2 x3 x4 x5 lo hi w1 hb hap
      rintro rfl rfl rfl rfl rfl rfl
      simp only [allPhi, fillA, Act.put, zta, ztz, zpt, zsz, zss, zda, zdz]
      have st := st.call hb
      clear hap hb
      go_upto_region 7 with (refine WL.out ?_; (repeat ((refine WL.op ?_ ?_; (exact rfl); intro K hK; (first | ((((with_reducible apply ow_assign); exact rfl)); (go_simp <;> (try simp (disch := omega) only [wrap_id, sub_left, zac]) <;> rfl)) | ((((with_reducible apply ow_load1 st); exact rfl; exact inferInstance; exact rfl; (exact get0))); exact rfl) | ((with_reducible apply ow_eval); (go_simp <;> (try simp (disch := omega) only [wrap_id, sub_left, zac]) <;> rfl); first | (with_reducible apply up_value) | ((with_reducible apply up_enter); ((go_at_call 12; refine (Has_any _ _ _ (by omega) (by omega) (by omega) (by omega)).mono ?_; rintro e w' ⟨rfl, rfl⟩; refine ⟨_, rfl, ?_⟩))))); refine WL.next hK (by simp only [Act.put, zpt, zsz, zss]; exact rfl) ?_; clear hK K))); (try refine WL.nil ?_))
      go_cut [14] from 17 to 123 (fun v wx => v = .bool (L.has a.f 1 || L.has a.f 2) ∧ St w wx [.box b10 37 [.int .i64 (L.ax l k).k, .int .i64 (L.ax l k).f, .int .i64 (L.ax l k).m, .int .i64 (L.ax l k).w], .box b7 25 [.int .i64 o, .int .i64 g, .bool p, .bool h, .slice A1 n1 c1, .slice A2 n2 c2], .box b4 37 [.int .i64 a.k, .int .i64 a.f, .int .i64 a.m, .int .i64 a.w]])
      case first =>
        cases ha1 : L.has a.f 1
        · (go_wp2_with (refine WL.out ?_; (repeat ((refine WL.op ?_ ?_; (exact rfl); intro K hK; (first | ((first | ((with_reducible apply ow_move); exact rfl) | ((with_reducible apply ow_assign); exact rfl)); (go_simp <;> (try simp (disch := omega) only [wrap_id, sub_left, zac]) <;> rfl)) | ((((with_reducible apply ow_load1 st); exact rfl; exact inferInstance; exact rfl; (exact get2))); exact rfl) | ((with_reducible apply ow_eval); (go_simp <;> (try simp (disch := omega) only [wrap_id, sub_left, zac]) <;> rfl); first | (with_reducible apply up_value) | ((with_reducible apply up_enter); ((go_at_call 12; refine (Has_any _ _ _ (by omega) (by omega) (by omega) (by omega)).mono ?_; rintro e w' ⟨rfl, rfl⟩; refine ⟨_, rfl, ?_⟩))))); refine WL.next hK (by simp only [Act.put, zpt, zsz, zss]; exact rfl) ?_; clear hK K))); (try refine WL.nil ?_)); go_meet; (case rel => exact ⟨(by (simp [ha1])), st⟩))
        · (go_wp2_with (refine WL.out ?_; (repeat (first | (refine WL.op ?_ ?_; (exact rfl); intro K hK; (first | ((first | ((with_reducible apply ow_move); exact rfl) | ((with_reducible apply ow_assign); exact rfl)); (go_simp <;> (try simp (disch := omega) only [wrap_id, sub_left, zac]) <;> rfl)) | ((((with_reducible apply ow_load1 st); exact rfl; exact inferInstance; exact rfl; (exact get2))); exact rfl) | ((with_reducible apply ow_eval); (go_simp <;> (try simp (disch := omega) only [wrap_id, sub_left, zac]) <;> rfl); first | (with_reducible apply up_value) | ((with_reducible apply up_enter); ((go_at_call 12; refine (Has_any _ _ _ (by omega) (by omega) (by omega) (by omega)).mono ?_; rintro e w' ⟨rfl, rfl⟩; refine ⟨_, rfl, ?_⟩))))); refine WL.next hK (by simp only [Act.put, zpt, zsz, zss]; exact rfl) ?_; clear hK K) | (refine WL.skip ?_ (by simp only [Act.put, zpt, zsz, zss]; exact rfl) ?_; (exact rfl)))); (try refine WL.nil ?_)); go_meet; (case rel => exact ⟨(by (simp [ha1])), st⟩))
      case rest =>
        obtain ⟨rfl, st⟩ := hcut
        go_upto_region 8 with (refine WL.out ?_; (repeat (fail)); (try refine WL.nil ?_))
        go_cut [15] from 17 to 123 (fun v wx => v = .bool (a.w == (L.ax l k).w || ((L.ax l k).w == 2 && a.w == o) || ((L.ax l k).w == 3 && a.w == g)) ∧ St w wx [.box b10 37 [.int .i64 (L.ax l k).k, .int .i64 (L.ax l k).f, .int .i64 (L.ax l k).m, .int .i64 (L.ax l k).w], .box b7 25 [.int .i64 o, .int .i64 g, .bool p, .bool h, .slice A1 n1 c1, .slice A2 n2 c2], .box b4 37 [.int .i64 a.k, .int .i64 a.f, .int .i64 a.m, .int .i64 a.w]])
        case first =>
          cases z1 : (a.w == (L.ax l k).w)
          · cases z2 : ((L.ax l k).w == 2)
            · cases z4 : ((L.ax l k).w == 3)
              · (go_wp2_with (refine WL.out ?_; (repeat (first | (refine WL.op ?_ ?_; (exact rfl); intro K hK; (first | ((first | ((with_reducible apply ow_move); exact rfl) | ((with_reducible apply ow_assign); exact rfl)); (go_simp <;> (try simp (disch := omega) only [wrap_id, sub_left, zac]) <;> rfl)) | ((((with_reducible apply ow_load1 st); exact rfl; exact inferInstance; exact rfl; (first | exact get0 | exact get2))); exact rfl) | ((with_reducible apply ow_eval); (go_simp <;> (try simp (disch := omega) only [wrap_id, sub_left, zac]) <;> rfl); ((with_reducible apply up_value)))); refine WL.next hK (by simp only [Act.put, zpt, zsz, zss]; exact rfl) ?_; clear hK K) | (refine WL.skip ?_ (by simp only [Act.put, zpt, zsz, zss]; exact rfl) ?_; (exact rfl)))); (try refine WL.nil ?_)); go_meet; (case rel => exact ⟨(by (simp [z1, z2, z4])), st⟩))
              · cases z5 : (a.w == g)
                · (go_wp2_with (refine WL.out ?_; (repeat (first | (refine WL.op ?_ ?_; (exact rfl); intro K hK; (first | ((first | ((with_reducible apply ow_move); exact rfl) | ((with_reducible apply ow_assign); exact rfl)); (go_simp <;> (try simp (disch := omega) only [wrap_id, sub_left, zac]) <;> rfl)) | ((((with_reducible apply ow_load1 st); exact rfl; exact inferInstance; exact rfl; (first | exact get0 | exact get1 | exact get2))); exact rfl) | ((with_reducible apply ow_eval); (go_simp <;> (try simp (disch := omega) only [wrap_id, sub_left, zac]) <;> rfl); ((with_reducible apply up_value)))); refine WL.next hK (by simp only [Act.put, zpt, zsz, zss]; exact rfl) ?_; clear hK K) | (refine WL.skip ?_ (by simp only [Act.put, zpt, zsz, zss]; exact rfl) ?_; (exact rfl)))); (try refine WL.nil ?_)); go_meet; (case rel => exact ⟨(by (simp [z1, z2, z4, z5])), st⟩))
                · (go_wp2_with (refine WL.out ?_; (repeat (first | (refine WL.op ?_ ?_; (exact rfl); intro K hK; (first | ((first | ((with_reducible apply ow_move); exact rfl) | ((with_reducible apply ow_assign); exact rfl)); (go_simp <;> (try simp (disch := omega) only [wrap_id, sub_left, zac]) <;> rfl)) | ((((with_reducible apply ow_load1 st); exact rfl; exact inferInstance; exact rfl; (first | exact get0 | exact get1 | exact get2))); exact rfl) | ((with_reducible apply ow_eval); (go_simp <;> (try simp (disch := omega) only [wrap_id, sub_left, zac]) <;> rfl); ((with_reducible apply up_value)))); refine WL.next hK (by simp only [Act.put, zpt, zsz, zss]; exact rfl) ?_; clear hK K) | (refine WL.skip ?_ (by simp only [Act.put, zpt, zsz, zss]; exact rfl) ?_; (exact rfl)))); (try refine WL.nil ?_)); go_meet; (case rel => exact ⟨(by (simp [z1, z2, z4, z5])), st⟩))
            · cases z3 : (a.w == o)
              · cases z4 : ((L.ax l k).w == 3)
                · (go_wp2_with (refine WL.out ?_; (repeat (first | (refine WL.op ?_ ?_; (exact rfl); intro K hK; (first | ((first | ((with_reducible apply ow_move); exact rfl) | ((with_reducible apply ow_assign); exact rfl)); (go_simp <;> (try simp (disch := omega) only [wrap_id, sub_left, zac]) <;> rfl)) | ((((with_reducible apply ow_load1 st); exact rfl; exact inferInstance; exact rfl; (first | exact get0 | exact get1 | exact get2))); exact rfl) | ((with_reducible apply ow_eval); (go_simp <;> (try simp (disch := omega) only [wrap_id, sub_left, zac]) <;> rfl); ((with_reducible apply up_value)))); refine WL.next hK (by simp only [Act.put, zpt, zsz, zss]; exact rfl) ?_; clear hK K) | (refine WL.skip ?_ (by simp only [Act.put, zpt, zsz, zss]; exact rfl) ?_; (exact rfl)))); (try refine WL.nil ?_)); go_meet; (case rel => exact ⟨(by (simp [z1, z2, z3, z4])), st⟩))
                · cases z5 : (a.w == g)
                  · (go_wp2_with (refine WL.out ?_; (repeat ((refine WL.op ?_ ?_; (exact rfl); intro K hK; (first | ((first | ((with_reducible apply ow_move); exact rfl) | ((with_reducible apply ow_assign); exact rfl)); (go_simp <;> (try simp (disch := omega) only [wrap_id, sub_left, zac]) <;> rfl)) | ((((with_reducible apply ow_load1 st); exact rfl; exact inferInstance; exact rfl; (first | exact get0 | exact get1 | exact get2))); exact rfl) | ((with_reducible apply ow_eval); (go_simp <;> (try simp (disch := omega) only [wrap_id, sub_left, zac]) <;> rfl); ((with_reducible apply up_value)))); refine WL.next hK (by simp only [Act.put, zpt, zsz, zss]; exact rfl) ?_; clear hK K))); (try refine WL.nil ?_)); go_meet; (case rel => exact ⟨(by (simp [z1, z2, z3, z4, z5])), st⟩))
                  · (go_wp2_with (refine WL.out ?_; (repeat ((refine WL.op ?_ ?_; (exact rfl); intro K hK; (first | ((first | ((with_reducible apply ow_move); exact rfl) | ((with_reducible apply ow_assign); exact rfl)); (go_simp <;> (try simp (disch := omega) only [wrap_id, sub_left, zac]) <;> rfl)) | ((((with_reducible apply ow_load1 st); exact rfl; exact inferInstance; exact rfl; (first | exact get0 | exact get1 | exact get2))); exact rfl) | ((with_reducible apply ow_eval); (go_simp <;> (try simp (disch := omega) only [wrap_id, sub_left, zac]) <;> rfl); ((with_reducible apply up_value)))); refine WL.next hK (by simp only [Act.put, zpt, zsz, zss]; exact rfl) ?_; clear hK K))); (try refine WL.nil ?_)); go_meet; (case rel => exact ⟨(by (simp [z1, z2, z3, z4, z5])), st⟩))
              · (go_wp2_with (refine WL.out ?_; (repeat (first | (refine WL.op ?_ ?_; (exact rfl); intro K hK; (first | ((first | ((with_reducible apply ow_move); exact rfl) | ((with_reducible apply ow_assign); exact rfl)); (go_simp <;> (try simp (disch := omega) only [wrap_id, sub_left, zac]) <;> rfl)) | ((((with_reducible apply ow_load1 st); exact rfl; exact inferInstance; exact rfl; (first | exact get0 | exact get1 | exact get2))); exact rfl) | ((with_reducible apply ow_eval); (go_simp <;> (try simp (disch := omega) only [wrap_id, sub_left, zac]) <;> rfl); ((with_reducible apply up_value)))); refine WL.next hK (by simp only [Act.put, zpt, zsz, zss]; exact rfl) ?_; clear hK K) | (refine WL.skip ?_ (by simp only [Act.put, zpt, zsz, zss]; exact rfl) ?_; (exact rfl)))); (try refine WL.nil ?_)); go_meet; (case rel => exact ⟨(by (simp [z1, z2, z3])), st⟩))
          · (go_wp2_with (refine WL.out ?_; (repeat (first | (refine WL.op ?_ ?_; (exact rfl); intro K hK; (first | ((first | ((with_reducible apply ow_move); exact rfl) | ((with_reducible apply ow_assign); exact rfl)); (go_simp <;> (try simp (disch := omega) only [wrap_id, sub_left, zac]) <;> rfl)) | ((((with_reducible apply ow_load1 st); exact rfl; exact inferInstance; exact rfl; (first | exact get0 | exact get2))); exact rfl) | ((with_reducible apply ow_eval); (go_simp <;> (try simp (disch := omega) only [wrap_id, sub_left, zac]) <;> rfl); ((with_reducible apply up_value)))); refine WL.next hK (by simp only [Act.put, zpt, zsz, zss]; exact rfl) ?_; clear hK K) | (refine WL.skip ?_ (by simp only [Act.put, zpt, zsz, zss]; exact rfl) ?_; (exact rfl)))); (try refine WL.nil ?_)); go_meet; (case rel => exact ⟨(by (simp [z1])), st⟩))
        case rest =>
          obtain ⟨rfl, st⟩ := hcut
          go_upto_region 9 with (refine WL.out ?_; (repeat (fail)); (try refine WL.nil ?_))
          go_cut [11, 12, 13, 16] from 17 to 123 (fun v11 v12 v13 v wx => v11 = .bool (L.has (L.ax l k).f 1) ∧ v12 = .bool (L.has (L.ax l k).f 2) ∧ v13 = .bool (L.has (L.ax l k).f 4) ∧ v = .bool ((L.has (L.ax l k).f 1 && !dir) || (dir && (L.has (L.ax l k).f 2 || (L.has (L.ax l k).f 1 && !L.has (L.ax l k).f 4)))) ∧ St w wx [.box b10 37 [.int .i64 (L.ax l k).k, .int .i64 (L.ax l k).f, .int .i64 (L.ax l k).m, .int .i64 (L.ax l k).w], .box b7 25 [.int .i64 o, .int .i64 g, .bool p, .bool h, .slice A1 n1 c1, .slice A2 n2 c2], .box b4 37 [.int .i64 a.k, .int .i64 a.f, .int .i64 a.m, .int .i64 a.w]])
          case first =>
            cases dir with
            | false =>
              cases z1 : L.has (L.ax l k).f 1
              · (go_wp2_with (refine WL.out ?_; (repeat (fail)); (try refine WL.nil ?_)); go_meet; (case rel => exact ⟨(by (simp [z1])), (by (rfl)), (by (rfl)), (by (simp [z1])), st⟩))
              · (go_wp2_with (refine WL.out ?_; (repeat (first | (refine WL.op ?_ ?_; (exact rfl); intro K hK; (first | ((first | ((with_reducible apply ow_move); exact rfl) | ((with_reducible apply ow_assign); exact rfl)); (go_simp <;> (try simp (disch := omega) only [wrap_id, sub_left, zac]) <;> rfl)) | ((with_reducible apply ow_eval); (go_simp <;> (try simp (disch := omega) only [wrap_id, sub_left, zac]) <;> rfl); ((with_reducible apply up_value)))); refine WL.next hK (by simp only [Act.put, zpt, zsz, zss]; exact rfl) ?_; clear hK K) | (refine WL.skip ?_ (by simp only [Act.put, zpt, zsz, zss]; exact rfl) ?_; (exact rfl)))); (try refine WL.nil ?_)); go_meet; (case rel => exact ⟨(by (simp [z1])), (by (rfl)), (by (rfl)), (by (simp [z1])), st⟩))
            | true =>
              cases z1 : L.has (L.ax l k).f 1
              · cases z2 : L.has (L.ax l k).f 2
                · (go_wp2_with (refine WL.out ?_; (repeat (fail)); (try refine WL.nil ?_)); go_meet; (case rel => exact ⟨(by (simp [z1, z2])), (by (simp [z1, z2])), (by (rfl)), (by (simp [z1, z2])), st⟩))
                · (go_wp2_with (refine WL.out ?_; (repeat (fail)); (try refine WL.nil ?_)); go_meet; (case rel => exact ⟨(by (simp [z1, z2])), (by (simp [z1, z2])), (by (rfl)), (by (simp [z1, z2])), st⟩))
              · cases z2 : L.has (L.ax l k).f 2
                · cases z4 : L.has (L.ax l k).f 4
                  · (go_wp2_with (refine WL.out ?_; (repeat ((refine WL.op ?_ ?_; (exact rfl); intro K hK; (first | ((first | ((with_reducible apply ow_move); exact rfl) | ((with_reducible apply ow_assign); exact rfl)); (go_simp <;> (try simp (disch := omega) only [wrap_id, sub_left, zac]) <;> rfl)) | ((with_reducible apply ow_eval); (go_simp <;> (try simp (disch := omega) only [wrap_id, sub_left, zac]) <;> rfl); ((with_reducible apply up_value)))); refine WL.next hK (by simp only [Act.put, zpt, zsz, zss]; exact rfl) ?_; clear hK K))); (try refine WL.nil ?_)); go_meet; (case rel => exact ⟨(by (simp [z1, z2, z4])), (by (simp [z1, z2, z4])), (by (simp [z1, z2, z4])), (by (simp [z1, z2, z4])), st⟩))
                  · (go_wp2_with (refine WL.out ?_; (repeat ((refine WL.op ?_ ?_; (exact rfl); intro K hK; (first | ((first | ((with_reducible apply ow_move); exact rfl) | ((with_reducible apply ow_assign); exact rfl)); (go_simp <;> (try simp (disch := omega) only [wrap_id, sub_left, zac]) <;> rfl)) | ((with_reducible apply ow_eval); (go_simp <;> (try simp (disch := omega) only [wrap_id, sub_left, zac]) <;> rfl); ((with_reducible apply up_value)))); refine WL.next hK (by simp only [Act.put, zpt, zsz, zss]; exact rfl) ?_; clear hK K))); (try refine WL.nil ?_)); go_meet; (case rel => exact ⟨(by (simp [z1, z2, z4])), (by (simp [z1, z2, z4])), (by (simp [z1, z2, z4])), (by (simp [z1, z2, z4])), st⟩))
                · (go_wp2_with (refine WL.out ?_; (repeat (first | (refine WL.op ?_ ?_; (exact rfl); intro K hK; (first | ((first | ((with_reducible apply ow_move); exact rfl) | ((with_reducible apply ow_assign); exact rfl)); (go_simp <;> (try simp (disch := omega) only [wrap_id, sub_left, zac]) <;> rfl)) | ((with_reducible apply ow_eval); (go_simp <;> (try simp (disch := omega) only [wrap_id, sub_left, zac]) <;> rfl); ((with_reducible apply up_value)))); refine WL.next hK (by simp only [Act.put, zpt, zsz, zss]; exact rfl) ?_; clear hK K) | (refine WL.skip ?_ (by simp only [Act.put, zpt, zsz, zss]; exact rfl) ?_; (exact rfl)))); (try refine WL.nil ?_)); go_meet; (case rel => exact ⟨(by (simp [z1, z2])), (by (simp [z1, z2])), (by (rfl)), (by (simp [z1, z2])), st⟩))
          case rest =>
            obtain ⟨rfl, rfl, rfl, rfl, st⟩ := hcut
            cases z1 : (a.k == (L.ax l k).k)
            · have hp : L.comesB a dir o g (L.ax l k) = false := by unfold L.comesB; rw [z1]; first | done | rfl
              have hnx : Hid ((l.take (k + 1)).any (L.comesB a dir o g) = false) := Lib.hid (by rw [hst.out, hg.out, hp]; (rfl))
              clear hst hit hg hp
              go_wp2_with (refine WL.out ?_; (repeat (first | (refine WL.op ?_ ?_; (exact rfl); intro K hK; (first | ((first | ((with_reducible apply ow_move); exact rfl) | ((with_reducible apply ow_assign); exact rfl)); (go_simp <;> (try simp (disch := omega) only [wrap_id, sub_left, zac]) <;> rfl)) | ((((with_reducible apply ow_load1 st); exact rfl; exact inferInstance; exact rfl; (first | exact get0 | exact get2))); exact rfl) | ((with_reducible apply ow_eval); (go_simp <;> (try simp (disch := omega) only [wrap_id, sub_left, zac]) <;> rfl); ((with_reducible apply up_value)))); refine WL.next hK (by simp only [Act.put, zpt, zsz, zss]; exact rfl) ?_; clear hK K) | (refine WL.skip ?_ (by simp only [Act.put, zpt, zsz, zss]; exact rfl) ?_; (exact rfl)))); (try refine WL.nil ?_))
              go_roundw
              case rel => exact ⟨k + 1, by omega, (by (rfl)), hnx, st.tail⟩
              case measure => simp [intOf]; omega
            · cases z2 : (a.m == (L.ax l k).m)
              · have hp : L.comesB a dir o g (L.ax l k) = false := by unfold L.comesB; rw [z1, z2]; first | done | rfl
                have hnx : Hid ((l.take (k + 1)).any (L.comesB a dir o g) = false) := Lib.hid (by rw [hst.out, hg.out, hp]; (rfl))
                clear hst hit hg hp
                go_wp2_with (refine WL.out ?_; (repeat (first | (refine WL.op ?_ ?_; (exact rfl); intro K hK; (first | ((first | ((with_reducible apply ow_move); exact rfl) | ((with_reducible apply ow_assign); exact rfl)); (go_simp <;> (try simp (disch := omega) only [wrap_id, sub_left, zac]) <;> rfl)) | ((((with_reducible apply ow_load1 st); exact rfl; exact inferInstance; exact rfl; (first | exact get0 | exact get2))); exact rfl) | ((with_reducible apply ow_eval); (go_simp <;> (try simp (disch := omega) only [wrap_id, sub_left, zac]) <;> rfl); ((with_reducible apply up_value)))); refine WL.next hK (by simp only [Act.put, zpt, zsz, zss]; exact rfl) ?_; clear hK K) | (refine WL.skip ?_ (by simp only [Act.put, zpt, zsz, zss]; exact rfl) ?_; (exact rfl)))); (try refine WL.nil ?_))
                go_roundw
                case rel => exact ⟨k + 1, by omega, (by (rfl)), hnx, st.tail⟩
                case measure => simp [intOf]; omega
              · cases z3 : (a.w == (L.ax l k).w || ((L.ax l k).w == 2 && a.w == o) || ((L.ax l k).w == 3 && a.w == g))
                · have hp : L.comesB a dir o g (L.ax l k) = false := by unfold L.comesB; rw [z1, z2, z3]; first | done | rfl
                  clear z3
                  have hnx : Hid ((l.take (k + 1)).any (L.comesB a dir o g) = false) := Lib.hid (by rw [hst.out, hg.out, hp]; (rfl))
                  clear hst hit hg hp
                  go_wp2_with (refine WL.out ?_; (repeat (first | (refine WL.op ?_ ?_; (exact rfl); intro K hK; (first | ((first | ((with_reducible apply ow_move); exact rfl) | ((with_reducible apply ow_assign); exact rfl)); (go_simp <;> (try simp (disch := omega) only [wrap_id, sub_left, zac]) <;> rfl)) | ((((with_reducible apply ow_load1 st); exact rfl; exact inferInstance; exact rfl; (first | exact get0 | exact get2))); exact rfl) | ((with_reducible apply ow_eval); (go_simp <;> (try simp (disch := omega) only [wrap_id, sub_left, zac]) <;> rfl); ((with_reducible apply up_value)))); refine WL.next hK (by simp only [Act.put, zpt, zsz, zss]; exact rfl) ?_; clear hK K) | (refine WL.skip ?_ (by simp only [Act.put, zpt, zsz, zss]; exact rfl) ?_; (exact rfl)))); (try refine WL.nil ?_))
                  go_roundw
                  case rel => exact ⟨k + 1, by omega, (by (rfl)), hnx, st.tail⟩
                  case measure => simp [intOf]; omega
                · cases z4 : ((L.has (L.ax l k).f 1 && !dir) || (dir && (L.has (L.ax l k).f 2 || (L.has (L.ax l k).f 1 && !L.has (L.ax l k).f 4))))
                  · have hp : L.comesB a dir o g (L.ax l k) = false := by unfold L.comesB; rw [z1, z2, z3, z4]; first | done | rfl
                    clear z4 z3
                    have hnx : Hid ((l.take (k + 1)).any (L.comesB a dir o g) = false) := Lib.hid (by rw [hst.out, hg.out, hp]; (rfl))
                    clear hst hit hg hp
                    go_wp2_with (refine WL.out ?_; (repeat (first | (refine WL.op ?_ ?_; (exact rfl); intro K hK; (first | ((first | ((with_reducible apply ow_move); exact rfl) | ((with_reducible apply ow_assign); exact rfl)); (go_simp <;> (try simp (disch := omega) only [wrap_id, sub_left, zac]) <;> rfl)) | ((((with_reducible apply ow_load1 st); exact rfl; exact inferInstance; exact rfl; (first | exact get0 | exact get2))); exact rfl) | ((with_reducible apply ow_eval); (go_simp <;> (try simp (disch := omega) only [wrap_id, sub_left, zac]) <;> rfl); ((with_reducible apply up_value)))); refine WL.next hK (by simp only [Act.put, zpt, zsz, zss]; exact rfl) ?_; clear hK K) | (refine WL.skip ?_ (by simp only [Act.put, zpt, zsz, zss]; exact rfl) ?_; (exact rfl)))); (try refine WL.nil ?_))
                    go_roundw
                    case rel => exact ⟨k + 1, by omega, (by (rfl)), hnx, st.tail⟩
                    case measure => simp [intOf]; omega
                  · cases z5 : L.has (L.ax l k).f 4
                    · cases z6 : (L.has a.f 1 || L.has a.f 2)
                      · have hp : L.comesB a dir o g (L.ax l k) = true := by unfold L.comesB; rw [z1, z2, z3, z4, z5, z6]; first | done | rfl
                        clear z6 z5 z4 z3
                        have hrt := Lib.hid (hit.out hp)
                        clear hst hit hg hp
                        go_wp2_with (refine WL.out ?_; (repeat (first | (refine WL.op ?_ ?_; (exact rfl); intro K hK; (first | ((((with_reducible apply ow_move); exact rfl)); (go_simp <;> (try simp (disch := omega) only [wrap_id, sub_left, zac]) <;> rfl)) | ((((with_reducible apply ow_load1 st); exact rfl; exact inferInstance; exact rfl; (first | exact get0 | exact get2))); exact rfl) | ((with_reducible apply ow_eval); (go_simp <;> (try simp (disch := omega) only [wrap_id, sub_left, zac]) <;> rfl); ((with_reducible apply up_value)))); refine WL.next hK (by simp only [Act.put, zpt, zsz, zss]; exact rfl) ?_; clear hK K) | (refine WL.skip ?_ (by simp only [Act.put, zpt, zsz, zss]; exact rfl) ?_; (exact rfl)))); (try refine WL.nil ?_))
                        go_ret
                        exact ⟨ret_bool hrt.out.symm, st.below⟩
                      · cases dir with
                        | false =>
                          have hp : L.comesB a false o g (L.ax l k) = false := by unfold L.comesB; rw [z1, z2, z3, z4, z5, z6]; first | done | rfl
                          clear z6 z5 z4 z3
                          have hnx : Hid ((l.take (k + 1)).any (L.comesB a false o g) = false) := Lib.hid (by rw [hst.out, hg.out, hp]; (rfl))
                          clear hst hit hg hp
                          go_wp2_with (refine WL.out ?_; (repeat (first | (refine WL.op ?_ ?_; (exact rfl); intro K hK; (first | ((first | ((with_reducible apply ow_move); exact rfl) | ((with_reducible apply ow_assign); exact rfl)); (go_simp <;> (try simp (disch := omega) only [wrap_id, sub_left, zac]) <;> rfl)) | ((((with_reducible apply ow_load1 st); exact rfl; exact inferInstance; exact rfl; (first | exact get0 | exact get2))); exact rfl) | ((with_reducible apply ow_eval); (go_simp <;> (try simp (disch := omega) only [wrap_id, sub_left, zac]) <;> rfl); ((with_reducible apply up_value)))); refine WL.next hK (by simp only [Act.put, zpt, zsz, zss]; exact rfl) ?_; clear hK K) | (refine WL.skip ?_ (by simp only [Act.put, zpt, zsz, zss]; exact rfl) ?_; (exact rfl)))); (try refine WL.nil ?_))
                          go_roundw
                          case rel => exact ⟨k + 1, by omega, (by (rfl)), hnx, st.tail⟩
                          case measure => simp [intOf]; omega
                        | true =>
                          have hp : L.comesB a true o g (L.ax l k) = true := by unfold L.comesB; rw [z1, z2, z3, z4, z5, z6]; first | done | rfl
                          clear z6 z5 z4 z3
                          have hrt := Lib.hid (hit.out hp)
                          clear hst hit hg hp
                          go_wp2_with (refine WL.out ?_; (repeat (first | (refine WL.op ?_ ?_; (exact rfl); intro K hK; (first | ((((with_reducible apply ow_move); exact rfl)); (go_simp <;> (try simp (disch := omega) only [wrap_id, sub_left, zac]) <;> rfl)) | ((((with_reducible apply ow_load1 st); exact rfl; exact inferInstance; exact rfl; (first | exact get0 | exact get2))); exact rfl) | ((with_reducible apply ow_eval); (go_simp <;> (try simp (disch := omega) only [wrap_id, sub_left, zac]) <;> rfl); ((with_reducible apply up_value)))); refine WL.next hK (by simp only [Act.put, zpt, zsz, zss]; exact rfl) ?_; clear hK K) | (refine WL.skip ?_ (by simp only [Act.put, zpt, zsz, zss]; exact rfl) ?_; (exact rfl)))); (try refine WL.nil ?_))
                          go_ret
                          exact ⟨ret_bool hrt.out.symm, st.below⟩
                    · cases z6 : (L.has a.f 1 || L.has a.f 2)
                      · have hp : L.comesB a dir o g (L.ax l k) = true := by unfold L.comesB; rw [z1, z2, z3, z4, z5, z6]; first | done | rfl
                        clear z6 z5 z4 z3
                        have hrt := Lib.hid (hit.out hp)
                        clear hst hit hg hp
                        go_wp2_with (refine WL.out ?_; (repeat (first | (refine WL.op ?_ ?_; (exact rfl); intro K hK; (first | ((((with_reducible apply ow_move); exact rfl)); (go_simp <;> (try simp (disch := omega) only [wrap_id, sub_left, zac]) <;> rfl)) | ((((with_reducible apply ow_load1 st); exact rfl; exact inferInstance; exact rfl; (first | exact get0 | exact get2))); exact rfl) | ((with_reducible apply ow_eval); (go_simp <;> (try simp (disch := omega) only [wrap_id, sub_left, zac]) <;> rfl); ((with_reducible apply up_value)))); refine WL.next hK (by simp only [Act.put, zpt, zsz, zss]; exact rfl) ?_; clear hK K) | (refine WL.skip ?_ (by simp only [Act.put, zpt, zsz, zss]; exact rfl) ?_; (exact rfl)))); (try refine WL.nil ?_))
                        go_ret
                        exact ⟨ret_bool hrt.out.symm, st.below⟩
                      · have hp : L.comesB a dir o g (L.ax l k) = false := by unfold L.comesB; rw [z1, z2, z3, z4, z5, z6]; first | done | rfl
                        clear z6 z5 z4 z3
                        have hnx : Hid ((l.take (k + 1)).any (L.comesB a dir o g) = false) := Lib.hid (by rw [hst.out, hg.out, hp]; (rfl))
                        clear hst hit hg hp
                        go_wp2_with (refine WL.out ?_; (repeat (first | (refine WL.op ?_ ?_; (exact rfl); intro K hK; (first | ((first | ((with_reducible apply ow_move); exact rfl) | ((with_reducible apply ow_assign); exact rfl)); (go_simp <;> (try simp (disch := omega) only [wrap_id, sub_left, zac]) <;> rfl)) | ((((with_reducible apply ow_load1 st); exact rfl; exact inferInstance; exact rfl; (first | exact get0 | exact get2))); exact rfl) | ((with_reducible apply ow_eval); (go_simp <;> (try simp (disch := omega) only [wrap_id, sub_left, zac]) <;> rfl); ((with_reducible apply up_value)))); refine WL.next hK (by simp only [Act.put, zpt, zsz, zss]; exact rfl) ?_; clear hK K) | (refine WL.skip ?_ (by simp only [Act.put, zpt, zsz, zss]; exact rfl) ?_; (exact rfl)))); (try refine WL.nil ?_))
                        go_roundw
                        case rel => exact ⟨k + 1, by omega, (by (rfl)), hnx, st.tail⟩
                        case measure => simp [intOf]; omega
    · obtain rfl : k = n := by omega
      clear hA
      go_wp2
      go_ret
      exact ⟨ret_bool (by rw [← hg.out, List.take_of_length_le (by rw [← e1.out]; exact Nat.le_refl _)]), st.below⟩
end Go.Proofs.YtppjhccdgbheiaaGreatDoor
namespace Go.Proofs.YtppjhccdgbheiaaGreatDoor
open Go.RowKit Go.Hp
namespace L
theorem whoB {o g : Int} {b : Ace} {x : Int} (h : x = holder b.w o g ∨ x = b.w) : (x == b.w || (b.w == 2 && x == o) || (b.w == 3 && x == g)) = true := by
  rcases h with h | h
  · subst h
    unfold holder
    split
    · rename_i h2
      simp [h2]
    · split
      · rename_i h3
        simp [h3]
      · simp
  · subst h
    simp
theorem has16z (n : Int) (h : n = 16) : has n 1 = false ∧ has n 2 = false := by subst h; decide
theorem comes_inherit {dir : Bool} {o g : Int} {a b : Ace} (h : a ∈ rInherit dir o g b) : comesB a dir o g b = true := by
  unfold rInherit at h
  generalize hfi : has b.f 1 = fi at h
  generalize hdi : has b.f 2 = di at h
  generalize hsp : has b.f 4 = sp at h
  have key : ∀ (x : Ace), x.k = b.k → x.m = b.m → (x.w = holder b.w o g ∨ x.w = b.w) → ((fi && !dir) || (dir && (di || (fi && !sp)))) = true → (sp && (has x.f 1 || has x.f 2)) = false → ((has x.f 1 || has x.f 2) && !dir) = false → comesB x dir o g b = true := by
    intro x h1 h2 h3 h4 h5 h6
    unfold comesB
    rw [hfi, hdi, hsp, whoB h3, h4, h5, h6, h1, h2]
    simp
  have z16 := has16z 16 rfl
  cases dir with
  | false =>
    cases fi with
    | false => cases di <;> cases h
    | true =>
      have h2 : a = ⟨b.k, 16, b.m, holder b.w o g⟩ := by cases di <;> exact List.mem_singleton.1 h
      subst h2
      refine key _ rfl rfl (.inl rfl) (by cases di <;> rfl) ?_ ?_
      · show (sp && (has 16 1 || has 16 2)) = false
        rw [z16.1, z16.2]; cases sp <;> rfl
      · show ((has 16 1 || has 16 2) && !false) = false
        rw [z16.1, z16.2]; rfl
  | true =>
    cases di with
    | false =>
      cases fi with
      | false => cases sp <;> cases h
      | true =>
        cases sp with
        | true => cases h
        | false =>
          have h2 : a = ⟨b.k, 25, b.m, b.w⟩ := List.mem_singleton.1 h
          subst h2
          refine key _ rfl rfl (.inr rfl) rfl rfl ?_
          show ((has 25 1 || has 25 2) && !true) = false
          cases (has 25 1 || has 25 2) <;> rfl
    | true =>
      have hon : ∀ x : Ace, sp = true → x.f = 16 → (sp && (has x.f 1 || has x.f 2)) = false := fun x hs hx => by
        rw [hx, z16.1, z16.2, hs]; rfl
      have hsf : ∀ x : Ace, sp = false → (sp && (has x.f 1 || has x.f 2)) = false := fun x hs => by rw [hs]; rfl
      have hd : ∀ x : Ace, ((has x.f 1 || has x.f 2) && !true) = false := fun x => by cases (has x.f 1 || has x.f 2) <;> rfl
      have hr : ((fi && !true) || (true && (true || (fi && !sp)))) = true := by cases fi <;> cases sp <;> rfl
      have hz : sp = true → onOf fi true sp = 0 := fun hs => by rw [hs]; cases fi <;> rfl
      unfold inh1 at h
      simp only at h
      split at h
      · have h2 := List.mem_singleton.1 h
        subst h2
        refine key _ rfl rfl (.inl rfl) hr ?_ (hd _)
        rcases Bool.eq_false_or_eq_true sp with hs | hs
        · exact hon _ hs (by show (16 : Int) + onOf fi true sp = 16; rw [hz hs]; rfl)
        · exact hsf _ hs
      · rename_i hne
        rcases List.mem_cons.1 h with h2 | h2
        · subst h2
          refine key _ rfl rfl (.inl rfl) hr ?_ (hd _)
          rcases Bool.eq_false_or_eq_true sp with hs | hs
          · exact hon _ hs rfl
          · exact hsf _ hs
        · have h3 := List.mem_singleton.1 h2
          subst h3
          refine key _ rfl rfl (.inr rfl) hr ?_ (hd _)
          rcases Bool.eq_false_or_eq_true sp with hs | hs
          · exact absurd (.inr (hz hs)) hne
          · exact hsf _ hs
theorem comes_child {above own : Desc} {dir : Bool} (hok : (rChild above own dir).2 = true) {a : Ace} (ha : a ∈ (rChild above own dir).1.e) (h16 : has a.f 16 = true) :
    (rChild above own dir).1.p = false ∧ above.e.any (comesB a dir (rChild above own dir).1.o (rChild above own dir).1.g) = true := by
  unfold rChild at hok ha ⊢
  split at hok
  · rename_i hc
    rw [if_pos hc] at ha ⊢
    have ha2 : a ∈ rBelow dir own.o own.g own.p own.e above.e := canon_mem.1 ha
    unfold rBelow at ha2
    rcases List.mem_append.1 ha2 with h | h
    · have h2 := (List.mem_filter.1 h).2
      rw [h16] at h2
      cases h2
    · cases hp : own.p with
      | true => rw [hp, if_pos rfl] at h; cases h
      | false =>
        rw [hp] at h
        obtain ⟨b, hb, hx⟩ := List.mem_flatMap.1 (show a ∈ above.e.flatMap (rInherit dir own.o own.g) from h)
        exact ⟨rfl, List.any_eq_true.2 ⟨b, hb, comes_inherit hx⟩⟩
  · cases hok
theorem child_prot {above above' own : Desc} {dir : Bool} (hok : (rChild above own dir).2 = true) (hok' : (rChild above' own dir).2 = true) (hp : own.p = true) : (rChild above own dir).1 = (rChild above' own dir).1 := by
  unfold rChild at hok hok' ⊢
  split at hok
  · rename_i hc
    split at hok'
    · rename_i hc'
      rw [if_pos hc, if_pos hc']
      unfold rBelow
      rw [hp]
      simp
    · cases hok'
  · cases hok
theorem child_p {above own : Desc} {dir : Bool} (hok : (rChild above own dir).2 = true) : (rChild above own dir).1.p = own.p := by
  unfold rChild at hok ⊢
  split at hok
  · rename_i hc
    rw [if_pos hc]
  · cases hok
theorem reach_node {l : List Node} (h0 : rTreeErr l = 0) {n k j : Nat} (hn : n = l.length) (h : (rT l n).2 = true) (hk : k < n) (k0 : k ≠ 0) (hj : (nn l k).a = (j : Int)) (hjk : j < k) {a : Ace} (ha : a ∈ (nn (rT l n).1 k).d.e) (h16 : has a.f 16 = true) :
    (nn (rT l n).1 k).d.p = false ∧ (nn (rT l n).1 j).d.e.any (comesB a (nn (rT l n).1 k).k (nn (rT l n).1 k).d.o (nn (rT l n).1 k).d.g) = true := by
  obtain ⟨_, hb, hd⟩ := rT_node h hk
  obtain ⟨hc, hd⟩ := hd k0
  rw [hd] at ha
  have key := comes_child hc ha h16
  rw [hb, hd]
  have e : nn (rT l k).1 (nn l k).a.toNat = nn (rT l n).1 j := by
    rw [hj, ← rT_take n h k (by omega)]
    exact nn_take _ _ _ hjk
  rw [e] at key ⊢
  exact key
def reroot (l : List Node) (root : Desc) : List Node := l.set 0 ⟨(nn l 0).a, (nn l 0).k, root⟩
theorem reroot_len (l : List Node) (root : Desc) : (reroot l root).length = l.length := by unfold reroot; rw [List.length_set]
theorem reroot_other (l : List Node) (root : Desc) (k : Nat) (hk : k ≠ 0) : nn (reroot l root) k = nn l k := by
  unfold reroot nn
  rw [List.getElem?_set_ne (Ne.symm hk)]
theorem reroot_zero (l : List Node) (root : Desc) (h : 0 < l.length) : nn (reroot l root) 0 = ⟨(nn l 0).a, (nn l 0).k, root⟩ := by
  unfold reroot
  have : (l.set 0 ⟨(nn l 0).a, (nn l 0).k, root⟩)[0]? = some ⟨(nn l 0).a, (nn l 0).k, root⟩ := by rw [List.getElem?_set_self h]
  unfold nn at this ⊢
  rw [this]
  rfl
theorem reroot_k (l : List Node) (root : Desc) (h : 0 < l.length) (j : Nat) : (nn (reroot l root) j).k = (nn l j).k := by
  by_cases hj : j = 0
  · subst hj; rw [reroot_zero l root h]
  · rw [reroot_other l root j hj]
theorem reroot_err {l : List Node} (h0 : rTreeErr l = 0) (hl : 0 < l.length) {root : Desc} (hr : root.rErrs.2 = 0) : rTreeErr (reroot l root) = 0 := by
  obtain ⟨h30, hok⟩ := TreeOk.of h0
  unfold rTreeErr
  rw [if_neg (by rw [reroot_len]; omega), reroot_len]
  have key : ∀ k, k < l.length → nodeErr (reroot l root) k = 0 := by
    intro k hk
    have he := hok k hk
    unfold nodeErr at he ⊢
    by_cases k0 : k = 0
    · subst k0
      rw [if_pos rfl] at he ⊢
      rw [reroot_zero l root hl]
      split at he
      · rename_i h3
        rw [if_pos h3]
        exact hr
      · exact absurd he (by decide)
    · rw [if_neg k0] at he ⊢
      rw [reroot_other l root k k0, reroot_k l root hl]
      exact he
  have : ∀ k, k ≤ l.length → goE (nodeErr (reroot l root)) k = 0 := by
    intro k
    induction k with
    | zero => intro _; rfl
    | succ k ih =>
      intro hk
      rw [goE_next _ (ih (by omega))]
      exact key k (by omega)
  exact this _ (Nat.le_refl _)
theorem reroot_same {l : List Node} {root : Desc} {n k : Nat} (h : (rT l n).2 = true) (h' : (rT (reroot l root) n).2 = true) (hk : k < n) (k0 : k ≠ 0) (hp : (nn (rT l n).1 k).d.p = true) : (nn (rT (reroot l root) n).1 k).d = (nn (rT l n).1 k).d := by
  obtain ⟨_, _, hd⟩ := rT_node h hk
  obtain ⟨_, _, hd'⟩ := rT_node h' hk
  obtain ⟨hc, hd⟩ := hd k0
  obtain ⟨hc', hd'⟩ := hd' k0
  rw [reroot_other l root k k0] at hc' hd'
  rw [hd] at hp ⊢
  rw [hd']
  rw [child_p hc] at hp
  exact child_prot hc' hc hp
end L
end Go.Proofs.YtppjhccdgbheiaaGreatDoor
namespace Go.Proofs.YtppjhccdgbheiaaGreatDoor
open Go.RowKit Go.Hp
theorem Nodes.lens {w : World} {B n : Nat} {A : Option Addr} {us : List (L.Node × L.Place)} (h : Nodes w B A n us) (hv : ∀ x ∈ us.map Prod.fst, L.Desc.Valid x.d) : ∀ q ∈ us, q.2.n1 ≤ 20 ∧ q.2.n2 ≤ 20 := fun q hq => by
  have v := hv _ (List.mem_map_of_mem hq)
  have h1 := (h.rows q hq).1.len
  have h2 := (h.rows q hq).2.len
  have e1 := v.le
  have e2 := v.la
  exact ⟨by omega, by omega⟩
theorem IntsAt.now {w0 w : World} {A : Option Addr} {n : Nat} {l : List Int} {rs : List Res} (h : IntsAt w0 w0.heap.size A n l) (st : St w0 w rs) : IntsAt w w.heap.size A n l := Rd.more (Rd.below h st.below (Nat.le_refl _)) st.size
theorem CopyNodes_view (A : Option Addr) (n c B : Nat) (vs : List (L.Node × L.Place)) (w : World) (h1 : Nodes w B A n vs) (hB1 : B ≤ w.heap.size) (hn : n ≤ 32) (hm : ∀ q ∈ vs, q.2.n1 ≤ 20 ∧ q.2.n2 ≤ 20) :
    Calls Tryz.prog 10 #[.slice A n c] w fun e w' => ∃ A' c' us, us.map Prod.fst = vs.map Prod.fst ∧ e = .returned (.slice A' n c') ∧ Below w.heap.size w w' ∧ Nodes w' w'.heap.size A' n us ∧ ∀ q ∈ us, q.2.n1 ≤ 20 ∧ q.2.n2 ≤ 20 := by
  have e1 := h1.len
  refine (CopyNodes_any A n c B vs w h1 hB1 (by omega) (fun q hq => ⟨by have := (hm q hq).1; omega, by have := (hm q hq).2; omega⟩)).mono ?_
  rintro e w' ⟨A', n', c', us, F, rfl, hus, hF, st⟩
  have hN := St.nodes st hF
  have h3 := congrArg List.length hus
  rw [List.length_map, List.length_map] at h3
  obtain rfl : n' = n := by have := hN.len; omega
  refine ⟨A', c', us, hus, rfl, st.below, hN, fun q hq => ?_⟩
  have r := hN.rows q hq
  have h4 := r.1.len
  have h5 := r.2.len
  have h6 : q.1 ∈ vs.map Prod.fst := by rw [← hus]; exact List.mem_map_of_mem hq
  obtain ⟨q2, hq2, he⟩ := List.mem_map.1 h6
  have r2 := h1.rows q2 hq2
  have h7 := r2.1.len
  have h8 := r2.2.len
  have h9 := hm q2 hq2
  rw [← he] at h4 h5
  exact ⟨by omega, by omega⟩
theorem RefreshedIn_err_l (A : Option Addr) (n c B : Nat) (vs : List (L.Node × L.Place)) (w : World) (h1 : Nodes w B A n vs) (hB1 : B ≤ w.heap.size) (hn : n ≤ 32) (hm : ∀ q ∈ vs, q.2.n1 ≤ 20 ∧ q.2.n2 ≤ 20) {l : List L.Node} (hl : vs.map Prod.fst = l) {z : Int} (hz : L.rTreeErr l = z) (h0 : z ≠ 0) :
    Calls Tryz.prog 9 #[.slice A n c] w fun e w' => e = .returned (.tuple #[.slice none 0 0, .int .i64 0, .int .i64 z]) ∧ Below w.heap.size w w' := by
  subst hl
  exact RefreshedIn_err A n c B vs w h1 hB1 (by omega) (fun q hq => ⟨by have := (hm q hq).1; omega, by have := (hm q hq).2; omega⟩) hz h0
theorem RefreshedIn_full_l (A : Option Addr) (n c B : Nat) (vs : List (L.Node × L.Place)) (w : World) (h1 : Nodes w B A n vs) (hB1 : B ≤ w.heap.size) (hn : n ≤ 32) (hm : ∀ q ∈ vs, q.2.n1 ≤ 20 ∧ q.2.n2 ≤ 20) {l : List L.Node} (hl : vs.map Prod.fst = l) (hz : L.rTreeErr l = 0) (ho : (L.rT l n).2 = false) :
    Calls Tryz.prog 9 #[.slice A n c] w fun e w' => e = .returned (.tuple #[.slice none 0 0, .int .i64 0, .int .i64 16]) ∧ Below w.heap.size w w' := by
  subst hl
  exact RefreshedIn_full A n c B vs w h1 hB1 (by omega) (fun q hq => ⟨by have := (hm q hq).1; omega, by have := (hm q hq).2; omega⟩) hz ho
theorem StaleIn_err_l (A : Option Addr) (n c B : Nat) (vs : List (L.Node × L.Place)) (w : World) (h1 : Nodes w B A n vs) (hB1 : B ≤ w.heap.size) (hn : n ≤ 32) (hm : ∀ q ∈ vs, q.2.n1 ≤ 20 ∧ q.2.n2 ≤ 20) {l : List L.Node} (hl : vs.map Prod.fst = l) {z : Int} (hz : L.rTreeErr l = z) (h0 : z ≠ 0) :
    Calls Tryz.prog 17 #[.slice A n c] w fun e w' => e = .returned (.tuple #[.slice none 0 0, .int .i64 z]) ∧ Below w.heap.size w w' := by
  subst hl
  exact StaleIn_err A n c B vs w h1 hB1 (by omega) (fun q hq => ⟨by have := (hm q hq).1; omega, by have := (hm q hq).2; omega⟩) hz h0
theorem StaleIn_full_l (A : Option Addr) (n c B : Nat) (vs : List (L.Node × L.Place)) (w : World) (h1 : Nodes w B A n vs) (hB1 : B ≤ w.heap.size) (hn : n ≤ 32) (hm : ∀ q ∈ vs, q.2.n1 ≤ 20 ∧ q.2.n2 ≤ 20) {l : List L.Node} (hl : vs.map Prod.fst = l) (hz : L.rTreeErr l = 0) (ho : (L.rT l n).2 = false) :
    Calls Tryz.prog 17 #[.slice A n c] w fun e w' => e = .returned (.tuple #[.slice none 0 0, .int .i64 16]) ∧ Below w.heap.size w w' := by
  subst hl
  exact StaleIn_full A n c B vs w h1 hB1 (by omega) (fun q hq => ⟨by have := (hm q hq).1; omega, by have := (hm q hq).2; omega⟩) hz ho
theorem RefreshedIn_ok_l (A : Option Addr) (n c B : Nat) (vs : List (L.Node × L.Place)) (w : World) (h1 : Nodes w B A n vs) (hB1 : B ≤ w.heap.size) (hn : n ≤ 32) (hm : ∀ q ∈ vs, q.2.n1 ≤ 20 ∧ q.2.n2 ≤ 20) {l : List L.Node} (hl : vs.map Prod.fst = l) (hz : L.rTreeErr l = 0) (ho : (L.rT l n).2 = true) :
    Calls Tryz.prog 9 #[.slice A n c] w fun e w' => ∃ A' c' us, us.map Prod.fst = (L.rT l n).1 ∧ e = .returned (.tuple #[.slice A' n c', .int .i64 ((L.stale l (L.rT l n).1 n).length : Nat), .int .i64 0]) ∧ Below w.heap.size w w' ∧ Nodes w' w'.heap.size A' n us := by
  subst hl
  exact RefreshedIn_ok A n c B vs w h1 hB1 (by omega) (fun q hq => ⟨by have := (hm q hq).1; omega, by have := (hm q hq).2; omega⟩) hz ho
theorem StaleIn_ok_l (A : Option Addr) (n c B : Nat) (vs : List (L.Node × L.Place)) (w : World) (h1 : Nodes w B A n vs) (hB1 : B ≤ w.heap.size) (hn : n ≤ 32) (hm : ∀ q ∈ vs, q.2.n1 ≤ 20 ∧ q.2.n2 ≤ 20) {l : List L.Node} (hl : vs.map Prod.fst = l) (hz : L.rTreeErr l = 0) (ho : (L.rT l n).2 = true) :
    Calls Tryz.prog 17 #[.slice A n c] w fun e w' => ∃ A' m c', e = .returned (.tuple #[.slice A' m c', .int .i64 0]) ∧ Below w.heap.size w w' ∧ IntsAt w' w'.heap.size A' m (L.stale l (L.rT l n).1 n) := by
  subst hl
  exact StaleIn_ok A n c B vs w h1 hB1 (by omega) (fun q hq => ⟨by have := (hm q hq).1; omega, by have := (hm q hq).2; omega⟩) hz ho
theorem rRefreshed_full (A : Option Addr) (n c B : Nat) (vs : List (L.Node × L.Place)) (w : World) (h1 : Nodes w B A n vs) (hB1 : B ≤ w.heap.size) (hn : n ≤ 32) (hm : ∀ q ∈ vs, q.2.n1 ≤ 20 ∧ q.2.n2 ≤ 20) {l : List L.Node} (hl : vs.map Prod.fst = l) (hz : L.rTreeErr l = 0) (ho : (L.rT l n).2 = false) :
    Calls Tryz.prog 18 #[.slice A n c] w fun e w' => e = .returned (.tuple #[.slice none 0 0, .slice none 0 0, .bool false]) ∧ Below w.heap.size w w' := by
  subst hl
  refine (Refreshed_any A n c B vs w h1 hB1 (by omega) (fun q hq => ⟨by have := (hm q hq).1; omega, by have := (hm q hq).2; omega⟩) hz).mono ?_
  rintro e w' (⟨_, he, hb⟩ | ⟨_, _, _, _, _, _, _, h2, _⟩)
  · exact ⟨he, hb⟩
  · rw [ho] at h2; cases h2
theorem rRefreshed_ok (A : Option Addr) (n c B : Nat) (vs : List (L.Node × L.Place)) (w : World) (h1 : Nodes w B A n vs) (hB1 : B ≤ w.heap.size) (hn : n ≤ 32) (hm : ∀ q ∈ vs, q.2.n1 ≤ 20 ∧ q.2.n2 ≤ 20) {l : List L.Node} (hl : vs.map Prod.fst = l) (hz : L.rTreeErr l = 0) (ho : (L.rT l n).2 = true) :
    Calls Tryz.prog 18 #[.slice A n c] w fun e w' => ∃ A c us A9 m9 c9, us.map Prod.fst = (L.rT l n).1 ∧ e = .returned (.tuple #[.slice A n c, .slice A9 m9 c9, .bool true]) ∧ Below w.heap.size w w' ∧ Nodes w' w'.heap.size A n us ∧ IntsAt w' w'.heap.size A9 m9 (L.stale l (L.rT l n).1 n) := by
  subst hl
  refine (Refreshed_any A n c B vs w h1 hB1 (by omega) (fun q hq => ⟨by have := (hm q hq).1; omega, by have := (hm q hq).2; omega⟩) hz).mono ?_
  rintro e w' (⟨h2, _⟩ | ⟨A', c', us, A9, m9, c9, h1, _, he, hb, hN, hI⟩)
  · rw [h2] at ho; cases ho
  · exact ⟨A', c', us, A9, m9, c9, h1, he, hb, hN, hI⟩
set_option maxRecDepth 8000 in
set_option maxHeartbeats 4000000 in
theorem AclTrees_err (A : Option Addr) (n c B : Nat) (vs : List (L.Node × L.Place)) (w : World) (h1 : Nodes w B A n vs) (hB1 : B ≤ w.heap.size) (hn : n ≤ 32) (hM : ∀ q ∈ vs, q.2.n1 ≤ maxLen ∧ q.2.n2 ≤ maxLen) (hm : ∀ q ∈ vs, q.2.n1 ≤ 20 ∧ q.2.n2 ≤ 20) {l : List L.Node} (hl : vs.map Prod.fst = l) {z : Int} (hz : L.rTreeErr l = z) (h0 : z ≠ 0) :
    Calls Tryz.prog 4 #[.slice A n c] w fun e w' => e = .returned (.bool true) ∧ Below w.heap.size w w' := by
  have H1 := Lib.hid h1
  have HM := Lib.hid hM
  have HL := Lib.hid hm
  have HLW : Hid (∀ q ∈ vs, q.2.n1 ≤ 100 ∧ q.2.n2 ≤ 100) := Lib.hid (fun q hq => ⟨by have := (hm q hq).1; omega, by have := (hm q hq).2; omega⟩)
  have HV := Lib.hid hl
  have HZ := Lib.hid hz
  have e1 : l.length = n := by rw [← hl, List.length_map]; exact h1.len.symm
  have HF : Hid ((decide (n ≤ 32) && vs.all L.few) = true) := Lib.hid (by
    rw [decide_eq_true hn, Bool.true_and, List.all_eq_true]
    intro q hq
    unfold L.few
    rw [decide_eq_true (hm q hq).1, decide_eq_true (hm q hq).2]
    rfl)
  have hz0 : (z != 0) = true := by simpa using h0
  have hz1 : (z == z) = true := by simp
  clear h1 hM hm hl hz e1
  have st := St.start w
  go_enter Tryz.func4, Tryz.ntmps4
  go_wp2_with (refine WL.out ?_; (repeat ((refine WL.op ?_ ?_; (exact rfl); intro K hK; (first | ((first | ((with_reducible apply ow_move); exact rfl) | ((with_reducible apply ow_assign); exact rfl)); (go_simp <;> (try simp (disch := omega) only [wrap_id, sub_left, zac]) <;> rfl)) | ((with_reducible apply ow_eval); (go_simp <;> (try simp (disch := omega) only [wrap_id, sub_left, zac]) <;> rfl); first | (with_reducible apply up_value) | ((with_reducible apply up_enter); first | (go_at_call 6; refine (awake_any _).mono ?_; rintro e w' ⟨rfl, hb⟩; replace st := st.call hb; clear hb; refine ⟨_, rfl, ?_⟩) | (go_at_call 7; refine (fewNodes_any A n c B vs _ (H1.out.st st hB1) (Nat.le_trans hB1 st.size) HM.out).mono ?_; rw [HF.out]; rintro e w' ⟨rfl, hb⟩; replace st := st.call hb; clear hb; refine ⟨_, rfl, ?_⟩) | (go_at_call 10; (((with_reducible refine (CopyNodes_view A n c B vs _ (H1.out.st st hB1) (Nat.le_trans hB1 st.size) hn HL.out).mono ?_); rintro e w1 ⟨A1, c1, us1, hu1, rfl, hb, hN1, hL1⟩; rw [HV.out] at hu1; have HU1 := Lib.hid hu1; have HN1 := Lib.hid hN1; have HL1 := Lib.hid hL1; clear hu1 hN1 hL1; replace st := st.call hb; (try replace st1 := st1.call hb); (try replace st3 := st3.call hb); (try replace stm := stm.call hb); (try replace sts := sts.call hb); (try replace stw := stw.call hb); have st1 := St.start w1; clear hb; refine ⟨_, rfl, ?_⟩))) | (go_at_call 9; ((with_reducible refine (RefreshedIn_err_l A1 n c1 w1.heap.size us1 _ (HN1.out.st st1 (Nat.le_refl _)) st1.size hn HL1.out HU1.out HZ.out h0).mono ?_); rintro e w' ⟨rfl, hb⟩; replace st := st.call hb; (try replace st1 := st1.call hb); (try replace st3 := st3.call hb); (try replace stm := stm.call hb); (try replace sts := sts.call hb); (try replace stw := stw.call hb); clear hb; refine ⟨_, rfl, ?_⟩)) | (go_at_call 17; ((with_reducible refine (StaleIn_err_l A1 n c1 w1.heap.size us1 _ (HN1.out.st st1 (Nat.le_refl _)) st1.size hn HL1.out HU1.out HZ.out h0).mono ?_); rintro e w' ⟨rfl, hb⟩; replace st := st.call hb; (try replace st1 := st1.call hb); (try replace st3 := st3.call hb); (try replace stm := stm.call hb); (try replace sts := sts.call hb); (try replace stw := stw.call hb); clear hb; refine ⟨_, rfl, ?_⟩)) | (go_at_call 8; refine (TreeErr_any A n c B vs _ (H1.out.st st hB1) (Nat.le_trans hB1 st.size) (by omega) (HLW.out)).mono ?_; rw [HV.out, HZ.out]; rintro e w' ⟨rfl, hb⟩; replace st := st.call hb; (try replace st1 := st1.call hb); (try replace st3 := st3.call hb); (try replace stm := stm.call hb); (try replace sts := sts.call hb); (try replace stw := stw.call hb); clear hb; refine ⟨_, rfl, ?_⟩)))); refine WL.next hK (by simp only [Act.put, zpt, zsz, zss]; exact rfl) ?_; clear hK K))); (try refine WL.nil ?_))
  go_ret
  exact ⟨(by (rfl)), st.below⟩
set_option maxRecDepth 8000 in
set_option maxHeartbeats 4000000 in
theorem AclTrees_full (A : Option Addr) (n c B : Nat) (vs : List (L.Node × L.Place)) (w : World) (h1 : Nodes w B A n vs) (hB1 : B ≤ w.heap.size) (hn : n ≤ 32) (hM : ∀ q ∈ vs, q.2.n1 ≤ maxLen ∧ q.2.n2 ≤ maxLen) (hm : ∀ q ∈ vs, q.2.n1 ≤ 20 ∧ q.2.n2 ≤ 20) {l : List L.Node} (hl : vs.map Prod.fst = l) (hz : L.rTreeErr l = 0) (ho : (L.rT l n).2 = false) :
    Calls Tryz.prog 4 #[.slice A n c] w fun e w' => e = .returned (.bool true) ∧ Below w.heap.size w w' := by
  have H1 := Lib.hid h1
  have HM := Lib.hid hM
  have HL := Lib.hid hm
  have HLW : Hid (∀ q ∈ vs, q.2.n1 ≤ 100 ∧ q.2.n2 ≤ 100) := Lib.hid (fun q hq => ⟨by have := (hm q hq).1; omega, by have := (hm q hq).2; omega⟩)
  have HV := Lib.hid hl
  have HZ := Lib.hid hz
  have e1 : l.length = n := by rw [← hl, List.length_map]; exact h1.len.symm
  have HF : Hid ((decide (n ≤ 32) && vs.all L.few) = true) := Lib.hid (by
    rw [decide_eq_true hn, Bool.true_and, List.all_eq_true]
    intro q hq
    unfold L.few
    rw [decide_eq_true (hm q hq).1, decide_eq_true (hm q hq).2]
    rfl)
  have HO := Lib.hid ho
  clear h1 hM hm hl hz ho e1
  have st := St.start w
  go_enter Tryz.func4, Tryz.ntmps4
  go_wp2_with (refine WL.out ?_; (repeat ((refine WL.op ?_ ?_; (exact rfl); intro K hK; (first | ((first | ((with_reducible apply ow_move); exact rfl) | ((with_reducible apply ow_assign); exact rfl)); (go_simp <;> (try simp (disch := omega) only [wrap_id, sub_left, zac]) <;> rfl)) | ((with_reducible apply ow_eval); (go_simp <;> (try simp (disch := omega) only [wrap_id, sub_left, zac]) <;> rfl); first | (with_reducible apply up_value) | ((with_reducible apply up_enter); first | (go_at_call 6; refine (awake_any _).mono ?_; rintro e w' ⟨rfl, hb⟩; replace st := st.call hb; clear hb; refine ⟨_, rfl, ?_⟩) | (go_at_call 7; refine (fewNodes_any A n c B vs _ (H1.out.st st hB1) (Nat.le_trans hB1 st.size) HM.out).mono ?_; rw [HF.out]; rintro e w' ⟨rfl, hb⟩; replace st := st.call hb; clear hb; refine ⟨_, rfl, ?_⟩) | (go_at_call 10; (((with_reducible refine (CopyNodes_view A n c B vs _ (H1.out.st st hB1) (Nat.le_trans hB1 st.size) hn HL.out).mono ?_); rintro e w1 ⟨A1, c1, us1, hu1, rfl, hb, hN1, hL1⟩; rw [HV.out] at hu1; have HU1 := Lib.hid hu1; have HN1 := Lib.hid hN1; have HL1 := Lib.hid hL1; clear hu1 hN1 hL1; replace st := st.call hb; (try replace st1 := st1.call hb); (try replace st3 := st3.call hb); (try replace stm := stm.call hb); (try replace sts := sts.call hb); (try replace stw := stw.call hb); have st1 := St.start w1; clear hb; refine ⟨_, rfl, ?_⟩))) | (go_at_call 9; ((with_reducible refine (RefreshedIn_full_l A1 n c1 w1.heap.size us1 _ (HN1.out.st st1 (Nat.le_refl _)) st1.size hn HL1.out HU1.out HZ.out HO.out).mono ?_); rintro e w' ⟨rfl, hb⟩; replace st := st.call hb; (try replace st1 := st1.call hb); (try replace st3 := st3.call hb); (try replace stm := stm.call hb); (try replace sts := sts.call hb); (try replace stw := stw.call hb); clear hb; refine ⟨_, rfl, ?_⟩)) | (go_at_call 17; ((with_reducible refine (StaleIn_full_l A1 n c1 w1.heap.size us1 _ (HN1.out.st st1 (Nat.le_refl _)) st1.size hn HL1.out HU1.out HZ.out HO.out).mono ?_); rintro e w' ⟨rfl, hb⟩; replace st := st.call hb; (try replace st1 := st1.call hb); (try replace st3 := st3.call hb); (try replace stm := stm.call hb); (try replace sts := sts.call hb); (try replace stw := stw.call hb); clear hb; refine ⟨_, rfl, ?_⟩)) | (go_at_call 8; refine (TreeErr_any A n c B vs _ (H1.out.st st hB1) (Nat.le_trans hB1 st.size) (by omega) (HLW.out)).mono ?_; rw [HV.out, HZ.out]; rintro e w' ⟨rfl, hb⟩; replace st := st.call hb; (try replace st1 := st1.call hb); (try replace st3 := st3.call hb); (try replace stm := stm.call hb); (try replace sts := sts.call hb); (try replace stw := stw.call hb); clear hb; refine ⟨_, rfl, ?_⟩) | (go_at_call 18; refine (rRefreshed_full A n c B vs _ (H1.out.st st hB1) (Nat.le_trans hB1 st.size) hn HL.out HV.out HZ.out HO.out).mono ?_; rintro e w' ⟨rfl, hb⟩; replace st := st.call hb; (try replace st1 := st1.call hb); (try replace st3 := st3.call hb); (try replace stm := stm.call hb); (try replace sts := sts.call hb); (try replace stw := stw.call hb); clear hb; refine ⟨_, rfl, ?_⟩)))); refine WL.next hK (by simp only [Act.put, zpt, zsz, zss]; exact rfl) ?_; clear hK K))); (try refine WL.nil ?_))
  go_ret
  exact ⟨(by (rfl)), st.below⟩
set_option maxRecDepth 8000 in
set_option maxHeartbeats 4000000 in
theorem AclTrees_ok (A : Option Addr) (n c B : Nat) (vs : List (L.Node × L.Place)) (w : World) (h1 : Nodes w B A n vs) (hB1 : B ≤ w.heap.size) (hn : n ≤ 32) (hM : ∀ q ∈ vs, q.2.n1 ≤ maxLen ∧ q.2.n2 ≤ maxLen) (hm : ∀ q ∈ vs, q.2.n1 ≤ 20 ∧ q.2.n2 ≤ 20) {l : List L.Node} (hl : vs.map Prod.fst = l) (hz : L.rTreeErr l = 0) (ho : (L.rT l n).2 = true) :
    Calls Tryz.prog 4 #[.slice A n c] w fun e w' => e = .returned (.bool true) ∧ Below w.heap.size w w' := by
  have H1 := Lib.hid h1
  have HM := Lib.hid hM
  have HL := Lib.hid hm
  have HLW : Hid (∀ q ∈ vs, q.2.n1 ≤ 100 ∧ q.2.n2 ≤ 100) := Lib.hid (fun q hq => ⟨by have := (hm q hq).1; omega, by have := (hm q hq).2; omega⟩)
  have HV := Lib.hid hl
  have HZ := Lib.hid hz
  have e1 : l.length = n := by rw [← hl, List.length_map]; exact h1.len.symm
  have HF : Hid ((decide (n ≤ 32) && vs.all L.few) = true) := Lib.hid (by
    rw [decide_eq_true hn, Bool.true_and, List.all_eq_true]
    intro q hq
    unfold L.few
    rw [decide_eq_true (hm q hq).1, decide_eq_true (hm q hq).2]
    rfl)
  have HO := Lib.hid ho
  have HVV : Hid (∀ x ∈ (L.rT l n).1, L.Desc.Valid x.d) := Lib.hid (L.rT_valid (L.TreeOk.of hz).2 n (by rw [e1]; exact Nat.le_refl _) ho)
  have HZ3 : Hid (L.rTreeErr (L.rT l n).1 = 0) := Lib.hid (L.rT_treeErr hz e1.symm ho)
  have h6 := L.stale_again hz e1.symm ho
  have HO3 := Lib.hid h6.1
  have HS3 := Lib.hid h6.2
  clear h1 hM hm hl hz ho e1 h6
  have st := St.start w
  go_enter Tryz.func4, Tryz.ntmps4
  go_wp2_with (refine WL.out ?_; (repeat ((refine WL.op ?_ ?_; (exact rfl); intro K hK; (first | ((first | ((with_reducible apply ow_move); exact rfl) | ((with_reducible apply ow_assign); exact rfl)); (go_simp <;> (try simp (disch := omega) only [wrap_id, sub_left, zac]) <;> rfl)) | ((with_reducible apply ow_eval); (go_simp <;> (try simp (disch := omega) only [wrap_id, sub_left, zac]) <;> rfl); first | (with_reducible apply up_value) | ((with_reducible apply up_enter); first | (go_at_call 6; refine (awake_any _).mono ?_; rintro e w' ⟨rfl, hb⟩; replace st := st.call hb; clear hb; refine ⟨_, rfl, ?_⟩) | (go_at_call 7; refine (fewNodes_any A n c B vs _ (H1.out.st st hB1) (Nat.le_trans hB1 st.size) HM.out).mono ?_; rw [HF.out]; rintro e w' ⟨rfl, hb⟩; replace st := st.call hb; clear hb; refine ⟨_, rfl, ?_⟩) | (go_at_call 10; first | ((with_reducible refine (CopyNodes_view A n c B vs _ (H1.out.st st hB1) (Nat.le_trans hB1 st.size) hn HL.out).mono ?_); rintro e w1 ⟨A1, c1, us1, hu1, rfl, hb, hN1, hL1⟩; rw [HV.out] at hu1; have HU1 := Lib.hid hu1; have HN1 := Lib.hid hN1; have HL1 := Lib.hid hL1; clear hu1 hN1 hL1; replace st := st.call hb; (try replace st1 := st1.call hb); (try replace st3 := st3.call hb); (try replace stm := stm.call hb); (try replace sts := sts.call hb); (try replace stw := stw.call hb); have st1 := St.start w1; clear hb; refine ⟨_, rfl, ?_⟩) | ((with_reducible refine (CopyNodes_view Am n cm wm.heap.size usm _ (HNm.out.st stm (Nat.le_refl _)) stm.size hn HLm.out).mono ?_); rintro e w3 ⟨A3, c3, us3, hu3, rfl, hb, hN3, hL3⟩; rw [HUm.out] at hu3; have HU3 := Lib.hid hu3; have HN3 := Lib.hid hN3; have HL3 := Lib.hid hL3; clear hu3 hN3 hL3; replace st := st.call hb; (try replace st1 := st1.call hb); (try replace st3 := st3.call hb); (try replace stm := stm.call hb); (try replace sts := sts.call hb); (try replace stw := stw.call hb); have st3 := St.start w3; clear hb; refine ⟨_, rfl, ?_⟩)) | (go_at_call 9; ((with_reducible refine (RefreshedIn_ok_l A1 n c1 w1.heap.size us1 _ (HN1.out.st st1 (Nat.le_refl _)) st1.size hn HL1.out HU1.out HZ.out HO.out).mono ?_); rintro e wm ⟨Am, cm, usm, hum, rfl, hb, hNm⟩; have HUm := Lib.hid hum; have HNm := Lib.hid hNm; have HLm := Lib.hid (hNm.lens (fun x hx => HVV.out x (by rw [← hum]; exact hx))); clear hum hNm; replace st := st.call hb; (try replace st1 := st1.call hb); (try replace st3 := st3.call hb); (try replace stm := stm.call hb); (try replace sts := sts.call hb); (try replace stw := stw.call hb); have stm := St.start wm; clear hb; refine ⟨_, rfl, ?_⟩)) | (go_at_call 17; first | ((with_reducible refine (StaleIn_ok_l A1 n c1 w1.heap.size us1 _ (HN1.out.st st1 (Nat.le_refl _)) st1.size hn HL1.out HU1.out HZ.out HO.out).mono ?_); rintro e ws ⟨As, ms, cs, rfl, hb, hIs⟩; have HIs := Lib.hid hIs; clear hIs; replace st := st.call hb; (try replace st1 := st1.call hb); (try replace st3 := st3.call hb); (try replace stm := stm.call hb); (try replace sts := sts.call hb); (try replace stw := stw.call hb); have sts := St.start ws; clear hb; refine ⟨_, rfl, ?_⟩) | ((with_reducible refine (StaleIn_ok_l A3 n c3 w3.heap.size us3 _ (HN3.out.st st3 (Nat.le_refl _)) st3.size hn HL3.out HU3.out HZ3.out HO3.out).mono ?_); rintro e w4 ⟨A4, m4, c4, rfl, hb, hI4⟩; have hm4 := hI4.len; rw [HS3.out] at hm4; replace hm4 : m4 = 0 := hm4; subst hm4; clear hI4; replace st := st.call hb; (try replace st1 := st1.call hb); (try replace st3 := st3.call hb); (try replace stm := stm.call hb); (try replace sts := sts.call hb); (try replace stw := stw.call hb); clear hb; refine ⟨_, rfl, ?_⟩)) | (go_at_call 8; refine (TreeErr_any A n c B vs _ (H1.out.st st hB1) (Nat.le_trans hB1 st.size) (by omega) (HLW.out)).mono ?_; rw [HV.out, HZ.out]; rintro e w' ⟨rfl, hb⟩; replace st := st.call hb; (try replace st1 := st1.call hb); (try replace st3 := st3.call hb); (try replace stm := stm.call hb); (try replace sts := sts.call hb); (try replace stw := stw.call hb); clear hb; refine ⟨_, rfl, ?_⟩) | (go_at_call 18; refine (rRefreshed_ok A n c B vs _ (H1.out.st st hB1) (Nat.le_trans hB1 st.size) hn HL.out HV.out HZ.out HO.out).mono ?_; rintro e ww ⟨Aw, cw, usw, Ao, mo, co, huw, rfl, hb, hNw, hIo⟩; have hmo := hIo.len; subst hmo; have HUw := Lib.hid huw; have HNw := Lib.hid hNw; have HIo := Lib.hid hIo; clear huw hNw hIo; replace st := st.call hb; (try replace st1 := st1.call hb); (try replace st3 := st3.call hb); (try replace stm := stm.call hb); (try replace sts := sts.call hb); (try replace stw := stw.call hb); have stw := St.start ww; clear hb; refine ⟨_, rfl, ?_⟩) | (go_at_call 19; with_reducible refine (SameNodes_same Am Aw n n cm cw _ usm usw _ ((HNm.out.st stm (Nat.le_refl _)).more stm.size) ((HNw.out.st stw (Nat.le_refl _)).more stw.size) (Nat.le_refl _) (by rw [HUm.out, HUw.out]) (by omega) (fun q hq => ⟨by have := (HLm.out q hq).1; omega, by have := (HLm.out q hq).2; omega⟩)).mono ?_; rintro e w' ⟨rfl, hb⟩; replace st := st.call hb; (try replace st1 := st1.call hb); (try replace st3 := st3.call hb); (try replace stm := stm.call hb); (try replace sts := sts.call hb); (try replace stw := stw.call hb); clear hb; refine ⟨_, rfl, ?_⟩) | (go_at_call 20; with_reducible refine (Ints_same As Ao ms _ cs co _ _ _ (HIs.out.now sts) (HIo.out.now stw) (Nat.le_refl _) (by have h3 := HIs.out.len; have h4 := L.stale_len l (L.rT l n).1 n; omega)).mono ?_; rintro e w' ⟨rfl, hb⟩; replace st := st.call hb; (try replace st1 := st1.call hb); (try replace st3 := st3.call hb); (try replace stm := stm.call hb); (try replace sts := sts.call hb); (try replace stw := stw.call hb); clear hb; refine ⟨_, rfl, ?_⟩)))); refine WL.next hK (by simp only [Act.put, zpt, zsz, zss]; exact rfl) ?_; clear hK K))); (try refine WL.nil ?_))
  go_ret
  exact ⟨(by (rfl)), st.below⟩
set_option maxRecDepth 8000 in
set_option maxHeartbeats 4000000 in
theorem AclTrees_any (A : Option Addr) (n c B : Nat) (vs : List (L.Node × L.Place)) (w : World) (h1 : Nodes w B A n vs) (hB1 : B ≤ w.heap.size) (hM : ∀ q ∈ vs, q.2.n1 ≤ maxLen ∧ q.2.n2 ≤ maxLen) :
    Calls Tryz.prog 4 #[.slice A n c] w fun e w' => e = .returned (.bool true) ∧ Below w.heap.size w w' := by
  by_cases hf : (decide (n ≤ 32) && vs.all L.few) = true
  · have hf2 := hf
    rw [Bool.and_eq_true, decide_eq_true_eq, List.all_eq_true] at hf2
    have hm : ∀ q ∈ vs, q.2.n1 ≤ 20 ∧ q.2.n2 ≤ 20 := fun q hq => by
      have := hf2.2 q hq
      unfold L.few at this
      simpa using this
    by_cases hz : L.rTreeErr (vs.map Prod.fst) = 0
    · cases ho : (L.rT (vs.map Prod.fst) n).2 with
      | true => exact AclTrees_ok A n c B vs w h1 hB1 hf2.1 hM hm rfl hz ho
      | false => exact AclTrees_full A n c B vs w h1 hB1 hf2.1 hM hm rfl hz ho
    · exact AclTrees_err A n c B vs w h1 hB1 hf2.1 hM hm rfl rfl hz
  · have HF : Hid ((decide (n ≤ 32) && vs.all L.few) = false) := Lib.hid (by cases h : (decide (n ≤ 32) && vs.all L.few) with | false => rfl | true => exact absurd h hf)
    have H1 := Lib.hid h1
    have HM := Lib.hid hM
    clear h1 hM hf
    have st := St.start w
    go_enter Tryz.func4, Tryz.ntmps4
    go_wp2_with (refine WL.out ?_; (repeat ((refine WL.op ?_ ?_; (exact rfl); intro K hK; (((with_reducible apply ow_eval); (go_simp <;> (try simp (disch := omega) only [wrap_id, sub_left, zac]) <;> rfl); first | (with_reducible apply up_value) | ((with_reducible apply up_enter); first | (go_at_call 6; refine (awake_any _).mono ?_; rintro e w' ⟨rfl, hb⟩; replace st := st.call hb; clear hb; refine ⟨_, rfl, ?_⟩) | (go_at_call 7; refine (fewNodes_any A n c B vs _ (H1.out.st st hB1) (Nat.le_trans hB1 st.size) HM.out).mono ?_; rw [HF.out]; rintro e w' ⟨rfl, hb⟩; replace st := st.call hb; clear hb; refine ⟨_, rfl, ?_⟩)))); refine WL.next hK (by simp only [Act.put, zpt, zsz, zss]; exact rfl) ?_; clear hK K))); (try refine WL.nil ?_))
    go_ret
    exact ⟨rfl, st.below⟩
end Go.Proofs.YtppjhccdgbheiaaGreatDoor
namespace Go.Hp
open Go.RowKit
section
variable {P : Program} {ops : Array Oper} {o : Oper} {a : Act} {w0 w : World} {rs : List Res} {Q : Exit → Act → World → Prop} {l n : Nat}
theorem YX.old1 {t : TypeId} {x : Operand} {b p : Nat} {v : Value} (st : St w0 w rs) (ho : o.op = .load t x) (hT : OneT P t) (hw : Region.wanted o (yielded ops a.tmps) = true) (hx : a.eval x = .pointer (some ⟨b, p, none⟩)) (hb : b < w0.heap.size) (hv : w0.cell? ⟨b, p, none⟩ = some v) : YX P ops o a w v :=
  .inl ⟨hw, wp_old1 st ho hT hx hb hv ⟨rfl, rfl⟩⟩
theorem YX.oldS {w2 : World} {t : TypeId} {x : Operand} {b p : Nat} {v : Value} (st : St w0 w rs) (hs : SameBelow w0.heap.size w w2) (ho : o.op = .load t x) (hT : OneT P t) (hw : Region.wanted o (yielded ops a.tmps) = true) (hx : a.eval x = .pointer (some ⟨b, p, none⟩)) (hb : b < w0.heap.size) (hv : w0.cell? ⟨b, p, none⟩ = some v) : YX P ops o a w2 v := by
  refine .inl ⟨hw, wp_value (v := v) (w' := w2) ?_ ⟨rfl, rfl⟩⟩
  simp [execOp, ho, hx, run_load1 (P := P) (t := t) (hT := hT) ((hs b p hb).trans ((st.old hb).trans hv))]
theorem noDefer_mem : ∀ {lst : List Oper}, noDefer lst = true → ∀ o ∈ lst, ∀ c, o.op ≠ .defer c
  | [], _, o, h, _ => by cases h
  | x :: rest, hd, o, h, c => by
    simp only [noDefer, Bool.and_eq_true] at hd
    rcases List.mem_cons.1 h with rfl | h
    · intro hc
      rw [hc] at hd
      exact absurd hd.1 (by simp)
    · exact noDefer_mem hd.2 o h c
theorem wpOpIn_round_of_wpOp {lst : List Oper} {i : Nat} {K K' : Act → World → Prop} (hd : noDefer lst = true) (hL : ¬ LetsOut Q) (hK : ∀ a w, K a w → K' a w) (h : wpOp P lst.toArray Q i K a w) : wpOpIn (Fence.wide.inRound l) n P lst.toArray Q i K' a w := by
  unfold wpOp at h
  unfold wpOpIn
  split
  · rename_i ho
    simp only [ho] at h
    exact hK _ _ h
  · rename_i o ho
    simp only [ho] at h
    split
    · rename_i hw
      rw [if_pos hw] at h
      exact wpIn_round_of_wp (noDefer_mem hd o (List.mem_of_getElem? (by simpa using ho))) hK (h.resolve_right fun h => hL h.2)
    · rename_i hw
      rw [if_neg hw] at h
      exact ⟨fun _ _ => trivial, hK _ _ h⟩
theorem wpAnyIn_round_of_wpAny {lst : List Oper} {md : Region.Mode} (hd : noDefer lst = true) (hL : ¬ LetsOut Q) : ∀ (f : Nat) (L : Array Bool) (a : Act) (w : World), wpAny P md lst.toArray Q f L a w → wpAnyIn (Fence.wide.inRound l) n P md lst.toArray Q f L a w
  | 0, _, _, _, h => h
  | f + 1, L, a, w, h => ⟨h.1, fun i hi => wpOpIn_round_of_wpOp hd hL (fun a w => wpAnyIn_round_of_wpAny hd hL f _ a w) (h.2 i hi)⟩
theorem wpAny_plan {l : List Oper} {n : Nat} (hB : phiB l n = true) (h : Plan P l n a w.drew Q n []) : wpAny P .any l.toArray Q l.toArray.size (Array.replicate l.toArray.size false) a w.drew := by
  obtain ⟨Ψ, hlen, hst, hstep, hfin⟩ := Plan.all n [] h (fun _ h => by cases h) (fun i k hk => by simp at hk)
  simp only [List.length_nil, Nat.zero_add] at hlen
  have hB' := hB
  simp only [phiB, Bool.and_eq_true, decide_eq_true_eq, Bool.or_eq_true] at hB'
  obtain ⟨⟨⟨⟨_, hn⟩, hback⟩, _⟩, _⟩ := hB'
  have hΦ : (Ψ.map PhiK.phi).length = n := by simpa using hlen
  have hget : ∀ k φ, (Ψ.map PhiK.phi)[k]? = some φ → ∃ x : PhiK, Ψ[k]? = some x ∧ x.phi = φ := fun k φ hk => by
    rw [List.getElem?_map] at hk
    obtain ⟨x, hx, he⟩ := Option.map_eq_some_iff.1 hk
    exact ⟨x, hx, he⟩
  have main := wpAny_phi (P := P) (Q := Q) (a := a) (w := w.drew) (l := l) (n := n) (Φ := Ψ.map PhiK.phi) hB hΦ
    (fun φ hφ => by
      obtain ⟨k, hk, rfl⟩ := List.mem_map.1 hφ
      exact hst k hk)
    (fun i o φ hi ho hφ xs hxs w1 hb hd => by
      obtain ⟨x, hx, rfl⟩ := hget i φ hφ
      have hs := hstep i x hx
      unfold stepOb at hs
      rw [ho] at hs
      refine depF_spec _ (allV_spec n _ hs xs hxs w1 hb) fun e he hbind k hk => ?_
      have hon : e.on < i := by
        have := List.all_eq_true.1 hback i (List.mem_range.2 hi)
        simp only [List.getElem?_toArray, ho] at this
        have := Array.all_eq_true_iff_forall_mem.1 this e (by simpa using he)
        simpa [hbind] using this
      rw [List.getElem?_take, if_pos hon] at hk
      refine hd e.on k.phi (by omega) ?_ (by rw [List.getElem?_map, hk]; rfl)
      unfold Region.waitsFor
      simp only [List.getElem?_toArray, ho]
      exact Array.any_eq_true'.2 ⟨e, by simpa using he, by simp [hbind]⟩)
    (fun xs lo hi w1 hxs hb hall hd => by
      refine allPhi_spec Ψ 0 xs (allV_spec n _ hfin xs hxs lo hi w1 hb hd) (by rw [hxs, hlen]) fun j x hj => ?_
      rw [Nat.zero_add]
      exact hall j x.phi (by rw [List.getElem?_map, hj]; rfl))
    n (Array.replicate l.length false) a w.drew
    ⟨⟨by simp, fun j oj _ hl => (by rw [getD_replicate_false] at hl; cases hl), fun t _ ht => getD_in (by simpa using ht) (getD_replicate_false _ _)⟩, Below.refl _ _,
      ⟨(l.take n).map (fun o => match o.dst with | some d => a.tmps.getD d undef | none => undef), fun _ => 0, fun _ => 0, by simp; omega, (fillA_self _ a).symm, fun k φ _ hl => (by rw [getD_replicate_false] at hl; cases hl), fun j k _ hj _ => (by rw [getD_replicate_false] at hj; cases hj)⟩⟩
    (by
      have : ((List.range n).filter fun k => !(Array.replicate l.length false).getD k false) = List.range n := List.filter_eq_self.2 (fun k _ => by rw [getD_replicate_false]; rfl)
      rw [this]; simp)
  have hsz : l.toArray.size = n + (l.length - n) := by simp; omega
  rw [hsz, show n + (l.length - n) = l.length by omega]
  rw [show n + (l.length - n) = l.length by omega] at main
  exact main
theorem wpIn_round_plan {id l k : Nat} {lst : List Oper} (n : Nat) (hm : P.follows .mixedOrders = true) (hB : phiB lst n = true) (hd : noDefer lst = true) (hL : ¬ LetsOut Q) (h : Plan P lst n a w.drew Q n []) : (Code.region id lst.toArray true).wpIn (Fence.wide.inRound l) k P Q a w :=
  wpIn_region_any hm (wpAnyIn_round_of_wpAny hd hL _ _ _ _ (wpAny_plan hB h))
end
end Go.Hp
namespace Go.Hp
open Go.RowKit
section
variable {P : Program} {ops : Array Oper} {o : Oper} {a : Act} {w0 w : World} {rs : List Res}
theorem YX.oldCS {w2 : World} {t n : Nat} {x : Operand} {b p : Nat} {vs : List Value} (st : St w0 w rs) (hs : SameBelow w0.heap.size w w2) (ho : o.op = .load t x) (hT : AggT P t n) (hw : Region.wanted o (yielded ops a.tmps) = true) (hx : a.eval x = .pointer (some ⟨b, p, none⟩)) (hb : b < w0.heap.size) (hv : OldC w0 b p vs) (hn : vs.length = n) : YX P ops o a w2 (.agg vs.toArray) :=
  .inl ⟨hw, wp_rowN ho hT hx hn (fun j v hj => (hs b (p + j) hb).trans ((st.old hb).trans (hv j v hj))) ⟨rfl, rfl⟩⟩
theorem St.oldBox {b : Nat} {t : TypeId} {cs : List Value} (st : St w0 w (.box b t cs :: rs)) : b < w.heap.size ∧ OldC w b 0 cs :=
  ⟨(Res.holds_lt (st.get (i := 0) rfl) rfl).2, fun j v hj => by rw [Nat.zero_add]; exact (st.cell (i := 0) rfl j).trans hj⟩
theorem St.boxes2 {w1 : World} {b9 b10 lo9 hi9 lo10 hi10 : Nat} {t9 t10 : TypeId} {xs ys : List Value} (st : St w0 w []) (hb : Below w.heap.size w w1) (h9 : w.heap.size ≤ lo9) (h10 : w.heap.size ≤ lo10)
    (o9 : (Res.box b9 t9 xs).holds lo9 w1) (o10 : (Res.box b10 t10 ys).holds lo10 w1) (k9 : b9 < hi9) (k10 : b10 < hi10) (hap : hi9 ≤ lo10 ∨ hi10 ≤ lo9) : St w0 w1 [.box b9 t9 xs, .box b10 t10 ys] := by
  have hs := st.size
  have st1 : St w0 w1 [.box b10 t10 ys] := St.cons (st.call hb) (Res.holds_mono o10 (by omega)) (fun s hs => by cases hs)
  refine st1.cons (Res.holds_mono o9 (by omega)) (fun s hs => ?_)
  rw [List.mem_singleton.1 hs]
  refine Res.apart (lo1 := lo9) (hi1 := hi9) (lo2 := lo10) (hi2 := hi10) (fun k hk => ?_) (fun k hk => ?_) hap
  · cases hk
    exact ⟨(Res.holds_lt o9 rfl).1, k9⟩
  · cases hk
    exact ⟨(Res.holds_lt o10 rfl).1, k10⟩
end
end Go.Hp
namespace Go.Proofs.YtppjhccdgbheiaaGreatDoor
open Go.RowKit Go.Hp
namespace L
theorem nn_of_mem {l : List Node} {x : Node} (h : x ∈ l) : ∃ i, i < l.length ∧ nn l i = x := by
  obtain ⟨i, hi, rfl⟩ := List.mem_iff_getElem.1 h
  exact ⟨i, hi, by unfold nn; rw [List.getElem?_eq_getElem hi]; rfl⟩
theorem TreeOk.all {l : List Node} (h : TreeOk l) : ∀ x ∈ l, x.d.Valid := fun x hx => by
  obtain ⟨i, hi, rfl⟩ := nn_of_mem hx
  exact h.valid hi
theorem Desc.Valid.fok {d : Desc} (v : d.Valid) : FOk d.e := (L.Desc.err_e (d := d) (by rw [L.Desc.err_eq, v.errs])).fok
end L
set_option maxRecDepth 8000 in
set_option maxHeartbeats 8000000 in
theorem AclReaches_err (d : L.Desc) (A A1 A2 : Option Addr) (n n1 n2 c c1 c2 B : Nat) (vs : List (L.Node × L.Place)) (w : World) (h1 : Nodes w B A n vs) (hr1 : Aces w B A1 n1 d.e) (hr2 : Aces w B A2 n2 d.a) (hB1 : B ≤ w.heap.size) (hn : n ≤ 32) (hM : ∀ q ∈ vs, q.2.n1 ≤ maxLen ∧ q.2.n2 ≤ maxLen) (hm1 : n1 ≤ maxLen) (hm2 : n2 ≤ maxLen) (hm : ∀ q ∈ vs, q.2.n1 ≤ 20 ∧ q.2.n2 ≤ 20) {l : List L.Node} (hl : vs.map Prod.fst = l) {z : Int} (hz : L.rTreeErr l = z) (h0 : z ≠ 0) :
    Calls Tryz.prog 3 #[.slice A n c, .agg #[.int .i64 d.o, .int .i64 d.g, .bool d.p, .bool d.h, .slice A1 n1 c1, .slice A2 n2 c2]] w fun e w' => e = .returned (.bool true) ∧ Below w.heap.size w w' := by
  have H1 := Lib.hid h1
  have HR1 := Lib.hid hr1
  have HR2 := Lib.hid hr2
  have HM := Lib.hid hM
  have HL := Lib.hid hm
  have HLW : Hid (∀ q ∈ vs, q.2.n1 ≤ 100 ∧ q.2.n2 ≤ 100) := Lib.hid (fun q hq => ⟨by have := (hm q hq).1; omega, by have := (hm q hq).2; omega⟩)
  have HV := Lib.hid hl
  have HZ := Lib.hid hz
  have e1 : l.length = n := by rw [← hl, List.length_map]; exact h1.len.symm
  have HF : Hid ((decide (n ≤ 32) && vs.all L.few) = true) := Lib.hid (by
    rw [decide_eq_true hn, Bool.true_and, List.all_eq_true]
    intro q hq
    unfold L.few
    rw [decide_eq_true (hm q hq).1, decide_eq_true (hm q hq).2]
    rfl)
  have hz0 : (z != 0) = true := by simpa using h0
  clear h1 hM hm hl hz e1 hr1 hr2 hm1 hm2
  have st := St.start w
  go_enter Tryz.func3, Tryz.ntmps3
  go_wp2_with (refine WL.out ?_; (repeat (first | (refine WL.op ?_ ?_; (exact rfl); intro K hK; (first | ((first | ((with_reducible apply ow_move); exact rfl) | ((with_reducible apply ow_assign); exact rfl)); (go_simp <;> (try simp (disch := omega) only [wrap_id, sub_left, zac]) <;> rfl)) | ((((with_reducible apply ow_box st); exact rfl; (go_simp <;> (try simp (disch := omega) only [wrap_id, sub_left, zac]) <;> rfl); (go_simp <;> (try simp (disch := omega) only [wrap_id, sub_left, zac]) <;> rfl))); (try clear st); intro b w' st) | ((with_reducible apply ow_eval); (go_simp <;> (try simp (disch := omega) only [wrap_id, sub_left, zac]) <;> rfl); first | (with_reducible apply up_value) | ((with_reducible apply up_enter); first | (go_at_call 6; refine (awake_any _).mono ?_; rintro e w' ⟨rfl, hb⟩; replace st := st.call hb; clear hb; refine ⟨_, rfl, ?_⟩) | (go_at_call 7; refine (fewNodes_any A n c B vs _ (H1.out.st st hB1) (Nat.le_trans hB1 st.size) HM.out).mono ?_; rw [HF.out]; rintro e w' ⟨rfl, hb⟩; replace st := st.call hb; clear hb; refine ⟨_, rfl, ?_⟩) | (go_at_call 8; refine (TreeErr_any A n c B vs _ (H1.out.st st hB1) (Nat.le_trans hB1 st.size) (by omega) (HLW.out)).mono ?_; rw [HV.out, HZ.out]; rintro e w' ⟨rfl, hb⟩; replace st := st.call hb; clear hb; refine ⟨_, rfl, ?_⟩)))); refine WL.next hK (by simp only [Act.put, zpt, zsz, zss]; exact rfl) ?_; clear hK K) | (refine WL.skip ?_ (by simp only [Act.put, zpt, zsz, zss]; exact rfl) ?_; (exact rfl)))); (try refine WL.nil ?_))
  go_ret
  exact ⟨(by (rfl)), st.below⟩
set_option maxRecDepth 8000 in
set_option maxHeartbeats 8000000 in
theorem AclReaches_none (d : L.Desc) (A A1 A2 : Option Addr) (n n1 n2 c c1 c2 B : Nat) (vs : List (L.Node × L.Place)) (w : World) (h1 : Nodes w B A n vs) (hr1 : Aces w B A1 n1 d.e) (hr2 : Aces w B A2 n2 d.a) (hB1 : B ≤ w.heap.size) (hn : n ≤ 32) (hM : ∀ q ∈ vs, q.2.n1 ≤ maxLen ∧ q.2.n2 ≤ maxLen) (hm1 : n1 ≤ maxLen) (hm2 : n2 ≤ maxLen) (hm : ∀ q ∈ vs, q.2.n1 ≤ 20 ∧ q.2.n2 ≤ 20) {l : List L.Node} (hl : vs.map Prod.fst = l) (hz : L.rTreeErr l = 0) (h0 : n = 0) :
    Calls Tryz.prog 3 #[.slice A n c, .agg #[.int .i64 d.o, .int .i64 d.g, .bool d.p, .bool d.h, .slice A1 n1 c1, .slice A2 n2 c2]] w fun e w' => e = .returned (.bool true) ∧ Below w.heap.size w w' := by
  have H1 := Lib.hid h1
  have HR1 := Lib.hid hr1
  have HR2 := Lib.hid hr2
  have HM := Lib.hid hM
  have HL := Lib.hid hm
  have HLW : Hid (∀ q ∈ vs, q.2.n1 ≤ 100 ∧ q.2.n2 ≤ 100) := Lib.hid (fun q hq => ⟨by have := (hm q hq).1; omega, by have := (hm q hq).2; omega⟩)
  have HV := Lib.hid hl
  have HZ := Lib.hid hz
  have e1 : l.length = n := by rw [← hl, List.length_map]; exact h1.len.symm
  have HF : Hid ((decide (n ≤ 32) && vs.all L.few) = true) := Lib.hid (by
    rw [decide_eq_true hn, Bool.true_and, List.all_eq_true]
    intro q hq
    unfold L.few
    rw [decide_eq_true (hm q hq).1, decide_eq_true (hm q hq).2]
    rfl)
  have hn0 : ((n : Int) == 0) = true := by simpa using h0
  clear h1 hM hm hl hz e1 hr1 hr2 hm1 hm2 h0
  have st := St.start w
  go_enter Tryz.func3, Tryz.ntmps3
  go_wp2_with (refine WL.out ?_; (repeat ((refine WL.op ?_ ?_; (exact rfl); intro K hK; (first | ((first | ((with_reducible apply ow_move); exact rfl) | ((with_reducible apply ow_assign); exact rfl)); (go_simp <;> (try simp (disch := omega) only [wrap_id, sub_left, zac]) <;> rfl)) | ((((with_reducible apply ow_box st); exact rfl; (go_simp <;> (try simp (disch := omega) only [wrap_id, sub_left, zac]) <;> rfl); (go_simp <;> (try simp (disch := omega) only [wrap_id, sub_left, zac]) <;> rfl))); (try clear st); intro b w' st) | ((with_reducible apply ow_eval); (go_simp <;> (try simp (disch := omega) only [wrap_id, sub_left, zac]) <;> rfl); first | (with_reducible apply up_value) | ((with_reducible apply up_enter); first | (go_at_call 6; refine (awake_any _).mono ?_; rintro e w' ⟨rfl, hb⟩; replace st := st.call hb; clear hb; refine ⟨_, rfl, ?_⟩) | (go_at_call 7; refine (fewNodes_any A n c B vs _ (H1.out.st st hB1) (Nat.le_trans hB1 st.size) HM.out).mono ?_; rw [HF.out]; rintro e w' ⟨rfl, hb⟩; replace st := st.call hb; clear hb; refine ⟨_, rfl, ?_⟩) | (go_at_call 8; refine (TreeErr_any A n c B vs _ (H1.out.st st hB1) (Nat.le_trans hB1 st.size) (by omega) (HLW.out)).mono ?_; rw [HV.out, HZ.out]; rintro e w' ⟨rfl, hb⟩; replace st := st.call hb; clear hb; refine ⟨_, rfl, ?_⟩)))); refine WL.next hK (by simp only [Act.put, zpt, zsz, zss]; exact rfl) ?_; clear hK K))); (try refine WL.nil ?_))
  go_ret
  exact ⟨(by (rfl)), st.below⟩
set_option maxRecDepth 8000 in
set_option maxHeartbeats 8000000 in
theorem AclReaches_full (d : L.Desc) (A A1 A2 : Option Addr) (n n1 n2 c c1 c2 B : Nat) (vs : List (L.Node × L.Place)) (w : World) (h1 : Nodes w B A n vs) (hr1 : Aces w B A1 n1 d.e) (hr2 : Aces w B A2 n2 d.a) (hB1 : B ≤ w.heap.size) (hn : n ≤ 32) (hM : ∀ q ∈ vs, q.2.n1 ≤ maxLen ∧ q.2.n2 ≤ maxLen) (hm1 : n1 ≤ maxLen) (hm2 : n2 ≤ maxLen) (hm : ∀ q ∈ vs, q.2.n1 ≤ 20 ∧ q.2.n2 ≤ 20) {l : List L.Node} (hl : vs.map Prod.fst = l) (hz : L.rTreeErr l = 0) (h0 : n ≠ 0) (ho : (L.rT l n).2 = false) :
    Calls Tryz.prog 3 #[.slice A n c, .agg #[.int .i64 d.o, .int .i64 d.g, .bool d.p, .bool d.h, .slice A1 n1 c1, .slice A2 n2 c2]] w fun e w' => e = .returned (.bool true) ∧ Below w.heap.size w w' := by
  have H1 := Lib.hid h1
  have HR1 := Lib.hid hr1
  have HR2 := Lib.hid hr2
  have HM := Lib.hid hM
  have HL := Lib.hid hm
  have HLW : Hid (∀ q ∈ vs, q.2.n1 ≤ 100 ∧ q.2.n2 ≤ 100) := Lib.hid (fun q hq => ⟨by have := (hm q hq).1; omega, by have := (hm q hq).2; omega⟩)
  have HV := Lib.hid hl
  have HZ := Lib.hid hz
  have e1 : l.length = n := by rw [← hl, List.length_map]; exact h1.len.symm
  have HF : Hid ((decide (n ≤ 32) && vs.all L.few) = true) := Lib.hid (by
    rw [decide_eq_true hn, Bool.true_and, List.all_eq_true]
    intro q hq
    unfold L.few
    rw [decide_eq_true (hm q hq).1, decide_eq_true (hm q hq).2]
    rfl)
  have HO := Lib.hid ho
  have hn0 : ((n : Int) == 0) = false := by simpa using h0
  clear h1 hM hm hl hz ho e1 hr1 hr2 hm1 hm2
  have st := St.start w
  go_enter Tryz.func3, Tryz.ntmps3
  go_wp2_with (refine WL.out ?_; (repeat ((refine WL.op ?_ ?_; (exact rfl); intro K hK; (first | ((first | ((with_reducible apply ow_move); exact rfl) | ((with_reducible apply ow_assign); exact rfl)); (go_simp <;> (try simp (disch := omega) only [wrap_id, sub_left, zac]) <;> rfl)) | ((((with_reducible apply ow_box st); exact rfl; (go_simp <;> (try simp (disch := omega) only [wrap_id, sub_left, zac]) <;> rfl); (go_simp <;> (try simp (disch := omega) only [wrap_id, sub_left, zac]) <;> rfl))); (try clear st); intro b w' st) | ((with_reducible apply ow_eval); (go_simp <;> (try simp (disch := omega) only [wrap_id, sub_left, zac]) <;> rfl); first | (with_reducible apply up_value) | ((with_reducible apply up_enter); first | (go_at_call 6; refine (awake_any _).mono ?_; rintro e w' ⟨rfl, hb⟩; replace st := st.call hb; clear hb; refine ⟨_, rfl, ?_⟩) | (go_at_call 7; refine (fewNodes_any A n c B vs _ (H1.out.st st hB1) (Nat.le_trans hB1 st.size) HM.out).mono ?_; rw [HF.out]; rintro e w' ⟨rfl, hb⟩; replace st := st.call hb; clear hb; refine ⟨_, rfl, ?_⟩) | (go_at_call 10; ((with_reducible refine (CopyNodes_view A n c B vs _ (H1.out.st st hB1) (Nat.le_trans hB1 st.size) hn HL.out).mono ?_); rintro e w1 ⟨A1', c1', us1, hu1, rfl, hb, hN1, hL1⟩; rw [HV.out] at hu1; have HU1 := Lib.hid hu1; have HN1 := Lib.hid hN1; have HL1 := Lib.hid hL1; clear hu1 hN1 hL1; replace st := st.call hb; have st1 := St.start w1; clear hb; refine ⟨_, rfl, ?_⟩)) | (go_at_call 9; ((with_reducible refine (RefreshedIn_full_l A1' n c1' w1.heap.size us1 _ (HN1.out.st st1 (Nat.le_refl _)) st1.size hn HL1.out HU1.out HZ.out HO.out).mono ?_); rintro e w' ⟨rfl, hb⟩; clear st1; replace st := st.call hb; clear hb; refine ⟨_, rfl, ?_⟩)) | (go_at_call 8; refine (TreeErr_any A n c B vs _ (H1.out.st st hB1) (Nat.le_trans hB1 st.size) (by omega) (HLW.out)).mono ?_; rw [HV.out, HZ.out]; rintro e w' ⟨rfl, hb⟩; replace st := st.call hb; clear hb; refine ⟨_, rfl, ?_⟩)))); refine WL.next hK (by simp only [Act.put, zpt, zsz, zss]; exact rfl) ?_; clear hK K))); (try refine WL.nil ?_))
  go_ret
  exact ⟨(by (rfl)), st.below⟩
set_option maxRecDepth 8000 in
set_option maxHeartbeats 8000000 in
theorem AclReaches_ok (d : L.Desc) (A A1 A2 : Option Addr) (n n1 n2 c c1 c2 B : Nat) (vs : List (L.Node × L.Place)) (w : World) (h1 : Nodes w B A n vs) (hr1 : Aces w B A1 n1 d.e) (hr2 : Aces w B A2 n2 d.a) (hB1 : B ≤ w.heap.size) (hn : n ≤ 32) (hM : ∀ q ∈ vs, q.2.n1 ≤ maxLen ∧ q.2.n2 ≤ maxLen) (hm1 : n1 ≤ maxLen) (hm2 : n2 ≤ maxLen) (hm : ∀ q ∈ vs, q.2.n1 ≤ 20 ∧ q.2.n2 ≤ 20) {l : List L.Node} (hl : vs.map Prod.fst = l) (hz : L.rTreeErr l = 0) (h0 : n ≠ 0) (ho : (L.rT l n).2 = true) :
    Calls Tryz.prog 3 #[.slice A n c, .agg #[.int .i64 d.o, .int .i64 d.g, .bool d.p, .bool d.h, .slice A1 n1 c1, .slice A2 n2 c2]] w fun e w' => e = .returned (.bool true) ∧ Below w.heap.size w w' := by
  have H1 := Lib.hid h1
  have HR1 := Lib.hid hr1
  have HR2 := Lib.hid hr2
  have HM := Lib.hid hM
  have HL := Lib.hid hm
  have HLW : Hid (∀ q ∈ vs, q.2.n1 ≤ 100 ∧ q.2.n2 ≤ 100) := Lib.hid (fun q hq => ⟨by have := (hm q hq).1; omega, by have := (hm q hq).2; omega⟩)
  have HV := Lib.hid hl
  have HZ := Lib.hid hz
  have e1 : l.length = n := by rw [← hl, List.length_map]; exact h1.len.symm
  have HF : Hid ((decide (n ≤ 32) && vs.all L.few) = true) := Lib.hid (by
    rw [decide_eq_true hn, Bool.true_and, List.all_eq_true]
    intro q hq
    unfold L.few
    rw [decide_eq_true (hm q hq).1, decide_eq_true (hm q hq).2]
    rfl)
  have HO := Lib.hid ho
  have hn0 : ((n : Int) == 0) = false := by simpa using h0
  have HVV : Hid (∀ x ∈ (L.rT l n).1, L.Desc.Valid x.d) := Lib.hid (L.rT_valid (L.TreeOk.of hz).2 n (by rw [e1]; exact Nat.le_refl _) ho)
  have E1 := Lib.hid e1
  have hn1 : 0 < n := by omega
  clear h1 hM hm hl hz ho e1 hr1 hr2
  have st := St.start w
  go_enter Tryz.func3, Tryz.ntmps3
  go_wp2_with (refine WL.out ?_; (repeat ((refine WL.op ?_ ?_; (exact rfl); intro K hK; (first | ((first | ((with_reducible apply ow_move); exact rfl) | ((with_reducible apply ow_assign); exact rfl)); (go_simp <;> (try simp (disch := omega) only [wrap_id, sub_left, zac]) <;> rfl)) | ((((with_reducible apply ow_box st); exact rfl; (go_simp <;> (try simp (disch := omega) only [wrap_id, sub_left, zac]) <;> rfl); (go_simp <;> (try simp (disch := omega) only [wrap_id, sub_left, zac]) <;> rfl))); (try clear st); intro b w' st) | ((with_reducible apply ow_eval); (go_simp <;> (try simp (disch := omega) only [wrap_id, sub_left, zac]) <;> rfl); first | (with_reducible apply up_value) | ((with_reducible apply up_enter); first | (go_at_call 6; refine (awake_any _).mono ?_; rintro e w' ⟨rfl, hb⟩; replace st := st.call hb; clear hb; refine ⟨_, rfl, ?_⟩) | (go_at_call 7; refine (fewNodes_any A n c B vs _ (H1.out.st st hB1) (Nat.le_trans hB1 st.size) HM.out).mono ?_; rw [HF.out]; rintro e w' ⟨rfl, hb⟩; replace st := st.call hb; clear hb; refine ⟨_, rfl, ?_⟩) | (go_at_call 10; ((with_reducible refine (CopyNodes_view A n c B vs _ (H1.out.st st hB1) (Nat.le_trans hB1 st.size) hn HL.out).mono ?_); rintro e w1 ⟨A1', c1', us1, hu1, rfl, hb, hN1, hL1⟩; rw [HV.out] at hu1; have HU1 := Lib.hid hu1; have HN1 := Lib.hid hN1; have HL1 := Lib.hid hL1; clear hu1 hN1 hL1; replace st := st.call hb; have st1 := St.start w1; clear hb; refine ⟨_, rfl, ?_⟩)) | (go_at_call 9; ((with_reducible refine (RefreshedIn_ok_l A1' n c1' w1.heap.size us1 _ (HN1.out.st st1 (Nat.le_refl _)) st1.size hn HL1.out HU1.out HZ.out HO.out).mono ?_); rintro e wm ⟨Am, cm, usm, hum, rfl, hb, hNm⟩; clear st1; have HUm := Lib.hid hum; have HNm := Lib.hid hNm; clear hum hNm; have stB := st.call hb; clear st hb; have st := St.start wm; refine ⟨_, rfl, ?_⟩)) | (go_at_call 8; refine (TreeErr_any A n c B vs _ (H1.out.st st hB1) (Nat.le_trans hB1 st.size) (by omega) (HLW.out)).mono ?_; rw [HV.out, HZ.out]; rintro e w' ⟨rfl, hb⟩; replace st := st.call hb; clear hb; refine ⟨_, rfl, ?_⟩)))); refine WL.next hK (by simp only [Act.put, zpt, zsz, zss]; exact rfl) ?_; clear hK K))); (try refine WL.nil ?_))
  have hrb := stB.oldBox
  obtain ⟨hb3, oc3⟩ := hrb
  have HLm := Lib.hid (HNm.out.lens (fun x hx => HVV.out x (by rw [← HUm.out]; exact hx)))
  have HA := Lib.hid (H1.out.st stB hB1)
  have HQ1 := Lib.hid (HR1.out.st stB hB1)
  have HQ2 := Lib.hid (HR2.out.st stB hB1)
  have hBm := Nat.le_trans hB1 stB.size
  have hul : Hid (usm.length = n) := Lib.hid HNm.out.len.symm
  have hvl : Hid (vs.length = n) := Lib.hid H1.out.len.symm
  clear H1 HR1 HR2 HN1 HU1 HL1
  have st0 := st
  clear st
  go_loopw [8] (fun i wr => ∃ k : Nat, 1 ≤ k ∧ k ≤ n ∧ i = .int .i64 k ∧ St wm wr []) (fun i _ => n - (intOf i).toNat)
  case atStart => exact ⟨1, Nat.le_refl _, by omega, rfl, st0⟩
  case round =>
    clear st0
    obtain ⟨k, hk1, hk, rfl, st⟩ := hrel
    by_cases hlt : k < n
    · obtain ⟨j, hj, hjk⟩ := (L.TreeOk.of HZ.out).2.above (k := k) (by rw [E1.out]; exact hlt) (by omega)
      have hjn : j < n := by omega
      obtain ⟨bm, om, hAm, hbm, hcm⟩ := HNm.out.at_ hn1
      subst hAm
      obtain ⟨bl, ol, hAl, hbl, hcl⟩ := HA.out.at_ hn1
      subst hAl
      have hbl := Nat.lt_of_lt_of_le hbl hBm
      obtain ⟨f0, -, -, -⟩ := hcl k hlt
      rw [show (L.nx vs k).1.a = (j : Int) from by rw [L.nx_fst, HV.out]; exact hj] at f0
      obtain ⟨-, -, -, oX⟩ := hcm k hlt
      obtain ⟨-, -, oY, -⟩ := hcm j hjn
      have hvX := HVV.out (L.nx usm k).1 (by rw [← HUm.out]; exact List.mem_map_of_mem (L.nx_mem usm k (by rw [hul.out]; exact hlt)))
      have hvY := HVV.out (L.nx usm j).1 (by rw [← HUm.out]; exact List.mem_map_of_mem (L.nx_mem usm j (by rw [hul.out]; exact hjn)))
      have hlX := HLm.out _ (L.nx_mem usm k (by rw [hul.out]; exact hlt))
      have hlY := HLm.out _ (L.nx_mem usm j (by rw [hul.out]; exact hjn))
      have hrX := HNm.out.rows _ (L.nx_mem usm k (by rw [hul.out]; exact hlt))
      have hrY := HNm.out.rows _ (L.nx_mem usm j (by rw [hul.out]; exact hjn))
      have hrc : ∀ a ∈ (L.nx usm k).1.d.e, L.has a.f 16 = true → (L.nx usm k).1.d.p = false ∧ (L.nx usm j).1.d.e.any (L.comesB a (L.nx usm k).1.k (L.nx usm k).1.d.o (L.nx usm k).1.d.g) = true := fun a ha h16 => by
        rw [L.nx_fst, L.nx_fst, HUm.out] at *
        exact L.reach_node HZ.out E1.out.symm HO.out hlt (by omega) hj hjk ha h16
      generalize L.nx usm k = X at *
      generalize L.nx usm j = Y at *
      obtain ⟨xn, xA1, xn1, xc1, xA2, xn2, xc2⟩ := X
      obtain ⟨yn, yA1, yn1, yc1, yA2, yn2, yc2⟩ := Y
      have HRC := Lib.hid hrc
      have HX1 := Lib.hid hrX.1
      have HY1 := Lib.hid hrY.1
      have HVX := Lib.hid hvX
      have HVY := Lib.hid hvY
      have hfx : (decide (xn1 ≤ 20) && decide (xn2 ≤ 20)) = true := by simp only [decide_eq_true hlX.1, decide_eq_true hlX.2]; rfl
      have hfy : (decide (yn1 ≤ 20) && decide (yn2 ≤ 20)) = true := by simp only [decide_eq_true hlY.1, decide_eq_true hlY.2]; rfl
      have HFX := Lib.hid hfx
      have HFY := Lib.hid hfy
      obtain ⟨lx1, lx2⟩ := hlX
      obtain ⟨ly1, ly2⟩ := hlY
      have q1 : xn1 ≤ maxLen := Nat.le_trans lx1 (by decide)
      have q2 : xn2 ≤ maxLen := Nat.le_trans lx2 (by decide)
      have q3 : yn1 ≤ maxLen := Nat.le_trans ly1 (by decide)
      have q4 : yn2 ≤ maxLen := Nat.le_trans ly2 (by decide)
      replace q1 := Lib.hid q1
      replace q2 := Lib.hid q2
      replace q3 := Lib.hid q3
      replace q4 := Lib.hid q4
      have hkI : (k : Int) < (n : Int) := by omega
      have hjI : (j : Int) < (n : Int) := by omega
      clear hrX hrY hvX hvY hcm hcl hfx hfy hj hrc
      go_upto_region 13 with (refine WL.out ?_; (repeat ((refine WL.op ?_ ?_; (exact rfl); intro K hK; (first | ((((with_reducible apply ow_move); exact rfl)); (go_simp <;> (try simp (disch := omega) only [wrap_id, sub_left, zac]) <;> rfl)) | ((with_reducible apply ow_eval); (go_simp <;> (try simp (disch := omega) only [wrap_id, sub_left, zac]) <;> rfl); ((with_reducible apply up_value)))); refine WL.next hK (by simp only [Act.put, zpt, zsz, zss]; exact rfl) ?_; clear hK K))); (try refine WL.nil ?_))
      refine wp_region_mix 16 15 (by kernel_rfl) (by kernel_rfl) (by decide) st.size ?_; replace st := st.drew; generalize World.drew _ = W at st ⊢
      iterate 3 (apply Mix.val'; (focus (intro x0 x1 x2 x3 x4 x5 x6 x7 x8 x9 x10 x11 x12 x13 x14 x15 w1 hb; (try simp only [depM, fillA, Act.put, zta, ztz, zpt, zsz, zss, zl0, zls]); (repeat (rintro rfl)); have st := st.call hb; ((apply Yphi.run; (exact rfl); (go_simp <;> (try simp (disch := omega) only [wrap_id, sub_left, zac]) <;> rfl); exact rfl)))); (simp only [zca, zcn] <;> exact rfl))
      (apply Mix.val'; (focus (intro x0 x1 x2 x3 x4 x5 x6 x7 x8 x9 x10 x11 x12 x13 x14 x15 w1 hb; (try simp only [depM, fillA, Act.put, zta, ztz, zpt, zsz, zss, zl0, zls]); (repeat (rintro rfl)); have st := st.call hb; apply Yphi.oldC st; exact rfl; exact inferInstance; (exact rfl); exact rfl; assumption; assumption; exact rfl)); (simp only [zca, zcn] <;> exact rfl))
      iterate 5 (apply Mix.free'; (focus (intro x0 x1 x2 x3 x4 x5 x6 x7 x8 x9 x10 x11 x12 x13 x14 x15 w1 hb; (try simp only [depM, fillA, Act.put, zta, ztz, zpt, zsz, zss, zl0, zls]); (repeat (first | rintro rfl | intro _)); have st := st.call hb; apply YX.run; (exact rfl); (go_simp <;> (try simp (disch := omega) only [wrap_id, sub_left, zac]) <;> rfl); exact rfl)); (simp only [zca, zcn] <;> exact rfl))
      (apply Mix.free'; (focus (intro x0 x1 x2 x3 x4 x5 x6 x7 x8 x9 x10 x11 x12 x13 x14 x15 w1 hb; (try simp only [depM, fillA, Act.put, zta, ztz, zpt, zsz, zss, zl0, zls]); rintro rfl; intro w2 hb2; apply YX.oldS st hb2; exact rfl; exact inferInstance; (exact rfl); exact rfl; assumption; assumption)); (simp only [zca, zcn] <;> exact rfl))
      iterate 2 (apply Mix.free'; (focus (intro x0 x1 x2 x3 x4 x5 x6 x7 x8 x9 x10 x11 x12 x13 x14 x15 w1 hb; (try simp only [depM, fillA, Act.put, zta, ztz, zpt, zsz, zss, zl0, zls]); (repeat (first | rintro rfl | intro _)); have st := st.call hb; apply YX.run; (exact rfl); (go_simp <;> (try simp (disch := omega) only [wrap_id, sub_left, zac]) <;> rfl); exact rfl)); (simp only [zca, zcn] <;> exact rfl))
      (apply Mix.free'; (focus (intro x0 x1 x2 x3 x4 x5 x6 x7 x8 x9 x10 x11 x12 x13 x14 x15 w1 hb; (try simp only [depM, fillA, Act.put, zta, ztz, zpt, zsz, zss, zl0, zls]); rintro rfl; intro w2 hb2; apply YX.oldCS st hb2; exact rfl; exact inferInstance; (exact rfl); exact rfl; assumption; assumption; exact rfl)); (simp only [zca, zcn] <;> exact rfl))
      (apply Mix.fact' (freshBox (34) ([.int .i64 0, .bool false, .int .i64 0, .int .i64 0, .bool false, .bool false, .slice none 0 0, .slice none 0 0])) (freshBox_stable _ _); (focus (intro x0 x1 x2 x3 x4 x5 x6 x7 x8 x9 x10 x11 x12 x13 x14 x15 w1 hb; (try simp only [depM, fillA, Act.put, zta, ztz, zpt, zsz, zss, zl0, zls]); (repeat (fail)); have st := st.call hb; apply Yphi.alloc; exact rfl; exact inferInstance; exact rfl; (exact rfl))); (simp only [zca, zcn] <;> exact rfl))
      (apply Mix.fact' (freshBox (25) ([.int .i64 0, .int .i64 0, .bool false, .bool false, .slice none 0 0, .slice none 0 0])) (freshBox_stable _ _); (focus (intro x0 x1 x2 x3 x4 x5 x6 x7 x8 x9 x10 x11 x12 x13 x14 x15 w1 hb; (try simp only [depM, fillA, Act.put, zta, ztz, zpt, zsz, zss, zl0, zls]); (repeat (fail)); have st := st.call hb; apply Yphi.alloc; exact rfl; exact inferInstance; exact rfl; (exact rfl))); (simp only [zca, zcn] <;> exact rfl))
      (apply Mix.store'; exact rfl; (simp only [zca, zcn] <;> exact rfl))
      refine Mix.fin (by kernel_rfl) (by kernel_rfl) rfl ?_
      intro x0 x1 x2 x3 x4 x5 x6 x7 x8 x9 x10 x11 x12 x13 x14 x15 lo hi w1 hb hap
      rintro rfl rfl rfl rfl h13 k13 ⟨b9, rfl, o9, l9⟩ h14 k14 ⟨b10, rfl, o10, l10⟩
      have stO := st
      replace st := St.boxes2 st hb h13 h14 o9 o10 l9 l10 (hap 13 14 (by decide) (by decide) (by decide))
      clear hap hb h13 h14 o9 o10 l9 l10 k13 k14
      simp only [allMix, fixF, fillA, Act.put, zta, ztz, zpt, zsz, zss, zda, zdz]
      refine ⟨?_, ?_⟩
      (exact rfl)
      ((((with_reducible apply ow_storeN' st); exact rfl; exact inferInstance; exact rfl; (exact get0); exact rfl)); exact rfl; exact rfl; (simp <;> done); ((try simp only [zta, ztz, zda, zdz, zca, zcn, zan, zsz, zss]) <;> exact rfl); (try clear st); intro w' st)
      refine ⟨undef, rfl, SameBelow.of_st stO st, ?_⟩
      clear stO
      (repeat ((refine WL.op ?_ ?_; (exact rfl); intro K hK; (((((with_reducible apply ow_storeN' st); exact rfl; exact inferInstance; exact rfl; (exact get1); exact rfl)); exact rfl; exact rfl; (simp <;> done); ((try simp only [zta, ztz, zda, zdz, zca, zcn, zan, zsz, zss]) <;> exact rfl); (try clear st); intro w' st)); refine WL.next hK (by simp only [Act.put, zpt, zsz, zss]; exact rfl) ?_; clear hK K)))
      refine WL.nil ?_
      have st2 : St wm _ [.box b9 34 (.int .i64 xn.a :: .bool xn.k :: [.int .i64 xn.d.o, .int .i64 xn.d.g, .bool xn.d.p, .bool xn.d.h, .slice xA1 xn1 xc1, .slice xA2 xn2 xc2]), .box b10 25 [.int .i64 yn.d.o, .int .i64 yn.d.g, .bool yn.d.p, .bool yn.d.h, .slice yA1 yn1 yc1, .slice yA2 yn2 yc2]] := st
      replace st := st2
      clear st2
      go_wp2_with (refine WL.out ?_; (repeat ((refine WL.op ?_ ?_; (exact rfl); intro K hK; (first | ((((with_reducible apply ow_move); exact rfl)); (go_simp <;> (try simp (disch := omega) only [wrap_id, sub_left, zac]) <;> rfl)) | ((((with_reducible apply ow_loadN st); exact rfl; exact inferInstance; exact rfl; (first | exact get0 | exact get1); ((try simp only [zta, ztz, zda, zdz, zca, zcn, zan, zsz, zss]) <;> exact rfl))); exact rfl) | ((with_reducible apply ow_eval); (go_simp <;> (try simp (disch := omega) only [wrap_id, sub_left, zac]) <;> rfl); first | (with_reducible apply up_value) | ((with_reducible apply up_enter); ((go_at_call 11; (first | ((with_reducible refine (Few_any xn.d xA1 xA2 xn1 xn2 xc1 xc2 _ q1.out q2.out).mono ?_); rw [HFX.out]) | ((with_reducible refine (Few_any yn.d yA1 yA2 yn1 yn2 yc1 yc2 _ q3.out q4.out).mono ?_); rw [HFY.out])); rintro e w' ⟨rfl, hb⟩; replace st := st.call hb; clear hb; refine ⟨_, rfl, ?_⟩))))); refine WL.next hK (by simp only [Act.put, zpt, zsz, zss]; exact rfl) ?_; clear hK K))); (try refine WL.nil ?_))
      have HLX := Lib.hid HX1.out.len
      have st1 := st
      clear st
      go_loopw [11] (fun i wr => ∃ r : Nat, r ≤ xn1 ∧ i = .int .i64 r ∧ St wm wr [.box b9 34 (.int .i64 xn.a :: .bool xn.k :: [.int .i64 xn.d.o, .int .i64 xn.d.g, .bool xn.d.p, .bool xn.d.h, .slice xA1 xn1 xc1, .slice xA2 xn2 xc2]), .box b10 25 [.int .i64 yn.d.o, .int .i64 yn.d.g, .bool yn.d.p, .bool yn.d.h, .slice yA1 yn1 yc1, .slice yA2 yn2 yc2]])  (fun i _ => xn1 - (intOf i).toNat)
      case atStart => exact ⟨0, Nat.zero_le _, rfl, st1⟩
      case round =>
        clear st1
        obtain ⟨r, hr, rfl, st⟩ := hrel
        by_cases hlr : r < xn1
        · obtain ⟨be, qe, hAe, hbe, hce⟩ := HX1.out.at_ (by omega)
          subst hAe
          obtain ⟨g1, g2, g3, g4⟩ := hce r hlr
          have hmem : L.ax xn.d.e r ∈ xn.d.e := by rw [L.ax_eq _ r (by rw [← HLX.out]; exact hlr)]; exact List.getElem_mem _
          have hfr := HVX.out.fok _ hmem
          have HFR := Lib.hid hfr
          have HFL : Hid (∀ b ∈ yn.d.e, 0 ≤ b.f ∧ b.f ≤ 31) := Lib.hid HVY.out.fok
          obtain ⟨va, vb⟩ := hfr
          have hrI : (r : Int) < (xn1 : Int) := by omega
          cases h16 : L.has (L.ax xn.d.e r).f 16
          · clear hce hmem
            go_wp2_with (refine WL.out ?_; (repeat (first | (refine WL.op ?_ ?_; (exact rfl); intro K hK; (first | ((first | ((with_reducible apply ow_move); exact rfl) | ((with_reducible apply ow_assign); exact rfl)); (go_simp <;> (try simp (disch := omega) only [wrap_id, sub_left, zac]) <;> rfl)) | ((((with_reducible apply ow_load1 st); exact rfl; exact inferInstance; exact rfl; (exact get0))); exact rfl) | ((((with_reducible apply ow_alloc st); exact rfl; exact inferInstance; (go_simp <;> (try simp (disch := omega) only [wrap_id, sub_left, zac]) <;> rfl))); (try clear st); intro b w' st) | ((((with_reducible apply ow_storeN' st); exact rfl; exact inferInstance; exact rfl; (exact get0); exact rfl)); exact rfl; exact rfl; (simp <;> done); ((try simp only [zta, ztz, zda, zdz, zca, zcn, zan, zsz, zss]) <;> exact rfl); (try clear st); intro w' st) | ((with_reducible apply ow_old4 st); exact rfl; exact inferInstance; exact rfl; assumption; assumption; assumption; assumption; assumption) | ((with_reducible apply ow_eval); (go_simp <;> (try simp (disch := omega) only [wrap_id, sub_left, zac]) <;> rfl); first | (with_reducible apply up_value) | ((with_reducible apply up_enter); ((go_at_call 12; refine (Has_any _ _ _ (by omega) (by omega) (by omega) (by omega)).mono ?_; rintro e w' ⟨rfl, rfl⟩; refine ⟨_, rfl, ?_⟩))))); refine WL.next hK (by simp only [Act.put, zpt, zsz, zss]; exact rfl) ?_; clear hK K) | (refine WL.skip ?_ (by simp only [Act.put, zpt, zsz, zss]; exact rfl) ?_; (exact rfl)))); (try refine WL.nil ?_))
            exact ⟨⟨r + 1, by omega, (by (rfl)), st.tail⟩, by simp [intOf]; omega⟩
          · have hcm := HRC.out _ hmem h16
            have HCM := Lib.hid hcm.2
            have hp := hcm.1
            clear hce hmem hcm
            go_wp2_with (refine WL.out ?_; (repeat ((refine WL.op ?_ ?_; (exact rfl); intro K hK; (first | ((first | ((with_reducible apply ow_move); exact rfl) | ((with_reducible apply ow_assign); exact rfl)); (go_simp <;> (try simp (disch := omega) only [wrap_id, sub_left, zac]) <;> rfl)) | ((first | ((with_reducible apply ow_load1 st); exact rfl; exact inferInstance; exact rfl; (first | exact get0 | exact get1 | exact get2)) | ((with_reducible apply ow_loadN st); exact rfl; exact inferInstance; exact rfl; (first | exact get0 | exact get1); ((try simp only [zta, ztz, zda, zdz, zca, zcn, zan, zsz, zss]) <;> exact rfl))); exact rfl) | ((((with_reducible apply ow_alloc st); exact rfl; exact inferInstance; (go_simp <;> (try simp (disch := omega) only [wrap_id, sub_left, zac]) <;> rfl))); (try clear st); intro b w' st) | ((((with_reducible apply ow_storeN' st); exact rfl; exact inferInstance; exact rfl; (exact get0); exact rfl)); exact rfl; exact rfl; (simp <;> done); ((try simp only [zta, ztz, zda, zdz, zca, zcn, zan, zsz, zss]) <;> exact rfl); (try clear st); intro w' st) | ((with_reducible apply ow_old4 st); exact rfl; exact inferInstance; exact rfl; assumption; assumption; assumption; assumption; assumption) | ((with_reducible apply ow_eval); (go_simp <;> (try simp (disch := omega) only [wrap_id, sub_left, zac]) <;> rfl); first | (with_reducible apply up_value) | ((with_reducible apply up_enter); first | (go_at_call 12; refine (Has_any _ _ _ (by omega) (by omega) (by omega) (by omega)).mono ?_; rintro e w' ⟨rfl, rfl⟩; refine ⟨_, rfl, ?_⟩) | (go_at_call 13; ((with_reducible refine (comes_any (L.ax xn.d.e r) xn.k xn.d.o xn.d.g _ _ yA1 _ _ yn1 _ _ yc1 _ _ wm.heap.size yn.d.e _ (HY1.out.st st (Nat.le_refl _)) st.size (by omega) HFR.out HFL.out).mono ?_); rw [HCM.out]); rintro e w' ⟨rfl, hb⟩; replace st := st.call hb; clear hb; refine ⟨_, rfl, ?_⟩)))); refine WL.next hK (by simp only [Act.put, zpt, zsz, zss]; exact rfl) ?_; clear hK K))); (try refine WL.nil ?_))
            exact ⟨⟨r + 1, by omega, (by (rfl)), st.tail⟩, by simp [intOf]; omega⟩
        · obtain rfl : r = xn1 := by omega
          go_wp2_with (refine WL.out ?_; (repeat ((refine WL.op ?_ ?_; (exact rfl); intro K hK; (first | ((((with_reducible apply ow_assign); exact rfl)); (go_simp <;> (try simp (disch := omega) only [wrap_id, sub_left, zac]) <;> rfl)) | ((((with_reducible apply ow_load1 st); exact rfl; exact inferInstance; exact rfl; (exact get0))); exact rfl) | ((with_reducible apply ow_eval); (go_simp <;> (try simp (disch := omega) only [wrap_id, sub_left, zac]) <;> rfl); ((with_reducible apply up_value)))); refine WL.next hK (by simp only [Act.put, zpt, zsz, zss]; exact rfl) ?_; clear hK K))); (try refine WL.nil ?_))
          exact ⟨⟨k + 1, by omega, by omega, (by (rfl)), st.tail.tail⟩, by simp [intOf]; omega⟩

    · obtain rfl : n = k := by omega
      clear hk hk1 hlt
      cases hfr : (decide (n1 ≤ 20) && decide (n2 ≤ 20)) with
      | false =>
        have HFR := Lib.hid hfr
        clear hfr
        go_wp2_with (refine WL.out ?_; (repeat (first | (refine WL.op ?_ ?_; (exact rfl); intro K hK; (first | ((((with_reducible apply ow_move); exact rfl)); (go_simp <;> (try simp (disch := omega) only [wrap_id, sub_left, zac]) <;> rfl)) | ((with_reducible apply ow_oldC st); exact rfl; exact inferInstance; exact rfl; assumption; assumption; exact rfl) | ((with_reducible apply ow_eval); (go_simp <;> (try simp (disch := omega) only [wrap_id, sub_left, zac]) <;> rfl); first | (with_reducible apply up_value) | ((with_reducible apply up_enter); ((go_at_call 11; ((with_reducible refine (Few_any d A1 A2 n1 n2 c1 c2 _ hm1 hm2).mono ?_); rw [HFR.out]); rintro e w' ⟨rfl, hb⟩; replace st := st.call hb; clear hb; refine ⟨_, rfl, ?_⟩))))); refine WL.next hK (by simp only [Act.put, zpt, zsz, zss]; exact rfl) ?_; clear hK K) | (refine WL.skip ?_ (by simp only [Act.put, zpt, zsz, zss]; exact rfl) ?_; (exact rfl)))); (try refine WL.nil ?_))
        go_ret
        exact ⟨(by (rfl)), (stB.join st).below⟩
      | true =>
        obtain ⟨n20, n21⟩ : n1 ≤ 20 ∧ n2 ≤ 20 := by simpa using hfr
        have HFR := Lib.hid hfr
        obtain ⟨zd, hzd⟩ : ∃ z, d.rErrs.2 = z := ⟨_, rfl⟩
        have HZD := Lib.hid hzd
        clear hfr
        by_cases hz0 : zd = 0
        · subst hz0
          have HT := Lib.hid (L.reroot_err HZ.out (by rw [E1.out]; exact hn1) hzd)
          clear hzd
          go_upto_region 25 with (refine WL.out ?_; (repeat ((refine WL.op ?_ ?_; (exact rfl); intro K hK; (first | ((first | ((with_reducible apply ow_move); exact rfl) | ((with_reducible apply ow_assign); exact rfl)); (go_simp <;> (try simp (disch := omega) only [wrap_id, sub_left, zac]) <;> rfl)) | ((with_reducible apply ow_oldC st); exact rfl; exact inferInstance; exact rfl; assumption; assumption; exact rfl) | ((with_reducible apply ow_eval); (go_simp <;> (try simp (disch := omega) only [wrap_id, sub_left, zac]) <;> rfl); first | (with_reducible apply up_value) | ((with_reducible apply up_enter); first | (go_at_call 11; ((with_reducible refine (Few_any d A1 A2 n1 n2 c1 c2 _ hm1 hm2).mono ?_); rw [HFR.out]); rintro e w' ⟨rfl, hb⟩; replace st := st.call hb; clear hb; refine ⟨_, rfl, ?_⟩) | (go_at_call 14; refine (rDescriptorErr_any d A1 A2 n1 n2 c1 c2 B _ (HQ1.out.st st hBm) (HQ2.out.st st hBm) (Nat.le_trans hBm st.size) (by omega) (by omega)).mono ?_; rw [HZD.out]; rintro e w' ⟨rfl, hb⟩; replace st := st.call hb; clear hb; refine ⟨_, rfl, ?_⟩) | (go_at_call 10; refine (CopyNodes_any A n c B vs _ (HA.out.st st hBm) (Nat.le_trans hBm st.size) (by omega) (fun q hq => ⟨by have := (HL.out q hq).1; omega, by have := (HL.out q hq).2; omega⟩)).mono ?_; rintro e w' ⟨A', n', c', us, F, rfl, hus, hF, st'⟩; replace st := st.join st'; clear st'; simp only [List.cons_append, List.append_nil] at st; refine ⟨_, rfl, ?_⟩)))); refine WL.next hK (by simp only [Act.put, zpt, zsz, zss]; exact rfl) ?_; clear hK K))); (try refine WL.nil ?_))
          have hN0 := St.nodes st hF
          have hlu := congrArg List.length hus
          rw [List.length_map, List.length_map] at hlu
          obtain rfl : n = n' := by rw [hN0.len, hlu]; exact hvl.out.symm
          obtain ⟨q, us', rfl⟩ : ∃ q us', us = q :: us' := by
            cases us with
            | nil => have := hN0.len; simp at this; omega
            | cons q us' => exact ⟨q, us', rfl⟩
          have hmo : q.1 :: us'.map Prod.fst = l := hus.trans HV.out
          have hlq : us'.length + 1 = n := by have := hN0.len; simpa using this.symm
          clear hN0 hus hlu
          obtain ⟨g, R, rfl, hx1, hx2, hx3, hx4, st2⟩ := St.toBox st (by omega)
          have st3 : St wm _ (.box g 34 (.int .i64 q.1.a :: .bool q.1.k :: .int .i64 q.1.d.o :: .int .i64 q.1.d.g :: .bool q.1.d.p :: .bool q.1.d.h :: .slice q.2.A1 q.2.n1 q.2.c1 :: .slice q.2.A2 q.2.n2 q.2.c2 :: (L.nCellsOf us' ++ R)) :: F) := st2
          replace st := st3
          clear st2 st3
          have X2 := Lib.hid hx2
          have X3 := Lib.hid hx3
          have X4 := Lib.hid hx4
          have XL := Lib.hid hlq
          have XM := Lib.hid hmo
          have XF := Lib.hid hF
          clear hx1 hx2 hx3 hx4 hlq hmo hF
          go_upto_region 26 with (refine WL.out ?_; (repeat ((refine WL.op ?_ ?_; (exact rfl); intro K hK; (first | ((((with_reducible apply ow_move); exact rfl)); (go_simp <;> (try simp (disch := omega) only [wrap_id, sub_left, zac]) <;> rfl)) | ((((with_reducible apply ow_storeN' st); exact rfl; exact inferInstance; exact rfl; (exact get2); exact rfl)); exact rfl; exact rfl; (simp <;> done); ((try simp only [zta, ztz, zda, zdz, zca, zcn, zan, zsz, zss]) <;> exact rfl); (try clear st); intro w' st) | ((with_reducible apply ow_oldC st); exact rfl; exact inferInstance; exact rfl; assumption; assumption; exact rfl) | ((with_reducible apply ow_eval); (go_simp <;> (try simp (disch := omega) only [wrap_id, sub_left, zac]) <;> rfl); first | (with_reducible apply up_value) | ((with_reducible apply up_enter); ((go_at_call 15; refine (CopyDescriptor_any d A1 A2 n1 n2 c1 c2 B _ (HQ1.out.st st hBm) (HQ2.out.st st hBm) (Nat.le_trans hBm st.size) (by omega) (by omega)).mono ?_; rintro e w' ⟨A3, n3, c3, A4, n4, c4, rfl, st'⟩; replace st := st.join st'; clear st'; simp only [List.cons_append, List.nil_append] at st; refine ⟨_, rfl, ?_⟩))))); refine WL.next hK (by simp only [Act.put, zpt, zsz, zss]; exact rfl) ?_; clear hK K))); (try refine WL.nil ?_))
          have st3 : St wm _ (rowE ((⟨q.1.a, q.1.k, d⟩, ⟨A3, n3, c3, A4, n4, c4⟩) : L.Node × L.Place) :: rowA ((⟨q.1.a, q.1.k, d⟩, ⟨A3, n3, c3, A4, n4, c4⟩) : L.Node × L.Place) :: .box g 34 (L.nCellsOf (((⟨q.1.a, q.1.k, d⟩, ⟨A3, n3, c3, A4, n4, c4⟩) : L.Node × L.Place) :: us') ++ R) :: F) := st
          have st4 := st3.perm (List.Perm.append_right F (List.perm_append_comm (l₁ := [_, _]) (l₂ := [_])))
          have st5 := St.ofBox (n := n) (c := c') st4 (by rw [L.nCellsOf_length, List.length_cons, XL.out]) (by
            have h5 := X2.out
            rw [List.length_append, L.nCellsOf_length, List.length_cons] at h5 ⊢
            exact h5) X3.out X4.out
          obtain ⟨us2, hus2⟩ : ∃ us2, ((⟨q.1.a, q.1.k, d⟩, ⟨A3, n3, c3, A4, n4, c4⟩) : L.Node × L.Place) :: us' = us2 := ⟨_, rfl⟩
          have hF2 : Owned (rowE ((⟨q.1.a, q.1.k, d⟩, ⟨A3, n3, c3, A4, n4, c4⟩) : L.Node × L.Place) :: rowA ((⟨q.1.a, q.1.k, d⟩, ⟨A3, n3, c3, A4, n4, c4⟩) : L.Node × L.Place) :: F) us2 := by
            rw [← hus2]
            intro x hx
            rcases List.mem_cons.1 hx with rfl | hx
            · exact ⟨List.mem_cons_self .., List.mem_cons_of_mem _ (List.mem_cons_self ..)⟩
            · have := XF.out x (List.mem_cons_of_mem _ hx)
              exact ⟨List.mem_cons_of_mem _ (List.mem_cons_of_mem _ this.1), List.mem_cons_of_mem _ (List.mem_cons_of_mem _ this.2)⟩
          have hmo : us2.map Prod.fst = L.reroot l d := by
            rw [← hus2, ← XM.out]
            rfl
          rw [hus2] at st5
          replace st := st5
          have HNo := Lib.hid (St.nodes st hF2)
          have HMo := Lib.hid hmo
          have HLo := Lib.hid (HNo.out.lens (fun x hx => (L.TreeOk.of HT.out).2.all x (by rw [← hmo]; exact hx)))
          clear st3 st4 st5 hF2 hmo hus2
          cases ho2 : (L.rT (L.reroot l d) n).2 with
          | false =>
            have HO2 := Lib.hid ho2
            clear ho2
            go_wp2_with (refine WL.out ?_; (repeat ((refine WL.op ?_ ?_; (exact rfl); intro K hK; (first | ((first | ((with_reducible apply ow_move); exact rfl) | ((with_reducible apply ow_assign); exact rfl)); (go_simp <;> (try simp (disch := omega) only [wrap_id, sub_left, zac]) <;> rfl)) | ((with_reducible apply ow_eval); (go_simp <;> (try simp (disch := omega) only [wrap_id, sub_left, zac]) <;> rfl); first | (with_reducible apply up_value) | ((with_reducible apply up_enter); ((go_at_call 9; ((with_reducible refine (RefreshedIn_full_l (some ⟨g, 0, none⟩) n c' _ us2 _ HNo.out (Nat.le_refl _) hn HLo.out HMo.out HT.out HO2.out).mono ?_); rintro e w' ⟨rfl, hb⟩; replace st := st.call hb; clear hb; refine ⟨_, rfl, ?_⟩)))))); refine WL.next hK (by simp only [Act.put, zpt, zsz, zss]; exact rfl) ?_; clear hK K))); (try refine WL.nil ?_))
            go_ret
            exact ⟨(by (rfl)), (stB.join st).below⟩
          | true =>
            have HO2 := Lib.hid ho2
            clear ho2
            go_wp2_with (refine WL.out ?_; (repeat ((refine WL.op ?_ ?_; (exact rfl); intro K hK; (first | ((first | ((with_reducible apply ow_move); exact rfl) | ((with_reducible apply ow_assign); exact rfl)); (go_simp <;> (try simp (disch := omega) only [wrap_id, sub_left, zac]) <;> rfl)) | ((with_reducible apply ow_eval); (go_simp <;> (try simp (disch := omega) only [wrap_id, sub_left, zac]) <;> rfl); first | (with_reducible apply up_value) | ((with_reducible apply up_enter); ((go_at_call 9; ((with_reducible refine (RefreshedIn_ok_l (some ⟨g, 0, none⟩) n c' _ us2 _ HNo.out (Nat.le_refl _) hn HLo.out HMo.out HT.out HO2.out).mono ?_); rintro e wo ⟨Ao, co, uso, huo, rfl, hb, hNq⟩; have HUo := Lib.hid huo; have HNq := Lib.hid hNq; clear huo hNq; replace st := st.call hb; clear hb; have sto := St.start wo; refine ⟨_, rfl, ?_⟩)))))); refine WL.next hK (by simp only [Act.put, zpt, zsz, zss]; exact rfl) ?_; clear hK K))); (try refine WL.nil ?_))
            have hol : Hid (uso.length = n) := Lib.hid HNq.out.len.symm
            obtain ⟨bm, om, hAm, hbm, hcm⟩ := HNm.out.at_ hn1
            subst hAm
            obtain ⟨bo, oo, hAo, hbo, hco⟩ := HNq.out.at_ hn1
            subst hAo
            have HCM2 := Lib.hid hcm
            have HCO := Lib.hid hco
            have st0 : St wm wo [] := st.sub (List.nil_sublist _)
            have sto0 := sto
            clear hcm hco st sto
            go_loopw [17] (fun i wr => ∃ k : Nat, 1 ≤ k ∧ k ≤ n ∧ i = .int .i64 k ∧ St wm wr [] ∧ St wo wr []) (fun i _ => n - (intOf i).toNat)
            case atStart => exact ⟨1, Nat.le_refl _, by omega, rfl, st0, sto0⟩
            case round =>
              clear st0 sto0
              obtain ⟨k, hk1, hk, rfl, st, sto⟩ := hrel
              by_cases hlt : k < n
              · obtain ⟨-, -, oX, -⟩ := HCM2.out k hlt
                obtain ⟨-, -, oY, -⟩ := HCO.out k hlt
                have hlX := HLm.out _ (L.nx_mem usm k (by rw [hul.out]; exact hlt))
                have hrX := HNm.out.rows _ (L.nx_mem usm k (by rw [hul.out]; exact hlt))
                have hrY := HNq.out.rows _ (L.nx_mem uso k (by rw [hol.out]; exact hlt))
                have hsm : (L.nx usm k).1.d.p = true → (L.nx uso k).1.d = (L.nx usm k).1.d := fun hp => by
                  rw [L.nx_fst, HUm.out] at hp
                  rw [L.nx_fst, L.nx_fst, HUm.out, HUo.out]
                  exact L.reroot_same HO.out HO2.out hlt (by omega) hp
                generalize L.nx usm k = X at *
                generalize L.nx uso k = Y at *
                obtain ⟨xn, xA1, xn1, xc1, xA2, xn2, xc2⟩ := X
                obtain ⟨⟨ya, yk, yd⟩, yA1, yn1, yc1, yA2, yn2, yc2⟩ := Y
                obtain ⟨lx1, lx2⟩ := hlX
                have lx1 : xn1 ≤ 20 := lx1
                have lx2 : xn2 ≤ 20 := lx2
                have hkI : (k : Int) < (n : Int) := by omega
                cases hp : xn.d.p
                · have fp : wm.cell? ⟨bm, om + k * 8 + 2 + 2, none⟩ = some (.bool false) := by
                    have h3 := oX 2 _ rfl
                    rw [← hp]
                    exact h3
                  have fp2 : wm.cell? ⟨bm, om + k * 8 + 4, none⟩ = some (.bool false) := fp
                  clear oX oY hrX hrY hsm hp
                  go_upto_region 34 with (refine WL.out ?_; (repeat ((refine WL.op ?_ ?_; (exact rfl); intro K hK; (first | ((((with_reducible apply ow_move); exact rfl)); (go_simp <;> (try simp (disch := omega) only [wrap_id, sub_left, zac]) <;> rfl)) | ((with_reducible apply ow_eval); (go_simp <;> (try simp (disch := omega) only [wrap_id, sub_left, zac]) <;> rfl); ((with_reducible apply up_value)))); refine WL.next hK (by simp only [Act.put, zpt, zsz, zss]; exact rfl) ?_; clear hK K))); (try refine WL.nil ?_))
                  refine wp_region_plan 19 (by kernel_rfl) (by kernel_rfl) ?_
                  replace st := st.drew
                  replace sto := sto.drew
                  generalize World.drew _ = W at st sto ⊢
                  iterate 7 (apply Plan.val'; (focus (intro x0 x1 x2 x3 x4 x5 x6 x7 x8 x9 x10 x11 x12 x13 x14 x15 x16 x17 x18 w1 hb; (try simp only [depF, fillA, Act.put, zta, ztz, zpt, zsz, zss, zl0, zls]); (repeat (rintro rfl)); have st := st.call hb; (first | (apply Yphi.run; (exact rfl); (go_simp <;> (try simp (disch := omega) only [wrap_id, sub_left, zac]) <;> rfl); exact rfl) | (apply Yphi.old1 st; exact rfl; exact inferInstance; (exact rfl); exact rfl; assumption; assumption)))); (simp only [zca, zcn] <;> exact rfl))
                  iterate 12 (apply Plan.val'; (focus (intro x0 x1 x2 x3 x4 x5 x6 x7 x8 x9 x10 x11 x12 x13 x14 x15 x16 x17 x18 w1 hb; (try simp only [depF, fillA, Act.put, zta, ztz, zpt, zsz, zss, zl0, zls]); (repeat (first | rintro rfl | intro _)); have st := st.call hb; apply Yphi.skip; (exact rfl))); (simp only [zca, zcn] <;> exact rfl))
                  intro x0 x1 x2 x3 x4 x5 x6 x7 x8 x9 x10 x11 x12 x13 x14 x15 x16 x17 x18 lo hi w1 hb hap
                  rintro rfl rfl rfl rfl rfl rfl rfl rfl rfl rfl rfl rfl rfl rfl rfl rfl rfl rfl rfl
                  simp only [allPhi, fillA, Act.put, zta, ztz, zpt, zsz, zss, zda, zdz]
                  have st := st.call hb
                  have sto := sto.call hb
                  clear hap hb
                  go_wp2_with (refine WL.out ?_; (repeat ((refine WL.op ?_ ?_; (exact rfl); intro K hK; (first | ((((with_reducible apply ow_assign); exact rfl)); (go_simp <;> (try simp (disch := omega) only [wrap_id, sub_left, zac]) <;> rfl)) | ((with_reducible apply ow_eval); (go_simp <;> (try simp (disch := omega) only [wrap_id, sub_left, zac]) <;> rfl); ((with_reducible apply up_value)))); refine WL.next hK (by simp only [Act.put, zpt, zsz, zss]; exact rfl) ?_; clear hK K))); (try refine WL.nil ?_))
                  exact ⟨⟨k + 1, by omega, by omega, (by (rfl)), st, sto⟩, by simp [intOf]; omega⟩
                · obtain rfl : yd = xn.d := hsm hp
                  have fp : wm.cell? ⟨bm, om + k * 8 + 2 + 2, none⟩ = some (.bool true) := by
                    have h3 := oX 2 _ rfl
                    rw [← hp]
                    exact h3
                  have fp2 : wm.cell? ⟨bm, om + k * 8 + 4, none⟩ = some (.bool true) := fp
                  have oX2 : OldC wm bm (om + k * 8 + 2) [.int .i64 xn.d.o, .int .i64 xn.d.g, .bool xn.d.p, .bool xn.d.h, .slice xA1 xn1 xc1, .slice xA2 xn2 xc2] := oX
                  have oY2 : OldC wo bo (oo + k * 8 + 2) [.int .i64 xn.d.o, .int .i64 xn.d.g, .bool xn.d.p, .bool xn.d.h, .slice yA1 yn1 yc1, .slice yA2 yn2 yc2] := oY
                  have HX1 := Lib.hid hrX.1
                  have HX2 := Lib.hid hrX.2
                  have HY1 := Lib.hid hrY.1
                  have HY2 := Lib.hid hrY.2
                  clear oX oY hrX hrY hsm hp
                  go_upto_region 34 with (refine WL.out ?_; (repeat ((refine WL.op ?_ ?_; (exact rfl); intro K hK; (first | ((((with_reducible apply ow_move); exact rfl)); (go_simp <;> (try simp (disch := omega) only [wrap_id, sub_left, zac]) <;> rfl)) | ((with_reducible apply ow_eval); (go_simp <;> (try simp (disch := omega) only [wrap_id, sub_left, zac]) <;> rfl); ((with_reducible apply up_value)))); refine WL.next hK (by simp only [Act.put, zpt, zsz, zss]; exact rfl) ?_; clear hK K))); (try refine WL.nil ?_))
                  refine wp_region_plan 19 (by kernel_rfl) (by kernel_rfl) ?_
                  replace st := st.drew
                  replace sto := sto.drew
                  generalize World.drew _ = W at st sto ⊢
                  iterate 11 (apply Plan.val'; (focus (intro x0 x1 x2 x3 x4 x5 x6 x7 x8 x9 x10 x11 x12 x13 x14 x15 x16 x17 x18 w1 hb; (try simp only [depF, fillA, Act.put, zta, ztz, zpt, zsz, zss, zl0, zls]); (repeat (rintro rfl)); have st := st.call hb; (first | (apply Yphi.run; (exact rfl); (go_simp <;> (try simp (disch := omega) only [wrap_id, sub_left, zac]) <;> rfl); exact rfl) | (apply Yphi.old1 st; exact rfl; exact inferInstance; (exact rfl); exact rfl; assumption; assumption)))); (simp only [zca, zcn] <;> exact rfl))
                  (apply Plan.val'; (focus (intro x0 x1 x2 x3 x4 x5 x6 x7 x8 x9 x10 x11 x12 x13 x14 x15 x16 x17 x18 w1 hb; (try simp only [depF, fillA, Act.put, zta, ztz, zpt, zsz, zss, zl0, zls]); (repeat (rintro rfl)); have st := st.call hb; apply Yphi.oldC st; exact rfl; exact inferInstance; (exact rfl); exact rfl; assumption; assumption; exact rfl)); (simp only [zca, zcn] <;> exact rfl))
                  iterate 4 (apply Plan.val'; (focus (intro x0 x1 x2 x3 x4 x5 x6 x7 x8 x9 x10 x11 x12 x13 x14 x15 x16 x17 x18 w1 hb; (try simp only [depF, fillA, Act.put, zta, ztz, zpt, zsz, zss, zl0, zls]); (repeat (rintro rfl)); have st := st.call hb; ((apply Yphi.run; (exact rfl); (go_simp <;> (try simp (disch := omega) only [wrap_id, sub_left, zac]) <;> rfl); exact rfl)))); (simp only [zca, zcn] <;> exact rfl))
                  (apply Plan.val'; (focus (intro x0 x1 x2 x3 x4 x5 x6 x7 x8 x9 x10 x11 x12 x13 x14 x15 x16 x17 x18 w1 hb; (try simp only [depF, fillA, Act.put, zta, ztz, zpt, zsz, zss, zl0, zls]); (repeat (rintro rfl)); have st := st.call hb; have sto := sto.call hb; apply Yphi.oldC sto; exact rfl; exact inferInstance; (exact rfl); exact rfl; assumption; assumption; exact rfl)); (simp only [zca, zcn] <;> exact rfl))
                  (apply Plan.val'; (focus (intro x0 x1 x2 x3 x4 x5 x6 x7 x8 x9 x10 x11 x12 x13 x14 x15 x16 x17 x18 w1 hb; (try simp only [depF, fillA, Act.put, zta, ztz, zpt, zsz, zss, zl0, zls]); (repeat (first | rintro rfl | intro _)); have st := st.call hb; have sto := sto.call hb; apply Yphi.call; (exact rfl); (go_simp <;> (try simp (disch := omega) only [wrap_id, sub_left, zac]) <;> rfl); exact rfl; refine (SameDescriptor_refl xn.d xA1 xA2 yA1 yA2 xn1 xn2 yn1 yn2 xc1 xc2 yc1 yc2 _ _ ((HX1.out.st st (Nat.le_refl _)).more st.size) ((HX2.out.st st (Nat.le_refl _)).more st.size) ((HY1.out.st sto (Nat.le_refl _)).more sto.size) ((HY2.out.st sto (Nat.le_refl _)).more sto.size) (Nat.le_refl _) (by omega) (by omega)).mono ?_; rintro e w' ⟨rfl, hb'⟩; exact ⟨_, rfl, hb', rfl⟩)); (simp only [zca, zcn] <;> exact rfl))
                  (apply Plan.val'; (focus (intro x0 x1 x2 x3 x4 x5 x6 x7 x8 x9 x10 x11 x12 x13 x14 x15 x16 x17 x18 w1 hb; (try simp only [depF, fillA, Act.put, zta, ztz, zpt, zsz, zss, zl0, zls]); (repeat (rintro rfl)); have st := st.call hb; ((apply Yphi.run; (exact rfl); (go_simp <;> (try simp (disch := omega) only [wrap_id, sub_left, zac]) <;> rfl); exact rfl)))); (simp only [zca, zcn] <;> exact rfl))
                  intro x0 x1 x2 x3 x4 x5 x6 x7 x8 x9 x10 x11 x12 x13 x14 x15 x16 x17 x18 lo hi w1 hb hap
                  rintro rfl rfl rfl rfl rfl rfl rfl rfl rfl rfl rfl rfl rfl rfl rfl rfl rfl rfl rfl
                  simp only [allPhi, fillA, Act.put, zta, ztz, zpt, zsz, zss, zda, zdz]
                  have st := st.call hb
                  have sto := sto.call hb
                  clear hap hb
                  go_wp2_with (refine WL.out ?_; (repeat ((refine WL.op ?_ ?_; (exact rfl); intro K hK; (first | ((((with_reducible apply ow_assign); exact rfl)); (go_simp <;> (try simp (disch := omega) only [wrap_id, sub_left, zac]) <;> rfl)) | ((with_reducible apply ow_eval); (go_simp <;> (try simp (disch := omega) only [wrap_id, sub_left, zac]) <;> rfl); ((with_reducible apply up_value)))); refine WL.next hK (by simp only [Act.put, zpt, zsz, zss]; exact rfl) ?_; clear hK K))); (try refine WL.nil ?_))
                  exact ⟨⟨k + 1, by omega, by omega, (by (rfl)), st, sto⟩, by simp [intOf]; omega⟩
              · obtain rfl : n = k := by omega
                clear hk hk1 hlt
                go_wp2_with (refine WL.out ?_; (repeat ((refine WL.op ?_ ?_; (exact rfl); intro K hK; (((with_reducible apply ow_eval); (go_simp <;> (try simp (disch := omega) only [wrap_id, sub_left, zac]) <;> rfl); ((with_reducible apply up_value)))); refine WL.next hK (by simp only [Act.put, zpt, zsz, zss]; exact rfl) ?_; clear hK K))); (try refine WL.nil ?_))
                go_ret
                exact ⟨(by (rfl)), (stB.join st).below⟩
        · have hz1 : (zd != 0) = true := by simpa using hz0
          clear hzd
          go_wp2_with (refine WL.out ?_; (repeat ((refine WL.op ?_ ?_; (exact rfl); intro K hK; (first | ((((with_reducible apply ow_move); exact rfl)); (go_simp <;> (try simp (disch := omega) only [wrap_id, sub_left, zac]) <;> rfl)) | ((with_reducible apply ow_oldC st); exact rfl; exact inferInstance; exact rfl; assumption; assumption; exact rfl) | ((with_reducible apply ow_eval); (go_simp <;> (try simp (disch := omega) only [wrap_id, sub_left, zac]) <;> rfl); first | (with_reducible apply up_value) | ((with_reducible apply up_enter); first | (go_at_call 11; ((with_reducible refine (Few_any d A1 A2 n1 n2 c1 c2 _ hm1 hm2).mono ?_); rw [HFR.out]); rintro e w' ⟨rfl, hb⟩; replace st := st.call hb; clear hb; refine ⟨_, rfl, ?_⟩) | (go_at_call 14; refine (rDescriptorErr_any d A1 A2 n1 n2 c1 c2 B _ (HQ1.out.st st hBm) (HQ2.out.st st hBm) (Nat.le_trans hBm st.size) (by omega) (by omega)).mono ?_; rw [HZD.out]; rintro e w' ⟨rfl, hb⟩; replace st := st.call hb; clear hb; refine ⟨_, rfl, ?_⟩)))); refine WL.next hK (by simp only [Act.put, zpt, zsz, zss]; exact rfl) ?_; clear hK K))); (try refine WL.nil ?_))
          go_ret
          exact ⟨(by (rfl)), (stB.join st).below⟩
set_option maxRecDepth 8000 in
set_option maxHeartbeats 8000000 in
theorem AclReaches_any (d : L.Desc) (A A1 A2 : Option Addr) (n n1 n2 c c1 c2 B : Nat) (vs : List (L.Node × L.Place)) (w : World) (h1 : Nodes w B A n vs) (hr1 : Aces w B A1 n1 d.e) (hr2 : Aces w B A2 n2 d.a) (hB1 : B ≤ w.heap.size) (hM : ∀ q ∈ vs, q.2.n1 ≤ maxLen ∧ q.2.n2 ≤ maxLen) (hm1 : n1 ≤ maxLen) (hm2 : n2 ≤ maxLen) :
    Calls Tryz.prog 3 #[.slice A n c, .agg #[.int .i64 d.o, .int .i64 d.g, .bool d.p, .bool d.h, .slice A1 n1 c1, .slice A2 n2 c2]] w fun e w' => e = .returned (.bool true) ∧ Below w.heap.size w w' := by
  by_cases hf : (decide (n ≤ 32) && vs.all L.few) = true
  · have hf2 := hf
    rw [Bool.and_eq_true, decide_eq_true_eq, List.all_eq_true] at hf2
    have hm : ∀ q ∈ vs, q.2.n1 ≤ 20 ∧ q.2.n2 ≤ 20 := fun q hq => by
      have := hf2.2 q hq
      unfold L.few at this
      simpa using this
    by_cases hz : L.rTreeErr (vs.map Prod.fst) = 0
    · by_cases h0 : n = 0
      · exact AclReaches_none d A A1 A2 n n1 n2 c c1 c2 B vs w h1 hr1 hr2 hB1 hf2.1 hM hm1 hm2 hm rfl hz h0
      · cases ho : (L.rT (vs.map Prod.fst) n).2 with
        | true => exact AclReaches_ok d A A1 A2 n n1 n2 c c1 c2 B vs w h1 hr1 hr2 hB1 hf2.1 hM hm1 hm2 hm rfl hz h0 ho
        | false => exact AclReaches_full d A A1 A2 n n1 n2 c c1 c2 B vs w h1 hr1 hr2 hB1 hf2.1 hM hm1 hm2 hm rfl hz h0 ho
    · exact AclReaches_err d A A1 A2 n n1 n2 c c1 c2 B vs w h1 hr1 hr2 hB1 hf2.1 hM hm1 hm2 hm rfl rfl hz
  · have HF : Hid ((decide (n ≤ 32) && vs.all L.few) = false) := Lib.hid (by cases h : (decide (n ≤ 32) && vs.all L.few) with | false => rfl | true => exact absurd h hf)
    have H1 := Lib.hid h1
    have HM := Lib.hid hM
    clear h1 hM hf hr1 hr2 hm1 hm2
    have st := St.start w
    go_enter Tryz.func3, Tryz.ntmps3
    go_wp2_with (refine WL.out ?_; (repeat (first | (refine WL.op ?_ ?_; (exact rfl); intro K hK; (first | ((first | ((with_reducible apply ow_move); exact rfl) | ((with_reducible apply ow_assign); exact rfl)); (go_simp <;> (try simp (disch := omega) only [wrap_id, sub_left, zac]) <;> rfl)) | ((((with_reducible apply ow_box st); exact rfl; (go_simp <;> (try simp (disch := omega) only [wrap_id, sub_left, zac]) <;> rfl); (go_simp <;> (try simp (disch := omega) only [wrap_id, sub_left, zac]) <;> rfl))); (try clear st); intro b w' st) | ((with_reducible apply ow_eval); (go_simp <;> (try simp (disch := omega) only [wrap_id, sub_left, zac]) <;> rfl); first | (with_reducible apply up_value) | ((with_reducible apply up_enter); first | (go_at_call 6; refine (awake_any _).mono ?_; rintro e w' ⟨rfl, hb⟩; replace st := st.call hb; clear hb; refine ⟨_, rfl, ?_⟩) | (go_at_call 7; refine (fewNodes_any A n c B vs _ (H1.out.st st hB1) (Nat.le_trans hB1 st.size) HM.out).mono ?_; rw [HF.out]; rintro e w' ⟨rfl, hb⟩; replace st := st.call hb; clear hb; refine ⟨_, rfl, ?_⟩)))); refine WL.next hK (by simp only [Act.put, zpt, zsz, zss]; exact rfl) ?_; clear hK K) | (refine WL.skip ?_ (by simp only [Act.put, zpt, zsz, zss]; exact rfl) ?_; (exact rfl)))); (try refine WL.nil ?_))
    go_ret
    exact ⟨(by (rfl)), st.below⟩
end Go.Proofs.YtppjhccdgbheiaaGreatDoor
namespace Go.Proofs.YtppjhccdgbheiaaGreatDoor
open Go.ChangeShapes Go.WideShapes Go.ChangeAt Go.RowKit Go.Deep
set_option maxRecDepth 100000
theorem nodes_of {p : Nat → L.Node × L.Place → Prop} : ∀ n : Nat, (∀ i, i < n → ∃ a, p i a) → ∃ l : List (L.Node × L.Place), l.length = n ∧ ∀ i, i < n → p i (L.nx l i)
  | 0, _ => ⟨[], rfl, fun _ h => absurd h (by omega)⟩
  | n + 1, h => by
    obtain ⟨l, hl, hp⟩ := nodes_of n fun i hi => h i (by omega)
    obtain ⟨a, ha⟩ := h n (by omega)
    refine ⟨l ++ [a], by simp [hl], fun i hi => ?_⟩
    by_cases e : i = n
    · subst e
      unfold L.nx
      rw [List.getElem?_append_right (by omega)]
      simpa [hl] using ha
    · have := hp i (by omega)
      unfold L.nx at this ⊢
      rwa [List.getElem?_append_left (by omega)]
section
variable {H : Type} {enc : TypeId × Value → H} {W : World} {held : Bool}
def RowsIn (W : World) (q : L.Node × L.Place) : Prop := Aces W W.heap.size q.2.A1 q.2.n1 q.1.d.e ∧ Aces W W.heap.size q.2.A2 q.2.n2 q.1.d.a ∧ q.2.n1 ≤ maxLen ∧ q.2.n2 ≤ maxLen
theorem open_desc {fuel : Nat} {cs : List Value} {x : DataW H × List MemPlace} (h : DataW.trod enc Tryz.prog W 0 (fun _ => true) held fuel 25 cs = some x) (hsz : cs.length = 6) (hlt : ∀ p ∈ x.2, p.block < W.heap.size) :
    ∃ (D : L.Desc) (p : L.Place), cs = D.cells p ∧ Aces W W.heap.size p.A1 p.n1 D.e ∧ Aces W W.heap.size p.A2 p.n2 D.a ∧ p.n1 ≤ maxLen ∧ p.n2 ≤ maxLen := by
  obtain ⟨xs, n, _, hx, _, hxl, hg⟩ := DataW.trod_struct Tryz.underlying25 h
  have hC1 : Tryz.prog.cellsOf 3 = 1 := by kernel_rfl
  have hC2 : Tryz.prog.cellsOf 4 = 1 := by kernel_rfl
  have hC3 : Tryz.prog.cellsOf 23 = 1 := by kernel_rfl
  match cs, hsz, xs, hxl with
  | [c0, c1, c2, c3, c4, c5], _, [y0, y1, y2, y3, y4, y5], _ =>
    have hp : x.2 = ([y0, y1, y2, y3, y4, y5] : List (DataW H × List MemPlace)).flatMap Prod.snd := by rw [hx]
    have h0 : DataW.trod enc Tryz.prog W 0 (fun _ => true) held n 3 (List.take (Tryz.prog.cellsOf 3) (List.drop 0 [c0, c1, c2, c3, c4, c5])) = some y0 := hg 0 _ rfl
    have h1 : DataW.trod enc Tryz.prog W 0 (fun _ => true) held n 3 (List.take (Tryz.prog.cellsOf 3) (List.drop 1 [c0, c1, c2, c3, c4, c5])) = some y1 := hg 1 _ rfl
    have h2 : DataW.trod enc Tryz.prog W 0 (fun _ => true) held n 4 (List.take (Tryz.prog.cellsOf 4) (List.drop 2 [c0, c1, c2, c3, c4, c5])) = some y2 := hg 2 _ rfl
    have h3 : DataW.trod enc Tryz.prog W 0 (fun _ => true) held n 4 (List.take (Tryz.prog.cellsOf 4) (List.drop 3 [c0, c1, c2, c3, c4, c5])) = some y3 := hg 3 _ rfl
    have h4 : DataW.trod enc Tryz.prog W 0 (fun _ => true) held n 23 (List.take (Tryz.prog.cellsOf 23) (List.drop 4 [c0, c1, c2, c3, c4, c5])) = some y4 := hg 4 _ rfl
    have h5 : DataW.trod enc Tryz.prog W 0 (fun _ => true) held n 23 (List.take (Tryz.prog.cellsOf 23) (List.drop 5 [c0, c1, c2, c3, c4, c5])) = some y5 := hg 5 _ rfl
    rw [hC1] at h0 h1
    rw [hC2] at h2 h3
    rw [hC3] at h4 h5
    obtain ⟨n0, e0, _, _⟩ := DataW.trod_int Tryz.underlying3 (x := y0) h0
    obtain ⟨n1, e1, _, _⟩ := DataW.trod_int Tryz.underlying3 (x := y1) h1
    obtain ⟨b2, e2, _⟩ := DataW.trod_bool Tryz.underlying4 (x := y2) h2
    obtain ⟨b3, e3, _⟩ := DataW.trod_bool Tryz.underlying4 (x := y3) h3
    obtain ⟨A4, n4, k4, l4, e4, ha4, hm4⟩ := open_aces (x := y4) h4 (fun x hx => hlt x (by rw [hp]; simp [hx]))
    obtain ⟨A5, n5, k5, l5, e5, ha5, hm5⟩ := open_aces (x := y5) h5 (fun x hx => hlt x (by rw [hp]; simp [hx]))
    simp at e0 e1 e2 e3 e4 e5
    subst e0 e1 e2 e3 e4 e5
    exact ⟨⟨n0, n1, b2, b3, l4, l5⟩, ⟨A4, n4, k4, A5, n5, k5⟩, rfl, ha4, ha5, hm4, hm5⟩
theorem open_node {fuel : Nat} {cs : List Value} {x : DataW H × List MemPlace} (h : DataW.trod enc Tryz.prog W 0 (fun _ => true) held fuel 34 cs = some x) (hsz : cs.length = 8) (hlt : ∀ p ∈ x.2, p.block < W.heap.size) :
    ∃ q : L.Node × L.Place, cs = L.nCells q ∧ RowsIn W q := by
  obtain ⟨xs, n, _, hx, _, hxl, hg⟩ := DataW.trod_struct Tryz.underlying34 h
  have hC1 : Tryz.prog.cellsOf 3 = 1 := by kernel_rfl
  have hC2 : Tryz.prog.cellsOf 4 = 1 := by kernel_rfl
  have hC3 : Tryz.prog.cellsOf 25 = 6 := by kernel_rfl
  match cs, hsz, xs, hxl with
  | [c0, c1, c2, c3, c4, c5, c6, c7], _, [y0, y1, y2], _ =>
    have hp : x.2 = ([y0, y1, y2] : List (DataW H × List MemPlace)).flatMap Prod.snd := by rw [hx]
    have h0 : DataW.trod enc Tryz.prog W 0 (fun _ => true) held n 3 (List.take (Tryz.prog.cellsOf 3) (List.drop 0 [c0, c1, c2, c3, c4, c5, c6, c7])) = some y0 := hg 0 _ rfl
    have h1 : DataW.trod enc Tryz.prog W 0 (fun _ => true) held n 4 (List.take (Tryz.prog.cellsOf 4) (List.drop 1 [c0, c1, c2, c3, c4, c5, c6, c7])) = some y1 := hg 1 _ rfl
    have h2 : DataW.trod enc Tryz.prog W 0 (fun _ => true) held n 25 (List.take (Tryz.prog.cellsOf 25) (List.drop 2 [c0, c1, c2, c3, c4, c5, c6, c7])) = some y2 := hg 2 _ rfl
    rw [hC1] at h0
    rw [hC2] at h1
    rw [hC3] at h2
    obtain ⟨n0, e0, _, _⟩ := DataW.trod_int Tryz.underlying3 (x := y0) h0
    obtain ⟨b1, e1, _⟩ := DataW.trod_bool Tryz.underlying4 (x := y1) h1
    obtain ⟨D, p, e2, ha1, ha2, hm1, hm2⟩ := open_desc (x := y2) h2 rfl (fun x hx => hlt x (by rw [hp]; simp [hx]))
    simp at e0 e1
    subst e0 e1
    have e2 : [c2, c3, c4, c5, c6, c7] = D.cells p := e2
    exact ⟨(⟨n0, b1, D⟩, p), by rw [e2]; rfl, ha1, ha2, hm1, hm2⟩
theorem open_nodes {fuel : Nat} {cs : List Value} {x : DataW H × List MemPlace} (h : DataW.trod enc Tryz.prog W 0 (fun _ => true) held fuel 22 cs = some x) (hlt : ∀ p ∈ x.2, p.block < W.heap.size) :
    ∃ A n c vs, cs = [.slice A n c] ∧ Nodes W W.heap.size A n vs ∧ ∀ q ∈ vs, q.2.n1 ≤ maxLen ∧ q.2.n2 ≤ maxLen := by
  rcases open_slice Tryz.underlying22 h with ⟨hc, _⟩ | ⟨a, len, cap, m, fu, D, Pl, hc, _, hle, hcap, hm, hx, hat⟩
  · exact ⟨none, 0, 0, [], hc, ⟨Hp.Rd.nil _, fun q hq => (by cases hq)⟩, fun q hq => (by cases hq)⟩
  · have hm' : m = cap := by simpa using hm
    subst hm'
    have hC : Tryz.prog.cellsOf 34 = 8 := by kernel_rfl
    have hcell : ∀ i, i < len → ∃ q : L.Node × L.Place, (∀ j v, (L.nCells q)[j]? = some v → W.cell? ((a.add (i * 8)).add j) = some v) ∧ RowsIn W q := by
      intro i hi
      obtain ⟨cs', hcs, ht⟩ := hat i (by omega)
      rw [hC] at hcs
      obtain ⟨_, hl, hcl⟩ := World.cells?_some hcs
      obtain ⟨q, he, hq⟩ := open_node ht (by simpa using hl) (fun p hp => hlt p (by
        rw [hx]
        exact List.mem_append_right _ (List.mem_flatMap.2 ⟨i, List.mem_range.2 (by omega), hp⟩)))
      refine ⟨q, fun j v hj => ?_, hq⟩
      have hj8 : j < 8 := by
        have := (List.getElem?_eq_some_iff.1 hj).1
        exact this
      rw [← he] at hj
      have := hcl j (by omega)
      rw [this]
      rw [List.getElem?_eq_getElem (by omega)] at hj
      simpa [List.getD, List.getElem?_eq_getElem (show j < cs'.length by omega)] using hj
    obtain ⟨vs, hl, hp⟩ := nodes_of len hcell
    refine ⟨some a, len, m, vs, hc, ⟨⟨by rw [L.nCellsOf_length, hl], fun hn => ?_⟩, fun q hq => ?_⟩, fun q hq => ?_⟩
    · have hs : a.spot = none := by
        have := World.cell?_spot ((hp 0 hn).1 0 _ rfl)
        simpa [Addr.add] using this
      obtain ⟨b, o, sp⟩ := a
      simp only at hs
      subst hs
      refine ⟨b, o, rfl, ?_, fun j u hj => ?_⟩
      · have : MemPlace.cell b o ∈ x.2 := by
          rw [hx]
          refine List.mem_append_left _ ?_
          rw [hC]
          exact List.mem_map.2 ⟨0, by simp; omega, rfl⟩
        exact hlt _ this
      · have hjl := (List.getElem?_eq_some_iff.1 hj).1
        rw [L.nCellsOf_length, hl] at hjl
        obtain ⟨i, r, rfl, hr⟩ : ∃ i r, j = i * 8 + r ∧ r < 8 := ⟨j / 8, j % 8, by omega, by omega⟩
        rw [L.nCellsOf_get vs i (by omega) r hr] at hj
        have hh := (hp i (by omega)).1 r u hj
        simp only [add_at] at hh
        rw [← Nat.add_assoc]
        exact hh
    · obtain ⟨i, hi, rfl⟩ := List.mem_iff_getElem.1 hq
      have hh := (hp i (by omega)).2
      rw [L.nx_eq vs i hi] at hh
      exact ⟨hh.1, hh.2.1⟩
    · obtain ⟨i, hi, rfl⟩ := List.mem_iff_getElem.1 hq
      have hh := (hp i (by omega)).2
      rw [L.nx_eq vs i hi] at hh
      exact hh.2.2
theorem open_nodesV {v : Value} {d : DataW H} {p : List MemPlace} {r : Reach} {b0 : Nat} (hv : Value.okWide Tryz.prog W r b0 22 v) (h : DataW.Trod enc Tryz.prog W 0 (fun _ => true) held 22 v d p) (hlt : ∀ x ∈ p, x.block < W.heap.size) :
    ∃ A n c vs, v = .slice A n c ∧ Nodes W W.heap.size A n vs ∧ ∀ q ∈ vs, q.2.n1 ≤ maxLen ∧ q.2.n2 ≤ maxLen := by
  obtain ⟨a, len, cap, rfl⟩ := okWide_slice Tryz.underlying22 hv
  obtain ⟨fuel, hf⟩ := h
  obtain ⟨A, n, c, vs, hc, hA, hm⟩ := open_nodes hf hlt
  simp [Value.cells] at hc
  obtain ⟨rfl, rfl, rfl⟩ := hc
  exact ⟨_, _, _, vs, rfl, hA, hm⟩
end
end Go.Proofs.YtppjhccdgbheiaaGreatDoor
namespace Go.Proofs.YtppjhccdgbheiaaGreatDoor
open Go.ChangeShapes Go.WideShapes Go.ChangeAt Go.WideElems Go.RowKit

theorem aclReaches_met (os : Os) (args : Array Value) : laidMetH Tryz.prog Rows.aclReachesRow.laid ((World.doorLaid Tryz.prog 400 os).forCall (fun _ _ => 0) ⟨#[], args, []⟩).memory :=
  laidMetH_of_parts3 (fuel := 8) (laidMet_of_run' 8 (by kernel_rfl) (by kernel_rfl)) (by kernel_rfl) (by kernel_rfl)

set_option maxRecDepth 100000 in
theorem aclReaches_lifted (os : Os) (started : os.Started) (H : Type) (enc : TypeId × Value → H) :
    ReturnsInHanded {} Tryz.checked os 3 .any (fun w args => (Rows.aclReachesSpec.pre enc Tryz.prog Tryz.f3 [] false w args ∧ laidMetH Tryz.prog Rows.aclReachesRow.laid w) ∧ sizedMet enc Tryz.prog Tryz.f3 (OpenSpec.ofChange Rows.aclReachesSpec) false w args)
      (Rows.aclReachesSpec.post enc Tryz.prog Tryz.f3 false true false false) := by
  refine returnsInHanded_of_change_and (C := Tryz.checked) (X := fun w _ => laidMetH Tryz.prog Rows.aclReachesRow.laid w) (fun _ _ _ hh h => h.of_heap hh) Tryz.own started (by kernel_rfl) Tryz.func3
    (ChangeSpec.witness_shaped (enc := enc) (C := Tryz.checked) (os := os) (X := fun w _ => laidMetH Tryz.prog Rows.aclReachesRow.laid w) false (World.doorLaid Tryz.prog 400 os) #[.slice none 0 0, .agg #[.int .i64 0, .int .i64 0, .bool false, .bool false, .slice none 0 0, .slice none 0 0]] 8 rfl (World.shaped_of_RefB (by kernel_rfl) (by kernel_rfl)) (by kernel_rfl) (by kernel_rfl) (by kernel_rfl) (aclReaches_met os _)) ?_
  intro W base args ds gs before hval0 hW _ _ hL _
  have hval : ∀ (j : Nat) t v, Tryz.f3.params[j]? = some t → args[j]? = some v → Value.okWide Tryz.prog W .any base t v := hval0
  have hW' := hW
  obtain ⟨p, q, hA0, hV, rfl, hfz, hnd⟩ := hW
  have hA : DataW.TrodAll enc Tryz.prog W 0 (fun _ => true) true Tryz.f3.params.toList args.toList ds p := hA0
  have hlt : ∀ x ∈ p, x.block < W.heap.size := fun x hx => hW'.lt x (List.mem_append_left _ hx)
  rw [Tryz.params3] at hA hval
  obtain ⟨v0, v1, d0, d1, p0, p1, rfl, rfl, rfl, h0, h1⟩ := trodAll_two hA
  obtain ⟨rfl, rfl⟩ := trodVars_none hV
  obtain ⟨A0, n0, c0, l0, rfl, hl0, hm0⟩ := open_nodesV (hval 0 _ v0 rfl rfl) h0 (fun x hx => hlt x (List.mem_append_left _ hx))
  obtain ⟨A11, A21, n11, n21, c11, c21, D1, rfl, hl11, hl21, hm11, hm21⟩ := open_descV (hval 1 _ v1 rfl rfl) h1 (fun x hx => hlt x (List.mem_append_right _ hx))
  clear hA0 hval0
  refine (AclReaches_any D1 A0 A11 A21 n0 n11 n21 c0 c11 c21 _ l0 W hl0 hl11 hl21 (Nat.le_refl _) hm0 hm11 hm21).mono fun e W' ⟨he, hb⟩ => ?_
  subst he
  exact ⟨_, rfl, law_post Tryz.laidOut Tryz.underlying4 rfl (by kernel_rfl) rfl hW' (by rw [Tryz.params3]; intro t ht; simp at ht; rcases ht with rfl | rfl <;> exact ⟨by kernel_rfl, of_decide_eq_true (by kernel_rfl)⟩) hb⟩

theorem aclReaches_holds : Rows.AclReachesSaid :=
  OpenClaim.holds_of_wide 3 Tryz.f3 rfl rfl rfl rfl rfl rfl rfl ⟨rfl, rfl, rfl, rfl, rfl⟩ rfl rfl rfl rfl rfl (by kernel_rfl) Tryz.func3 (by kernel_rfl)
    (of_decide_eq_true (by kernel_rfl)) (by unfold Func.isWrapper; first | (rw [if_pos (by decide +kernel)]; kernel_rfl) | (rw [if_neg (by decide +kernel)]; exact ⟨rfl, rfl⟩))
    (fun os started H enc _ => aclReaches_lifted os started H enc)
set_option maxRecDepth 100000 in
theorem aclReaches_card : Rows.AclReachesCardSaid :=
  Claim7.holds_tied_plain_at .later [] [.data, .data, .data] true (true, "08c42e9c085e1437c869bc6cd1be150ac2304968525486f775f5bced7371d301") true
    aclReaches_holds (fun _ h => by cases h) (by kernel_rfl) (fun _ h => by cases h) aclReaches_row_tie rfl ⟨rfl, rfl⟩ (by kernel_rfl) rfl
    (fun f fn hf hfn => by
      obtain rfl : f = 3 := Option.some.inj ((show Tryz.prog.funcNamed Rows.aclReachesRow.func = some 3 by kernel_rfl).symm.trans hf) |>.symm
      obtain rfl : fn = Tryz.f3 := (Option.some.inj (Tryz.func3.symm.trans hfn)).symm
      exact ⟨by kernel_rfl, fun j t ht => by
        rw [Tryz.params3] at ht
        have hm : t ∈ [22, 25] := by simpa using Array.mem_of_getElem? ht
        have hall : ([22, 25].all fun u => !Tryz.prog.wantsStandIn u) = true := by kernel_rfl
        exact (show Tryz.prog.wantsStandIn t = false by simpa using List.all_eq_true.1 hall t hm)⟩)
    (by kernel_rfl)
end Go.Proofs.YtppjhccdgbheiaaGreatDoor
