/- For every input the law AclChecks (which entries and descriptors are valid) returns true without a panic, and each argument reads behind the call as it read before: its tied card holds. Conditions: none but the row's own (the three listed tables of the standard library read as their text lays them). -/
import Derived.Test.YtppjhccdgbheiaaDoorBase3
import Derived.Test.YtppjhccdgbheiaaDoorBase1
import Derived.Test.YtppjhccdgbheiaaDoorRows
import Derived.Test.YtppjhccdgbheiaaDoorTie
import Derived.Test.YtppjhccdgbheiaaDoorCards
import Derived.SevenTiedAt
import Derived.Stop.Joined
set_option linter.all false
namespace Go.Proofs.YtppjhccdgbheiaaDoor
open Go.RowKit Go.Hp
theorem L.aceErr_eq (k f m wh : Int) : L.aceErr k f m wh = L.rAceErr k f m wh := L.aErr_eq ⟨k, f, m, wh⟩
set_option maxRecDepth 8000 in
set_option maxHeartbeats 2000000 in
theorem AclChecks_any (k f m wh : Int) (d : L.Desc) (A1 A2 : Option Addr) (n1 n2 c1 c2 B : Nat) (w : World) (h1 : Aces w B A1 n1 d.e) (h2 : Aces w B A2 n2 d.a) (hB1 : B ≤ w.heap.size) (hn1 : n1 ≤ maxLen) (hn2 : n2 ≤ maxLen) :
    Calls Tryd.prog 3 #[.agg #[.int .i64 k, .int .i64 f, .int .i64 m, .int .i64 wh], .agg #[.int .i64 d.o, .int .i64 d.g, .bool d.p, .bool d.h, .slice A1 n1 c1, .slice A2 n2 c2]] w fun e w' => e = .returned (.bool true) ∧ Below w.heap.size w w' := by
  have H1 := Lib.hid h1
  have H2 := Lib.hid h2
  clear h1 h2
  have st := St.start w
  by_cases hn : n1 ≤ 20 ∧ n2 ≤ 20
  · have hf : (decide (n1 ≤ 20) && decide (n2 ≤ 20)) = true := by simp [hn]
    have hm1 : n1 ≤ 100 := by omega
    have hm2 : n2 ≤ 100 := by omega
    clear hn
    go_enter Tryd.func3, Tryd.ntmps3
    go_wp2_with (refine WL.out ?_; (repeat ((refine WL.op ?_ ?_; (exact rfl); intro K hK; (first | ((first | ((with_reducible apply ow_move); exact rfl) | ((with_reducible apply ow_assign); exact rfl)); (go_simp <;> (try simp (disch := omega) only [wrap_id, sub_left, zac]) <;> rfl)) | ((((with_reducible apply ow_loadN st); exact rfl; exact inferInstance; exact rfl; (first | exact get0 | exact get1 | exact get2 | exact get3); ((try simp only [zta, ztz, zda, zdz, zca, zcn, zan, zsz, zss]) <;> exact rfl))); exact rfl) | ((((with_reducible apply ow_box st); exact rfl; (go_simp <;> (try simp (disch := omega) only [wrap_id, sub_left, zac]) <;> rfl); (go_simp <;> (try simp (disch := omega) only [wrap_id, sub_left, zac]) <;> rfl))); (try clear st); intro b w' st) | ((with_reducible apply ow_eval); (go_simp <;> (try simp (disch := omega) only [wrap_id, sub_left, zac]) <;> rfl); first | (with_reducible apply up_value) | ((with_reducible apply up_enter); first | (go_at_call 8; refine (awake_any _).mono ?_; rintro e w' ⟨rfl, hb⟩; replace st := st.call hb; clear hb; refine ⟨_, rfl, ?_⟩) | (go_at_call 9; refine (Few_any d A1 A2 n1 n2 c1 c2 _ hn1 hn2).mono ?_; rw [hf]; rintro e w' ⟨rfl, hb⟩; replace st := st.call hb; clear hb; refine ⟨_, rfl, ?_⟩) | (go_at_call 10; refine (CheckAce_any _ _ _ _ _).mono ?_; rintro e w' ⟨rfl, hb⟩; replace st := st.call hb; clear hb; refine ⟨_, rfl, ?_⟩) | (go_at_call 12; refine (CopyDescriptor_any d A1 A2 n1 n2 c1 c2 B _ (H1.out.st st hB1) (H2.out.st st hB1) (Nat.le_trans hB1 st.size) (by omega) (by omega)).mono ?_; rintro e w' ⟨A1', n1', c1', A2', n2', c2', rfl, st'⟩; replace st := st.join st'; clear st'; simp only [List.cons_append, List.nil_append] at st; have l1 := Lib.hid (St.len st (i := 0) rfl); have l2 := Lib.hid (St.len st (i := 1) rfl); refine ⟨_, rfl, ?_⟩) | (go_at_call 11; refine (CheckDescriptor_any d _ _ _ _ _ _ _ _ (St.aces st (i := 0) rfl) (St.aces st (i := 1) rfl) (Nat.le_refl _) (by have := l1.out; have := H1.out.len; omega) (by have := l2.out; have := H2.out.len; omega)).mono ?_; rw [L.Desc.err_eq]; rintro e w' ⟨rfl, hb⟩; replace st := st.call hb; clear hb; refine ⟨_, rfl, ?_⟩) | (go_at_call 13; refine (rCheckDescriptor_any d A1 A2 n1 n2 c1 c2 B _ (H1.out.st st hB1) (H2.out.st st hB1) (Nat.le_trans hB1 st.size) hm1 hm2).mono ?_; rintro e w' ⟨rfl, hb⟩; replace st := st.call hb; clear hb; refine ⟨_, rfl, ?_⟩) | (go_at_call 14; refine (AceErr_any k f m wh _).mono ?_; rw [← L.aceErr_eq]; rintro e w' ⟨rfl, hb⟩; replace st := st.call hb; clear hb; refine ⟨_, rfl, ?_⟩)))); refine WL.next hK (by simp only [Act.put, zpt, zsz, zss]; exact rfl) ?_; clear hK K))); (try refine WL.nil ?_))
    go_ret
    exact ⟨by simp, st.below⟩
  · have hf : (decide (n1 ≤ 20) && decide (n2 ≤ 20)) = false := by
      cases h : (decide (n1 ≤ 20) && decide (n2 ≤ 20)) with
      | false => rfl
      | true => simp at h; exact absurd h hn
    clear hn
    go_enter Tryd.func3, Tryd.ntmps3
    go_wp2_with (refine WL.out ?_; (repeat ((refine WL.op ?_ ?_; (exact rfl); intro K hK; (first | ((((with_reducible apply ow_assign); exact rfl)); (go_simp <;> (try simp (disch := omega) only [wrap_id, sub_left, zac]) <;> rfl)) | ((((with_reducible apply ow_loadN st); exact rfl; exact inferInstance; exact rfl; (exact get0); ((try simp only [zta, ztz, zda, zdz, zca, zcn, zan, zsz, zss]) <;> exact rfl))); exact rfl) | ((((with_reducible apply ow_box st); exact rfl; (go_simp <;> (try simp (disch := omega) only [wrap_id, sub_left, zac]) <;> rfl); (go_simp <;> (try simp (disch := omega) only [wrap_id, sub_left, zac]) <;> rfl))); (try clear st); intro b w' st) | ((with_reducible apply ow_eval); (go_simp <;> (try simp (disch := omega) only [wrap_id, sub_left, zac]) <;> rfl); first | (with_reducible apply up_value) | ((with_reducible apply up_enter); first | (go_at_call 8; refine (awake_any _).mono ?_; rintro e w' ⟨rfl, hb⟩; replace st := st.call hb; clear hb; refine ⟨_, rfl, ?_⟩) | (go_at_call 9; refine (Few_any d A1 A2 n1 n2 c1 c2 _ hn1 hn2).mono ?_; rw [hf]; rintro e w' ⟨rfl, hb⟩; replace st := st.call hb; clear hb; refine ⟨_, rfl, ?_⟩)))); refine WL.next hK (by simp only [Act.put, zpt, zsz, zss]; exact rfl) ?_; clear hK K))); (try refine WL.nil ?_))
    go_ret
    exact ⟨rfl, st.below⟩
end Go.Proofs.YtppjhccdgbheiaaDoor
namespace Go.Proofs.YtppjhccdgbheiaaDoor
open Go.ChangeShapes Go.WideShapes Go.ChangeAt Go.WideElems Go.RowKit

theorem aclChecks_met (os : Os) (args : Array Value) : laidMetH Tryd.prog Rows.aclChecksRow.laid ((World.doorLaid Tryd.prog 400 os).forCall (fun _ _ => 0) ⟨#[], args, []⟩).memory :=
  laidMetH_of_parts3 (fuel := 8) (laidMet_of_run' 8 (by kernel_rfl) (by kernel_rfl)) (by kernel_rfl) (by kernel_rfl)

set_option maxRecDepth 100000 in
theorem aclChecks_lifted (os : Os) (started : os.Started) (H : Type) (enc : TypeId × Value → H) :
    ReturnsInHanded {} Tryd.checked os 3 .any (fun w args => (Rows.aclChecksSpec.pre enc Tryd.prog Tryd.f3 [] false w args ∧ laidMetH Tryd.prog Rows.aclChecksRow.laid w) ∧ sizedMet enc Tryd.prog Tryd.f3 (OpenSpec.ofChange Rows.aclChecksSpec) false w args)
      (Rows.aclChecksSpec.post enc Tryd.prog Tryd.f3 false true false false) := by
  refine returnsInHanded_of_change_and (C := Tryd.checked) (X := fun w _ => laidMetH Tryd.prog Rows.aclChecksRow.laid w) (fun _ _ _ hh h => h.of_heap hh) Tryd.own started (by kernel_rfl) Tryd.func3
    (ChangeSpec.witness_shaped (enc := enc) (C := Tryd.checked) (os := os) (X := fun w _ => laidMetH Tryd.prog Rows.aclChecksRow.laid w) false (World.doorLaid Tryd.prog 400 os) #[.agg #[.int .i64 0, .int .i64 0, .int .i64 0, .int .i64 0], .agg #[.int .i64 0, .int .i64 0, .bool false, .bool false, .slice none 0 0, .slice none 0 0]] 8 rfl (World.shaped_of_RefB (by kernel_rfl) (by kernel_rfl)) (by kernel_rfl) (by kernel_rfl) (by kernel_rfl) (aclChecks_met os _)) ?_
  intro W base args ds gs before hval0 hW _ _ hL _
  have hval : ∀ (j : Nat) t v, Tryd.f3.params[j]? = some t → args[j]? = some v → Value.okWide Tryd.prog W .any base t v := hval0
  have hW' := hW
  obtain ⟨p, q, hA0, hV, rfl, hfz, hnd⟩ := hW
  have hA : DataW.TrodAll enc Tryd.prog W 0 (fun _ => true) true Tryd.f3.params.toList args.toList ds p := hA0
  have hlt : ∀ x ∈ p, x.block < W.heap.size := fun x hx => hW'.lt x (List.mem_append_left _ hx)
  rw [Tryd.params3] at hA hval
  obtain ⟨v0, v1, d0, d1, p0, p1, rfl, rfl, rfl, h0, h1⟩ := trodAll_two hA
  obtain ⟨rfl, rfl⟩ := trodVars_none hV
  obtain ⟨k, f, m, wh, rfl⟩ := open_aceV (hval 0 _ v0 rfl rfl) h0
  obtain ⟨A1, A2, n1, n2, c1, c2, D, rfl, hl1, hl2, hm1, hm2⟩ := open_descV (hval 1 _ v1 rfl rfl) h1 (fun x hx => hlt x (List.mem_append_right _ hx))
  clear hA0 hval0
  refine (AclChecks_any k f m wh D A1 A2 n1 n2 c1 c2 _ W hl1 hl2 (Nat.le_refl _) hm1 hm2).mono fun e W' ⟨he, hb⟩ => ?_
  subst he
  exact ⟨_, rfl, law_post Tryd.laidOut Tryd.underlying4 rfl (by kernel_rfl) rfl hW' (by rw [Tryd.params3]; intro t ht; simp at ht; rcases ht with rfl | rfl <;> exact ⟨by kernel_rfl, of_decide_eq_true (by kernel_rfl)⟩) hb⟩

theorem aclChecks_holds : Rows.AclChecksSaid :=
  OpenClaim.holds_of_wide 3 Tryd.f3 rfl rfl rfl rfl rfl rfl rfl ⟨rfl, rfl, rfl, rfl, rfl⟩ rfl rfl rfl rfl rfl (by kernel_rfl) Tryd.func3 (by kernel_rfl)
    (of_decide_eq_true (by kernel_rfl)) (by unfold Func.isWrapper; ((rw [if_neg (by decide +kernel)]; exact ⟨rfl, rfl⟩)))
    (fun os started H enc _ => aclChecks_lifted os started H enc)
set_option maxRecDepth 100000 in
theorem aclChecks_card : Rows.AclChecksCardSaid :=
  Claim7.holds_tied_plain_at .later [] [.data, .data, .data] true (true, "7b58f35dfa9e08ea00186690e530b63ca1eaa6542b58d38336e5d9b585ab7f7d") false
    aclChecks_holds (fun _ h => by cases h) (by kernel_rfl) (fun _ h => by cases h) aclChecks_row_tie rfl ⟨rfl, rfl⟩ (by kernel_rfl) rfl
    (fun f fn hf hfn => by
      obtain rfl : f = 3 := Option.some.inj ((show Tryd.prog.funcNamed Rows.aclChecksRow.func = some 3 by kernel_rfl).symm.trans hf) |>.symm
      obtain rfl : fn = Tryd.f3 := (Option.some.inj (Tryd.func3.symm.trans hfn)).symm
      exact ⟨by kernel_rfl, fun j t ht => by
        rw [Tryd.params3] at ht
        have hm : t ∈ [23, 26] := by simpa using Array.mem_of_getElem? ht
        have hall : ([23, 26].all fun u => !Tryd.prog.wantsStandIn u) = true := by kernel_rfl
        exact (show Tryd.prog.wantsStandIn t = false by simpa using List.all_eq_true.1 hall t hm)⟩)
    (by kernel_rfl)
end Go.Proofs.YtppjhccdgbheiaaDoor
