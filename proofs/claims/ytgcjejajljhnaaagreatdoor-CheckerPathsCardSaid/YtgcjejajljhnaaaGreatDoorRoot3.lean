/- Own text, part Root 3: walks of the package acl and of its reference, and the plain laws that they lean on; no statement of the seat is here. -/
import Derived.Test.YtgcjejajljhnaaaGreatDoorRoot2
set_option linter.all false
namespace Ck
theorem five (T ln ds k : Int) : (ln != 0) = true ∨ (ln = 0 ∧ (ds != 0) = true) ∨ (ln = 0 ∧ ds = 0 ∧ (T != 0) = true) ∨ (ln = 0 ∧ ds = 0 ∧ T = 0 ∧ (k != 0) = true) ∨ (ln = 0 ∧ ds = 0 ∧ T = 0 ∧ k = 0) := by
  by_cases h1 : ln = 0 <;> by_cases h2 : ds = 0 <;> by_cases h3 : T = 0 <;> by_cases h4 : k = 0 <;> simp [h1, h2, h3, h4]
end Ck
namespace Go.Hp
open Go.RowKit
theorem OldC.part {w : World} {b p : Nat} {vs : List Value} (h : OldC w b p vs) (k : Nat) (ys : List Value) (hy : ∀ j v, ys[j]? = some v → vs[k + j]? = some v) : OldC w b (p + k) ys := fun j v hj => by
  have := h (k + j) v (hy j v hj)
  rwa [← Nat.add_assoc] at this
end Go.Hp
namespace Go.Proofs.YtgcjejajljhnaaaGreatDoor
open Go.RowKit Go.Hp
set_option maxRecDepth 8000 in
set_option maxHeartbeats 30000000 in
theorem rrecordErr_any (i : Nat) (x : Ck.VRc) (B : Nat) (w : World) (h : x.At w B) (hB : B ≤ w.heap.size) (hf : x.Fit) (hi : i ≤ 100000) :
    Calls Tryz.prog 51 #[.agg #[.bool x.u, .int .i64 x.q, .int .i64 x.k, .int .i64 x.b.r, .int .i64 x.b.q, .int .i64 x.ln, .int .i64 x.ds, .slice x.An x.ns.length x.cn, .slice x.As x.ss.length x.cs, .slice x.Ae x.es.length x.ce], .int .i64 (i : Int)] w fun e w' => e = .returned (.int .i64 (Ck.recErr i x.p)) ∧ Below w.heap.size w w' := by
  have H := Lib.hid h
  have HF := Lib.hid hf
  clear h hf
  obtain ⟨u, q, k, ⟨br, bq⟩, ln, ds, ns, ss, es, An, cn, As, cs, Ae, ce⟩ := x
  simp only at *
  obtain ⟨nn, e1⟩ : ∃ n, n = ns.length := ⟨_, rfl⟩
  obtain ⟨nss, e2⟩ : ∃ n, n = ss.length := ⟨_, rfl⟩
  obtain ⟨ne, e3⟩ : ∃ n, n = es.length := ⟨_, rfl⟩
  have E1 := Lib.hid e1
  have E2 := Lib.hid e2
  have E3 := Lib.hid e3
  rw [← e1, ← e2, ← e3]
  clear e1 e2 e3
  have hn1 : nn ≤ 100000 := by rw [E1.out]; exact HF.out.ns
  have hn2 : nss ≤ 100000 := by rw [E2.out]; exact HF.out.ss
  have hn3 : ne ≤ 100000 := by rw [E3.out]; exact HF.out.es
  obtain ⟨R, eR⟩ : ∃ R, R = Ck.recErr (i : Int) (Ck.VRc.p ⟨u, q, k, ⟨br, bq⟩, ln, ds, ns, ss, es, An, cn, As, cs, Ae, ce⟩) := ⟨_, rfl⟩
  rw [← eR]
  have HR := Lib.hid eR
  clear eR
  have st := St.start w
  go_enter Tryz.func51, Tryz.ntmps51
  go_upto_region 1 with (refine WL.out ?_; (repeat ((refine WL.op ?_ ?_; (exact rfl); intro K hK; (first | ((((with_reducible apply ow_assign); exact rfl)); (go_simp <;> (try simp (disch := omega) only [wrap_id, sub_left, zac]) <;> rfl)) | ((((with_reducible apply ow_box st); exact rfl; (go_simp <;> (try simp (disch := omega) only [wrap_id, sub_left, zac]) <;> rfl); (go_simp <;> (try simp (disch := omega) only [wrap_id, sub_left, zac]) <;> rfl))); (try clear st); intro b w' st)); refine WL.next hK (by simp only [Act.put, zpt, zsz, zss]; exact rfl) ?_; clear hK K))); (try refine WL.nil ?_))
  cases z1 : Ck.wi q 1 65535
  · go_wp2_with (refine WL.out ?_; (repeat (first | (refine WL.op ?_ ?_; (exact rfl); intro K hK; (first | ((((with_reducible apply ow_move); exact rfl)); (go_simp <;> (try simp (disch := omega) only [wrap_id, sub_left, zac]) <;> rfl)) | ((((with_reducible apply ow_load1 st); exact rfl; exact inferInstance; exact rfl; (exact get0))); exact rfl) | ((with_reducible apply ow_eval); (go_simp <;> (try simp (disch := omega) only [wrap_id, sub_left, zac]) <;> rfl); first | (with_reducible apply up_value) | ((with_reducible apply up_enter); ((go_at_call 29; refine (Within_any _ _ _ _).mono ?_; rintro e w' ⟨rfl, rfl⟩; refine ⟨_, rfl, ?_⟩))))); refine WL.next hK (by simp only [Act.put, zpt, zsz, zss]; exact rfl) ?_; clear hK K) | (refine WL.skip ?_ (by simp only [Act.put, zpt, zsz, zss]; exact rfl) ?_; (exact rfl)))); (try refine WL.nil ?_))
    go_ret
    exact ⟨Ck.ret_int (by rw [HR.out, Ck.head1 (by simp [Ck.VRc.p, z1])]), st.below⟩
  cases z2 : Ck.wi k 0 3
  · go_wp2_with (refine WL.out ?_; (repeat (first | (refine WL.op ?_ ?_; (exact rfl); intro K hK; (first | ((((with_reducible apply ow_move); exact rfl)); (go_simp <;> (try simp (disch := omega) only [wrap_id, sub_left, zac]) <;> rfl)) | ((((with_reducible apply ow_load1 st); exact rfl; exact inferInstance; exact rfl; (exact get0))); exact rfl) | ((with_reducible apply ow_eval); (go_simp <;> (try simp (disch := omega) only [wrap_id, sub_left, zac]) <;> rfl); first | (with_reducible apply up_value) | ((with_reducible apply up_enter); ((go_at_call 29; refine (Within_any _ _ _ _).mono ?_; rintro e w' ⟨rfl, rfl⟩; refine ⟨_, rfl, ?_⟩))))); refine WL.next hK (by simp only [Act.put, zpt, zsz, zss]; exact rfl) ?_; clear hK K) | (refine WL.skip ?_ (by simp only [Act.put, zpt, zsz, zss]; exact rfl) ?_; (exact rfl)))); (try refine WL.nil ?_))
    go_ret
    exact ⟨Ck.ret_int (by rw [HR.out, Ck.head1 (by simp [Ck.VRc.p, z2])]), st.below⟩
  cases z3 : Ck.num ln
  · go_wp2_with (refine WL.out ?_; (repeat (first | (refine WL.op ?_ ?_; (exact rfl); intro K hK; (first | ((((with_reducible apply ow_move); exact rfl)); (go_simp <;> (try simp (disch := omega) only [wrap_id, sub_left, zac]) <;> rfl)) | ((((with_reducible apply ow_load1 st); exact rfl; exact inferInstance; exact rfl; (exact get0))); exact rfl) | ((with_reducible apply ow_eval); (go_simp <;> (try simp (disch := omega) only [wrap_id, sub_left, zac]) <;> rfl); first | (with_reducible apply up_value) | ((with_reducible apply up_enter); first | (go_at_call 29; refine (Within_any _ _ _ _).mono ?_; rintro e w' ⟨rfl, rfl⟩; refine ⟨_, rfl, ?_⟩) | (go_at_call 96; refine (IsNumber_any _ _).mono ?_; rintro e w' ⟨rfl, rfl⟩; refine ⟨_, rfl, ?_⟩)))); refine WL.next hK (by simp only [Act.put, zpt, zsz, zss]; exact rfl) ?_; clear hK K) | (refine WL.skip ?_ (by simp only [Act.put, zpt, zsz, zss]; exact rfl) ?_; (exact rfl)))); (try refine WL.nil ?_))
    go_ret
    exact ⟨Ck.ret_int (by rw [HR.out, Ck.head1 (by simp [Ck.VRc.p, z3])]), st.below⟩
  cases z4 : Ck.num ds
  · go_wp2_with (refine WL.out ?_; (repeat ((refine WL.op ?_ ?_; (exact rfl); intro K hK; (first | ((((with_reducible apply ow_move); exact rfl)); (go_simp <;> (try simp (disch := omega) only [wrap_id, sub_left, zac]) <;> rfl)) | ((((with_reducible apply ow_load1 st); exact rfl; exact inferInstance; exact rfl; (exact get0))); exact rfl) | ((with_reducible apply ow_eval); (go_simp <;> (try simp (disch := omega) only [wrap_id, sub_left, zac]) <;> rfl); first | (with_reducible apply up_value) | ((with_reducible apply up_enter); first | (go_at_call 29; refine (Within_any _ _ _ _).mono ?_; rintro e w' ⟨rfl, rfl⟩; refine ⟨_, rfl, ?_⟩) | (go_at_call 96; refine (IsNumber_any _ _).mono ?_; rintro e w' ⟨rfl, rfl⟩; refine ⟨_, rfl, ?_⟩)))); refine WL.next hK (by simp only [Act.put, zpt, zsz, zss]; exact rfl) ?_; clear hK K))); (try refine WL.nil ?_))
    go_ret
    exact ⟨Ck.ret_int (by rw [HR.out, Ck.head1 (by simp [Ck.VRc.p, z4])]), st.below⟩
  have Z1 := Lib.hid (show (!(Ck.wi q 1 65535) || !(Ck.wi k 0 3) || !(Ck.num ln) || !(Ck.num ds)) = false by rw [z1, z2, z3, z4]; rfl)
  have hb : 0 ≤ k ∧ k ≤ 3 ∧ 0 ≤ ln ∧ ln ≤ 2147483647 ∧ 0 ≤ ds ∧ ds ≤ 2147483647 := by simp [Ck.wi, Ck.num] at z2 z3 z4; omega
  obtain ⟨hk0, hk1, hl0, hl1, hd0, hd1⟩ := hb
  obtain ⟨T, hT⟩ : ∃ T : Int, (nn : Int) + (nss : Int) + (ne : Int) = T := ⟨_, rfl⟩
  have hT0 : 0 ≤ T := by omega
  have HT := Lib.hid hT
  go_upto_region 4 with (refine WL.out ?_; (repeat ((refine WL.op ?_ ?_; (exact rfl); intro K hK; (first | ((first | ((with_reducible apply ow_move); exact rfl) | ((with_reducible apply ow_assign); exact rfl)); (go_simp <;> (try simp (disch := omega) only [wrap_id, sub_left, zac]) <;> rfl)) | ((((with_reducible apply ow_load1 st); exact rfl; exact inferInstance; exact rfl; (exact get0))); exact rfl) | ((with_reducible apply ow_eval); (go_simp <;> (try simp (disch := omega) only [wrap_id, sub_left, zac]) <;> rfl); first | (with_reducible apply up_value) | ((with_reducible apply up_enter); first | (go_at_call 29; refine (Within_any _ _ _ _).mono ?_; rintro e w' ⟨rfl, rfl⟩; refine ⟨_, rfl, ?_⟩) | (go_at_call 96; refine (IsNumber_any _ _).mono ?_; rintro e w' ⟨rfl, rfl⟩; refine ⟨_, rfl, ?_⟩)))); refine WL.next hK (by simp only [Act.put, zpt, zsz, zss]; exact rfl) ?_; clear hK K))); (try refine WL.nil ?_))
  clear z1 z2 z3 z4
  go_cut [5, 75] from 48 to 75 (fun v5 v wx => v = .bool (!u && (!decide ((⟨br, bq⟩ : Ck.Ref) = Ck.Ref.o) || decide (0 < ln + ds + T + k))) ∧ St w wx [.box b 66 [.bool u, .int .i64 q, .int .i64 k, .int .i64 br, .int .i64 bq, .int .i64 ln, .int .i64 ds, .slice An nn cn, .slice As nss cs, .slice Ae ne ce]])
  case first =>
    cases u
    · cases z5 : decide ((⟨br, bq⟩ : Ck.Ref) = Ck.Ref.o)
      · go_wp2_with (refine WL.out ?_; (repeat (first | (refine WL.op ?_ ?_; (exact rfl); intro K hK; (first | ((((with_reducible apply ow_move); exact rfl)); (go_simp <;> (try simp (disch := omega) only [wrap_id, sub_left, zac]) <;> rfl)) | ((first | ((with_reducible apply ow_load1 st); exact rfl; exact inferInstance; exact rfl; (exact get0)) | ((with_reducible apply ow_loadN st); exact rfl; exact inferInstance; exact rfl; (exact get0); ((try simp only [zta, ztz, zda, zdz, zca, zcn, zan, zsz, zss]) <;> exact rfl))); exact rfl) | ((with_reducible apply ow_bin); exact rfl; kernel_rfl; exact rfl; exact rfl; exact fun w => neq_ref ⟨br, bq⟩ Ck.Ref.o w) | ((with_reducible apply ow_eval); (go_simp <;> (try simp (disch := omega) only [wrap_id, sub_left, zac]) <;> rfl); ((with_reducible apply up_value)))); refine WL.next hK (by simp only [Act.put, zpt, zsz, zss]; exact rfl) ?_; clear hK K) | (refine WL.skip ?_ (by simp only [Act.put, zpt, zsz, zss]; exact rfl) ?_; (exact rfl)))); (try refine WL.nil ?_))
        refine Met.intro ?_
        try go_step
        (repeat apply Exists.intro)
        refine ⟨?rel, rfl⟩
        case rel => exact ⟨by simp [z5], st⟩
      · rcases Ck.five T ln ds k with y | ⟨rfl, y⟩ | ⟨rfl, rfl, y⟩ | ⟨rfl, rfl, rfl, y⟩ | ⟨rfl, rfl, rfl, rfl⟩
        all_goals (
          go_wp2_with (refine WL.out ?_; (repeat (first | (refine WL.op ?_ ?_; (exact rfl); intro K hK; (first | ((((with_reducible apply ow_move); exact rfl)); (go_simp <;> (try simp (disch := omega) only [wrap_id, sub_left, zac]) <;> rfl)) | ((first | ((with_reducible apply ow_load1 st); exact rfl; exact inferInstance; exact rfl; (exact get0)) | ((with_reducible apply ow_loadN st); exact rfl; exact inferInstance; exact rfl; (exact get0); ((try simp only [zta, ztz, zda, zdz, zca, zcn, zan, zsz, zss]) <;> exact rfl))); exact rfl) | ((with_reducible apply ow_bin); exact rfl; kernel_rfl; exact rfl; exact rfl; exact fun w => neq_ref ⟨br, bq⟩ Ck.Ref.o w) | ((with_reducible apply ow_eval); (go_simp <;> (try simp (disch := omega) only [wrap_id, sub_left, zac]) <;> rfl); ((with_reducible apply up_value)))); refine WL.next hK (by simp only [Act.put, zpt, zsz, zss]; exact rfl) ?_; clear hK K) | (refine WL.skip ?_ (by simp only [Act.put, zpt, zsz, zss]; exact rfl) ?_; (exact rfl)))); (try refine WL.nil ?_))
          (try (((repeat (fail)); (try refine WL.nil ?_)); go_wp2_with (refine WL.out ?_; (repeat (fail)); (try refine WL.nil ?_))))
          refine Met.intro ?_
          try go_step
          (repeat apply Exists.intro)
          refine ⟨?rel, rfl⟩
          case rel => exact ⟨by congr 1; simp only [z5, Bool.not_false, Bool.not_true, Bool.true_and, Bool.false_or]; (first | (rw [eq_comm, decide_eq_true_eq]; rw [bne_iff_ne] at y; omega) | rfl), st⟩)
    · go_wp2_with (refine WL.out ?_; (repeat (first | (refine WL.op ?_ ?_; (exact rfl); intro K hK; (first | ((((with_reducible apply ow_move); exact rfl)); (go_simp <;> (try simp (disch := omega) only [wrap_id, sub_left, zac]) <;> rfl)) | ((((with_reducible apply ow_load1 st); exact rfl; exact inferInstance; exact rfl; (exact get0))); exact rfl) | ((with_reducible apply ow_eval); (go_simp <;> (try simp (disch := omega) only [wrap_id, sub_left, zac]) <;> rfl); ((with_reducible apply up_value)))); refine WL.next hK (by simp only [Act.put, zpt, zsz, zss]; exact rfl) ?_; clear hK K) | (refine WL.skip ?_ (by simp only [Act.put, zpt, zsz, zss]; exact rfl) ?_; (exact rfl)))); (try refine WL.nil ?_))
      refine Met.intro ?_
      try go_step
      (repeat apply Exists.intro)
      refine ⟨?rel, rfl⟩
      case rel => exact ⟨by simp, st⟩
  case rest =>
    obtain ⟨rfl, st⟩ := hcut
    have ZP : Hid ((!u && ((⟨br, bq⟩ : Ck.Ref) != Ck.Ref.o || decide (0 < ln + ds + (Ck.Rc.parts (Ck.VRc.p ⟨u, q, k, ⟨br, bq⟩, ln, ds, ns, ss, es, An, cn, As, cs, Ae, ce⟩) : Nat) + k))) = (!u && (!decide ((⟨br, bq⟩ : Ck.Ref) = Ck.Ref.o) || decide (0 < ln + ds + T + k)))) := Lib.hid (by
      rw [show (((⟨br, bq⟩ : Ck.Ref) != Ck.Ref.o)) = !decide ((⟨br, bq⟩ : Ck.Ref) = Ck.Ref.o) from rfl]
      rw [show ((Ck.Rc.parts (Ck.VRc.p ⟨u, q, k, ⟨br, bq⟩, ln, ds, ns, ss, es, An, cn, As, cs, Ae, ce⟩) : Nat) : Int) = T by
        rw [← HT.out, E1.out, E2.out, E3.out]
        simp [Ck.Rc.parts, Ck.VRc.p]])
    cases z5 : (!u && (!decide ((⟨br, bq⟩ : Ck.Ref) = Ck.Ref.o) || decide (0 < ln + ds + T + k)))
    rotate_left
    · have z6 := Lib.hid z5
      clear z5
      go_wp2_with (refine WL.out ?_; (repeat (fail)); (try refine WL.nil ?_))
      go_ret
      exact ⟨Ck.ret_int (by rw [HR.out, Ck.head2 Z1.out (by rw [← z6.out]; exact ZP.out)]), st.below⟩
    have Z2 := Lib.hid (ZP.out.trans z5)
    clear z5 ZP hT hT0
    obtain ⟨be, ebe⟩ : ∃ x, x = Ck.baseErr (Ck.VRc.p ⟨u, q, k, ⟨br, bq⟩, ln, ds, ns, ss, es, An, cn, As, cs, Ae, ce⟩) := ⟨_, rfl⟩
    have EB := Lib.hid ebe
    clear ebe
    obtain ⟨re, ere⟩ : ∃ x, x = Ck.refErr ⟨br, bq⟩ := ⟨_, rfl⟩
    have HRE : Hid (∀ W, Calls Tryz.prog 97 #[.agg #[.int .i64 br, .int .i64 bq]] W fun e w' => e = .returned (.int .i64 re) ∧ Below W.heap.size W w') := Lib.hid fun W => by rw [ere]; exact rrefErr_any br bq W
    have ERE := Lib.hid ere
    clear ere
    go_upto_region 7 with (refine WL.out ?_; (repeat ((refine WL.op ?_ ?_; (exact rfl); intro K hK; (first | ((((with_reducible apply ow_assign); exact rfl)); (go_simp <;> (try simp (disch := omega) only [wrap_id, sub_left, zac]) <;> rfl)) | ((((with_reducible apply ow_load1 st); exact rfl; exact inferInstance; exact rfl; (exact get0))); exact rfl) | ((with_reducible apply ow_eval); (go_simp <;> (try simp (disch := omega) only [wrap_id, sub_left, zac]) <;> rfl); ((with_reducible apply up_value)))); refine WL.next hK (by simp only [Act.put, zpt, zsz, zss]; exact rfl) ?_; clear hK K))); (try refine WL.nil ?_))
    go_cut [6, 78, 95] from 79 to 95 (fun v6 v78 v wx => v6 = .bool (k == 3) ∧ v = .bool (be != 0) ∧ St w wx [.box b 66 [.bool u, .int .i64 q, .int .i64 k, .int .i64 br, .int .i64 bq, .int .i64 ln, .int .i64 ds, .slice An nn cn, .slice As nss cs, .slice Ae ne ce]])
    case first =>
      have hc4 : ((k == 3) = true ∧ re = 0) ∨ ((k == 3) = true ∧ (re != 0) = true) ∨ ((k == 3) = false ∧ decide ((⟨br, bq⟩ : Ck.Ref) = Ck.Ref.o) = true) ∨ ((k == 3) = false ∧ decide ((⟨br, bq⟩ : Ck.Ref) = Ck.Ref.o) = false) := by
        by_cases h1 : k = 3 <;> by_cases h2 : re = 0 <;> by_cases h3 : (⟨br, bq⟩ : Ck.Ref) = Ck.Ref.o <;> simp [h1, h2, h3]
      have hbe : Hid (be = if k = 3 then re else if (⟨br, bq⟩ : Ck.Ref) = Ck.Ref.o then 0 else 2) := Lib.hid (by rw [EB.out, ERE.out]; rfl)
      clear EB ERE
      rcases hc4 with ⟨y1, rfl⟩ | ⟨y1, y2⟩ | ⟨y1, y2⟩ | ⟨y1, y2⟩
      all_goals (
        go_wp2_with (refine WL.out ?_; (repeat (first | (refine WL.op ?_ ?_; (first | exact rfl | (simp [Region.wanted, yielded, *] <;> done)); intro K hK; (first | ((((with_reducible apply ow_move); exact rfl)); (go_simp <;> (try simp (disch := omega) only [wrap_id, sub_left, zac]) <;> rfl)) | ((((with_reducible apply ow_loadN st); exact rfl; exact inferInstance; exact rfl; (exact get0); ((try simp only [zta, ztz, zda, zdz, zca, zcn, zan, zsz, zss]) <;> exact rfl))); exact rfl) | ((with_reducible apply ow_bin); exact rfl; kernel_rfl; exact rfl; exact rfl; exact fun w => neq_ref ⟨br, bq⟩ Ck.Ref.o w) | ((with_reducible apply ow_eval); (go_simp <;> (try simp (disch := omega) only [wrap_id, sub_left, zac]) <;> rfl); first | (with_reducible apply up_value) | ((with_reducible apply up_enter); ((go_at_call 97; ((with_reducible refine (HRE.out _).mono ?_)); rintro e w' ⟨rfl, hb⟩; replace st := st.call hb; clear hb; refine ⟨_, rfl, ?_⟩))))); refine WL.next hK (by simp only [Act.put, zpt, zsz, zss]; exact rfl) ?_; clear hK K) | (refine WL.skip ?_ (by simp only [Act.put, zpt, zsz, zss]; exact rfl) ?_; (first | exact rfl | (simp [Region.wanted, yielded, *] <;> done))))); (try refine WL.nil ?_))
        (try (((repeat (fail)); (try refine WL.nil ?_)); go_wp2_with (refine WL.out ?_; (repeat (fail)); (try refine WL.nil ?_))))
        refine Met.intro ?_
        try go_step
        (repeat apply Exists.intro)
        refine ⟨?rel, rfl⟩
        case rel => exact ⟨by rw [y1], by congr 1; rw [hbe.out]; simp_all, st⟩)
    case rest =>
      obtain ⟨rfl, rfl, st⟩ := hcut
      by_cases h0 : be = 0
      rotate_left
      · have z8 : (be != 0) = true := by simpa using h0
        have h0' := Lib.hid h0
        clear h0
        go_wp2_with (refine WL.out ?_; (repeat (fail)); (try refine WL.nil ?_))
        go_ret
        exact ⟨Ck.ret_int (by rw [HR.out, Ck.head3 Z1.out Z2.out (by rw [← EB.out]; exact h0'.out), Ck.baseErr_two (by rw [← EB.out]; exact h0'.out)]), st.below⟩
      have Z3 := Lib.hid (show Ck.baseErr (Ck.VRc.p ⟨u, q, k, ⟨br, bq⟩, ln, ds, ns, ss, es, An, cn, As, cs, Ae, ce⟩) = 0 by rw [← EB.out, h0])
      subst h0
      clear EB ERE HRE
      go_upto_region 9 with (refine WL.out ?_; (repeat (fail)); (try refine WL.nil ?_))
      have hc7 := st.cell (i := 0) rfl 7
      have hc8 := st.cell (i := 0) rfl 8
      have hc9 := st.cell (i := 0) rfl 9
      simp only [List.getElem?_cons_succ, List.getElem?_cons_zero] at hc7 hc8 hc9
      by_cases hg1 : (8 : Int) < (nn : Int)
      · have Z4 := Lib.hid (show 8 < ns.length by rw [← E1.out]; omega)
        go_quiet (fail)
        replace st := st.drewN nq
        clear hc7 hc8 hc9
        go_wp2_with (refine WL.out ?_; (repeat (fail)); (try refine WL.nil ?_))
        go_ret
        exact ⟨Ck.ret_int (by rw [HR.out, Ck.head4 Z1.out Z2.out Z3.out (.inl Z4.out)]), st.below⟩
      by_cases hg2 : (8 : Int) < (nss : Int)
      · have Z4 := Lib.hid (show 8 < (ss.map Ck.VSm.p).length by rw [List.length_map, ← E2.out]; omega)
        have hd1 : decide ((8 : Int) < (nn : Int)) = false := decide_eq_false hg1
        go_quiet (fail)
        replace st := st.drewN nq
        clear hc7 hc8 hc9
        go_wp2_with (refine WL.out ?_; (repeat (fail)); (try refine WL.nil ?_))
        go_ret
        exact ⟨Ck.ret_int (by rw [HR.out, Ck.head4 Z1.out Z2.out Z3.out (.inr (.inl Z4.out))]), st.below⟩
      have hd1 : decide ((8 : Int) < (nn : Int)) = false := decide_eq_false hg1
      have hd2 : decide ((8 : Int) < (nss : Int)) = false := decide_eq_false hg2
      by_cases hg3 : ((Ck.most i : Nat) : Int) < (ne : Int)
      · have Z4 := Lib.hid (show Ck.most i < es.length by rw [← E3.out]; omega)
        go_quiet ((go_at_call 98; refine Calls.quiet_of_same ((most_any _ _).mono fun _ _ h => ⟨h.1, h.2.symm⟩)))
        replace st := st.drewN nq
        clear hc7 hc8 hc9
        go_wp2_with (refine WL.out ?_; (repeat (fail)); (try refine WL.nil ?_))
        go_ret
        exact ⟨Ck.ret_int (by rw [HR.out, Ck.head4 Z1.out Z2.out Z3.out (.inr (.inr Z4.out))]), st.below⟩
      have hd3 : decide (((Ck.most i : Nat) : Int) < (ne : Int)) = false := decide_eq_false hg3
      have Z4 := Lib.hid (show ¬ (8 < (Ck.VRc.p ⟨u, q, k, ⟨br, bq⟩, ln, ds, ns, ss, es, An, cn, As, cs, Ae, ce⟩).ns.length ∨ 8 < (Ck.VRc.p ⟨u, q, k, ⟨br, bq⟩, ln, ds, ns, ss, es, An, cn, As, cs, Ae, ce⟩).ss.length ∨ Ck.most i < (Ck.VRc.p ⟨u, q, k, ⟨br, bq⟩, ln, ds, ns, ss, es, An, cn, As, cs, Ae, ce⟩).es.length) by
        show ¬ (8 < ns.length ∨ 8 < (ss.map Ck.VSm.p).length ∨ Ck.most i < es.length)
        rw [List.length_map, ← E1.out, ← E2.out, ← E3.out]; omega)
      go_quiet ((go_at_call 98; refine Calls.quiet_of_same ((most_any _ _).mono fun _ _ h => ⟨h.1, h.2.symm⟩)))
      replace st := st.drewN nq
      clear hc7 hc8 hc9 hd1 hd2 hd3
      go_upto_region 11 with (refine WL.out ?_; (repeat (fail)); (try refine WL.nil ?_))
      go_cut [6, 135] from 114 to 135 (fun v6 v wx => v = .bool ((decide (0 < (ne : Int)) && (k != 0)) || (decide (0 < (nn : Int)) && ((k == 3) || decide ((i : Int) < 16)))) ∧ St w wx [.box b 66 [.bool u, .int .i64 q, .int .i64 k, .int .i64 br, .int .i64 bq, .int .i64 ln, .int .i64 ds, .slice An nn cn, .slice As nss cs, .slice Ae ne ce]])
      case first =>
        have hc9 := Ck.eight (0 < (ne : Int)) (0 < (nn : Int)) ((i : Int) < 16) k
        rcases hc9 with ⟨y1, y2⟩ | ⟨y1, rfl, y3⟩ | ⟨y1, rfl, y3, y5⟩ | ⟨y1, rfl, y3, y5⟩ | ⟨y1, y3⟩ | ⟨y1, y3, y4⟩ | ⟨y1, y3, y4, y5⟩ | ⟨y1, y3, y4, y5⟩
        all_goals (
          go_wp2_with (refine WL.out ?_; (repeat (first | (refine WL.op ?_ ?_; (first | exact rfl | (simp [Region.wanted, yielded] <;> omega)); intro K hK; (first | ((((with_reducible apply ow_move); exact rfl)); (go_simp <;> (try simp (disch := omega) only [wrap_id, sub_left, zac]) <;> rfl)) | ((((with_reducible apply ow_load1 st); exact rfl; exact inferInstance; exact rfl; (exact get0))); exact rfl) | ((with_reducible apply ow_eval); (go_simp <;> (try simp (disch := omega) only [wrap_id, sub_left, zac]) <;> rfl); ((with_reducible apply up_value)))); refine WL.next hK (by simp only [Act.put, zpt, zsz, zss]; exact rfl) ?_; clear hK K) | (refine WL.skip ?_ (by simp only [Act.put, zpt, zsz, zss]; exact rfl) ?_; (first | exact rfl | (simp [Region.wanted, yielded] <;> omega))))); (try refine WL.nil ?_))
          (try (((repeat (first | (refine WL.op ?_ ?_; (first | exact rfl | (simp [Region.wanted, yielded] <;> omega)); intro K hK; (first | ((((with_reducible apply ow_move); exact rfl)); (go_simp <;> (try simp (disch := omega) only [wrap_id, sub_left, zac]) <;> rfl)) | ((((with_reducible apply ow_load1 st); exact rfl; exact inferInstance; exact rfl; (exact get0))); exact rfl) | ((with_reducible apply ow_eval); (go_simp <;> (try simp (disch := omega) only [wrap_id, sub_left, zac]) <;> rfl); ((with_reducible apply up_value)))); refine WL.next hK (by simp only [Act.put, zpt, zsz, zss]; exact rfl) ?_; clear hK K) | (refine WL.skip ?_ (by simp only [Act.put, zpt, zsz, zss]; exact rfl) ?_; (first | exact rfl | (simp [Region.wanted, yielded] <;> omega))))); (try refine WL.nil ?_)); go_wp2_with (refine WL.out ?_; (repeat (fail)); (try refine WL.nil ?_))))
          refine Met.intro ?_
          try go_step
          (repeat apply Exists.intro)
          refine ⟨?rel, rfl⟩
          case rel => exact ⟨by simp [*], st⟩)
      case rest =>
        obtain ⟨rfl, st⟩ := hcut
        have Z5 : Hid (((decide (0 < (ne : Int)) && (k != 0)) || (decide (0 < (nn : Int)) && ((k == 3) || decide ((i : Int) < 16)))) = true ↔ ((0 < (Ck.VRc.p ⟨u, q, k, ⟨br, bq⟩, ln, ds, ns, ss, es, An, cn, As, cs, Ae, ce⟩).es.length ∧ (Ck.VRc.p ⟨u, q, k, ⟨br, bq⟩, ln, ds, ns, ss, es, An, cn, As, cs, Ae, ce⟩).k ≠ 0) ∨ (0 < (Ck.VRc.p ⟨u, q, k, ⟨br, bq⟩, ln, ds, ns, ss, es, An, cn, As, cs, Ae, ce⟩).ns.length ∧ ((Ck.VRc.p ⟨u, q, k, ⟨br, bq⟩, ln, ds, ns, ss, es, An, cn, As, cs, Ae, ce⟩).k = 3 ∨ (i : Int) < 16)))) := Lib.hid (by
          show _ ↔ ((0 < es.length ∧ k ≠ 0) ∨ (0 < ns.length ∧ (k = 3 ∨ (i : Int) < 16)))
          rw [← E1.out, ← E3.out]
          simp)
        cases z5 : ((decide (0 < (ne : Int)) && (k != 0)) || (decide (0 < (nn : Int)) && ((k == 3) || decide ((i : Int) < 16))))
        rotate_left
        · have z6 := Lib.hid z5
          clear z5
          go_wp2_with (refine WL.out ?_; (repeat (fail)); (try refine WL.nil ?_))
          go_ret
          exact ⟨Ck.ret_int (by rw [HR.out, Ck.head5 Z1.out Z2.out Z3.out Z4.out (Z5.out.1 z6.out)]), st.below⟩
        have Z6 := Lib.hid (show R = Ck.first [Ck.nmsErr (Ck.VRc.p ⟨u, q, k, ⟨br, bq⟩, ln, ds, ns, ss, es, An, cn, As, cs, Ae, ce⟩), Ck.smsErr (Ck.VRc.p ⟨u, q, k, ⟨br, bq⟩, ln, ds, ns, ss, es, An, cn, As, cs, Ae, ce⟩), Ck.ensErr (Ck.VRc.p ⟨u, q, k, ⟨br, bq⟩, ln, ds, ns, ss, es, An, cn, As, cs, Ae, ce⟩)] by
          rw [HR.out, Ck.head6 Z1.out Z2.out Z3.out Z4.out (fun h => by have := Z5.out.2 h; rw [z5] at this; exact Bool.false_ne_true this)])
        clear z5 Z5 HR
        go_wp2_with (refine WL.out ?_; (repeat (fail)); (try refine WL.nil ?_))
        go_loopw [7] (fun i wr => ∃ j : Nat, j ≤ nn ∧ i = .int .i64 j ∧ St w wr [.box b 66 [.bool u, .int .i64 q, .int .i64 k, .int .i64 br, .int .i64 bq, .int .i64 ln, .int .i64 ds, .slice An nn cn, .slice As nss cs, .slice Ae ne ce]] ∧ Hid (Ck.goE (fun i => Ck.nmErr (Ck.at_ Ck.Nm.o ns i)) j = 0)) (fun i _ => nn - (intOf i).toNat)
        case atStart => exact ⟨0, by omega, rfl, st, rfl⟩
        case round =>
          clear st
          obtain ⟨j, hj, rfl, st, hs⟩ := hrel
          by_cases hlt : j < nn
          · have hkl : Hid (j < ns.length) := Lib.hid (by rw [← E1.out]; exact hlt)
            obtain ⟨b1, o1, rfl, hb1, hc⟩ := H.out.ns.at_ (Nat.lt_of_le_of_lt (Nat.zero_le _) hkl.out)
            have hb1 := Nat.lt_of_lt_of_le hb1 hB
            have f1 := hc j hkl.out
            clear hc
            obtain ⟨y, hy⟩ : ∃ y, y = Ck.at_ Ck.Nm.o ns j := ⟨_, rfl⟩
            have hyl : y.n.length ≤ 100000 := by rw [hy]; exact HF.out.nl _ (Ck.at_mem _ _ _ hkl.out)
            have f2 : OldC w b1 (o1 + j * 3) [.int .i64 y.d.r, .int .i64 y.d.q] := by
              rw [hy]
              intro m v hm
              rcases m with _ | _ | m
              · exact f1 0 v hm
              · exact f1 1 v hm
              · simp at hm
            have f3 : w.cell? ⟨b1, o1 + j * 3 + 2, none⟩ = some (.string ⟨y.n.toArray⟩) := by rw [hy]; exact f1 2 _ rfl
            have HY := Lib.hid hy
            clear hy f1
            obtain ⟨v, hv⟩ : ∃ v, v = Ck.refErr y.d := ⟨_, rfl⟩
            obtain ⟨v2, hv2⟩ : ∃ v, v = Ck.nameErr y.n := ⟨_, rfl⟩
            have HV : Hid ((if v = 0 then v2 else v) = Ck.nmErr (Ck.at_ Ck.Nm.o ns j)) := Lib.hid (by rw [hv, hv2, ← HY.out]; rfl)
            have HC : Hid (∀ W, Calls Tryz.prog 97 #[.agg #[.int .i64 y.d.r, .int .i64 y.d.q]] W fun e w' => e = .returned (.int .i64 v) ∧ Below W.heap.size W w') := Lib.hid fun W => by rw [hv]; exact rrefErr_any y.d.r y.d.q W
            have HN : Hid (∀ W, Calls Tryz.prog 99 #[.string ⟨y.n.toArray⟩] W fun e w' => e = .returned (.int .i64 v2) ∧ Below W.heap.size W w') := Lib.hid fun W => by rw [hv2]; exact rNameErr_any y.n W hyl
            clear hv hv2
            have stop : Hid ((if v = 0 then v2 else v) ≠ 0 → R = if v = 0 then v2 else v) := Lib.hid fun h0 => by
              rw [Z6.out, show Ck.nmsErr (Ck.VRc.p ⟨u, q, k, ⟨br, bq⟩, ln, ds, ns, ss, es, some ⟨b1, o1, none⟩, cn, As, cs, Ae, ce⟩) = (if v = 0 then v2 else v) from (Ck.goE_stop _ hs.out (by rw [← HV.out]; exact h0) _ hkl.out).trans HV.out.symm]
              exact if_neg h0
            by_cases h0 : v = 0
            · subst h0
              by_cases h2 : v2 = 0
              · have hs' : Hid (Ck.goE (fun i => Ck.nmErr (Ck.at_ Ck.Nm.o ns i)) (j + 1) = 0) := Lib.hid (by rw [Ck.goE_next _ hs.out, ← HV.out, if_pos rfl]; exact h2)
                subst h2
                go_wp2_with (refine WL.out ?_; (repeat ((refine WL.op ?_ ?_; (exact rfl); intro K hK; (first | ((first | ((with_reducible apply ow_move); exact rfl) | ((with_reducible apply ow_assign); exact rfl)); (go_simp <;> (try simp (disch := omega) only [wrap_id, sub_left, zac]) <;> rfl)) | ((((with_reducible apply ow_load1 st); exact rfl; exact inferInstance; exact rfl; (exact get0))); exact rfl) | ((with_reducible apply ow_old1 st); exact rfl; exact inferInstance; exact rfl; assumption; assumption) | ((with_reducible apply ow_oldC st); exact rfl; exact inferInstance; exact rfl; assumption; assumption; exact rfl) | ((with_reducible apply ow_eval); (go_simp <;> (try simp (disch := omega) only [wrap_id, sub_left, zac]) <;> rfl); first | (with_reducible apply up_value) | ((with_reducible apply up_enter); first | (go_at_call 97; ((with_reducible refine (HC.out _).mono ?_)); rintro e w' ⟨rfl, hb⟩; replace st := st.call hb; clear hb; refine ⟨_, rfl, ?_⟩) | (go_at_call 99; ((with_reducible refine (HN.out _).mono ?_)); rintro e w' ⟨rfl, hb⟩; replace st := st.call hb; clear hb; refine ⟨_, rfl, ?_⟩)))); refine WL.next hK (by simp only [Act.put, zpt, zsz, zss]; exact rfl) ?_; clear hK K))); (try refine WL.nil ?_))
                exact ⟨⟨j + 1, by omega, by go_num, st, hs'⟩, by simp [intOf]; omega⟩
              · have hR : Hid (R = v2) := Lib.hid (by have := stop.out; rw [if_pos rfl] at this; exact this h2)
                have h2' : (v2 != 0) = true := by simpa using h2
                clear h2
                go_wp2_with (refine WL.out ?_; (repeat ((refine WL.op ?_ ?_; (exact rfl); intro K hK; (first | ((first | ((with_reducible apply ow_move); exact rfl) | ((with_reducible apply ow_assign); exact rfl)); (go_simp <;> (try simp (disch := omega) only [wrap_id, sub_left, zac]) <;> rfl)) | ((((with_reducible apply ow_load1 st); exact rfl; exact inferInstance; exact rfl; (exact get0))); exact rfl) | ((with_reducible apply ow_old1 st); exact rfl; exact inferInstance; exact rfl; assumption; assumption) | ((with_reducible apply ow_oldC st); exact rfl; exact inferInstance; exact rfl; assumption; assumption; exact rfl) | ((with_reducible apply ow_eval); (go_simp <;> (try simp (disch := omega) only [wrap_id, sub_left, zac]) <;> rfl); first | (with_reducible apply up_value) | ((with_reducible apply up_enter); first | (go_at_call 97; ((with_reducible refine (HC.out _).mono ?_)); rintro e w' ⟨rfl, hb⟩; replace st := st.call hb; clear hb; refine ⟨_, rfl, ?_⟩) | (go_at_call 99; ((with_reducible refine (HN.out _).mono ?_)); rintro e w' ⟨rfl, hb⟩; replace st := st.call hb; clear hb; refine ⟨_, rfl, ?_⟩)))); refine WL.next hK (by simp only [Act.put, zpt, zsz, zss]; exact rfl) ?_; clear hK K))); (try refine WL.nil ?_))
                go_ret
                exact ⟨Ck.ret_int hR.out.symm, st.below⟩
            · have hR : Hid (R = v) := Lib.hid (by have := stop.out; rw [if_neg h0] at this; exact this h0)
              have h0' : (v != 0) = true := by simpa using h0
              clear h0
              go_wp2_with (refine WL.out ?_; (repeat ((refine WL.op ?_ ?_; (exact rfl); intro K hK; (first | ((first | ((with_reducible apply ow_move); exact rfl) | ((with_reducible apply ow_assign); exact rfl)); (go_simp <;> (try simp (disch := omega) only [wrap_id, sub_left, zac]) <;> rfl)) | ((((with_reducible apply ow_load1 st); exact rfl; exact inferInstance; exact rfl; (exact get0))); exact rfl) | ((with_reducible apply ow_oldC st); exact rfl; exact inferInstance; exact rfl; assumption; assumption; exact rfl) | ((with_reducible apply ow_eval); (go_simp <;> (try simp (disch := omega) only [wrap_id, sub_left, zac]) <;> rfl); first | (with_reducible apply up_value) | ((with_reducible apply up_enter); ((go_at_call 97; ((with_reducible refine (HC.out _).mono ?_)); rintro e w' ⟨rfl, hb⟩; replace st := st.call hb; clear hb; refine ⟨_, rfl, ?_⟩))))); refine WL.next hK (by simp only [Act.put, zpt, zsz, zss]; exact rfl) ?_; clear hK K))); (try refine WL.nil ?_))
              go_ret
              exact ⟨Ck.ret_int hR.out.symm, st.below⟩
          · obtain rfl : nn = j := by omega
            have hN : Hid (Ck.nmsErr (Ck.VRc.p ⟨u, q, k, ⟨br, bq⟩, ln, ds, ns, ss, es, An, cn, As, cs, Ae, ce⟩) = 0) := Lib.hid (by show Ck.goE _ ns.length = 0; rw [← E1.out]; exact hs.out)
            clear hs
            go_wp2_with (refine WL.out ?_; (repeat ((refine WL.op ?_ ?_; (exact rfl); intro K hK; (first | ((((with_reducible apply ow_load1 st); exact rfl; exact inferInstance; exact rfl; (exact get0))); exact rfl) | ((with_reducible apply ow_eval); (go_simp <;> (try simp (disch := omega) only [wrap_id, sub_left, zac]) <;> rfl); ((with_reducible apply up_value)))); refine WL.next hK (by simp only [Act.put, zpt, zsz, zss]; exact rfl) ?_; clear hK K))); (try refine WL.nil ?_))
            go_loopw [10] (fun i wr => ∃ j : Nat, j ≤ nss ∧ i = .int .i64 j ∧ St w wr [.box b 66 [.bool u, .int .i64 q, .int .i64 k, .int .i64 br, .int .i64 bq, .int .i64 ln, .int .i64 ds, .slice An nn cn, .slice As nss cs, .slice Ae ne ce]] ∧ Hid (Ck.goE (fun i => Ck.smErr (Ck.at_ Ck.Sm.o (ss.map Ck.VSm.p) i)) j = 0)) (fun i _ => nss - (intOf i).toNat)
            case atStart => exact ⟨0, by omega, rfl, st, rfl⟩
            case round =>
              clear st
              obtain ⟨j, hj, rfl, st, hs⟩ := hrel
              by_cases hlt : j < nss
              · have hkl : Hid (j < ss.length) := Lib.hid (by rw [← E2.out]; exact hlt)
                obtain ⟨b1, o1, rfl, hb1, hc⟩ := H.out.ss.at_ (Nat.lt_of_le_of_lt (Nat.zero_le _) hkl.out)
                have hb1 := Nat.lt_of_lt_of_le hb1 hB
                have f1 := hc j hkl.out
                clear hc
                obtain ⟨y, hy⟩ : ∃ y, y = Ck.at_ Ck.VSm.o ss j := ⟨_, rfl⟩
                have hym : y ∈ ss := by rw [hy]; exact Ck.at_mem _ _ _ hkl.out
                have hyp : Hid (Ck.at_ Ck.Sm.o (ss.map Ck.VSm.p) j = y.p) := Lib.hid (by rw [hy]; exact Ck.at_map Ck.VSm.p Ck.VSm.o Ck.Sm.o ss j hkl.out)
                have f1 : OldC w b1 (o1 + j * 2) [.slice y.A y.r.length y.c, .int .i64 y.z] := by rw [hy]; exact f1
                clear hy
                obtain ⟨v, hv⟩ : ∃ v, v = Ck.smErr y.p := ⟨_, rfl⟩
                have HV := Lib.hid (show v = Ck.smErr (Ck.at_ Ck.Sm.o (ss.map Ck.VSm.p) j) by rw [hv, hyp.out])
                have HC : Hid (∀ W, Below w.heap.size w W → Calls Tryz.prog 100 #[.agg #[.slice y.A y.r.length y.c, .int .i64 y.z]] W fun e w' => e = .returned (.int .i64 v) ∧ Below W.heap.size W w') := Lib.hid fun W hb => by rw [hv]; exact rstreamErr_any y B W (Lst.below (H.out.rr y hym) hb hB) (Nat.le_trans hB hb.size) (HF.out.rr y hym)
                clear hv hym
                by_cases h0 : v = 0
                · have hs' : Hid (Ck.goE (fun i => Ck.smErr (Ck.at_ Ck.Sm.o (ss.map Ck.VSm.p) i)) (j + 1) = 0) := Lib.hid (by rw [Ck.goE_next _ hs.out, ← HV.out]; exact h0)
                  subst h0
                  go_wp2_with (refine WL.out ?_; (repeat ((refine WL.op ?_ ?_; (exact rfl); intro K hK; (first | ((first | ((with_reducible apply ow_move); exact rfl) | ((with_reducible apply ow_assign); exact rfl)); (go_simp <;> (try simp (disch := omega) only [wrap_id, sub_left, zac]) <;> rfl)) | ((((with_reducible apply ow_load1 st); exact rfl; exact inferInstance; exact rfl; (exact get0))); exact rfl) | ((with_reducible apply ow_oldC st); exact rfl; exact inferInstance; exact rfl; assumption; assumption; exact rfl) | ((with_reducible apply ow_eval); (go_simp <;> (try simp (disch := omega) only [wrap_id, sub_left, zac]) <;> rfl); first | (with_reducible apply up_value) | ((with_reducible apply up_enter); ((go_at_call 100; refine (HC.out _ st.below).mono ?_; rintro e w' ⟨rfl, hb⟩; replace st := st.call hb; clear hb; refine ⟨_, rfl, ?_⟩))))); refine WL.next hK (by simp only [Act.put, zpt, zsz, zss]; exact rfl) ?_; clear hK K))); (try refine WL.nil ?_))
                  exact ⟨⟨j + 1, by omega, by go_num, st, hs'⟩, by simp [intOf]; omega⟩
                · have hR : Hid (R = v) := Lib.hid (by
                    rw [Z6.out, show Ck.smsErr (Ck.VRc.p ⟨u, q, k, ⟨br, bq⟩, ln, ds, ns, ss, es, An, cn, some ⟨b1, o1, none⟩, cs, Ae, ce⟩) = v from (Ck.goE_stop _ hs.out (by rw [← HV.out]; exact h0) _ (by show j < (ss.map Ck.VSm.p).length; rw [List.length_map]; exact hkl.out)).trans HV.out.symm]
                    show (if _ = 0 then _ else _) = v
                    rw [if_pos hN.out]
                    exact if_neg h0)
                  have h0' : (v != 0) = true := by simpa using h0
                  go_wp2_with (refine WL.out ?_; (repeat ((refine WL.op ?_ ?_; (exact rfl); intro K hK; (first | ((first | ((with_reducible apply ow_move); exact rfl) | ((with_reducible apply ow_assign); exact rfl)); (go_simp <;> (try simp (disch := omega) only [wrap_id, sub_left, zac]) <;> rfl)) | ((((with_reducible apply ow_load1 st); exact rfl; exact inferInstance; exact rfl; (exact get0))); exact rfl) | ((with_reducible apply ow_oldC st); exact rfl; exact inferInstance; exact rfl; assumption; assumption; exact rfl) | ((with_reducible apply ow_eval); (go_simp <;> (try simp (disch := omega) only [wrap_id, sub_left, zac]) <;> rfl); first | (with_reducible apply up_value) | ((with_reducible apply up_enter); ((go_at_call 100; refine (HC.out _ st.below).mono ?_; rintro e w' ⟨rfl, hb⟩; replace st := st.call hb; clear hb; refine ⟨_, rfl, ?_⟩))))); refine WL.next hK (by simp only [Act.put, zpt, zsz, zss]; exact rfl) ?_; clear hK K))); (try refine WL.nil ?_))
                  go_ret
                  exact ⟨Ck.ret_int hR.out.symm, st.below⟩
              · obtain rfl : nss = j := by omega
                have hM : Hid (Ck.smsErr (Ck.VRc.p ⟨u, q, k, ⟨br, bq⟩, ln, ds, ns, ss, es, An, cn, As, cs, Ae, ce⟩) = 0) := Lib.hid (by show Ck.goE _ (ss.map Ck.VSm.p).length = 0; rw [List.length_map, ← E2.out]; exact hs.out)
                clear hs
                go_wp2_with (refine WL.out ?_; (repeat ((refine WL.op ?_ ?_; (exact rfl); intro K hK; (first | ((((with_reducible apply ow_load1 st); exact rfl; exact inferInstance; exact rfl; (exact get0))); exact rfl) | ((with_reducible apply ow_eval); (go_simp <;> (try simp (disch := omega) only [wrap_id, sub_left, zac]) <;> rfl); ((with_reducible apply up_value)))); refine WL.next hK (by simp only [Act.put, zpt, zsz, zss]; exact rfl) ?_; clear hK K))); (try refine WL.nil ?_))
                go_loopw [12] (fun i wr => ∃ j : Nat, j ≤ ne ∧ i = .int .i64 j ∧ St w wr [.box b 66 [.bool u, .int .i64 q, .int .i64 k, .int .i64 br, .int .i64 bq, .int .i64 ln, .int .i64 ds, .slice An nn cn, .slice As nss cs, .slice Ae ne ce]] ∧ Hid (Ck.goE (fun i => Ck.enErr (Ck.at_ Ck.En.o es i)) j = 0)) (fun i _ => ne - (intOf i).toNat)
                case atStart => exact ⟨0, by omega, rfl, st, rfl⟩
                case round =>
                  clear st
                  obtain ⟨j, hj, rfl, st, hs⟩ := hrel
                  by_cases hlt : j < ne
                  · have hkl : Hid (j < es.length) := Lib.hid (by rw [← E3.out]; exact hlt)
                    obtain ⟨b1, o1, rfl, hb1, hc⟩ := H.out.es.at_ (Nat.lt_of_le_of_lt (Nat.zero_le _) hkl.out)
                    have hb1 := Nat.lt_of_lt_of_le hb1 hB
                    have f1 := hc j hkl.out
                    clear hc
                    obtain ⟨y, hy⟩ : ∃ y, y = Ck.at_ Ck.En.o es j := ⟨_, rfl⟩
                    have hyl : y.n.length ≤ 100000 := by rw [hy]; exact HF.out.el _ (Ck.at_mem _ _ _ hkl.out)
                    have f2 : OldC w b1 (o1 + j * 4 + 1) [.int .i64 y.f.r, .int .i64 y.f.q] := by
                      rw [hy]
                      intro m v hm
                      rcases m with _ | _ | m
                      · exact f1 1 v hm
                      · exact f1 2 v hm
                      · simp at hm
                    have f3 : w.cell? ⟨b1, o1 + j * 4, none⟩ = some (.string ⟨y.n.toArray⟩) := by rw [hy]; exact f1 0 _ rfl
                    have f4 : w.cell? ⟨b1, o1 + j * 4 + 3, none⟩ = some (.int .i64 y.z) := by rw [hy]; exact f1 3 _ rfl
                    have HY := Lib.hid hy
                    clear hy f1
                    obtain ⟨v, hv⟩ : ∃ v, v = Ck.nameErr y.n := ⟨_, rfl⟩
                    obtain ⟨v2, hv2⟩ : ∃ v, v = Ck.refErr y.f := ⟨_, rfl⟩
                    obtain ⟨v3, hv3⟩ : ∃ v, v = Ck.num y.z := ⟨_, rfl⟩
                    have HV : Hid ((if v = 0 then (if v2 = 0 then (if v3 then 0 else 2) else v2) else v) = Ck.enErr (Ck.at_ Ck.En.o es j)) := Lib.hid (by rw [hv, hv2, hv3, ← HY.out]; rfl)
                    have HC : Hid (∀ W, Calls Tryz.prog 97 #[.agg #[.int .i64 y.f.r, .int .i64 y.f.q]] W fun e w' => e = .returned (.int .i64 v2) ∧ Below W.heap.size W w') := Lib.hid fun W => by rw [hv2]; exact rrefErr_any y.f.r y.f.q W
                    have HN : Hid (∀ W, Calls Tryz.prog 99 #[.string ⟨y.n.toArray⟩] W fun e w' => e = .returned (.int .i64 v) ∧ Below W.heap.size W w') := Lib.hid fun W => by rw [hv]; exact rNameErr_any y.n W hyl
                    have HZ : Hid (∀ W, Calls Tryz.prog 96 #[.int .i64 y.z] W fun e w' => e = .returned (.bool v3) ∧ W = w') := Lib.hid fun W => by rw [hv3]; exact IsNumber_any y.z W
                    clear hv hv2 hv3
                    have stop : Hid ((if v = 0 then (if v2 = 0 then (if v3 then 0 else 2) else v2) else v) ≠ 0 → R = if v = 0 then (if v2 = 0 then (if v3 then 0 else 2) else v2) else v) := Lib.hid fun h0 => by
                      rw [Z6.out, show Ck.ensErr (Ck.VRc.p ⟨u, q, k, ⟨br, bq⟩, ln, ds, ns, ss, es, An, cn, As, cs, some ⟨b1, o1, none⟩, ce⟩) = (if v = 0 then (if v2 = 0 then (if v3 then 0 else 2) else v2) else v) from (Ck.goE_stop _ hs.out (by rw [← HV.out]; exact h0) _ hkl.out).trans HV.out.symm]
                      show (if _ = 0 then (if _ = 0 then Ck.first [_] else _) else _) = _
                      rw [if_pos hN.out, if_pos hM.out]
                      exact if_neg h0
                    by_cases h0 : v = 0
                    rotate_left
                    · have hR : Hid (R = v) := Lib.hid (by have := stop.out; rw [if_neg h0] at this; exact this h0)
                      have h0' : (v != 0) = true := by simpa using h0
                      clear h0
                      go_wp2_with (refine WL.out ?_; (repeat ((refine WL.op ?_ ?_; (exact rfl); intro K hK; (first | ((first | ((with_reducible apply ow_move); exact rfl) | ((with_reducible apply ow_assign); exact rfl)); (go_simp <;> (try simp (disch := omega) only [wrap_id, sub_left, zac]) <;> rfl)) | ((((with_reducible apply ow_load1 st); exact rfl; exact inferInstance; exact rfl; (exact get0))); exact rfl) | ((with_reducible apply ow_old1 st); exact rfl; exact inferInstance; exact rfl; assumption; assumption) | ((with_reducible apply ow_eval); (go_simp <;> (try simp (disch := omega) only [wrap_id, sub_left, zac]) <;> rfl); first | (with_reducible apply up_value) | ((with_reducible apply up_enter); ((go_at_call 99; ((with_reducible refine (HN.out _).mono ?_)); rintro e w' ⟨rfl, hb⟩; replace st := st.call hb; clear hb; refine ⟨_, rfl, ?_⟩))))); refine WL.next hK (by simp only [Act.put, zpt, zsz, zss]; exact rfl) ?_; clear hK K))); (try refine WL.nil ?_))
                      go_ret
                      exact ⟨Ck.ret_int hR.out.symm, st.below⟩
                    subst h0
                    by_cases h2 : v2 = 0
                    rotate_left
                    · have hR : Hid (R = v2) := Lib.hid (by have := stop.out; rw [if_pos rfl, if_neg h2] at this; exact this h2)
                      have h2' : (v2 != 0) = true := by simpa using h2
                      clear h2
                      go_wp2_with (refine WL.out ?_; (repeat ((refine WL.op ?_ ?_; (exact rfl); intro K hK; (first | ((first | ((with_reducible apply ow_move); exact rfl) | ((with_reducible apply ow_assign); exact rfl)); (go_simp <;> (try simp (disch := omega) only [wrap_id, sub_left, zac]) <;> rfl)) | ((((with_reducible apply ow_load1 st); exact rfl; exact inferInstance; exact rfl; (exact get0))); exact rfl) | ((with_reducible apply ow_old1 st); exact rfl; exact inferInstance; exact rfl; assumption; assumption) | ((with_reducible apply ow_oldC st); exact rfl; exact inferInstance; exact rfl; assumption; assumption; exact rfl) | ((with_reducible apply ow_eval); (go_simp <;> (try simp (disch := omega) only [wrap_id, sub_left, zac]) <;> rfl); first | (with_reducible apply up_value) | ((with_reducible apply up_enter); first | (go_at_call 97; ((with_reducible refine (HC.out _).mono ?_)); rintro e w' ⟨rfl, hb⟩; replace st := st.call hb; clear hb; refine ⟨_, rfl, ?_⟩) | (go_at_call 99; ((with_reducible refine (HN.out _).mono ?_)); rintro e w' ⟨rfl, hb⟩; replace st := st.call hb; clear hb; refine ⟨_, rfl, ?_⟩)))); refine WL.next hK (by simp only [Act.put, zpt, zsz, zss]; exact rfl) ?_; clear hK K))); (try refine WL.nil ?_))
                      go_ret
                      exact ⟨Ck.ret_int hR.out.symm, st.below⟩
                    subst h2
                    cases v3
                    · have hR : Hid (R = 2) := Lib.hid (stop.out (by decide))
                      go_wp2_with (refine WL.out ?_; (repeat ((refine WL.op ?_ ?_; (exact rfl); intro K hK; (first | ((first | ((with_reducible apply ow_move); exact rfl) | ((with_reducible apply ow_assign); exact rfl)); (go_simp <;> (try simp (disch := omega) only [wrap_id, sub_left, zac]) <;> rfl)) | ((((with_reducible apply ow_load1 st); exact rfl; exact inferInstance; exact rfl; (exact get0))); exact rfl) | ((with_reducible apply ow_old1 st); exact rfl; exact inferInstance; exact rfl; assumption; assumption) | ((with_reducible apply ow_oldC st); exact rfl; exact inferInstance; exact rfl; assumption; assumption; exact rfl) | ((with_reducible apply ow_eval); (go_simp <;> (try simp (disch := omega) only [wrap_id, sub_left, zac]) <;> rfl); first | (with_reducible apply up_value) | ((with_reducible apply up_enter); first | (go_at_call 97; ((with_reducible refine (HC.out _).mono ?_)); rintro e w' ⟨rfl, hb⟩; replace st := st.call hb; clear hb; refine ⟨_, rfl, ?_⟩) | (go_at_call 99; ((with_reducible refine (HN.out _).mono ?_)); rintro e w' ⟨rfl, hb⟩; replace st := st.call hb; clear hb; refine ⟨_, rfl, ?_⟩) | (go_at_call 96; refine (HZ.out _).mono ?_; rintro e w' ⟨rfl, rfl⟩; refine ⟨_, rfl, ?_⟩)))); refine WL.next hK (by simp only [Act.put, zpt, zsz, zss]; exact rfl) ?_; clear hK K))); (try refine WL.nil ?_))
                      go_ret
                      exact ⟨Ck.ret_int hR.out.symm, st.below⟩
                    · have hs' : Hid (Ck.goE (fun i => Ck.enErr (Ck.at_ Ck.En.o es i)) (j + 1) = 0) := Lib.hid (by rw [Ck.goE_next _ hs.out, ← HV.out]; rfl)
                      go_wp2_with (refine WL.out ?_; (repeat ((refine WL.op ?_ ?_; (exact rfl); intro K hK; (first | ((first | ((with_reducible apply ow_move); exact rfl) | ((with_reducible apply ow_assign); exact rfl)); (go_simp <;> (try simp (disch := omega) only [wrap_id, sub_left, zac]) <;> rfl)) | ((((with_reducible apply ow_load1 st); exact rfl; exact inferInstance; exact rfl; (exact get0))); exact rfl) | ((with_reducible apply ow_old1 st); exact rfl; exact inferInstance; exact rfl; assumption; assumption) | ((with_reducible apply ow_oldC st); exact rfl; exact inferInstance; exact rfl; assumption; assumption; exact rfl) | ((with_reducible apply ow_eval); (go_simp <;> (try simp (disch := omega) only [wrap_id, sub_left, zac]) <;> rfl); first | (with_reducible apply up_value) | ((with_reducible apply up_enter); first | (go_at_call 97; ((with_reducible refine (HC.out _).mono ?_)); rintro e w' ⟨rfl, hb⟩; replace st := st.call hb; clear hb; refine ⟨_, rfl, ?_⟩) | (go_at_call 99; ((with_reducible refine (HN.out _).mono ?_)); rintro e w' ⟨rfl, hb⟩; replace st := st.call hb; clear hb; refine ⟨_, rfl, ?_⟩) | (go_at_call 96; refine (HZ.out _).mono ?_; rintro e w' ⟨rfl, rfl⟩; refine ⟨_, rfl, ?_⟩)))); refine WL.next hK (by simp only [Act.put, zpt, zsz, zss]; exact rfl) ?_; clear hK K))); (try refine WL.nil ?_))
                      exact ⟨⟨j + 1, by omega, by go_num, st, hs'⟩, by simp [intOf]; omega⟩
                  · obtain rfl : ne = j := by omega
                    have hR : Hid (R = 0) := Lib.hid (by
                      rw [Z6.out, show Ck.ensErr (Ck.VRc.p ⟨u, q, k, ⟨br, bq⟩, ln, ds, ns, ss, es, An, cn, As, cs, Ae, ce⟩) = 0 by show Ck.goE _ es.length = 0; rw [← E3.out]; exact hs.out]
                      show (if _ = 0 then (if _ = 0 then _ else _) else _) = (0 : Int)
                      rw [if_pos hN.out, if_pos hM.out]
                      rfl)
                    go_wp2_with (refine WL.out ?_; (repeat ((refine WL.op ?_ ?_; (exact rfl); intro K hK; (first | ((((with_reducible apply ow_load1 st); exact rfl; exact inferInstance; exact rfl; (exact get0))); exact rfl) | ((with_reducible apply ow_eval); (go_simp <;> (try simp (disch := omega) only [wrap_id, sub_left, zac]) <;> rfl); ((with_reducible apply up_value)))); refine WL.next hK (by simp only [Act.put, zpt, zsz, zss]; exact rfl) ?_; clear hK K))); (try refine WL.nil ?_))
                    go_ret
                    exact ⟨Ck.ret_int hR.out.symm, st.below⟩
end Go.Proofs.YtgcjejajljhnaaaGreatDoor
namespace Go.Proofs.YtgcjejajljhnaaaGreatDoor
open Go.RowKit Go.Hp
set_option maxRecDepth 8000 in
set_option maxHeartbeats 4000000 in
theorem rCheckParts_any (v : Ck.VPt) (B : Nat) (w : World) (h : v.At w B) (hB : B ≤ w.heap.size) (hf : v.Fit) (hm : v.mp.length ≤ 100000) :
    Calls Tryz.prog 14 #[v.val] w fun e w' => e = .returned (.tuple #[.int .i64 (Ck.partsIx v.p), .int .i64 (Ck.partsErr v.p)]) ∧ Below w.heap.size w w' := by
  have HW : Hid (64 ≤ v.c → v.c ≤ 512 → ∀ W, Below w.heap.size w W → Calls Tryz.prog 50 #[v.val] W fun e w' => e = .returned (.int .i64 (Ck.first [Ck.goE (fun i => Ck.alErr v.c (Ck.at_ Ck.Run.o v.al i)) v.al.length, Ck.goE (Ck.dsErr v.ds) v.ds.length, if v.ds.length = 0 then 17 else 0, Ck.mapErr v.mp v.c])) ∧ Below W.heap.size W w') := Lib.hid fun h0 h1 W hb => ralwaysErr_any v B W (h.below hb hB) (Nat.le_trans hB hb.size) hf hm h0 h1
  have HWE : Hid (Ck.wholeErr v.p = if Ck.wi v.c 64 512 then (if 24 < v.al.length ∨ 96 < v.rs.length ∨ 64 < v.ds.length then 8 else Ck.first [Ck.goE (fun i => Ck.alErr v.c (Ck.at_ Ck.Run.o v.al i)) v.al.length, Ck.goE (Ck.dsErr v.ds) v.ds.length, if v.ds.length = 0 then 17 else 0, Ck.mapErr v.mp v.c]) else 2) := Lib.hid (by
    unfold Ck.wholeErr
    show Ck.first [if Ck.wi v.c 64 512 then 0 else 2, if 24 < v.al.length ∨ 96 < v.p.rs.length ∨ 64 < v.ds.length then 8 else 0, _, _, _, _] = _
    rw [Ck.VPt.p_len]
    cases Ck.wi v.c 64 512
    · rfl
    · by_cases hx : 24 < v.al.length ∨ 96 < v.rs.length ∨ 64 < v.ds.length
      · rw [if_pos hx, if_pos rfl, if_pos rfl, if_pos hx]
        rfl
      · rw [if_neg hx, if_pos rfl, if_pos rfl, if_neg hx]
        rfl)
  have H := Lib.hid h
  have HF := Lib.hid hf
  clear h hf hm
  obtain ⟨c, al, rs, ds, mp, Aa, ca, Ar, cr, Ad, cd⟩ := v
  unfold Ck.VPt.val at *
  simp only at *
  obtain ⟨na, e1⟩ : ∃ n, n = al.length := ⟨_, rfl⟩
  obtain ⟨nr, e2⟩ : ∃ n, n = rs.length := ⟨_, rfl⟩
  obtain ⟨nd, e3⟩ : ∃ n, n = ds.length := ⟨_, rfl⟩
  have E2 := Lib.hid e2
  rw [← e1, ← e2, ← e3] at HW HWE ⊢
  clear e1 e3 e2
  have hn2 : nr ≤ 100000 := by rw [E2.out]; exact HF.out.rs
  obtain ⟨p, ep⟩ : ∃ p, p = Ck.VPt.p ⟨c, al, rs, ds, mp, Aa, ca, Ar, cr, Ad, cd⟩ := ⟨_, rfl⟩
  rw [← ep] at HWE ⊢
  have hpl : p.rs.length = nr := by rw [ep, E2.out]; exact List.length_map ..
  have hpr : ∀ j, j < nr → Ck.at_ Ck.Rc.o p.rs j = (Ck.at_ Ck.VRc.o rs j).p := fun j hj => by rw [ep]; exact Ck.at_map Ck.VRc.p Ck.VRc.o Ck.Rc.o rs j (by rw [← E2.out]; exact hj)
  have PL := Lib.hid hpl
  have PR := Lib.hid hpr
  clear hpl hpr ep
  obtain ⟨we, ewe⟩ : ∃ x, x = Ck.first [Ck.goE (fun i => Ck.alErr c (Ck.at_ Ck.Run.o al i)) na, Ck.goE (Ck.dsErr ds) nd, if nd = 0 then 17 else 0, Ck.mapErr mp c] := ⟨_, rfl⟩
  rw [← ewe] at HW HWE
  clear ewe
  have whole : Hid (∀ e, e ≠ 0 → Ck.wholeErr p = e → Ck.partsIx p = 0 ∧ Ck.partsErr p = e) := Lib.hid fun e he hw => by
    refine ⟨?_, ?_⟩
    · unfold Ck.partsIx; rw [hw, if_pos he]
    · unfold Ck.partsErr; rw [hw]; exact if_neg he
  have st := St.start w
  cases z1 : Ck.wi c 64 512
  · have hq := Lib.hid (whole.out 2 (by decide) (by rw [HWE.out, z1]; rfl))
    go_enter Tryz.func14, Tryz.ntmps14
    go_wp2_with (refine WL.out ?_; (repeat ((refine WL.op ?_ ?_; (exact rfl); intro K hK; (first | ((((with_reducible apply ow_assign); exact rfl)); (go_simp <;> (try simp (disch := omega) only [wrap_id, sub_left, zac]) <;> rfl)) | ((((with_reducible apply ow_load1 st); exact rfl; exact inferInstance; exact rfl; (exact get0))); exact rfl) | ((((with_reducible apply ow_box st); exact rfl; (go_simp <;> (try simp (disch := omega) only [wrap_id, sub_left, zac]) <;> rfl); (go_simp <;> (try simp (disch := omega) only [wrap_id, sub_left, zac]) <;> rfl))); (try clear st); intro b w' st) | ((with_reducible apply ow_eval); (go_simp <;> (try simp (disch := omega) only [wrap_id, sub_left, zac]) <;> rfl); first | (with_reducible apply up_value) | ((with_reducible apply up_enter); ((go_at_call 29; refine (Within_any _ _ _ _).mono ?_; rintro e w' ⟨rfl, rfl⟩; refine ⟨_, rfl, ?_⟩))))); refine WL.next hK (by simp only [Act.put, zpt, zsz, zss]; exact rfl) ?_; clear hK K))); (try refine WL.nil ?_))
    go_ret2
    exact ⟨ret2 hq.out.1.symm hq.out.2.symm, st.below⟩
  obtain ⟨hc0, hc1⟩ : 64 ≤ c ∧ c ≤ 512 := by simp [Ck.wi] at z1; omega
  have HW := Lib.hid (HW.out hc0 hc1)
  by_cases hg : 24 < na ∨ 96 < nr ∨ 64 < nd
  · have hq := Lib.hid (whole.out 8 (by decide) (by rw [HWE.out, z1, if_pos rfl, if_pos hg]))
    have hg3 : (24 : Int) < (na : Int) ∨ (¬ (24 : Int) < (na : Int) ∧ (96 : Int) < (nr : Int)) ∨ (¬ (24 : Int) < (na : Int) ∧ ¬ (96 : Int) < (nr : Int) ∧ (64 : Int) < (nd : Int)) := by omega
    clear hg
    rcases hg3 with hg1 | ⟨hg1, hg2⟩ | ⟨hg1, hg2, hg3⟩
    all_goals
      go_enter Tryz.func14, Tryz.ntmps14
      go_wp2_with (refine WL.out ?_; (repeat (first | (refine WL.op ?_ ?_; (exact rfl); intro K hK; (first | ((first | ((with_reducible apply ow_move); exact rfl) | ((with_reducible apply ow_assign); exact rfl)); (go_simp <;> (try simp (disch := omega) only [wrap_id, sub_left, zac]) <;> rfl)) | ((((with_reducible apply ow_load1 st); exact rfl; exact inferInstance; exact rfl; (exact get0))); exact rfl) | ((((with_reducible apply ow_box st); exact rfl; (go_simp <;> (try simp (disch := omega) only [wrap_id, sub_left, zac]) <;> rfl); (go_simp <;> (try simp (disch := omega) only [wrap_id, sub_left, zac]) <;> rfl))); (try clear st); intro b w' st) | ((with_reducible apply ow_eval); (go_simp <;> (try simp (disch := omega) only [wrap_id, sub_left, zac]) <;> rfl); first | (with_reducible apply up_value) | ((with_reducible apply up_enter); ((go_at_call 29; refine (Within_any _ _ _ _).mono ?_; rintro e w' ⟨rfl, rfl⟩; refine ⟨_, rfl, ?_⟩))))); refine WL.next hK (by simp only [Act.put, zpt, zsz, zss]; exact rfl) ?_; clear hK K) | (refine WL.skip ?_ (by simp only [Act.put, zpt, zsz, zss]; exact rfl) ?_; (exact rfl)))); (try refine WL.nil ?_))
      go_ret2
      exact ⟨ret2 hq.out.1.symm hq.out.2.symm, st.below⟩
  have hg1 : ¬ (24 : Int) < (na : Int) := by omega
  have hg2 : ¬ (96 : Int) < (nr : Int) := by omega
  have hg3 : ¬ (64 : Int) < (nd : Int) := by omega
  have WE : Hid (we = Ck.wholeErr p) := Lib.hid (by rw [HWE.out, z1, if_pos rfl, if_neg hg])
  clear hg
  by_cases h0 : we = 0
  rotate_left
  · have hq := Lib.hid (whole.out we h0 WE.out.symm)
    have h0' : (we != 0) = true := by simpa using h0
    clear h0
    go_enter Tryz.func14, Tryz.ntmps14
    go_wp2_with (refine WL.out ?_; (repeat ((refine WL.op ?_ ?_; (exact rfl); intro K hK; (first | ((first | ((with_reducible apply ow_move); exact rfl) | ((with_reducible apply ow_assign); exact rfl)); (go_simp <;> (try simp (disch := omega) only [wrap_id, sub_left, zac]) <;> rfl)) | ((first | ((with_reducible apply ow_load1 st); exact rfl; exact inferInstance; exact rfl; (exact get0)) | ((with_reducible apply ow_loadN st); exact rfl; exact inferInstance; exact rfl; (exact get0); ((try simp only [zta, ztz, zda, zdz, zca, zcn, zan, zsz, zss]) <;> exact rfl))); exact rfl) | ((((with_reducible apply ow_box st); exact rfl; (go_simp <;> (try simp (disch := omega) only [wrap_id, sub_left, zac]) <;> rfl); (go_simp <;> (try simp (disch := omega) only [wrap_id, sub_left, zac]) <;> rfl))); (try clear st); intro b w' st) | ((with_reducible apply ow_eval); (go_simp <;> (try simp (disch := omega) only [wrap_id, sub_left, zac]) <;> rfl); first | (with_reducible apply up_value) | ((with_reducible apply up_enter); first | (go_at_call 29; refine (Within_any _ _ _ _).mono ?_; rintro e w' ⟨rfl, rfl⟩; refine ⟨_, rfl, ?_⟩) | (go_at_call 50; ((with_reducible refine (HW.out _ st.below).mono ?_)); rintro e w' ⟨rfl, hb⟩; replace st := st.call hb; clear hb; refine ⟨_, rfl, ?_⟩)))); refine WL.next hK (by simp only [Act.put, zpt, zsz, zss]; exact rfl) ?_; clear hK K))); (try refine WL.nil ?_))
    go_ret2
    exact ⟨ret2 hq.out.1.symm hq.out.2.symm, st.below⟩
  subst h0
  have miss : Hid (Ck.rootErr p = 6 → Ck.partsIx p = 5 ∧ Ck.partsErr p = 6) := Lib.hid fun h => by
    refine ⟨?_, ?_⟩
    · unfold Ck.partsIx
      rw [← WE.out, h]
      rfl
    · unfold Ck.partsErr
      rw [← WE.out, h]
      rfl
  by_cases h5 : (nr : Int) ≤ 5
  · have hm := Lib.hid (miss.out (by unfold Ck.rootErr; rw [if_pos (.inl (by rw [PL.out]; omega))]))
    go_enter Tryz.func14, Tryz.ntmps14
    go_wp2_with (refine WL.out ?_; (repeat (first | (refine WL.op ?_ ?_; (exact rfl); intro K hK; (first | ((first | ((with_reducible apply ow_move); exact rfl) | ((with_reducible apply ow_assign); exact rfl)); (go_simp <;> (try simp (disch := omega) only [wrap_id, sub_left, zac]) <;> rfl)) | ((first | ((with_reducible apply ow_load1 st); exact rfl; exact inferInstance; exact rfl; (exact get0)) | ((with_reducible apply ow_loadN st); exact rfl; exact inferInstance; exact rfl; (exact get0); ((try simp only [zta, ztz, zda, zdz, zca, zcn, zan, zsz, zss]) <;> exact rfl))); exact rfl) | ((((with_reducible apply ow_box st); exact rfl; (go_simp <;> (try simp (disch := omega) only [wrap_id, sub_left, zac]) <;> rfl); (go_simp <;> (try simp (disch := omega) only [wrap_id, sub_left, zac]) <;> rfl))); (try clear st); intro b w' st) | ((with_reducible apply ow_eval); (go_simp <;> (try simp (disch := omega) only [wrap_id, sub_left, zac]) <;> rfl); first | (with_reducible apply up_value) | ((with_reducible apply up_enter); first | (go_at_call 29; refine (Within_any _ _ _ _).mono ?_; rintro e w' ⟨rfl, rfl⟩; refine ⟨_, rfl, ?_⟩) | (go_at_call 50; ((with_reducible refine (HW.out _ st.below).mono ?_)); rintro e w' ⟨rfl, hb⟩; replace st := st.call hb; clear hb; refine ⟨_, rfl, ?_⟩)))); refine WL.next hK (by simp only [Act.put, zpt, zsz, zss]; exact rfl) ?_; clear hK K) | (refine WL.skip ?_ (by simp only [Act.put, zpt, zsz, zss]; exact rfl) ?_; (exact rfl)))); (try refine WL.nil ?_))
    go_ret2
    exact ⟨ret2 hm.out.1.symm hm.out.2.symm, st.below⟩
  have h5n : 5 < nr := by omega
  have h5i : (5 : Int) < (nr : Int) := by omega
  obtain ⟨b1, o1, rfl, hb1, hc⟩ := H.out.rs.at_ (by rw [← E2.out]; omega)
  have hb1 := Nat.lt_of_lt_of_le hb1 hB
  obtain ⟨y5, hy5⟩ : ∃ y, y = Ck.at_ Ck.VRc.o rs 5 := ⟨_, rfl⟩
  have f5 := hc 5 (by rw [← E2.out]; exact h5n)
  have f50 : w.cell? ⟨b1, o1 + 50, none⟩ = some (.bool y5.u) := by rw [hy5]; exact f5 0 _ rfl
  have f52 : w.cell? ⟨b1, o1 + 50 + 2, none⟩ = some (.int .i64 y5.k) := by rw [hy5]; exact f5 2 _ rfl
  have f52' : w.cell? ⟨b1, o1 + 52, none⟩ = some (.int .i64 y5.k) := f52
  clear f5
  have P5 : Hid (Ck.at_ Ck.Rc.o p.rs 5 = y5.p) := Lib.hid (by rw [PR.out 5 h5n, hy5])
  clear hy5
  obtain ⟨u5, q5, k5, r5, l5, d5, n5, s5, e5, A5, c5, B5, g5, C5, i5⟩ := y5
  simp only at *
  have HC := Lib.hid hc
  clear hc
  cases u5
  · have hm := Lib.hid (miss.out (by unfold Ck.rootErr; rw [if_pos (.inr (.inl (by rw [P5.out]; rfl)))]))
    go_enter Tryz.func14, Tryz.ntmps14
    go_wp2_with (refine WL.out ?_; (repeat (first | (refine WL.op ?_ ?_; (exact rfl); intro K hK; (first | ((first | ((with_reducible apply ow_move); exact rfl) | ((with_reducible apply ow_assign); exact rfl)); (go_simp <;> (try simp (disch := omega) only [wrap_id, sub_left, zac]) <;> rfl)) | ((first | ((with_reducible apply ow_load1 st); exact rfl; exact inferInstance; exact rfl; (exact get0)) | ((with_reducible apply ow_loadN st); exact rfl; exact inferInstance; exact rfl; (exact get0); ((try simp only [zta, ztz, zda, zdz, zca, zcn, zan, zsz, zss]) <;> exact rfl))); exact rfl) | ((((with_reducible apply ow_box st); exact rfl; (go_simp <;> (try simp (disch := omega) only [wrap_id, sub_left, zac]) <;> rfl); (go_simp <;> (try simp (disch := omega) only [wrap_id, sub_left, zac]) <;> rfl))); (try clear st); intro b w' st) | ((with_reducible apply ow_old1 st); exact rfl; exact inferInstance; exact rfl; assumption; assumption) | ((with_reducible apply ow_eval); (go_simp <;> (try simp (disch := omega) only [wrap_id, sub_left, zac]) <;> rfl); first | (with_reducible apply up_value) | ((with_reducible apply up_enter); first | (go_at_call 29; refine (Within_any _ _ _ _).mono ?_; rintro e w' ⟨rfl, rfl⟩; refine ⟨_, rfl, ?_⟩) | (go_at_call 50; ((with_reducible refine (HW.out _ st.below).mono ?_)); rintro e w' ⟨rfl, hb⟩; replace st := st.call hb; clear hb; refine ⟨_, rfl, ?_⟩)))); refine WL.next hK (by simp only [Act.put, zpt, zsz, zss]; exact rfl) ?_; clear hK K) | (refine WL.skip ?_ (by simp only [Act.put, zpt, zsz, zss]; exact rfl) ?_; (exact rfl)))); (try refine WL.nil ?_))
    go_ret2
    exact ⟨ret2 hm.out.1.symm hm.out.2.symm, st.below⟩
  by_cases hk : k5 = 0
  rotate_left
  · have hm := Lib.hid (miss.out (by unfold Ck.rootErr; rw [if_pos (.inr (.inr (by rw [P5.out]; exact hk)))]))
    have hk' : (k5 != 0) = true := by simpa using hk
    go_enter Tryz.func14, Tryz.ntmps14
    go_wp2_with (refine WL.out ?_; (repeat ((refine WL.op ?_ ?_; (exact rfl); intro K hK; (first | ((first | ((with_reducible apply ow_move); exact rfl) | ((with_reducible apply ow_assign); exact rfl)); (go_simp <;> (try simp (disch := omega) only [wrap_id, sub_left, zac]) <;> rfl)) | ((first | ((with_reducible apply ow_load1 st); exact rfl; exact inferInstance; exact rfl; (exact get0)) | ((with_reducible apply ow_loadN st); exact rfl; exact inferInstance; exact rfl; (exact get0); ((try simp only [zta, ztz, zda, zdz, zca, zcn, zan, zsz, zss]) <;> exact rfl))); exact rfl) | ((((with_reducible apply ow_box st); exact rfl; (go_simp <;> (try simp (disch := omega) only [wrap_id, sub_left, zac]) <;> rfl); (go_simp <;> (try simp (disch := omega) only [wrap_id, sub_left, zac]) <;> rfl))); (try clear st); intro b w' st) | ((with_reducible apply ow_old1 st); exact rfl; exact inferInstance; exact rfl; assumption; assumption) | ((with_reducible apply ow_eval); (go_simp <;> (try simp (disch := omega) only [wrap_id, sub_left, zac]) <;> rfl); first | (with_reducible apply up_value) | ((with_reducible apply up_enter); first | (go_at_call 29; refine (Within_any _ _ _ _).mono ?_; rintro e w' ⟨rfl, rfl⟩; refine ⟨_, rfl, ?_⟩) | (go_at_call 50; ((with_reducible refine (HW.out _ st.below).mono ?_)); rintro e w' ⟨rfl, hb⟩; replace st := st.call hb; clear hb; refine ⟨_, rfl, ?_⟩)))); refine WL.next hK (by simp only [Act.put, zpt, zsz, zss]; exact rfl) ?_; clear hK K))); (try refine WL.nil ?_))
    go_ret2
    exact ⟨ret2 hm.out.1.symm hm.out.2.symm, st.below⟩
  subst hk
  have hroot : Hid (Ck.rootErr p = 0) := Lib.hid (by
    unfold Ck.rootErr
    rw [if_neg]
    rw [PL.out, P5.out]
    rintro (h | h | h)
    · omega
    · cases h
    · exact h rfl)
  have HI : Hid (Ck.partsIx p = Ck.goI (fun i => Ck.recErr i (Ck.at_ Ck.Rc.o p.rs i)) nr ∧ Ck.partsErr p = Ck.goE (fun i => Ck.recErr i (Ck.at_ Ck.Rc.o p.rs i)) nr) := Lib.hid (by
    refine ⟨?_, ?_⟩
    · unfold Ck.partsIx
      rw [← WE.out, hroot.out, if_neg (by simp), if_neg (by simp), PL.out]
    · unfold Ck.partsErr Ck.recsErr
      rw [← WE.out, hroot.out, PL.out]
      show (if (0 : Int) = 0 then (if (0 : Int) = 0 then (if Ck.goE _ nr = 0 then 0 else Ck.goE _ nr) else 0) else 0) = _
      rw [if_pos rfl, if_pos rfl]
      split <;> simp_all)
  clear miss P5 hroot
  go_enter Tryz.func14, Tryz.ntmps14
  go_wp2_with (refine WL.out ?_; (repeat ((refine WL.op ?_ ?_; (exact rfl); intro K hK; (first | ((first | ((with_reducible apply ow_move); exact rfl) | ((with_reducible apply ow_assign); exact rfl)); (go_simp <;> (try simp (disch := omega) only [wrap_id, sub_left, zac]) <;> rfl)) | ((first | ((with_reducible apply ow_load1 st); exact rfl; exact inferInstance; exact rfl; (exact get0)) | ((with_reducible apply ow_loadN st); exact rfl; exact inferInstance; exact rfl; (exact get0); ((try simp only [zta, ztz, zda, zdz, zca, zcn, zan, zsz, zss]) <;> exact rfl))); exact rfl) | ((((with_reducible apply ow_box st); exact rfl; (go_simp <;> (try simp (disch := omega) only [wrap_id, sub_left, zac]) <;> rfl); (go_simp <;> (try simp (disch := omega) only [wrap_id, sub_left, zac]) <;> rfl))); (try clear st); intro b w' st) | ((with_reducible apply ow_old1 st); exact rfl; exact inferInstance; exact rfl; assumption; assumption) | ((with_reducible apply ow_eval); (go_simp <;> (try simp (disch := omega) only [wrap_id, sub_left, zac]) <;> rfl); first | (with_reducible apply up_value) | ((with_reducible apply up_enter); first | (go_at_call 29; refine (Within_any _ _ _ _).mono ?_; rintro e w' ⟨rfl, rfl⟩; refine ⟨_, rfl, ?_⟩) | (go_at_call 50; ((with_reducible refine (HW.out _ st.below).mono ?_)); rintro e w' ⟨rfl, hb⟩; replace st := st.call hb; clear hb; refine ⟨_, rfl, ?_⟩)))); refine WL.next hK (by simp only [Act.put, zpt, zsz, zss]; exact rfl) ?_; clear hK K))); (try refine WL.nil ?_))
  clear f50 f52 f52'
  go_loopw [5] (fun i wr => ∃ j : Nat, j ≤ nr ∧ i = .int .i64 j ∧ St w wr [.box b 26 [.int .i64 c, .slice Aa na ca, .slice (some ⟨b1, o1, none⟩) nr cr, .slice Ad nd cd, .string ⟨mp.toArray⟩]] ∧ Hid (Ck.goE (fun i => Ck.recErr i (Ck.at_ Ck.Rc.o p.rs i)) j = 0)) (fun i _ => nr - (intOf i).toNat)
  case atStart => exact ⟨0, by omega, rfl, st, rfl⟩
  case round =>
    clear st
    obtain ⟨j, hj, rfl, st, hs⟩ := hrel
    by_cases hlt : j < nr
    · obtain ⟨y, hy⟩ : ∃ y, y = Ck.at_ Ck.VRc.o rs j := ⟨_, rfl⟩
      have hkl : j < rs.length := by rw [← E2.out]; exact hlt
      have hym : y ∈ rs := by rw [hy]; exact Ck.at_mem _ _ _ hkl
      have f1 : OldC w b1 (o1 + j * 10) [.bool y.u, .int .i64 y.q, .int .i64 y.k, .int .i64 y.b.r, .int .i64 y.b.q, .int .i64 y.ln, .int .i64 y.ds, .slice y.An y.ns.length y.cn, .slice y.As y.ss.length y.cs, .slice y.Ae y.es.length y.ce] := by rw [hy]; exact HC.out j hkl
      have hyp : Hid (Ck.at_ Ck.Rc.o p.rs j = y.p) := Lib.hid (by rw [PR.out j hlt, hy])
      clear hy hkl
      obtain ⟨x, hx⟩ : ∃ x, x = Ck.recErr j y.p := ⟨_, rfl⟩
      have HX : Hid (x = Ck.recErr j (Ck.at_ Ck.Rc.o p.rs j)) := Lib.hid (by rw [hyp.out, hx])
      have HC : Hid (∀ W, Below w.heap.size w W → Calls Tryz.prog 51 #[.agg #[.bool y.u, .int .i64 y.q, .int .i64 y.k, .int .i64 y.b.r, .int .i64 y.b.q, .int .i64 y.ln, .int .i64 y.ds, .slice y.An y.ns.length y.cn, .slice y.As y.ss.length y.cs, .slice y.Ae y.es.length y.ce], .int .i64 (j : Int)] W fun e w' => e = .returned (.int .i64 x) ∧ Below W.heap.size W w') := Lib.hid fun W hb => by
        rw [hx]
        exact rrecordErr_any j y B W ((H.out.rcs y hym).below hb hB) (Nat.le_trans hB hb.size) (HF.out.rcs y hym) (by omega)
      clear hx hym
      by_cases h0 : x = 0
      · have hs' : Hid (Ck.goE (fun i => Ck.recErr i (Ck.at_ Ck.Rc.o p.rs i)) (j + 1) = 0) := Lib.hid (by rw [Ck.goE_next _ hs.out, ← HX.out]; exact h0)
        subst h0
        go_wp2_with (refine WL.out ?_; (repeat ((refine WL.op ?_ ?_; (exact rfl); intro K hK; (first | ((first | ((with_reducible apply ow_move); exact rfl) | ((with_reducible apply ow_assign); exact rfl)); (go_simp <;> (try simp (disch := omega) only [wrap_id, sub_left, zac]) <;> rfl)) | ((((with_reducible apply ow_load1 st); exact rfl; exact inferInstance; exact rfl; (exact get0))); exact rfl) | ((with_reducible apply ow_oldC st); exact rfl; exact inferInstance; exact rfl; assumption; assumption; exact rfl) | ((with_reducible apply ow_eval); (go_simp <;> (try simp (disch := omega) only [wrap_id, sub_left, zac]) <;> rfl); first | (with_reducible apply up_value) | ((with_reducible apply up_enter); ((go_at_call 51; ((with_reducible refine (HC.out _ st.below).mono ?_)); rintro e w' ⟨rfl, hb⟩; replace st := st.call hb; clear hb; refine ⟨_, rfl, ?_⟩))))); refine WL.next hK (by simp only [Act.put, zpt, zsz, zss]; exact rfl) ?_; clear hK K))); (try refine WL.nil ?_))
        exact ⟨⟨j + 1, by omega, by go_num, st, hs'⟩, by simp [intOf]; omega⟩
      · have hE : Hid (Ck.partsErr p = x) := Lib.hid (by
          rw [HI.out.2, HX.out]
          exact Ck.goE_stop _ hs.out (by rw [← HX.out]; exact h0) nr hlt)
        have hI : Hid (Ck.partsIx p = j) := Lib.hid (by
          rw [HI.out.1]
          exact Ck.goI_stop _ hs.out (by rw [← HX.out]; exact h0) nr hlt)
        have h0' : (x != 0) = true := by simpa using h0
        go_wp2_with (refine WL.out ?_; (repeat ((refine WL.op ?_ ?_; (exact rfl); intro K hK; (first | ((first | ((with_reducible apply ow_move); exact rfl) | ((with_reducible apply ow_assign); exact rfl)); (go_simp <;> (try simp (disch := omega) only [wrap_id, sub_left, zac]) <;> rfl)) | ((((with_reducible apply ow_load1 st); exact rfl; exact inferInstance; exact rfl; (exact get0))); exact rfl) | ((with_reducible apply ow_oldC st); exact rfl; exact inferInstance; exact rfl; assumption; assumption; exact rfl) | ((with_reducible apply ow_eval); (go_simp <;> (try simp (disch := omega) only [wrap_id, sub_left, zac]) <;> rfl); first | (with_reducible apply up_value) | ((with_reducible apply up_enter); ((go_at_call 51; ((with_reducible refine (HC.out _ st.below).mono ?_)); rintro e w' ⟨rfl, hb⟩; replace st := st.call hb; clear hb; refine ⟨_, rfl, ?_⟩))))); refine WL.next hK (by simp only [Act.put, zpt, zsz, zss]; exact rfl) ?_; clear hK K))); (try refine WL.nil ?_))
        go_ret2
        exact ⟨ret2 hI.out.symm hE.out.symm, st.below⟩
    · obtain rfl : nr = j := by omega
      have hE : Hid (Ck.partsErr p = 0) := Lib.hid (by rw [HI.out.2, hs.out])
      have hI : Hid (Ck.partsIx p = 0) := Lib.hid (by rw [HI.out.1]; exact Ck.goI_zero _ _ hs.out)
      go_wp2_with (refine WL.out ?_; (repeat ((refine WL.op ?_ ?_; (exact rfl); intro K hK; (first | ((((with_reducible apply ow_load1 st); exact rfl; exact inferInstance; exact rfl; (exact get0))); exact rfl) | ((with_reducible apply ow_eval); (go_simp <;> (try simp (disch := omega) only [wrap_id, sub_left, zac]) <;> rfl); ((with_reducible apply up_value)))); refine WL.next hK (by simp only [Act.put, zpt, zsz, zss]; exact rfl) ?_; clear hK K))); (try refine WL.nil ?_))
      go_ret2
      exact ⟨ret2 hI.out.symm hE.out.symm, st.below⟩
end Go.Proofs.YtgcjejajljhnaaaGreatDoor
namespace Ck
def nmFew (x : Nm) : Bool := decide (x.n.length ≤ 40)
def enFew (x : En) : Bool := decide (x.n.length ≤ 40)
def smFew (x : VSm) : Bool := decide (x.r.length ≤ 30)
def rcFew (x : VRc) : Bool := (decide (x.ns.length ≤ 10) && (decide (x.ss.length ≤ 10) && decide (x.es.length ≤ 60))) && (x.ns.all nmFew && (x.es.all enFew && x.ss.all smFew))
def few (v : VPt) : Bool := (decide (v.al.length ≤ 30) && (decide (v.rs.length ≤ 99) && (decide (v.ds.length ≤ 70) && decide (v.mp.length ≤ 600)))) && v.rs.all rcFew
theorem all_at {α : Type} {o : α} {f : α → Bool} {l : List α} (h : ∀ k, k < l.length → f (at_ o l k) = true) : l.all f = true := List.all_eq_true.2 fun x hx => by
  obtain ⟨k, hk, e⟩ := List.getElem_of_mem hx
  rw [← e, ← at_eq o l k hk]
  exact h k hk
theorem all_not {α : Type} {o : α} {f : α → Bool} {l : List α} {k : Nat} (hk : k < l.length) (h : f (at_ o l k) = false) : l.all f = false := by
  cases ha : l.all f with
  | false => rfl
  | true =>
    have := List.all_eq_true.1 ha _ (at_mem o l k hk)
    rw [h] at this
    cases this
theorem few_head {v : VPt} (h : ¬ (v.al.length ≤ 30 ∧ v.rs.length ≤ 99 ∧ v.ds.length ≤ 70 ∧ v.mp.length ≤ 600)) : few v = false := by
  cases hf : few v with
  | false => rfl
  | true =>
    unfold few at hf
    simp only [Bool.and_eq_true, decide_eq_true_eq] at hf
    exact absurd ⟨hf.1.1, hf.1.2.1, hf.1.2.2.1, hf.1.2.2.2⟩ h
theorem rcFew_head {x : VRc} (h : ¬ (x.ns.length ≤ 10 ∧ x.ss.length ≤ 10 ∧ x.es.length ≤ 60)) : rcFew x = false := by
  cases hf : rcFew x with
  | false => rfl
  | true =>
    unfold rcFew at hf
    simp only [Bool.and_eq_true, decide_eq_true_eq] at hf
    exact absurd ⟨hf.1.1, hf.1.2.1, hf.1.2.2⟩ h
theorem rcFew_n {x : VRc} (h : x.ns.all nmFew = false) : rcFew x = false := by unfold rcFew; rw [h]; simp
theorem rcFew_e {x : VRc} (h : x.es.all enFew = false) : rcFew x = false := by unfold rcFew; rw [h]; simp
theorem rcFew_s {x : VRc} (h : x.ss.all smFew = false) : rcFew x = false := by unfold rcFew; rw [h]; simp
theorem rcFew_yes {x : VRc} (h : x.ns.length ≤ 10 ∧ x.ss.length ≤ 10 ∧ x.es.length ≤ 60) (h1 : x.ns.all nmFew = true) (h2 : x.es.all enFew = true) (h3 : x.ss.all smFew = true) : rcFew x = true := by
  unfold rcFew
  rw [h1, h2, h3, decide_eq_true h.1, decide_eq_true h.2.1, decide_eq_true h.2.2]
  rfl
theorem few_rec {v : VPt} {j : Nat} (hj : j < v.rs.length) (h : rcFew (at_ VRc.o v.rs j) = false) : few v = false := by
  unfold few
  rw [all_not hj h]
  simp
theorem few_all {v : VPt} (h : v.al.length ≤ 30 ∧ v.rs.length ≤ 99 ∧ v.ds.length ≤ 70 ∧ v.mp.length ≤ 600) (hr : ∀ k, k < v.rs.length → rcFew (at_ VRc.o v.rs k) = true) : few v = true := by
  unfold few
  rw [all_at hr, decide_eq_true h.1, decide_eq_true h.2.1, decide_eq_true h.2.2.1, decide_eq_true h.2.2.2]
  rfl
end Ck
namespace Go.Proofs.YtgcjejajljhnaaaGreatDoor
open Go.RowKit Go.Hp
set_option maxRecDepth 8000 in
set_option maxHeartbeats 4000000 in
theorem few_any (v : Ck.VPt) (B : Nat) (w : World) (h : v.At w B) (hB : B ≤ w.heap.size) :
    Calls Tryz.prog 11 #[v.val] w fun e w' => e = .returned (.bool (Ck.few v)) ∧ Below w.heap.size w w' := by
  have hsz : ∀ l : List UInt8, (ByteArray.mk l.toArray).size = l.length := fun l => by show l.toArray.size = _; simp
  have H := Lib.hid h
  clear h
  obtain ⟨R, eR⟩ : ∃ R, R = Ck.few v := ⟨_, rfl⟩
  rw [← eR]
  have HR := Lib.hid eR
  clear eR
  obtain ⟨c, al, rs, ds, mp, Aa, ca, Ar, cr, Ad, cd⟩ := v
  unfold Ck.VPt.val
  simp only at *
  obtain ⟨na, e1⟩ : ∃ n, n = al.length := ⟨_, rfl⟩
  obtain ⟨nr, e2⟩ : ∃ n, n = rs.length := ⟨_, rfl⟩
  obtain ⟨nd, e3⟩ : ∃ n, n = ds.length := ⟨_, rfl⟩
  have E1 := Lib.hid e1
  have E2 := Lib.hid e2
  have E3 := Lib.hid e3
  rw [← e1, ← e2, ← e3]
  clear e1 e2 e3
  have st := St.start w
  by_cases hg : na ≤ 30 ∧ nr ≤ 99 ∧ nd ≤ 70 ∧ mp.length ≤ 600
  rotate_left
  · have hq : Hid (R = false) := Lib.hid (by
      rw [HR.out]
      refine Ck.few_head fun hh => hg ?_
      rw [E1.out, E2.out, E3.out]
      exact hh)
    have hc : (30 : Int) < (na : Int) ∨ (¬ (30 : Int) < (na : Int) ∧ (99 : Int) < (nr : Int)) ∨ (¬ (30 : Int) < (na : Int) ∧ ¬ (99 : Int) < (nr : Int) ∧ (70 : Int) < (nd : Int)) ∨ (¬ (30 : Int) < (na : Int) ∧ ¬ (99 : Int) < (nr : Int) ∧ ¬ (70 : Int) < (nd : Int) ∧ (600 : Int) < (mp.length : Int)) := by omega
    clear hg
    rcases hc with h1 | ⟨h1, h2⟩ | ⟨h1, h2, h3⟩ | ⟨h1, h2, h3, h4⟩
    all_goals
      go_enter Tryz.func11, Tryz.ntmps11
      go_wp2_with (refine WL.out ?_; (repeat (first | (refine WL.op ?_ ?_; (exact rfl); intro K hK; (first | ((first | ((with_reducible apply ow_move); exact rfl) | ((with_reducible apply ow_assign); exact rfl)); (go_simp <;> (try simp (disch := omega) only [wrap_id, sub_left, zac]) <;> rfl)) | ((((with_reducible apply ow_load1 st); exact rfl; exact inferInstance; exact rfl; (exact get0))); exact rfl) | ((((with_reducible apply ow_box st); exact rfl; (go_simp <;> (try simp (disch := omega) only [wrap_id, sub_left, zac]) <;> rfl); (go_simp <;> (try simp (disch := omega) only [wrap_id, sub_left, zac]) <;> rfl))); (try clear st); intro b w' st) | ((with_reducible apply ow_eval); (go_simp <;> (try simp (disch := omega) only [wrap_id, sub_left, zac]) <;> rfl); ((with_reducible apply up_value)))); refine WL.next hK (by simp only [Act.put, zpt, zsz, zss]; exact rfl) ?_; clear hK K) | (refine WL.skip ?_ (by simp only [Act.put, zpt, zsz, zss]; exact rfl) ?_; (exact rfl)))); (try refine WL.nil ?_))
      go_ret
      exact ⟨by rw [hq.out]; rfl, st.below⟩
  have HG := Lib.hid hg
  have h1 : ¬ (30 : Int) < (na : Int) := by omega
  have h2 : ¬ (99 : Int) < (nr : Int) := by omega
  have h3 : ¬ (70 : Int) < (nd : Int) := by omega
  have h4 : ¬ (600 : Int) < (mp.length : Int) := by omega
  clear hg
  go_enter Tryz.func11, Tryz.ntmps11
  go_wp2_with (refine WL.out ?_; (repeat ((refine WL.op ?_ ?_; (exact rfl); intro K hK; (first | ((first | ((with_reducible apply ow_move); exact rfl) | ((with_reducible apply ow_assign); exact rfl)); (go_simp <;> (try simp (disch := omega) only [wrap_id, sub_left, zac]) <;> rfl)) | ((((with_reducible apply ow_load1 st); exact rfl; exact inferInstance; exact rfl; (exact get0))); exact rfl) | ((((with_reducible apply ow_box st); exact rfl; (go_simp <;> (try simp (disch := omega) only [wrap_id, sub_left, zac]) <;> rfl); (go_simp <;> (try simp (disch := omega) only [wrap_id, sub_left, zac]) <;> rfl))); (try clear st); intro b w' st) | ((with_reducible apply ow_eval); (go_simp <;> (try simp (disch := omega) only [wrap_id, sub_left, zac]) <;> rfl); ((with_reducible apply up_value)))); refine WL.next hK (by simp only [Act.put, zpt, zsz, zss]; exact rfl) ?_; clear hK K))); (try refine WL.nil ?_))
  clear h1 h2 h3 h4
  go_loopw [3] (fun i wr => ∃ j : Nat, j ≤ nr ∧ i = .int .i64 j ∧ St w wr [.box b 26 [.int .i64 c, .slice Aa na ca, .slice Ar nr cr, .slice Ad nd cd, .string ⟨mp.toArray⟩]] ∧ Hid (∀ k, k < j → Ck.rcFew (Ck.at_ Ck.VRc.o rs k) = true)) (fun i _ => nr - (intOf i).toNat)
  case atStart => exact ⟨0, by omega, rfl, st, Lib.hid (fun k hk => absurd hk (by omega))⟩
  case round =>
    clear st
    obtain ⟨j, hj, rfl, st, hs⟩ := hrel
    by_cases hlt : j < nr
    rotate_left
    · obtain rfl : nr = j := by omega
      have hq : Hid (R = true) := Lib.hid (by
        rw [HR.out]
        refine Ck.few_all ?_ (fun k hk => hs.out k (by rw [E2.out]; exact hk))
        have := HG.out
        rw [E1.out, E2.out, E3.out] at this
        exact this)
      go_wp2_with (refine WL.out ?_; (repeat ((refine WL.op ?_ ?_; (exact rfl); intro K hK; (first | ((((with_reducible apply ow_load1 st); exact rfl; exact inferInstance; exact rfl; (exact get0))); exact rfl) | ((with_reducible apply ow_eval); (go_simp <;> (try simp (disch := omega) only [wrap_id, sub_left, zac]) <;> rfl); ((with_reducible apply up_value)))); refine WL.next hK (by simp only [Act.put, zpt, zsz, zss]; exact rfl) ?_; clear hK K))); (try refine WL.nil ?_))
      go_ret
      exact ⟨by rw [hq.out]; rfl, st.below⟩
    have hkl : Hid (j < rs.length) := Lib.hid (by rw [← E2.out]; exact hlt)
    obtain ⟨b1, o1, rfl, hb1, hc⟩ := H.out.rs.at_ (Nat.lt_of_le_of_lt (Nat.zero_le _) hkl.out)
    have hb1 := Nat.lt_of_lt_of_le hb1 hB
    obtain ⟨y, hy⟩ : ∃ y, y = Ck.at_ Ck.VRc.o rs j := ⟨_, rfl⟩
    have hym : y ∈ rs := by rw [hy]; exact Ck.at_mem _ _ _ hkl.out
    have f1 : OldC w b1 (o1 + j * 10) [.bool y.u, .int .i64 y.q, .int .i64 y.k, .int .i64 y.b.r, .int .i64 y.b.q, .int .i64 y.ln, .int .i64 y.ds, .slice y.An y.ns.length y.cn, .slice y.As y.ss.length y.cs, .slice y.Ae y.es.length y.ce] := by rw [hy]; exact hc j hkl.out
    have bad : Hid (Ck.rcFew y = false → R = false) := Lib.hid fun hh => by
      rw [HR.out]
      exact Ck.few_rec hkl.out (by show Ck.rcFew (Ck.at_ Ck.VRc.o rs j) = false; rw [← hy]; exact hh)
    have HA := Lib.hid (H.out.rcs y hym)
    have good : Hid (Ck.rcFew y = true → ∀ k, k < j + 1 → Ck.rcFew (Ck.at_ Ck.VRc.o rs k) = true) := Lib.hid fun hh k hk => by
      by_cases e : k = j
      · rw [e, ← hy]; exact hh
      · exact hs.out k (by omega)
    clear hc hy hym hs
    obtain ⟨u, q, kd, ⟨br, bq⟩, ln, dsx, ns, ss, es, An, cn, As, cs, Ae, ce⟩ := y
    simp only at *
    obtain ⟨nn, e4⟩ : ∃ n, n = ns.length := ⟨_, rfl⟩
    obtain ⟨nss, e5⟩ : ∃ n, n = ss.length := ⟨_, rfl⟩
    obtain ⟨ne, e6⟩ : ∃ n, n = es.length := ⟨_, rfl⟩
    have E4 := Lib.hid e4
    have E5 := Lib.hid e5
    have E6 := Lib.hid e6
    rw [← e4, ← e5, ← e6] at f1
    clear e4 e5 e6
    obtain ⟨bp, rfl⟩ : ∃ x, x = b := ⟨_, rfl⟩
    by_cases hg : nn ≤ 10 ∧ nss ≤ 10 ∧ ne ≤ 60
    rotate_left
    · have hq : Hid (R = false) := Lib.hid (bad.out (Ck.rcFew_head fun hh => hg (by rw [E4.out, E5.out, E6.out]; exact hh)))
      have hc : (10 : Int) < (nn : Int) ∨ (¬ (10 : Int) < (nn : Int) ∧ (10 : Int) < (nss : Int)) ∨ (¬ (10 : Int) < (nn : Int) ∧ ¬ (10 : Int) < (nss : Int) ∧ (60 : Int) < (ne : Int)) := by omega
      clear hg
      rcases hc with h1 | ⟨h1, h2⟩ | ⟨h1, h2, h3⟩
      all_goals
        go_wp2_with (refine WL.out ?_; (repeat (first | (refine WL.op ?_ ?_; (exact rfl); intro K hK; (first | ((((with_reducible apply ow_move); exact rfl)); (go_simp <;> (try simp (disch := omega) only [wrap_id, sub_left, zac]) <;> rfl)) | ((((with_reducible apply ow_load1 st); exact rfl; exact inferInstance; exact rfl; (exact get0))); exact rfl) | ((((with_reducible apply ow_alloc st); exact rfl; exact inferInstance; (go_simp <;> (try simp (disch := omega) only [wrap_id, sub_left, zac]) <;> rfl))); (try clear st); intro b w' st) | ((((with_reducible apply ow_storeN' st); exact rfl; exact inferInstance; exact rfl; (exact get0); exact rfl)); exact rfl; exact rfl; (simp <;> done); ((try simp only [zta, ztz, zda, zdz, zca, zcn, zan, zsz, zss]) <;> exact rfl); (try clear st); intro w' st) | ((with_reducible apply ow_oldC st); exact rfl; exact inferInstance; exact rfl; assumption; assumption; exact rfl) | ((with_reducible apply ow_eval); (go_simp <;> (try simp (disch := omega) only [wrap_id, sub_left, zac]) <;> rfl); ((with_reducible apply up_value)))); refine WL.next hK (by simp only [Act.put, zpt, zsz, zss]; exact rfl) ?_; clear hK K) | (refine WL.skip ?_ (by simp only [Act.put, zpt, zsz, zss]; exact rfl) ?_; (exact rfl)))); (try refine WL.nil ?_))
        go_ret
        exact ⟨by rw [hq.out]; rfl, st.below⟩
    have HG2 := Lib.hid hg
    have hb10 : nn ≤ 10 := hg.1
    have hb11 : nss ≤ 10 := hg.2.1
    have hb12 : ne ≤ 60 := hg.2.2
    have hb13 : nr ≤ 99 := HG.out.2.1
    have h1 : ¬ (10 : Int) < (nn : Int) := by omega
    have h2 : ¬ (10 : Int) < (nss : Int) := by omega
    have h3 : ¬ (60 : Int) < (ne : Int) := by omega
    clear hg
    go_wp2_with (refine WL.out ?_; (repeat ((refine WL.op ?_ ?_; (exact rfl); intro K hK; (first | ((((with_reducible apply ow_move); exact rfl)); (go_simp <;> (try simp (disch := omega) only [wrap_id, sub_left, zac]) <;> rfl)) | ((((with_reducible apply ow_load1 st); exact rfl; exact inferInstance; exact rfl; (exact get0))); exact rfl) | ((((with_reducible apply ow_alloc st); exact rfl; exact inferInstance; (go_simp <;> (try simp (disch := omega) only [wrap_id, sub_left, zac]) <;> rfl))); (try clear st); intro b w' st) | ((((with_reducible apply ow_storeN' st); exact rfl; exact inferInstance; exact rfl; (exact get0); exact rfl)); exact rfl; exact rfl; (simp <;> done); ((try simp only [zta, ztz, zda, zdz, zca, zcn, zan, zsz, zss]) <;> exact rfl); (try clear st); intro w' st) | ((with_reducible apply ow_oldC st); exact rfl; exact inferInstance; exact rfl; assumption; assumption; exact rfl) | ((with_reducible apply ow_eval); (go_simp <;> (try simp (disch := omega) only [wrap_id, sub_left, zac]) <;> rfl); ((with_reducible apply up_value)))); refine WL.next hK (by simp only [Act.put, zpt, zsz, zss]; exact rfl) ?_; clear hK K))); (try refine WL.nil ?_))
    clear h1 h2 h3 f1 hb1
    go_loopw [5] (fun i wr => ∃ m : Nat, m ≤ nn ∧ i = .int .i64 m ∧ St w wr [.box b 66 [.bool u, .int .i64 q, .int .i64 kd, .int .i64 br, .int .i64 bq, .int .i64 ln, .int .i64 dsx, .slice An nn cn, .slice As nss cs, .slice Ae ne ce], .box bp 26 [.int .i64 c, .slice Aa na ca, .slice (some ⟨b1, o1, none⟩) nr cr, .slice Ad nd cd, .string ⟨mp.toArray⟩]] ∧ Hid (∀ k, k < m → Ck.nmFew (Ck.at_ Ck.Nm.o ns k) = true)) (fun i _ => nn - (intOf i).toNat)
    case atStart => exact ⟨0, by omega, rfl, st, Lib.hid (fun k hk => absurd hk (by omega))⟩
    case round =>
      clear st
      obtain ⟨m, hm, rfl, st, hs⟩ := hrel
      by_cases hlt2 : m < nn
      · have hml : Hid (m < ns.length) := Lib.hid (by rw [← E4.out]; exact hlt2)
        obtain ⟨b2, o2, rfl, hb2, hc⟩ := HA.out.ns.at_ (Nat.lt_of_le_of_lt (Nat.zero_le _) hml.out)
        have hb2 := Nat.lt_of_lt_of_le hb2 hB
        obtain ⟨y, hy⟩ : ∃ y, y = Ck.at_ Ck.Nm.o ns m := ⟨_, rfl⟩
        have f3 : w.cell? ⟨b2, o2 + m * 3 + 1 + 1, none⟩ = some (.string ⟨y.n.toArray⟩) := by rw [hy]; exact hc m hml.out 2 _ rfl
        have f3' : w.cell? ⟨b2, o2 + m * 3 + 2, none⟩ = some (.string ⟨y.n.toArray⟩) := f3
        have HY := Lib.hid hy
        clear hc hy
        by_cases hy40 : (40 : Int) < (y.n.length : Int)
        · have hq : Hid (R = false) := Lib.hid (bad.out (Ck.rcFew_n (Ck.all_not hml.out (by rw [← HY.out]; exact decide_eq_false (by omega)))))
          go_wp2_with (refine WL.out ?_; (repeat ((refine WL.op ?_ ?_; (exact rfl); intro K hK; (first | ((((with_reducible apply ow_move); exact rfl)); (go_simp <;> (try simp (disch := omega) only [wrap_id, sub_left, zac]) <;> rfl)) | ((((with_reducible apply ow_load1 st); exact rfl; exact inferInstance; exact rfl; (exact get0))); exact rfl) | ((with_reducible apply ow_old1 st); exact rfl; exact inferInstance; exact rfl; assumption; assumption) | ((with_reducible apply ow_eval); (go_simp <;> (try simp (disch := omega) only [wrap_id, sub_left, zac]) <;> rfl); ((with_reducible apply up_value)))); refine WL.next hK (by simp only [Act.put, zpt, zsz, zss]; exact rfl) ?_; clear hK K))); (try refine WL.nil ?_))
          go_ret
          exact ⟨by rw [hq.out]; rfl, st.below⟩
        · have hs' : Hid (∀ k, k < m + 1 → Ck.nmFew (Ck.at_ Ck.Nm.o ns k) = true) := Lib.hid fun k hk => by
            by_cases e : k = m
            · rw [e, ← HY.out]; exact decide_eq_true (by omega)
            · exact hs.out k (by omega)
          go_wp2_with (refine WL.out ?_; (repeat ((refine WL.op ?_ ?_; (exact rfl); intro K hK; (first | ((first | ((with_reducible apply ow_move); exact rfl) | ((with_reducible apply ow_assign); exact rfl)); (go_simp <;> (try simp (disch := omega) only [wrap_id, sub_left, zac]) <;> rfl)) | ((((with_reducible apply ow_load1 st); exact rfl; exact inferInstance; exact rfl; (exact get0))); exact rfl) | ((with_reducible apply ow_old1 st); exact rfl; exact inferInstance; exact rfl; assumption; assumption) | ((with_reducible apply ow_eval); (go_simp <;> (try simp (disch := omega) only [wrap_id, sub_left, zac]) <;> rfl); ((with_reducible apply up_value)))); refine WL.next hK (by simp only [Act.put, zpt, zsz, zss]; exact rfl) ?_; clear hK K))); (try refine WL.nil ?_))
          exact ⟨⟨m + 1, by omega, by go_num, st, hs'⟩, by simp [intOf]; omega⟩
      obtain rfl : nn = m := by omega
      have hN := Lib.hid (Ck.all_at (f := Ck.nmFew) (l := ns) (fun k hk => hs.out k (by rw [E4.out]; exact hk)))
      clear hs hlt2
      go_wp2_with (refine WL.out ?_; (repeat ((refine WL.op ?_ ?_; (exact rfl); intro K hK; (first | ((((with_reducible apply ow_load1 st); exact rfl; exact inferInstance; exact rfl; (exact get0))); exact rfl) | ((with_reducible apply ow_eval); (go_simp <;> (try simp (disch := omega) only [wrap_id, sub_left, zac]) <;> rfl); ((with_reducible apply up_value)))); refine WL.next hK (by simp only [Act.put, zpt, zsz, zss]; exact rfl) ?_; clear hK K))); (try refine WL.nil ?_))
      go_loopw [6] (fun i wr => ∃ m : Nat, m ≤ ne ∧ i = .int .i64 m ∧ St w wr [.box b 66 [.bool u, .int .i64 q, .int .i64 kd, .int .i64 br, .int .i64 bq, .int .i64 ln, .int .i64 dsx, .slice An nn cn, .slice As nss cs, .slice Ae ne ce], .box bp 26 [.int .i64 c, .slice Aa na ca, .slice (some ⟨b1, o1, none⟩) nr cr, .slice Ad nd cd, .string ⟨mp.toArray⟩]] ∧ Hid (∀ k, k < m → Ck.enFew (Ck.at_ Ck.En.o es k) = true)) (fun i _ => ne - (intOf i).toNat)
      case atStart => exact ⟨0, by omega, rfl, st, Lib.hid (fun k hk => absurd hk (by omega))⟩
      case round =>
        clear st
        obtain ⟨m, hm, rfl, st, hs⟩ := hrel
        by_cases hlt2 : m < ne
        · have hml : Hid (m < es.length) := Lib.hid (by rw [← E6.out]; exact hlt2)
          obtain ⟨b2, o2, rfl, hb2, hc⟩ := HA.out.es.at_ (Nat.lt_of_le_of_lt (Nat.zero_le _) hml.out)
          have hb2 := Nat.lt_of_lt_of_le hb2 hB
          obtain ⟨y, hy⟩ : ∃ y, y = Ck.at_ Ck.En.o es m := ⟨_, rfl⟩
          have f3 : w.cell? ⟨b2, o2 + m * 4, none⟩ = some (.string ⟨y.n.toArray⟩) := by rw [hy]; exact hc m hml.out 0 _ rfl
          have HY := Lib.hid hy
          clear hc hy
          by_cases hy40 : (40 : Int) < (y.n.length : Int)
          · have hq : Hid (R = false) := Lib.hid (bad.out (Ck.rcFew_e (Ck.all_not hml.out (by rw [← HY.out]; exact decide_eq_false (by omega)))))
            go_wp2_with (refine WL.out ?_; (repeat ((refine WL.op ?_ ?_; (exact rfl); intro K hK; (first | ((((with_reducible apply ow_move); exact rfl)); (go_simp <;> (try simp (disch := omega) only [wrap_id, sub_left, zac]) <;> rfl)) | ((((with_reducible apply ow_load1 st); exact rfl; exact inferInstance; exact rfl; (exact get0))); exact rfl) | ((with_reducible apply ow_old1 st); exact rfl; exact inferInstance; exact rfl; assumption; assumption) | ((with_reducible apply ow_eval); (go_simp <;> (try simp (disch := omega) only [wrap_id, sub_left, zac]) <;> rfl); ((with_reducible apply up_value)))); refine WL.next hK (by simp only [Act.put, zpt, zsz, zss]; exact rfl) ?_; clear hK K))); (try refine WL.nil ?_))
            go_ret
            exact ⟨by rw [hq.out]; rfl, st.below⟩
          · have hs' : Hid (∀ k, k < m + 1 → Ck.enFew (Ck.at_ Ck.En.o es k) = true) := Lib.hid fun k hk => by
              by_cases e : k = m
              · rw [e, ← HY.out]; exact decide_eq_true (by omega)
              · exact hs.out k (by omega)
            go_wp2_with (refine WL.out ?_; (repeat ((refine WL.op ?_ ?_; (exact rfl); intro K hK; (first | ((first | ((with_reducible apply ow_move); exact rfl) | ((with_reducible apply ow_assign); exact rfl)); (go_simp <;> (try simp (disch := omega) only [wrap_id, sub_left, zac]) <;> rfl)) | ((((with_reducible apply ow_load1 st); exact rfl; exact inferInstance; exact rfl; (exact get0))); exact rfl) | ((with_reducible apply ow_old1 st); exact rfl; exact inferInstance; exact rfl; assumption; assumption) | ((with_reducible apply ow_eval); (go_simp <;> (try simp (disch := omega) only [wrap_id, sub_left, zac]) <;> rfl); ((with_reducible apply up_value)))); refine WL.next hK (by simp only [Act.put, zpt, zsz, zss]; exact rfl) ?_; clear hK K))); (try refine WL.nil ?_))
            exact ⟨⟨m + 1, by omega, by go_num, st, hs'⟩, by simp [intOf]; omega⟩
        obtain rfl : ne = m := by omega
        have hE := Lib.hid (Ck.all_at (f := Ck.enFew) (l := es) (fun k hk => hs.out k (by rw [E6.out]; exact hk)))
        clear hs hlt2
        go_wp2_with (refine WL.out ?_; (repeat ((refine WL.op ?_ ?_; (exact rfl); intro K hK; (first | ((((with_reducible apply ow_load1 st); exact rfl; exact inferInstance; exact rfl; (exact get0))); exact rfl) | ((with_reducible apply ow_eval); (go_simp <;> (try simp (disch := omega) only [wrap_id, sub_left, zac]) <;> rfl); ((with_reducible apply up_value)))); refine WL.next hK (by simp only [Act.put, zpt, zsz, zss]; exact rfl) ?_; clear hK K))); (try refine WL.nil ?_))
        go_loopw [7] (fun i wr => ∃ m : Nat, m ≤ nss ∧ i = .int .i64 m ∧ St w wr [.box b 66 [.bool u, .int .i64 q, .int .i64 kd, .int .i64 br, .int .i64 bq, .int .i64 ln, .int .i64 dsx, .slice An nn cn, .slice As nss cs, .slice Ae ne ce], .box bp 26 [.int .i64 c, .slice Aa na ca, .slice (some ⟨b1, o1, none⟩) nr cr, .slice Ad nd cd, .string ⟨mp.toArray⟩]] ∧ Hid (∀ k, k < m → Ck.smFew (Ck.at_ Ck.VSm.o ss k) = true)) (fun i _ => nss - (intOf i).toNat)
        case atStart => exact ⟨0, by omega, rfl, st, Lib.hid (fun k hk => absurd hk (by omega))⟩
        case round =>
          clear st
          obtain ⟨m, hm, rfl, st, hs⟩ := hrel
          by_cases hlt2 : m < nss
          · have hml : Hid (m < ss.length) := Lib.hid (by rw [← E5.out]; exact hlt2)
            obtain ⟨b2, o2, rfl, hb2, hc⟩ := HA.out.ss.at_ (Nat.lt_of_le_of_lt (Nat.zero_le _) hml.out)
            have hb2 := Nat.lt_of_lt_of_le hb2 hB
            obtain ⟨y, hy⟩ : ∃ y, y = Ck.at_ Ck.VSm.o ss m := ⟨_, rfl⟩
            have f3 : w.cell? ⟨b2, o2 + m * 2, none⟩ = some (.slice y.A y.r.length y.c) := by rw [hy]; exact hc m hml.out 0 _ rfl
            have HY := Lib.hid hy
            clear hc hy
            obtain ⟨nq, hnq⟩ : ∃ n, n = y.r.length := ⟨_, rfl⟩
            rw [← hnq] at f3
            have HNQ := Lib.hid hnq
            clear hnq
            by_cases hy30 : (30 : Int) < (nq : Int)
            · have hq : Hid (R = false) := Lib.hid (bad.out (Ck.rcFew_s (Ck.all_not hml.out (by rw [← HY.out]; exact decide_eq_false (by have := HNQ.out; omega)))))
              go_wp2_with (refine WL.out ?_; (repeat ((refine WL.op ?_ ?_; (exact rfl); intro K hK; (first | ((((with_reducible apply ow_move); exact rfl)); (go_simp <;> (try simp (disch := omega) only [wrap_id, sub_left, zac]) <;> rfl)) | ((((with_reducible apply ow_load1 st); exact rfl; exact inferInstance; exact rfl; (exact get0))); exact rfl) | ((with_reducible apply ow_old1 st); exact rfl; exact inferInstance; exact rfl; assumption; assumption) | ((with_reducible apply ow_eval); (go_simp <;> (try simp (disch := omega) only [wrap_id, sub_left, zac]) <;> rfl); ((with_reducible apply up_value)))); refine WL.next hK (by simp only [Act.put, zpt, zsz, zss]; exact rfl) ?_; clear hK K))); (try refine WL.nil ?_))
              go_ret
              exact ⟨by rw [hq.out]; rfl, st.below⟩
            · have hs' : Hid (∀ k, k < m + 1 → Ck.smFew (Ck.at_ Ck.VSm.o ss k) = true) := Lib.hid fun k hk => by
                by_cases e : k = m
                · rw [e, ← HY.out]; exact decide_eq_true (by have := HNQ.out; omega)
                · exact hs.out k (by omega)
              go_wp2_with (refine WL.out ?_; (repeat ((refine WL.op ?_ ?_; (exact rfl); intro K hK; (first | ((first | ((with_reducible apply ow_move); exact rfl) | ((with_reducible apply ow_assign); exact rfl)); (go_simp <;> (try simp (disch := omega) only [wrap_id, sub_left, zac]) <;> rfl)) | ((((with_reducible apply ow_load1 st); exact rfl; exact inferInstance; exact rfl; (exact get0))); exact rfl) | ((with_reducible apply ow_old1 st); exact rfl; exact inferInstance; exact rfl; assumption; assumption) | ((with_reducible apply ow_eval); (go_simp <;> (try simp (disch := omega) only [wrap_id, sub_left, zac]) <;> rfl); ((with_reducible apply up_value)))); refine WL.next hK (by simp only [Act.put, zpt, zsz, zss]; exact rfl) ?_; clear hK K))); (try refine WL.nil ?_))
              exact ⟨⟨m + 1, by omega, by go_num, st, hs'⟩, by simp [intOf]; omega⟩
          obtain rfl : nss = m := by omega
          have hS := Lib.hid (Ck.all_at (f := Ck.smFew) (l := ss) (fun k hk => hs.out k (by rw [E5.out]; exact hk)))
          have hgood := Lib.hid (good.out (Ck.rcFew_yes (by
            have := HG2.out
            rw [E4.out, E5.out, E6.out] at this
            exact this) hN.out hE.out hS.out))
          clear hs hlt2
          go_wp2_with (refine WL.out ?_; (repeat ((refine WL.op ?_ ?_; (exact rfl); intro K hK; (first | ((((with_reducible apply ow_assign); exact rfl)); (go_simp <;> (try simp (disch := omega) only [wrap_id, sub_left, zac]) <;> rfl)) | ((((with_reducible apply ow_load1 st); exact rfl; exact inferInstance; exact rfl; (exact get0))); exact rfl) | ((with_reducible apply ow_eval); (go_simp <;> (try simp (disch := omega) only [wrap_id, sub_left, zac]) <;> rfl); ((with_reducible apply up_value)))); refine WL.next hK (by simp only [Act.put, zpt, zsz, zss]; exact rfl) ?_; clear hK K))); (try refine WL.nil ?_))
          exact ⟨⟨j + 1, by omega, by go_num, st.tail, hgood⟩, by simp [intOf]; omega⟩
end Go.Proofs.YtgcjejajljhnaaaGreatDoor
