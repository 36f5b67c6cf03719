/- Own text, part Err 3: walks of the package acl and of its reference, and the plain laws that they lean on; no statement of the seat is here. -/
import Derived.Test.YtgcjejajljhnaaaGreatDoorErr2
import Derived.Test.YtgcjejajljhnaaaGreatDoorBase2
import Derived.Test.YtgcjejajljhnaaaGreatDoorBase3
import Derived.Test.YtgcjejajljhnaaaGreatDoorErr1
import Derived.Test.YtgcjejajljhnaaaGreatDoorRows
import Derived.HandedShaped
import Derived.Handed
import Derived.Stop.LaidErr
import Derived.MakeChecks
import Derived.Shelf.Vars
import Derived.Stop.Joined
import Derived.Lib.LaidTab
set_option linter.all false
namespace Ck
theorem five (T ln ds k : Int) : (ln != 0) = true ∨ (ln = 0 ∧ (ds != 0) = true) ∨ (ln = 0 ∧ ds = 0 ∧ (T != 0) = true) ∨ (ln = 0 ∧ ds = 0 ∧ T = 0 ∧ (k != 0) = true) ∨ (ln = 0 ∧ ds = 0 ∧ T = 0 ∧ k = 0) := by
  by_cases h1 : ln = 0 <;> by_cases h2 : ds = 0 <;> by_cases h3 : T = 0 <;> by_cases h4 : k = 0 <;> simp [h1, h2, h3, h4]
end Ck
namespace Go.Hp
open Go.RowKit
theorem OldC.part {w : World} {b p : Nat} {vs : List Value} (h : OldC w b p vs) (k : Nat) (ys : List Value) (hy : ∀ j v, ys[j]? = some v → vs[k + j]? = some v) : OldC w b (p + k) ys := fun j v hj => by
  have := h (k + j) v (hy j v hj)
  rwa [← Nat.add_assoc] at this
end Go.Hp
namespace Go.Proofs.YtgcjejajljhnaaaGreatDoor
open Go.RowKit Go.Hp
set_option maxRecDepth 8000 in
set_option maxHeartbeats 30000000 in
theorem rrecordErr_any (i : Nat) (x : Ck.VRc) (B : Nat) (w : World) (h : x.At w B) (hB : B ≤ w.heap.size) (hf : x.Fit) (hi : i ≤ 100000) :
    Calls Tryz.prog 51 #[.agg #[.bool x.u, .int .i64 x.q, .int .i64 x.k, .int .i64 x.b.r, .int .i64 x.b.q, .int .i64 x.ln, .int .i64 x.ds, .slice x.An x.ns.length x.cn, .slice x.As x.ss.length x.cs, .slice x.Ae x.es.length x.ce], .int .i64 (i : Int)] w fun e w' => e = .returned (.int .i64 (Ck.recErr i x.p)) ∧ Below w.heap.size w w' := by
  have H := Lib.hid h
  have HF := Lib.hid hf
  clear h hf
  obtain ⟨u, q, k, ⟨br, bq⟩, ln, ds, ns, ss, es, An, cn, As, cs, Ae, ce⟩ := x
  simp only at *
  obtain ⟨nn, e1⟩ : ∃ n, n = ns.length := ⟨_, rfl⟩
  obtain ⟨nss, e2⟩ : ∃ n, n = ss.length := ⟨_, rfl⟩
  obtain ⟨ne, e3⟩ : ∃ n, n = es.length := ⟨_, rfl⟩
  have E1 := Lib.hid e1
  have E2 := Lib.hid e2
  have E3 := Lib.hid e3
  rw [← e1, ← e2, ← e3]
  clear e1 e2 e3
  have hn1 : nn ≤ 100000 := by rw [E1.out]; exact HF.out.ns
  have hn2 : nss ≤ 100000 := by rw [E2.out]; exact HF.out.ss
  have hn3 : ne ≤ 100000 := by rw [E3.out]; exact HF.out.es
  obtain ⟨R, eR⟩ : ∃ R, R = Ck.recErr (i : Int) (Ck.VRc.p ⟨u, q, k, ⟨br, bq⟩, ln, ds, ns, ss, es, An, cn, As, cs, Ae, ce⟩) := ⟨_, rfl⟩
  rw [← eR]
  have HR := Lib.hid eR
  clear eR
  have st := St.start w
  go_enter Tryz.func51, Tryz.ntmps51
  go_upto_region 1 with (refine WL.out ?_; (repeat ((refine WL.op ?_ ?_; (exact rfl); intro K hK; (first | ((((with_reducible apply ow_assign); exact rfl)); (go_simp <;> (try simp (disch := omega) only [wrap_id, sub_left, zac]) <;> rfl)) | ((((with_reducible apply ow_box st); exact rfl; (go_simp <;> (try simp (disch := omega) only [wrap_id, sub_left, zac]) <;> rfl); (go_simp <;> (try simp (disch := omega) only [wrap_id, sub_left, zac]) <;> rfl))); (try clear st); intro b w' st)); refine WL.next hK (by simp only [Act.put, zpt, zsz, zss]; exact rfl) ?_; clear hK K))); (try refine WL.nil ?_))
  cases z1 : Ck.wi q 1 65535
  · go_wp2_with (refine WL.out ?_; (repeat (first | (refine WL.op ?_ ?_; (exact rfl); intro K hK; (first | ((((with_reducible apply ow_move); exact rfl)); (go_simp <;> (try simp (disch := omega) only [wrap_id, sub_left, zac]) <;> rfl)) | ((((with_reducible apply ow_load1 st); exact rfl; exact inferInstance; exact rfl; (exact get0))); exact rfl) | ((with_reducible apply ow_eval); (go_simp <;> (try simp (disch := omega) only [wrap_id, sub_left, zac]) <;> rfl); first | (with_reducible apply up_value) | ((with_reducible apply up_enter); ((go_at_call 29; refine (Within_any _ _ _ _).mono ?_; rintro e w' ⟨rfl, rfl⟩; refine ⟨_, rfl, ?_⟩))))); refine WL.next hK (by simp only [Act.put, zpt, zsz, zss]; exact rfl) ?_; clear hK K) | (refine WL.skip ?_ (by simp only [Act.put, zpt, zsz, zss]; exact rfl) ?_; (exact rfl)))); (try refine WL.nil ?_))
    go_ret
    exact ⟨Ck.ret_int (by rw [HR.out, Ck.head1 (by simp [Ck.VRc.p, z1])]), st.below⟩
  cases z2 : Ck.wi k 0 3
  · go_wp2_with (refine WL.out ?_; (repeat (first | (refine WL.op ?_ ?_; (exact rfl); intro K hK; (first | ((((with_reducible apply ow_move); exact rfl)); (go_simp <;> (try simp (disch := omega) only [wrap_id, sub_left, zac]) <;> rfl)) | ((((with_reducible apply ow_load1 st); exact rfl; exact inferInstance; exact rfl; (exact get0))); exact rfl) | ((with_reducible apply ow_eval); (go_simp <;> (try simp (disch := omega) only [wrap_id, sub_left, zac]) <;> rfl); first | (with_reducible apply up_value) | ((with_reducible apply up_enter); ((go_at_call 29; refine (Within_any _ _ _ _).mono ?_; rintro e w' ⟨rfl, rfl⟩; refine ⟨_, rfl, ?_⟩))))); refine WL.next hK (by simp only [Act.put, zpt, zsz, zss]; exact rfl) ?_; clear hK K) | (refine WL.skip ?_ (by simp only [Act.put, zpt, zsz, zss]; exact rfl) ?_; (exact rfl)))); (try refine WL.nil ?_))
    go_ret
    exact ⟨Ck.ret_int (by rw [HR.out, Ck.head1 (by simp [Ck.VRc.p, z2])]), st.below⟩
  cases z3 : Ck.num ln
  · go_wp2_with (refine WL.out ?_; (repeat (first | (refine WL.op ?_ ?_; (exact rfl); intro K hK; (first | ((((with_reducible apply ow_move); exact rfl)); (go_simp <;> (try simp (disch := omega) only [wrap_id, sub_left, zac]) <;> rfl)) | ((((with_reducible apply ow_load1 st); exact rfl; exact inferInstance; exact rfl; (exact get0))); exact rfl) | ((with_reducible apply ow_eval); (go_simp <;> (try simp (disch := omega) only [wrap_id, sub_left, zac]) <;> rfl); first | (with_reducible apply up_value) | ((with_reducible apply up_enter); first | (go_at_call 29; refine (Within_any _ _ _ _).mono ?_; rintro e w' ⟨rfl, rfl⟩; refine ⟨_, rfl, ?_⟩) | (go_at_call 96; refine (IsNumber_any _ _).mono ?_; rintro e w' ⟨rfl, rfl⟩; refine ⟨_, rfl, ?_⟩)))); refine WL.next hK (by simp only [Act.put, zpt, zsz, zss]; exact rfl) ?_; clear hK K) | (refine WL.skip ?_ (by simp only [Act.put, zpt, zsz, zss]; exact rfl) ?_; (exact rfl)))); (try refine WL.nil ?_))
    go_ret
    exact ⟨Ck.ret_int (by rw [HR.out, Ck.head1 (by simp [Ck.VRc.p, z3])]), st.below⟩
  cases z4 : Ck.num ds
  · go_wp2_with (refine WL.out ?_; (repeat ((refine WL.op ?_ ?_; (exact rfl); intro K hK; (first | ((((with_reducible apply ow_move); exact rfl)); (go_simp <;> (try simp (disch := omega) only [wrap_id, sub_left, zac]) <;> rfl)) | ((((with_reducible apply ow_load1 st); exact rfl; exact inferInstance; exact rfl; (exact get0))); exact rfl) | ((with_reducible apply ow_eval); (go_simp <;> (try simp (disch := omega) only [wrap_id, sub_left, zac]) <;> rfl); first | (with_reducible apply up_value) | ((with_reducible apply up_enter); first | (go_at_call 29; refine (Within_any _ _ _ _).mono ?_; rintro e w' ⟨rfl, rfl⟩; refine ⟨_, rfl, ?_⟩) | (go_at_call 96; refine (IsNumber_any _ _).mono ?_; rintro e w' ⟨rfl, rfl⟩; refine ⟨_, rfl, ?_⟩)))); refine WL.next hK (by simp only [Act.put, zpt, zsz, zss]; exact rfl) ?_; clear hK K))); (try refine WL.nil ?_))
    go_ret
    exact ⟨Ck.ret_int (by rw [HR.out, Ck.head1 (by simp [Ck.VRc.p, z4])]), st.below⟩
  have Z1 := Lib.hid (show (!(Ck.wi q 1 65535) || !(Ck.wi k 0 3) || !(Ck.num ln) || !(Ck.num ds)) = false by rw [z1, z2, z3, z4]; rfl)
  have hb : 0 ≤ k ∧ k ≤ 3 ∧ 0 ≤ ln ∧ ln ≤ 2147483647 ∧ 0 ≤ ds ∧ ds ≤ 2147483647 := by simp [Ck.wi, Ck.num] at z2 z3 z4; omega
  obtain ⟨hk0, hk1, hl0, hl1, hd0, hd1⟩ := hb
  obtain ⟨T, hT⟩ : ∃ T : Int, (nn : Int) + (nss : Int) + (ne : Int) = T := ⟨_, rfl⟩
  have hT0 : 0 ≤ T := by omega
  have HT := Lib.hid hT
  go_upto_region 4 with (refine WL.out ?_; (repeat ((refine WL.op ?_ ?_; (exact rfl); intro K hK; (first | ((first | ((with_reducible apply ow_move); exact rfl) | ((with_reducible apply ow_assign); exact rfl)); (go_simp <;> (try simp (disch := omega) only [wrap_id, sub_left, zac]) <;> rfl)) | ((((with_reducible apply ow_load1 st); exact rfl; exact inferInstance; exact rfl; (exact get0))); exact rfl) | ((with_reducible apply ow_eval); (go_simp <;> (try simp (disch := omega) only [wrap_id, sub_left, zac]) <;> rfl); first | (with_reducible apply up_value) | ((with_reducible apply up_enter); first | (go_at_call 29; refine (Within_any _ _ _ _).mono ?_; rintro e w' ⟨rfl, rfl⟩; refine ⟨_, rfl, ?_⟩) | (go_at_call 96; refine (IsNumber_any _ _).mono ?_; rintro e w' ⟨rfl, rfl⟩; refine ⟨_, rfl, ?_⟩)))); refine WL.next hK (by simp only [Act.put, zpt, zsz, zss]; exact rfl) ?_; clear hK K))); (try refine WL.nil ?_))
  clear z1 z2 z3 z4
  go_cut [5, 75] from 48 to 75 (fun v5 v wx => v = .bool (!u && (!decide ((⟨br, bq⟩ : Ck.Ref) = Ck.Ref.o) || decide (0 < ln + ds + T + k))) ∧ St w wx [.box b 66 [.bool u, .int .i64 q, .int .i64 k, .int .i64 br, .int .i64 bq, .int .i64 ln, .int .i64 ds, .slice An nn cn, .slice As nss cs, .slice Ae ne ce]])
  case first =>
    cases u
    · cases z5 : decide ((⟨br, bq⟩ : Ck.Ref) = Ck.Ref.o)
      · go_wp2_with (refine WL.out ?_; (repeat (first | (refine WL.op ?_ ?_; (exact rfl); intro K hK; (first | ((((with_reducible apply ow_move); exact rfl)); (go_simp <;> (try simp (disch := omega) only [wrap_id, sub_left, zac]) <;> rfl)) | ((first | ((with_reducible apply ow_load1 st); exact rfl; exact inferInstance; exact rfl; (exact get0)) | ((with_reducible apply ow_loadN st); exact rfl; exact inferInstance; exact rfl; (exact get0); ((try simp only [zta, ztz, zda, zdz, zca, zcn, zan, zsz, zss]) <;> exact rfl))); exact rfl) | ((with_reducible apply ow_bin); exact rfl; kernel_rfl; exact rfl; exact rfl; exact fun w => neq_ref ⟨br, bq⟩ Ck.Ref.o w) | ((with_reducible apply ow_eval); (go_simp <;> (try simp (disch := omega) only [wrap_id, sub_left, zac]) <;> rfl); ((with_reducible apply up_value)))); refine WL.next hK (by simp only [Act.put, zpt, zsz, zss]; exact rfl) ?_; clear hK K) | (refine WL.skip ?_ (by simp only [Act.put, zpt, zsz, zss]; exact rfl) ?_; (exact rfl)))); (try refine WL.nil ?_))
        refine Met.intro ?_
        try go_step
        (repeat apply Exists.intro)
        refine ⟨?rel, rfl⟩
        case rel => exact ⟨by simp [z5], st⟩
      · rcases Ck.five T ln ds k with y | ⟨rfl, y⟩ | ⟨rfl, rfl, y⟩ | ⟨rfl, rfl, rfl, y⟩ | ⟨rfl, rfl, rfl, rfl⟩
        all_goals (
          go_wp2_with (refine WL.out ?_; (repeat (first | (refine WL.op ?_ ?_; (exact rfl); intro K hK; (first | ((((with_reducible apply ow_move); exact rfl)); (go_simp <;> (try simp (disch := omega) only [wrap_id, sub_left, zac]) <;> rfl)) | ((first | ((with_reducible apply ow_load1 st); exact rfl; exact inferInstance; exact rfl; (exact get0)) | ((with_reducible apply ow_loadN st); exact rfl; exact inferInstance; exact rfl; (exact get0); ((try simp only [zta, ztz, zda, zdz, zca, zcn, zan, zsz, zss]) <;> exact rfl))); exact rfl) | ((with_reducible apply ow_bin); exact rfl; kernel_rfl; exact rfl; exact rfl; exact fun w => neq_ref ⟨br, bq⟩ Ck.Ref.o w) | ((with_reducible apply ow_eval); (go_simp <;> (try simp (disch := omega) only [wrap_id, sub_left, zac]) <;> rfl); ((with_reducible apply up_value)))); refine WL.next hK (by simp only [Act.put, zpt, zsz, zss]; exact rfl) ?_; clear hK K) | (refine WL.skip ?_ (by simp only [Act.put, zpt, zsz, zss]; exact rfl) ?_; (exact rfl)))); (try refine WL.nil ?_))
          (try (((repeat (fail)); (try refine WL.nil ?_)); go_wp2_with (refine WL.out ?_; (repeat (fail)); (try refine WL.nil ?_))))
          refine Met.intro ?_
          try go_step
          (repeat apply Exists.intro)
          refine ⟨?rel, rfl⟩
          case rel => exact ⟨by congr 1; simp only [z5, Bool.not_false, Bool.not_true, Bool.true_and, Bool.false_or]; (first | (rw [eq_comm, decide_eq_true_eq]; rw [bne_iff_ne] at y; omega) | rfl), st⟩)
    · go_wp2_with (refine WL.out ?_; (repeat (first | (refine WL.op ?_ ?_; (exact rfl); intro K hK; (first | ((((with_reducible apply ow_move); exact rfl)); (go_simp <;> (try simp (disch := omega) only [wrap_id, sub_left, zac]) <;> rfl)) | ((((with_reducible apply ow_load1 st); exact rfl; exact inferInstance; exact rfl; (exact get0))); exact rfl) | ((with_reducible apply ow_eval); (go_simp <;> (try simp (disch := omega) only [wrap_id, sub_left, zac]) <;> rfl); ((with_reducible apply up_value)))); refine WL.next hK (by simp only [Act.put, zpt, zsz, zss]; exact rfl) ?_; clear hK K) | (refine WL.skip ?_ (by simp only [Act.put, zpt, zsz, zss]; exact rfl) ?_; (exact rfl)))); (try refine WL.nil ?_))
      refine Met.intro ?_
      try go_step
      (repeat apply Exists.intro)
      refine ⟨?rel, rfl⟩
      case rel => exact ⟨by simp, st⟩
  case rest =>
    obtain ⟨rfl, st⟩ := hcut
    have ZP : Hid ((!u && ((⟨br, bq⟩ : Ck.Ref) != Ck.Ref.o || decide (0 < ln + ds + (Ck.Rc.parts (Ck.VRc.p ⟨u, q, k, ⟨br, bq⟩, ln, ds, ns, ss, es, An, cn, As, cs, Ae, ce⟩) : Nat) + k))) = (!u && (!decide ((⟨br, bq⟩ : Ck.Ref) = Ck.Ref.o) || decide (0 < ln + ds + T + k)))) := Lib.hid (by
      rw [show (((⟨br, bq⟩ : Ck.Ref) != Ck.Ref.o)) = !decide ((⟨br, bq⟩ : Ck.Ref) = Ck.Ref.o) from rfl]
      rw [show ((Ck.Rc.parts (Ck.VRc.p ⟨u, q, k, ⟨br, bq⟩, ln, ds, ns, ss, es, An, cn, As, cs, Ae, ce⟩) : Nat) : Int) = T by
        rw [← HT.out, E1.out, E2.out, E3.out]
        simp [Ck.Rc.parts, Ck.VRc.p]])
    cases z5 : (!u && (!decide ((⟨br, bq⟩ : Ck.Ref) = Ck.Ref.o) || decide (0 < ln + ds + T + k)))
    rotate_left
    · have z6 := Lib.hid z5
      clear z5
      go_wp2_with (refine WL.out ?_; (repeat (fail)); (try refine WL.nil ?_))
      go_ret
      exact ⟨Ck.ret_int (by rw [HR.out, Ck.head2 Z1.out (by rw [← z6.out]; exact ZP.out)]), st.below⟩
    have Z2 := Lib.hid (ZP.out.trans z5)
    clear z5 ZP hT hT0
    obtain ⟨be, ebe⟩ : ∃ x, x = Ck.baseErr (Ck.VRc.p ⟨u, q, k, ⟨br, bq⟩, ln, ds, ns, ss, es, An, cn, As, cs, Ae, ce⟩) := ⟨_, rfl⟩
    have EB := Lib.hid ebe
    clear ebe
    obtain ⟨re, ere⟩ : ∃ x, x = Ck.refErr ⟨br, bq⟩ := ⟨_, rfl⟩
    have HRE : Hid (∀ W, Calls Tryz.prog 97 #[.agg #[.int .i64 br, .int .i64 bq]] W fun e w' => e = .returned (.int .i64 re) ∧ Below W.heap.size W w') := Lib.hid fun W => by rw [ere]; exact rrefErr_any br bq W
    have ERE := Lib.hid ere
    clear ere
    go_upto_region 7 with (refine WL.out ?_; (repeat ((refine WL.op ?_ ?_; (exact rfl); intro K hK; (first | ((((with_reducible apply ow_assign); exact rfl)); (go_simp <;> (try simp (disch := omega) only [wrap_id, sub_left, zac]) <;> rfl)) | ((((with_reducible apply ow_load1 st); exact rfl; exact inferInstance; exact rfl; (exact get0))); exact rfl) | ((with_reducible apply ow_eval); (go_simp <;> (try simp (disch := omega) only [wrap_id, sub_left, zac]) <;> rfl); ((with_reducible apply up_value)))); refine WL.next hK (by simp only [Act.put, zpt, zsz, zss]; exact rfl) ?_; clear hK K))); (try refine WL.nil ?_))
    go_cut [6, 78, 95] from 79 to 95 (fun v6 v78 v wx => v6 = .bool (k == 3) ∧ v = .bool (be != 0) ∧ St w wx [.box b 66 [.bool u, .int .i64 q, .int .i64 k, .int .i64 br, .int .i64 bq, .int .i64 ln, .int .i64 ds, .slice An nn cn, .slice As nss cs, .slice Ae ne ce]])
    case first =>
      have hc4 : ((k == 3) = true ∧ re = 0) ∨ ((k == 3) = true ∧ (re != 0) = true) ∨ ((k == 3) = false ∧ decide ((⟨br, bq⟩ : Ck.Ref) = Ck.Ref.o) = true) ∨ ((k == 3) = false ∧ decide ((⟨br, bq⟩ : Ck.Ref) = Ck.Ref.o) = false) := by
        by_cases h1 : k = 3 <;> by_cases h2 : re = 0 <;> by_cases h3 : (⟨br, bq⟩ : Ck.Ref) = Ck.Ref.o <;> simp [h1, h2, h3]
      have hbe : Hid (be = if k = 3 then re else if (⟨br, bq⟩ : Ck.Ref) = Ck.Ref.o then 0 else 2) := Lib.hid (by rw [EB.out, ERE.out]; rfl)
      clear EB ERE
      rcases hc4 with ⟨y1, rfl⟩ | ⟨y1, y2⟩ | ⟨y1, y2⟩ | ⟨y1, y2⟩
      all_goals (
        go_wp2_with (refine WL.out ?_; (repeat (first | (refine WL.op ?_ ?_; (first | exact rfl | (simp [Region.wanted, yielded, *] <;> done)); intro K hK; (first | ((((with_reducible apply ow_move); exact rfl)); (go_simp <;> (try simp (disch := omega) only [wrap_id, sub_left, zac]) <;> rfl)) | ((((with_reducible apply ow_loadN st); exact rfl; exact inferInstance; exact rfl; (exact get0); ((try simp only [zta, ztz, zda, zdz, zca, zcn, zan, zsz, zss]) <;> exact rfl))); exact rfl) | ((with_reducible apply ow_bin); exact rfl; kernel_rfl; exact rfl; exact rfl; exact fun w => neq_ref ⟨br, bq⟩ Ck.Ref.o w) | ((with_reducible apply ow_eval); (go_simp <;> (try simp (disch := omega) only [wrap_id, sub_left, zac]) <;> rfl); first | (with_reducible apply up_value) | ((with_reducible apply up_enter); ((go_at_call 97; ((with_reducible refine (HRE.out _).mono ?_)); rintro e w' ⟨rfl, hb⟩; replace st := st.call hb; clear hb; refine ⟨_, rfl, ?_⟩))))); refine WL.next hK (by simp only [Act.put, zpt, zsz, zss]; exact rfl) ?_; clear hK K) | (refine WL.skip ?_ (by simp only [Act.put, zpt, zsz, zss]; exact rfl) ?_; (first | exact rfl | (simp [Region.wanted, yielded, *] <;> done))))); (try refine WL.nil ?_))
        (try (((repeat (fail)); (try refine WL.nil ?_)); go_wp2_with (refine WL.out ?_; (repeat (fail)); (try refine WL.nil ?_))))
        refine Met.intro ?_
        try go_step
        (repeat apply Exists.intro)
        refine ⟨?rel, rfl⟩
        case rel => exact ⟨by rw [y1], by congr 1; rw [hbe.out]; simp_all, st⟩)
    case rest =>
      obtain ⟨rfl, rfl, st⟩ := hcut
      by_cases h0 : be = 0
      rotate_left
      · have z8 : (be != 0) = true := by simpa using h0
        have h0' := Lib.hid h0
        clear h0
        go_wp2_with (refine WL.out ?_; (repeat (fail)); (try refine WL.nil ?_))
        go_ret
        exact ⟨Ck.ret_int (by rw [HR.out, Ck.head3 Z1.out Z2.out (by rw [← EB.out]; exact h0'.out), Ck.baseErr_two (by rw [← EB.out]; exact h0'.out)]), st.below⟩
      have Z3 := Lib.hid (show Ck.baseErr (Ck.VRc.p ⟨u, q, k, ⟨br, bq⟩, ln, ds, ns, ss, es, An, cn, As, cs, Ae, ce⟩) = 0 by rw [← EB.out, h0])
      subst h0
      clear EB ERE HRE
      go_upto_region 9 with (refine WL.out ?_; (repeat (fail)); (try refine WL.nil ?_))
      have hc7 := st.cell (i := 0) rfl 7
      have hc8 := st.cell (i := 0) rfl 8
      have hc9 := st.cell (i := 0) rfl 9
      simp only [List.getElem?_cons_succ, List.getElem?_cons_zero] at hc7 hc8 hc9
      by_cases hg1 : (8 : Int) < (nn : Int)
      · have Z4 := Lib.hid (show 8 < ns.length by rw [← E1.out]; omega)
        go_quiet (fail)
        replace st := st.drewN nq
        clear hc7 hc8 hc9
        go_wp2_with (refine WL.out ?_; (repeat (fail)); (try refine WL.nil ?_))
        go_ret
        exact ⟨Ck.ret_int (by rw [HR.out, Ck.head4 Z1.out Z2.out Z3.out (.inl Z4.out)]), st.below⟩
      by_cases hg2 : (8 : Int) < (nss : Int)
      · have Z4 := Lib.hid (show 8 < (ss.map Ck.VSm.p).length by rw [List.length_map, ← E2.out]; omega)
        have hd1 : decide ((8 : Int) < (nn : Int)) = false := decide_eq_false hg1
        go_quiet (fail)
        replace st := st.drewN nq
        clear hc7 hc8 hc9
        go_wp2_with (refine WL.out ?_; (repeat (fail)); (try refine WL.nil ?_))
        go_ret
        exact ⟨Ck.ret_int (by rw [HR.out, Ck.head4 Z1.out Z2.out Z3.out (.inr (.inl Z4.out))]), st.below⟩
      have hd1 : decide ((8 : Int) < (nn : Int)) = false := decide_eq_false hg1
      have hd2 : decide ((8 : Int) < (nss : Int)) = false := decide_eq_false hg2
      by_cases hg3 : ((Ck.most i : Nat) : Int) < (ne : Int)
      · have Z4 := Lib.hid (show Ck.most i < es.length by rw [← E3.out]; omega)
        go_quiet ((go_at_call 98; refine Calls.quiet_of_same ((most_any _ _).mono fun _ _ h => ⟨h.1, h.2.symm⟩)))
        replace st := st.drewN nq
        clear hc7 hc8 hc9
        go_wp2_with (refine WL.out ?_; (repeat (fail)); (try refine WL.nil ?_))
        go_ret
        exact ⟨Ck.ret_int (by rw [HR.out, Ck.head4 Z1.out Z2.out Z3.out (.inr (.inr Z4.out))]), st.below⟩
      have hd3 : decide (((Ck.most i : Nat) : Int) < (ne : Int)) = false := decide_eq_false hg3
      have Z4 := Lib.hid (show ¬ (8 < (Ck.VRc.p ⟨u, q, k, ⟨br, bq⟩, ln, ds, ns, ss, es, An, cn, As, cs, Ae, ce⟩).ns.length ∨ 8 < (Ck.VRc.p ⟨u, q, k, ⟨br, bq⟩, ln, ds, ns, ss, es, An, cn, As, cs, Ae, ce⟩).ss.length ∨ Ck.most i < (Ck.VRc.p ⟨u, q, k, ⟨br, bq⟩, ln, ds, ns, ss, es, An, cn, As, cs, Ae, ce⟩).es.length) by
        show ¬ (8 < ns.length ∨ 8 < (ss.map Ck.VSm.p).length ∨ Ck.most i < es.length)
        rw [List.length_map, ← E1.out, ← E2.out, ← E3.out]; omega)
      go_quiet ((go_at_call 98; refine Calls.quiet_of_same ((most_any _ _).mono fun _ _ h => ⟨h.1, h.2.symm⟩)))
      replace st := st.drewN nq
      clear hc7 hc8 hc9 hd1 hd2 hd3
      go_upto_region 11 with (refine WL.out ?_; (repeat (fail)); (try refine WL.nil ?_))
      go_cut [6, 135] from 114 to 135 (fun v6 v wx => v = .bool ((decide (0 < (ne : Int)) && (k != 0)) || (decide (0 < (nn : Int)) && ((k == 3) || decide ((i : Int) < 16)))) ∧ St w wx [.box b 66 [.bool u, .int .i64 q, .int .i64 k, .int .i64 br, .int .i64 bq, .int .i64 ln, .int .i64 ds, .slice An nn cn, .slice As nss cs, .slice Ae ne ce]])
      case first =>
        have hc9 := Ck.eight (0 < (ne : Int)) (0 < (nn : Int)) ((i : Int) < 16) k
        rcases hc9 with ⟨y1, y2⟩ | ⟨y1, rfl, y3⟩ | ⟨y1, rfl, y3, y5⟩ | ⟨y1, rfl, y3, y5⟩ | ⟨y1, y3⟩ | ⟨y1, y3, y4⟩ | ⟨y1, y3, y4, y5⟩ | ⟨y1, y3, y4, y5⟩
        all_goals (
          go_wp2_with (refine WL.out ?_; (repeat (first | (refine WL.op ?_ ?_; (first | exact rfl | (simp [Region.wanted, yielded] <;> omega)); intro K hK; (first | ((((with_reducible apply ow_move); exact rfl)); (go_simp <;> (try simp (disch := omega) only [wrap_id, sub_left, zac]) <;> rfl)) | ((((with_reducible apply ow_load1 st); exact rfl; exact inferInstance; exact rfl; (exact get0))); exact rfl) | ((with_reducible apply ow_eval); (go_simp <;> (try simp (disch := omega) only [wrap_id, sub_left, zac]) <;> rfl); ((with_reducible apply up_value)))); refine WL.next hK (by simp only [Act.put, zpt, zsz, zss]; exact rfl) ?_; clear hK K) | (refine WL.skip ?_ (by simp only [Act.put, zpt, zsz, zss]; exact rfl) ?_; (first | exact rfl | (simp [Region.wanted, yielded] <;> omega))))); (try refine WL.nil ?_))
          (try (((repeat (first | (refine WL.op ?_ ?_; (first | exact rfl | (simp [Region.wanted, yielded] <;> omega)); intro K hK; (first | ((((with_reducible apply ow_move); exact rfl)); (go_simp <;> (try simp (disch := omega) only [wrap_id, sub_left, zac]) <;> rfl)) | ((((with_reducible apply ow_load1 st); exact rfl; exact inferInstance; exact rfl; (exact get0))); exact rfl) | ((with_reducible apply ow_eval); (go_simp <;> (try simp (disch := omega) only [wrap_id, sub_left, zac]) <;> rfl); ((with_reducible apply up_value)))); refine WL.next hK (by simp only [Act.put, zpt, zsz, zss]; exact rfl) ?_; clear hK K) | (refine WL.skip ?_ (by simp only [Act.put, zpt, zsz, zss]; exact rfl) ?_; (first | exact rfl | (simp [Region.wanted, yielded] <;> omega))))); (try refine WL.nil ?_)); go_wp2_with (refine WL.out ?_; (repeat (fail)); (try refine WL.nil ?_))))
          refine Met.intro ?_
          try go_step
          (repeat apply Exists.intro)
          refine ⟨?rel, rfl⟩
          case rel => exact ⟨by simp [*], st⟩)
      case rest =>
        obtain ⟨rfl, st⟩ := hcut
        have Z5 : Hid (((decide (0 < (ne : Int)) && (k != 0)) || (decide (0 < (nn : Int)) && ((k == 3) || decide ((i : Int) < 16)))) = true ↔ ((0 < (Ck.VRc.p ⟨u, q, k, ⟨br, bq⟩, ln, ds, ns, ss, es, An, cn, As, cs, Ae, ce⟩).es.length ∧ (Ck.VRc.p ⟨u, q, k, ⟨br, bq⟩, ln, ds, ns, ss, es, An, cn, As, cs, Ae, ce⟩).k ≠ 0) ∨ (0 < (Ck.VRc.p ⟨u, q, k, ⟨br, bq⟩, ln, ds, ns, ss, es, An, cn, As, cs, Ae, ce⟩).ns.length ∧ ((Ck.VRc.p ⟨u, q, k, ⟨br, bq⟩, ln, ds, ns, ss, es, An, cn, As, cs, Ae, ce⟩).k = 3 ∨ (i : Int) < 16)))) := Lib.hid (by
          show _ ↔ ((0 < es.length ∧ k ≠ 0) ∨ (0 < ns.length ∧ (k = 3 ∨ (i : Int) < 16)))
          rw [← E1.out, ← E3.out]
          simp)
        cases z5 : ((decide (0 < (ne : Int)) && (k != 0)) || (decide (0 < (nn : Int)) && ((k == 3) || decide ((i : Int) < 16))))
        rotate_left
        · have z6 := Lib.hid z5
          clear z5
          go_wp2_with (refine WL.out ?_; (repeat (fail)); (try refine WL.nil ?_))
          go_ret
          exact ⟨Ck.ret_int (by rw [HR.out, Ck.head5 Z1.out Z2.out Z3.out Z4.out (Z5.out.1 z6.out)]), st.below⟩
        have Z6 := Lib.hid (show R = Ck.first [Ck.nmsErr (Ck.VRc.p ⟨u, q, k, ⟨br, bq⟩, ln, ds, ns, ss, es, An, cn, As, cs, Ae, ce⟩), Ck.smsErr (Ck.VRc.p ⟨u, q, k, ⟨br, bq⟩, ln, ds, ns, ss, es, An, cn, As, cs, Ae, ce⟩), Ck.ensErr (Ck.VRc.p ⟨u, q, k, ⟨br, bq⟩, ln, ds, ns, ss, es, An, cn, As, cs, Ae, ce⟩)] by
          rw [HR.out, Ck.head6 Z1.out Z2.out Z3.out Z4.out (fun h => by have := Z5.out.2 h; rw [z5] at this; exact Bool.false_ne_true this)])
        clear z5 Z5 HR
        go_wp2_with (refine WL.out ?_; (repeat (fail)); (try refine WL.nil ?_))
        go_loopw [7] (fun i wr => ∃ j : Nat, j ≤ nn ∧ i = .int .i64 j ∧ St w wr [.box b 66 [.bool u, .int .i64 q, .int .i64 k, .int .i64 br, .int .i64 bq, .int .i64 ln, .int .i64 ds, .slice An nn cn, .slice As nss cs, .slice Ae ne ce]] ∧ Hid (Ck.goE (fun i => Ck.nmErr (Ck.at_ Ck.Nm.o ns i)) j = 0)) (fun i _ => nn - (intOf i).toNat)
        case atStart => exact ⟨0, by omega, rfl, st, rfl⟩
        case round =>
          clear st
          obtain ⟨j, hj, rfl, st, hs⟩ := hrel
          by_cases hlt : j < nn
          · have hkl : Hid (j < ns.length) := Lib.hid (by rw [← E1.out]; exact hlt)
            obtain ⟨b1, o1, rfl, hb1, hc⟩ := H.out.ns.at_ (Nat.lt_of_le_of_lt (Nat.zero_le _) hkl.out)
            have hb1 := Nat.lt_of_lt_of_le hb1 hB
            have f1 := hc j hkl.out
            clear hc
            obtain ⟨y, hy⟩ : ∃ y, y = Ck.at_ Ck.Nm.o ns j := ⟨_, rfl⟩
            have hyl : y.n.length ≤ 100000 := by rw [hy]; exact HF.out.nl _ (Ck.at_mem _ _ _ hkl.out)
            have f2 : OldC w b1 (o1 + j * 3) [.int .i64 y.d.r, .int .i64 y.d.q] := by
              rw [hy]
              intro m v hm
              rcases m with _ | _ | m
              · exact f1 0 v hm
              · exact f1 1 v hm
              · simp at hm
            have f3 : w.cell? ⟨b1, o1 + j * 3 + 2, none⟩ = some (.string ⟨y.n.toArray⟩) := by rw [hy]; exact f1 2 _ rfl
            have HY := Lib.hid hy
            clear hy f1
            obtain ⟨v, hv⟩ : ∃ v, v = Ck.refErr y.d := ⟨_, rfl⟩
            obtain ⟨v2, hv2⟩ : ∃ v, v = Ck.nameErr y.n := ⟨_, rfl⟩
            have HV : Hid ((if v = 0 then v2 else v) = Ck.nmErr (Ck.at_ Ck.Nm.o ns j)) := Lib.hid (by rw [hv, hv2, ← HY.out]; rfl)
            have HC : Hid (∀ W, Calls Tryz.prog 97 #[.agg #[.int .i64 y.d.r, .int .i64 y.d.q]] W fun e w' => e = .returned (.int .i64 v) ∧ Below W.heap.size W w') := Lib.hid fun W => by rw [hv]; exact rrefErr_any y.d.r y.d.q W
            have HN : Hid (∀ W, Calls Tryz.prog 99 #[.string ⟨y.n.toArray⟩] W fun e w' => e = .returned (.int .i64 v2) ∧ Below W.heap.size W w') := Lib.hid fun W => by rw [hv2]; exact rNameErr_any y.n W hyl
            clear hv hv2
            have stop : Hid ((if v = 0 then v2 else v) ≠ 0 → R = if v = 0 then v2 else v) := Lib.hid fun h0 => by
              rw [Z6.out, show Ck.nmsErr (Ck.VRc.p ⟨u, q, k, ⟨br, bq⟩, ln, ds, ns, ss, es, some ⟨b1, o1, none⟩, cn, As, cs, Ae, ce⟩) = (if v = 0 then v2 else v) from (Ck.goE_stop _ hs.out (by rw [← HV.out]; exact h0) _ hkl.out).trans HV.out.symm]
              exact if_neg h0
            by_cases h0 : v = 0
            · subst h0
              by_cases h2 : v2 = 0
              · have hs' : Hid (Ck.goE (fun i => Ck.nmErr (Ck.at_ Ck.Nm.o ns i)) (j + 1) = 0) := Lib.hid (by rw [Ck.goE_next _ hs.out, ← HV.out, if_pos rfl]; exact h2)
                subst h2
                go_wp2_with (refine WL.out ?_; (repeat ((refine WL.op ?_ ?_; (exact rfl); intro K hK; (first | ((first | ((with_reducible apply ow_move); exact rfl) | ((with_reducible apply ow_assign); exact rfl)); (go_simp <;> (try simp (disch := omega) only [wrap_id, sub_left, zac]) <;> rfl)) | ((((with_reducible apply ow_load1 st); exact rfl; exact inferInstance; exact rfl; (exact get0))); exact rfl) | ((with_reducible apply ow_old1 st); exact rfl; exact inferInstance; exact rfl; assumption; assumption) | ((with_reducible apply ow_oldC st); exact rfl; exact inferInstance; exact rfl; assumption; assumption; exact rfl) | ((with_reducible apply ow_eval); (go_simp <;> (try simp (disch := omega) only [wrap_id, sub_left, zac]) <;> rfl); first | (with_reducible apply up_value) | ((with_reducible apply up_enter); first | (go_at_call 97; ((with_reducible refine (HC.out _).mono ?_)); rintro e w' ⟨rfl, hb⟩; replace st := st.call hb; clear hb; refine ⟨_, rfl, ?_⟩) | (go_at_call 99; ((with_reducible refine (HN.out _).mono ?_)); rintro e w' ⟨rfl, hb⟩; replace st := st.call hb; clear hb; refine ⟨_, rfl, ?_⟩)))); refine WL.next hK (by simp only [Act.put, zpt, zsz, zss]; exact rfl) ?_; clear hK K))); (try refine WL.nil ?_))
                exact ⟨⟨j + 1, by omega, by go_num, st, hs'⟩, by simp [intOf]; omega⟩
              · have hR : Hid (R = v2) := Lib.hid (by have := stop.out; rw [if_pos rfl] at this; exact this h2)
                have h2' : (v2 != 0) = true := by simpa using h2
                clear h2
                go_wp2_with (refine WL.out ?_; (repeat ((refine WL.op ?_ ?_; (exact rfl); intro K hK; (first | ((first | ((with_reducible apply ow_move); exact rfl) | ((with_reducible apply ow_assign); exact rfl)); (go_simp <;> (try simp (disch := omega) only [wrap_id, sub_left, zac]) <;> rfl)) | ((((with_reducible apply ow_load1 st); exact rfl; exact inferInstance; exact rfl; (exact get0))); exact rfl) | ((with_reducible apply ow_old1 st); exact rfl; exact inferInstance; exact rfl; assumption; assumption) | ((with_reducible apply ow_oldC st); exact rfl; exact inferInstance; exact rfl; assumption; assumption; exact rfl) | ((with_reducible apply ow_eval); (go_simp <;> (try simp (disch := omega) only [wrap_id, sub_left, zac]) <;> rfl); first | (with_reducible apply up_value) | ((with_reducible apply up_enter); first | (go_at_call 97; ((with_reducible refine (HC.out _).mono ?_)); rintro e w' ⟨rfl, hb⟩; replace st := st.call hb; clear hb; refine ⟨_, rfl, ?_⟩) | (go_at_call 99; ((with_reducible refine (HN.out _).mono ?_)); rintro e w' ⟨rfl, hb⟩; replace st := st.call hb; clear hb; refine ⟨_, rfl, ?_⟩)))); refine WL.next hK (by simp only [Act.put, zpt, zsz, zss]; exact rfl) ?_; clear hK K))); (try refine WL.nil ?_))
                go_ret
                exact ⟨Ck.ret_int hR.out.symm, st.below⟩
            · have hR : Hid (R = v) := Lib.hid (by have := stop.out; rw [if_neg h0] at this; exact this h0)
              have h0' : (v != 0) = true := by simpa using h0
              clear h0
              go_wp2_with (refine WL.out ?_; (repeat ((refine WL.op ?_ ?_; (exact rfl); intro K hK; (first | ((first | ((with_reducible apply ow_move); exact rfl) | ((with_reducible apply ow_assign); exact rfl)); (go_simp <;> (try simp (disch := omega) only [wrap_id, sub_left, zac]) <;> rfl)) | ((((with_reducible apply ow_load1 st); exact rfl; exact inferInstance; exact rfl; (exact get0))); exact rfl) | ((with_reducible apply ow_oldC st); exact rfl; exact inferInstance; exact rfl; assumption; assumption; exact rfl) | ((with_reducible apply ow_eval); (go_simp <;> (try simp (disch := omega) only [wrap_id, sub_left, zac]) <;> rfl); first | (with_reducible apply up_value) | ((with_reducible apply up_enter); ((go_at_call 97; ((with_reducible refine (HC.out _).mono ?_)); rintro e w' ⟨rfl, hb⟩; replace st := st.call hb; clear hb; refine ⟨_, rfl, ?_⟩))))); refine WL.next hK (by simp only [Act.put, zpt, zsz, zss]; exact rfl) ?_; clear hK K))); (try refine WL.nil ?_))
              go_ret
              exact ⟨Ck.ret_int hR.out.symm, st.below⟩
          · obtain rfl : nn = j := by omega
            have hN : Hid (Ck.nmsErr (Ck.VRc.p ⟨u, q, k, ⟨br, bq⟩, ln, ds, ns, ss, es, An, cn, As, cs, Ae, ce⟩) = 0) := Lib.hid (by show Ck.goE _ ns.length = 0; rw [← E1.out]; exact hs.out)
            clear hs
            go_wp2_with (refine WL.out ?_; (repeat ((refine WL.op ?_ ?_; (exact rfl); intro K hK; (first | ((((with_reducible apply ow_load1 st); exact rfl; exact inferInstance; exact rfl; (exact get0))); exact rfl) | ((with_reducible apply ow_eval); (go_simp <;> (try simp (disch := omega) only [wrap_id, sub_left, zac]) <;> rfl); ((with_reducible apply up_value)))); refine WL.next hK (by simp only [Act.put, zpt, zsz, zss]; exact rfl) ?_; clear hK K))); (try refine WL.nil ?_))
            go_loopw [10] (fun i wr => ∃ j : Nat, j ≤ nss ∧ i = .int .i64 j ∧ St w wr [.box b 66 [.bool u, .int .i64 q, .int .i64 k, .int .i64 br, .int .i64 bq, .int .i64 ln, .int .i64 ds, .slice An nn cn, .slice As nss cs, .slice Ae ne ce]] ∧ Hid (Ck.goE (fun i => Ck.smErr (Ck.at_ Ck.Sm.o (ss.map Ck.VSm.p) i)) j = 0)) (fun i _ => nss - (intOf i).toNat)
            case atStart => exact ⟨0, by omega, rfl, st, rfl⟩
            case round =>
              clear st
              obtain ⟨j, hj, rfl, st, hs⟩ := hrel
              by_cases hlt : j < nss
              · have hkl : Hid (j < ss.length) := Lib.hid (by rw [← E2.out]; exact hlt)
                obtain ⟨b1, o1, rfl, hb1, hc⟩ := H.out.ss.at_ (Nat.lt_of_le_of_lt (Nat.zero_le _) hkl.out)
                have hb1 := Nat.lt_of_lt_of_le hb1 hB
                have f1 := hc j hkl.out
                clear hc
                obtain ⟨y, hy⟩ : ∃ y, y = Ck.at_ Ck.VSm.o ss j := ⟨_, rfl⟩
                have hym : y ∈ ss := by rw [hy]; exact Ck.at_mem _ _ _ hkl.out
                have hyp : Hid (Ck.at_ Ck.Sm.o (ss.map Ck.VSm.p) j = y.p) := Lib.hid (by rw [hy]; exact Ck.at_map Ck.VSm.p Ck.VSm.o Ck.Sm.o ss j hkl.out)
                have f1 : OldC w b1 (o1 + j * 2) [.slice y.A y.r.length y.c, .int .i64 y.z] := by rw [hy]; exact f1
                clear hy
                obtain ⟨v, hv⟩ : ∃ v, v = Ck.smErr y.p := ⟨_, rfl⟩
                have HV := Lib.hid (show v = Ck.smErr (Ck.at_ Ck.Sm.o (ss.map Ck.VSm.p) j) by rw [hv, hyp.out])
                have HC : Hid (∀ W, Below w.heap.size w W → Calls Tryz.prog 100 #[.agg #[.slice y.A y.r.length y.c, .int .i64 y.z]] W fun e w' => e = .returned (.int .i64 v) ∧ Below W.heap.size W w') := Lib.hid fun W hb => by rw [hv]; exact rstreamErr_any y B W (Lst.below (H.out.rr y hym) hb hB) (Nat.le_trans hB hb.size) (HF.out.rr y hym)
                clear hv hym
                by_cases h0 : v = 0
                · have hs' : Hid (Ck.goE (fun i => Ck.smErr (Ck.at_ Ck.Sm.o (ss.map Ck.VSm.p) i)) (j + 1) = 0) := Lib.hid (by rw [Ck.goE_next _ hs.out, ← HV.out]; exact h0)
                  subst h0
                  go_wp2_with (refine WL.out ?_; (repeat ((refine WL.op ?_ ?_; (exact rfl); intro K hK; (first | ((first | ((with_reducible apply ow_move); exact rfl) | ((with_reducible apply ow_assign); exact rfl)); (go_simp <;> (try simp (disch := omega) only [wrap_id, sub_left, zac]) <;> rfl)) | ((((with_reducible apply ow_load1 st); exact rfl; exact inferInstance; exact rfl; (exact get0))); exact rfl) | ((with_reducible apply ow_oldC st); exact rfl; exact inferInstance; exact rfl; assumption; assumption; exact rfl) | ((with_reducible apply ow_eval); (go_simp <;> (try simp (disch := omega) only [wrap_id, sub_left, zac]) <;> rfl); first | (with_reducible apply up_value) | ((with_reducible apply up_enter); ((go_at_call 100; refine (HC.out _ st.below).mono ?_; rintro e w' ⟨rfl, hb⟩; replace st := st.call hb; clear hb; refine ⟨_, rfl, ?_⟩))))); refine WL.next hK (by simp only [Act.put, zpt, zsz, zss]; exact rfl) ?_; clear hK K))); (try refine WL.nil ?_))
                  exact ⟨⟨j + 1, by omega, by go_num, st, hs'⟩, by simp [intOf]; omega⟩
                · have hR : Hid (R = v) := Lib.hid (by
                    rw [Z6.out, show Ck.smsErr (Ck.VRc.p ⟨u, q, k, ⟨br, bq⟩, ln, ds, ns, ss, es, An, cn, some ⟨b1, o1, none⟩, cs, Ae, ce⟩) = v from (Ck.goE_stop _ hs.out (by rw [← HV.out]; exact h0) _ (by show j < (ss.map Ck.VSm.p).length; rw [List.length_map]; exact hkl.out)).trans HV.out.symm]
                    show (if _ = 0 then _ else _) = v
                    rw [if_pos hN.out]
                    exact if_neg h0)
                  have h0' : (v != 0) = true := by simpa using h0
                  go_wp2_with (refine WL.out ?_; (repeat ((refine WL.op ?_ ?_; (exact rfl); intro K hK; (first | ((first | ((with_reducible apply ow_move); exact rfl) | ((with_reducible apply ow_assign); exact rfl)); (go_simp <;> (try simp (disch := omega) only [wrap_id, sub_left, zac]) <;> rfl)) | ((((with_reducible apply ow_load1 st); exact rfl; exact inferInstance; exact rfl; (exact get0))); exact rfl) | ((with_reducible apply ow_oldC st); exact rfl; exact inferInstance; exact rfl; assumption; assumption; exact rfl) | ((with_reducible apply ow_eval); (go_simp <;> (try simp (disch := omega) only [wrap_id, sub_left, zac]) <;> rfl); first | (with_reducible apply up_value) | ((with_reducible apply up_enter); ((go_at_call 100; refine (HC.out _ st.below).mono ?_; rintro e w' ⟨rfl, hb⟩; replace st := st.call hb; clear hb; refine ⟨_, rfl, ?_⟩))))); refine WL.next hK (by simp only [Act.put, zpt, zsz, zss]; exact rfl) ?_; clear hK K))); (try refine WL.nil ?_))
                  go_ret
                  exact ⟨Ck.ret_int hR.out.symm, st.below⟩
              · obtain rfl : nss = j := by omega
                have hM : Hid (Ck.smsErr (Ck.VRc.p ⟨u, q, k, ⟨br, bq⟩, ln, ds, ns, ss, es, An, cn, As, cs, Ae, ce⟩) = 0) := Lib.hid (by show Ck.goE _ (ss.map Ck.VSm.p).length = 0; rw [List.length_map, ← E2.out]; exact hs.out)
                clear hs
                go_wp2_with (refine WL.out ?_; (repeat ((refine WL.op ?_ ?_; (exact rfl); intro K hK; (first | ((((with_reducible apply ow_load1 st); exact rfl; exact inferInstance; exact rfl; (exact get0))); exact rfl) | ((with_reducible apply ow_eval); (go_simp <;> (try simp (disch := omega) only [wrap_id, sub_left, zac]) <;> rfl); ((with_reducible apply up_value)))); refine WL.next hK (by simp only [Act.put, zpt, zsz, zss]; exact rfl) ?_; clear hK K))); (try refine WL.nil ?_))
                go_loopw [12] (fun i wr => ∃ j : Nat, j ≤ ne ∧ i = .int .i64 j ∧ St w wr [.box b 66 [.bool u, .int .i64 q, .int .i64 k, .int .i64 br, .int .i64 bq, .int .i64 ln, .int .i64 ds, .slice An nn cn, .slice As nss cs, .slice Ae ne ce]] ∧ Hid (Ck.goE (fun i => Ck.enErr (Ck.at_ Ck.En.o es i)) j = 0)) (fun i _ => ne - (intOf i).toNat)
                case atStart => exact ⟨0, by omega, rfl, st, rfl⟩
                case round =>
                  clear st
                  obtain ⟨j, hj, rfl, st, hs⟩ := hrel
                  by_cases hlt : j < ne
                  · have hkl : Hid (j < es.length) := Lib.hid (by rw [← E3.out]; exact hlt)
                    obtain ⟨b1, o1, rfl, hb1, hc⟩ := H.out.es.at_ (Nat.lt_of_le_of_lt (Nat.zero_le _) hkl.out)
                    have hb1 := Nat.lt_of_lt_of_le hb1 hB
                    have f1 := hc j hkl.out
                    clear hc
                    obtain ⟨y, hy⟩ : ∃ y, y = Ck.at_ Ck.En.o es j := ⟨_, rfl⟩
                    have hyl : y.n.length ≤ 100000 := by rw [hy]; exact HF.out.el _ (Ck.at_mem _ _ _ hkl.out)
                    have f2 : OldC w b1 (o1 + j * 4 + 1) [.int .i64 y.f.r, .int .i64 y.f.q] := by
                      rw [hy]
                      intro m v hm
                      rcases m with _ | _ | m
                      · exact f1 1 v hm
                      · exact f1 2 v hm
                      · simp at hm
                    have f3 : w.cell? ⟨b1, o1 + j * 4, none⟩ = some (.string ⟨y.n.toArray⟩) := by rw [hy]; exact f1 0 _ rfl
                    have f4 : w.cell? ⟨b1, o1 + j * 4 + 3, none⟩ = some (.int .i64 y.z) := by rw [hy]; exact f1 3 _ rfl
                    have HY := Lib.hid hy
                    clear hy f1
                    obtain ⟨v, hv⟩ : ∃ v, v = Ck.nameErr y.n := ⟨_, rfl⟩
                    obtain ⟨v2, hv2⟩ : ∃ v, v = Ck.refErr y.f := ⟨_, rfl⟩
                    obtain ⟨v3, hv3⟩ : ∃ v, v = Ck.num y.z := ⟨_, rfl⟩
                    have HV : Hid ((if v = 0 then (if v2 = 0 then (if v3 then 0 else 2) else v2) else v) = Ck.enErr (Ck.at_ Ck.En.o es j)) := Lib.hid (by rw [hv, hv2, hv3, ← HY.out]; rfl)
                    have HC : Hid (∀ W, Calls Tryz.prog 97 #[.agg #[.int .i64 y.f.r, .int .i64 y.f.q]] W fun e w' => e = .returned (.int .i64 v2) ∧ Below W.heap.size W w') := Lib.hid fun W => by rw [hv2]; exact rrefErr_any y.f.r y.f.q W
                    have HN : Hid (∀ W, Calls Tryz.prog 99 #[.string ⟨y.n.toArray⟩] W fun e w' => e = .returned (.int .i64 v) ∧ Below W.heap.size W w') := Lib.hid fun W => by rw [hv]; exact rNameErr_any y.n W hyl
                    have HZ : Hid (∀ W, Calls Tryz.prog 96 #[.int .i64 y.z] W fun e w' => e = .returned (.bool v3) ∧ W = w') := Lib.hid fun W => by rw [hv3]; exact IsNumber_any y.z W
                    clear hv hv2 hv3
                    have stop : Hid ((if v = 0 then (if v2 = 0 then (if v3 then 0 else 2) else v2) else v) ≠ 0 → R = if v = 0 then (if v2 = 0 then (if v3 then 0 else 2) else v2) else v) := Lib.hid fun h0 => by
                      rw [Z6.out, show Ck.ensErr (Ck.VRc.p ⟨u, q, k, ⟨br, bq⟩, ln, ds, ns, ss, es, An, cn, As, cs, some ⟨b1, o1, none⟩, ce⟩) = (if v = 0 then (if v2 = 0 then (if v3 then 0 else 2) else v2) else v) from (Ck.goE_stop _ hs.out (by rw [← HV.out]; exact h0) _ hkl.out).trans HV.out.symm]
                      show (if _ = 0 then (if _ = 0 then Ck.first [_] else _) else _) = _
                      rw [if_pos hN.out, if_pos hM.out]
                      exact if_neg h0
                    by_cases h0 : v = 0
                    rotate_left
                    · have hR : Hid (R = v) := Lib.hid (by have := stop.out; rw [if_neg h0] at this; exact this h0)
                      have h0' : (v != 0) = true := by simpa using h0
                      clear h0
                      go_wp2_with (refine WL.out ?_; (repeat ((refine WL.op ?_ ?_; (exact rfl); intro K hK; (first | ((first | ((with_reducible apply ow_move); exact rfl) | ((with_reducible apply ow_assign); exact rfl)); (go_simp <;> (try simp (disch := omega) only [wrap_id, sub_left, zac]) <;> rfl)) | ((((with_reducible apply ow_load1 st); exact rfl; exact inferInstance; exact rfl; (exact get0))); exact rfl) | ((with_reducible apply ow_old1 st); exact rfl; exact inferInstance; exact rfl; assumption; assumption) | ((with_reducible apply ow_eval); (go_simp <;> (try simp (disch := omega) only [wrap_id, sub_left, zac]) <;> rfl); first | (with_reducible apply up_value) | ((with_reducible apply up_enter); ((go_at_call 99; ((with_reducible refine (HN.out _).mono ?_)); rintro e w' ⟨rfl, hb⟩; replace st := st.call hb; clear hb; refine ⟨_, rfl, ?_⟩))))); refine WL.next hK (by simp only [Act.put, zpt, zsz, zss]; exact rfl) ?_; clear hK K))); (try refine WL.nil ?_))
                      go_ret
                      exact ⟨Ck.ret_int hR.out.symm, st.below⟩
                    subst h0
                    by_cases h2 : v2 = 0
                    rotate_left
                    · have hR : Hid (R = v2) := Lib.hid (by have := stop.out; rw [if_pos rfl, if_neg h2] at this; exact this h2)
                      have h2' : (v2 != 0) = true := by simpa using h2
                      clear h2
                      go_wp2_with (refine WL.out ?_; (repeat ((refine WL.op ?_ ?_; (exact rfl); intro K hK; (first | ((first | ((with_reducible apply ow_move); exact rfl) | ((with_reducible apply ow_assign); exact rfl)); (go_simp <;> (try simp (disch := omega) only [wrap_id, sub_left, zac]) <;> rfl)) | ((((with_reducible apply ow_load1 st); exact rfl; exact inferInstance; exact rfl; (exact get0))); exact rfl) | ((with_reducible apply ow_old1 st); exact rfl; exact inferInstance; exact rfl; assumption; assumption) | ((with_reducible apply ow_oldC st); exact rfl; exact inferInstance; exact rfl; assumption; assumption; exact rfl) | ((with_reducible apply ow_eval); (go_simp <;> (try simp (disch := omega) only [wrap_id, sub_left, zac]) <;> rfl); first | (with_reducible apply up_value) | ((with_reducible apply up_enter); first | (go_at_call 97; ((with_reducible refine (HC.out _).mono ?_)); rintro e w' ⟨rfl, hb⟩; replace st := st.call hb; clear hb; refine ⟨_, rfl, ?_⟩) | (go_at_call 99; ((with_reducible refine (HN.out _).mono ?_)); rintro e w' ⟨rfl, hb⟩; replace st := st.call hb; clear hb; refine ⟨_, rfl, ?_⟩)))); refine WL.next hK (by simp only [Act.put, zpt, zsz, zss]; exact rfl) ?_; clear hK K))); (try refine WL.nil ?_))
                      go_ret
                      exact ⟨Ck.ret_int hR.out.symm, st.below⟩
                    subst h2
                    cases v3
                    · have hR : Hid (R = 2) := Lib.hid (stop.out (by decide))
                      go_wp2_with (refine WL.out ?_; (repeat ((refine WL.op ?_ ?_; (exact rfl); intro K hK; (first | ((first | ((with_reducible apply ow_move); exact rfl) | ((with_reducible apply ow_assign); exact rfl)); (go_simp <;> (try simp (disch := omega) only [wrap_id, sub_left, zac]) <;> rfl)) | ((((with_reducible apply ow_load1 st); exact rfl; exact inferInstance; exact rfl; (exact get0))); exact rfl) | ((with_reducible apply ow_old1 st); exact rfl; exact inferInstance; exact rfl; assumption; assumption) | ((with_reducible apply ow_oldC st); exact rfl; exact inferInstance; exact rfl; assumption; assumption; exact rfl) | ((with_reducible apply ow_eval); (go_simp <;> (try simp (disch := omega) only [wrap_id, sub_left, zac]) <;> rfl); first | (with_reducible apply up_value) | ((with_reducible apply up_enter); first | (go_at_call 97; ((with_reducible refine (HC.out _).mono ?_)); rintro e w' ⟨rfl, hb⟩; replace st := st.call hb; clear hb; refine ⟨_, rfl, ?_⟩) | (go_at_call 99; ((with_reducible refine (HN.out _).mono ?_)); rintro e w' ⟨rfl, hb⟩; replace st := st.call hb; clear hb; refine ⟨_, rfl, ?_⟩) | (go_at_call 96; refine (HZ.out _).mono ?_; rintro e w' ⟨rfl, rfl⟩; refine ⟨_, rfl, ?_⟩)))); refine WL.next hK (by simp only [Act.put, zpt, zsz, zss]; exact rfl) ?_; clear hK K))); (try refine WL.nil ?_))
                      go_ret
                      exact ⟨Ck.ret_int hR.out.symm, st.below⟩
                    · have hs' : Hid (Ck.goE (fun i => Ck.enErr (Ck.at_ Ck.En.o es i)) (j + 1) = 0) := Lib.hid (by rw [Ck.goE_next _ hs.out, ← HV.out]; rfl)
                      go_wp2_with (refine WL.out ?_; (repeat ((refine WL.op ?_ ?_; (exact rfl); intro K hK; (first | ((first | ((with_reducible apply ow_move); exact rfl) | ((with_reducible apply ow_assign); exact rfl)); (go_simp <;> (try simp (disch := omega) only [wrap_id, sub_left, zac]) <;> rfl)) | ((((with_reducible apply ow_load1 st); exact rfl; exact inferInstance; exact rfl; (exact get0))); exact rfl) | ((with_reducible apply ow_old1 st); exact rfl; exact inferInstance; exact rfl; assumption; assumption) | ((with_reducible apply ow_oldC st); exact rfl; exact inferInstance; exact rfl; assumption; assumption; exact rfl) | ((with_reducible apply ow_eval); (go_simp <;> (try simp (disch := omega) only [wrap_id, sub_left, zac]) <;> rfl); first | (with_reducible apply up_value) | ((with_reducible apply up_enter); first | (go_at_call 97; ((with_reducible refine (HC.out _).mono ?_)); rintro e w' ⟨rfl, hb⟩; replace st := st.call hb; clear hb; refine ⟨_, rfl, ?_⟩) | (go_at_call 99; ((with_reducible refine (HN.out _).mono ?_)); rintro e w' ⟨rfl, hb⟩; replace st := st.call hb; clear hb; refine ⟨_, rfl, ?_⟩) | (go_at_call 96; refine (HZ.out _).mono ?_; rintro e w' ⟨rfl, rfl⟩; refine ⟨_, rfl, ?_⟩)))); refine WL.next hK (by simp only [Act.put, zpt, zsz, zss]; exact rfl) ?_; clear hK K))); (try refine WL.nil ?_))
                      exact ⟨⟨j + 1, by omega, by go_num, st, hs'⟩, by simp [intOf]; omega⟩
                  · obtain rfl : ne = j := by omega
                    have hR : Hid (R = 0) := Lib.hid (by
                      rw [Z6.out, show Ck.ensErr (Ck.VRc.p ⟨u, q, k, ⟨br, bq⟩, ln, ds, ns, ss, es, An, cn, As, cs, Ae, ce⟩) = 0 by show Ck.goE _ es.length = 0; rw [← E3.out]; exact hs.out]
                      show (if _ = 0 then (if _ = 0 then _ else _) else _) = (0 : Int)
                      rw [if_pos hN.out, if_pos hM.out]
                      rfl)
                    go_wp2_with (refine WL.out ?_; (repeat ((refine WL.op ?_ ?_; (exact rfl); intro K hK; (first | ((((with_reducible apply ow_load1 st); exact rfl; exact inferInstance; exact rfl; (exact get0))); exact rfl) | ((with_reducible apply ow_eval); (go_simp <;> (try simp (disch := omega) only [wrap_id, sub_left, zac]) <;> rfl); ((with_reducible apply up_value)))); refine WL.next hK (by simp only [Act.put, zpt, zsz, zss]; exact rfl) ?_; clear hK K))); (try refine WL.nil ?_))
                    go_ret
                    exact ⟨Ck.ret_int hR.out.symm, st.below⟩
end Go.Proofs.YtgcjejajljhnaaaGreatDoor
namespace Go.Proofs.YtgcjejajljhnaaaGreatDoor
open Go.RowKit Go.Hp
set_option maxRecDepth 8000 in
set_option maxHeartbeats 4000000 in
theorem rCheckParts_any (v : Ck.VPt) (B : Nat) (w : World) (h : v.At w B) (hB : B ≤ w.heap.size) (hf : v.Fit) (hm : v.mp.length ≤ 100000) :
    Calls Tryz.prog 14 #[v.val] w fun e w' => e = .returned (.tuple #[.int .i64 (Ck.partsIx v.p), .int .i64 (Ck.partsErr v.p)]) ∧ Below w.heap.size w w' := by
  have HW : Hid (64 ≤ v.c → v.c ≤ 512 → ∀ W, Below w.heap.size w W → Calls Tryz.prog 50 #[v.val] W fun e w' => e = .returned (.int .i64 (Ck.first [Ck.goE (fun i => Ck.alErr v.c (Ck.at_ Ck.Run.o v.al i)) v.al.length, Ck.goE (Ck.dsErr v.ds) v.ds.length, if v.ds.length = 0 then 17 else 0, Ck.mapErr v.mp v.c])) ∧ Below W.heap.size W w') := Lib.hid fun h0 h1 W hb => ralwaysErr_any v B W (h.below hb hB) (Nat.le_trans hB hb.size) hf hm h0 h1
  have HWE : Hid (Ck.wholeErr v.p = if Ck.wi v.c 64 512 then (if 24 < v.al.length ∨ 96 < v.rs.length ∨ 64 < v.ds.length then 8 else Ck.first [Ck.goE (fun i => Ck.alErr v.c (Ck.at_ Ck.Run.o v.al i)) v.al.length, Ck.goE (Ck.dsErr v.ds) v.ds.length, if v.ds.length = 0 then 17 else 0, Ck.mapErr v.mp v.c]) else 2) := Lib.hid (by
    unfold Ck.wholeErr
    show Ck.first [if Ck.wi v.c 64 512 then 0 else 2, if 24 < v.al.length ∨ 96 < v.p.rs.length ∨ 64 < v.ds.length then 8 else 0, _, _, _, _] = _
    rw [Ck.VPt.p_len]
    cases Ck.wi v.c 64 512
    · rfl
    · by_cases hx : 24 < v.al.length ∨ 96 < v.rs.length ∨ 64 < v.ds.length
      · rw [if_pos hx, if_pos rfl, if_pos rfl, if_pos hx]
        rfl
      · rw [if_neg hx, if_pos rfl, if_pos rfl, if_neg hx]
        rfl)
  have H := Lib.hid h
  have HF := Lib.hid hf
  clear h hf hm
  obtain ⟨c, al, rs, ds, mp, Aa, ca, Ar, cr, Ad, cd⟩ := v
  unfold Ck.VPt.val at *
  simp only at *
  obtain ⟨na, e1⟩ : ∃ n, n = al.length := ⟨_, rfl⟩
  obtain ⟨nr, e2⟩ : ∃ n, n = rs.length := ⟨_, rfl⟩
  obtain ⟨nd, e3⟩ : ∃ n, n = ds.length := ⟨_, rfl⟩
  have E2 := Lib.hid e2
  rw [← e1, ← e2, ← e3] at HW HWE ⊢
  clear e1 e3 e2
  have hn2 : nr ≤ 100000 := by rw [E2.out]; exact HF.out.rs
  obtain ⟨p, ep⟩ : ∃ p, p = Ck.VPt.p ⟨c, al, rs, ds, mp, Aa, ca, Ar, cr, Ad, cd⟩ := ⟨_, rfl⟩
  rw [← ep] at HWE ⊢
  have hpl : p.rs.length = nr := by rw [ep, E2.out]; exact List.length_map ..
  have hpr : ∀ j, j < nr → Ck.at_ Ck.Rc.o p.rs j = (Ck.at_ Ck.VRc.o rs j).p := fun j hj => by rw [ep]; exact Ck.at_map Ck.VRc.p Ck.VRc.o Ck.Rc.o rs j (by rw [← E2.out]; exact hj)
  have PL := Lib.hid hpl
  have PR := Lib.hid hpr
  clear hpl hpr ep
  obtain ⟨we, ewe⟩ : ∃ x, x = Ck.first [Ck.goE (fun i => Ck.alErr c (Ck.at_ Ck.Run.o al i)) na, Ck.goE (Ck.dsErr ds) nd, if nd = 0 then 17 else 0, Ck.mapErr mp c] := ⟨_, rfl⟩
  rw [← ewe] at HW HWE
  clear ewe
  have whole : Hid (∀ e, e ≠ 0 → Ck.wholeErr p = e → Ck.partsIx p = 0 ∧ Ck.partsErr p = e) := Lib.hid fun e he hw => by
    refine ⟨?_, ?_⟩
    · unfold Ck.partsIx; rw [hw, if_pos he]
    · unfold Ck.partsErr; rw [hw]; exact if_neg he
  have st := St.start w
  cases z1 : Ck.wi c 64 512
  · have hq := Lib.hid (whole.out 2 (by decide) (by rw [HWE.out, z1]; rfl))
    go_enter Tryz.func14, Tryz.ntmps14
    go_wp2_with (refine WL.out ?_; (repeat ((refine WL.op ?_ ?_; (exact rfl); intro K hK; (first | ((((with_reducible apply ow_assign); exact rfl)); (go_simp <;> (try simp (disch := omega) only [wrap_id, sub_left, zac]) <;> rfl)) | ((((with_reducible apply ow_load1 st); exact rfl; exact inferInstance; exact rfl; (exact get0))); exact rfl) | ((((with_reducible apply ow_box st); exact rfl; (go_simp <;> (try simp (disch := omega) only [wrap_id, sub_left, zac]) <;> rfl); (go_simp <;> (try simp (disch := omega) only [wrap_id, sub_left, zac]) <;> rfl))); (try clear st); intro b w' st) | ((with_reducible apply ow_eval); (go_simp <;> (try simp (disch := omega) only [wrap_id, sub_left, zac]) <;> rfl); first | (with_reducible apply up_value) | ((with_reducible apply up_enter); ((go_at_call 29; refine (Within_any _ _ _ _).mono ?_; rintro e w' ⟨rfl, rfl⟩; refine ⟨_, rfl, ?_⟩))))); refine WL.next hK (by simp only [Act.put, zpt, zsz, zss]; exact rfl) ?_; clear hK K))); (try refine WL.nil ?_))
    go_ret2
    exact ⟨ret2 hq.out.1.symm hq.out.2.symm, st.below⟩
  obtain ⟨hc0, hc1⟩ : 64 ≤ c ∧ c ≤ 512 := by simp [Ck.wi] at z1; omega
  have HW := Lib.hid (HW.out hc0 hc1)
  by_cases hg : 24 < na ∨ 96 < nr ∨ 64 < nd
  · have hq := Lib.hid (whole.out 8 (by decide) (by rw [HWE.out, z1, if_pos rfl, if_pos hg]))
    have hg3 : (24 : Int) < (na : Int) ∨ (¬ (24 : Int) < (na : Int) ∧ (96 : Int) < (nr : Int)) ∨ (¬ (24 : Int) < (na : Int) ∧ ¬ (96 : Int) < (nr : Int) ∧ (64 : Int) < (nd : Int)) := by omega
    clear hg
    rcases hg3 with hg1 | ⟨hg1, hg2⟩ | ⟨hg1, hg2, hg3⟩
    all_goals
      go_enter Tryz.func14, Tryz.ntmps14
      go_wp2_with (refine WL.out ?_; (repeat (first | (refine WL.op ?_ ?_; (exact rfl); intro K hK; (first | ((first | ((with_reducible apply ow_move); exact rfl) | ((with_reducible apply ow_assign); exact rfl)); (go_simp <;> (try simp (disch := omega) only [wrap_id, sub_left, zac]) <;> rfl)) | ((((with_reducible apply ow_load1 st); exact rfl; exact inferInstance; exact rfl; (exact get0))); exact rfl) | ((((with_reducible apply ow_box st); exact rfl; (go_simp <;> (try simp (disch := omega) only [wrap_id, sub_left, zac]) <;> rfl); (go_simp <;> (try simp (disch := omega) only [wrap_id, sub_left, zac]) <;> rfl))); (try clear st); intro b w' st) | ((with_reducible apply ow_eval); (go_simp <;> (try simp (disch := omega) only [wrap_id, sub_left, zac]) <;> rfl); first | (with_reducible apply up_value) | ((with_reducible apply up_enter); ((go_at_call 29; refine (Within_any _ _ _ _).mono ?_; rintro e w' ⟨rfl, rfl⟩; refine ⟨_, rfl, ?_⟩))))); refine WL.next hK (by simp only [Act.put, zpt, zsz, zss]; exact rfl) ?_; clear hK K) | (refine WL.skip ?_ (by simp only [Act.put, zpt, zsz, zss]; exact rfl) ?_; (exact rfl)))); (try refine WL.nil ?_))
      go_ret2
      exact ⟨ret2 hq.out.1.symm hq.out.2.symm, st.below⟩
  have hg1 : ¬ (24 : Int) < (na : Int) := by omega
  have hg2 : ¬ (96 : Int) < (nr : Int) := by omega
  have hg3 : ¬ (64 : Int) < (nd : Int) := by omega
  have WE : Hid (we = Ck.wholeErr p) := Lib.hid (by rw [HWE.out, z1, if_pos rfl, if_neg hg])
  clear hg
  by_cases h0 : we = 0
  rotate_left
  · have hq := Lib.hid (whole.out we h0 WE.out.symm)
    have h0' : (we != 0) = true := by simpa using h0
    clear h0
    go_enter Tryz.func14, Tryz.ntmps14
    go_wp2_with (refine WL.out ?_; (repeat ((refine WL.op ?_ ?_; (exact rfl); intro K hK; (first | ((first | ((with_reducible apply ow_move); exact rfl) | ((with_reducible apply ow_assign); exact rfl)); (go_simp <;> (try simp (disch := omega) only [wrap_id, sub_left, zac]) <;> rfl)) | ((first | ((with_reducible apply ow_load1 st); exact rfl; exact inferInstance; exact rfl; (exact get0)) | ((with_reducible apply ow_loadN st); exact rfl; exact inferInstance; exact rfl; (exact get0); ((try simp only [zta, ztz, zda, zdz, zca, zcn, zan, zsz, zss]) <;> exact rfl))); exact rfl) | ((((with_reducible apply ow_box st); exact rfl; (go_simp <;> (try simp (disch := omega) only [wrap_id, sub_left, zac]) <;> rfl); (go_simp <;> (try simp (disch := omega) only [wrap_id, sub_left, zac]) <;> rfl))); (try clear st); intro b w' st) | ((with_reducible apply ow_eval); (go_simp <;> (try simp (disch := omega) only [wrap_id, sub_left, zac]) <;> rfl); first | (with_reducible apply up_value) | ((with_reducible apply up_enter); first | (go_at_call 29; refine (Within_any _ _ _ _).mono ?_; rintro e w' ⟨rfl, rfl⟩; refine ⟨_, rfl, ?_⟩) | (go_at_call 50; ((with_reducible refine (HW.out _ st.below).mono ?_)); rintro e w' ⟨rfl, hb⟩; replace st := st.call hb; clear hb; refine ⟨_, rfl, ?_⟩)))); refine WL.next hK (by simp only [Act.put, zpt, zsz, zss]; exact rfl) ?_; clear hK K))); (try refine WL.nil ?_))
    go_ret2
    exact ⟨ret2 hq.out.1.symm hq.out.2.symm, st.below⟩
  subst h0
  have miss : Hid (Ck.rootErr p = 6 → Ck.partsIx p = 5 ∧ Ck.partsErr p = 6) := Lib.hid fun h => by
    refine ⟨?_, ?_⟩
    · unfold Ck.partsIx
      rw [← WE.out, h]
      rfl
    · unfold Ck.partsErr
      rw [← WE.out, h]
      rfl
  by_cases h5 : (nr : Int) ≤ 5
  · have hm := Lib.hid (miss.out (by unfold Ck.rootErr; rw [if_pos (.inl (by rw [PL.out]; omega))]))
    go_enter Tryz.func14, Tryz.ntmps14
    go_wp2_with (refine WL.out ?_; (repeat (first | (refine WL.op ?_ ?_; (exact rfl); intro K hK; (first | ((first | ((with_reducible apply ow_move); exact rfl) | ((with_reducible apply ow_assign); exact rfl)); (go_simp <;> (try simp (disch := omega) only [wrap_id, sub_left, zac]) <;> rfl)) | ((first | ((with_reducible apply ow_load1 st); exact rfl; exact inferInstance; exact rfl; (exact get0)) | ((with_reducible apply ow_loadN st); exact rfl; exact inferInstance; exact rfl; (exact get0); ((try simp only [zta, ztz, zda, zdz, zca, zcn, zan, zsz, zss]) <;> exact rfl))); exact rfl) | ((((with_reducible apply ow_box st); exact rfl; (go_simp <;> (try simp (disch := omega) only [wrap_id, sub_left, zac]) <;> rfl); (go_simp <;> (try simp (disch := omega) only [wrap_id, sub_left, zac]) <;> rfl))); (try clear st); intro b w' st) | ((with_reducible apply ow_eval); (go_simp <;> (try simp (disch := omega) only [wrap_id, sub_left, zac]) <;> rfl); first | (with_reducible apply up_value) | ((with_reducible apply up_enter); first | (go_at_call 29; refine (Within_any _ _ _ _).mono ?_; rintro e w' ⟨rfl, rfl⟩; refine ⟨_, rfl, ?_⟩) | (go_at_call 50; ((with_reducible refine (HW.out _ st.below).mono ?_)); rintro e w' ⟨rfl, hb⟩; replace st := st.call hb; clear hb; refine ⟨_, rfl, ?_⟩)))); refine WL.next hK (by simp only [Act.put, zpt, zsz, zss]; exact rfl) ?_; clear hK K) | (refine WL.skip ?_ (by simp only [Act.put, zpt, zsz, zss]; exact rfl) ?_; (exact rfl)))); (try refine WL.nil ?_))
    go_ret2
    exact ⟨ret2 hm.out.1.symm hm.out.2.symm, st.below⟩
  have h5n : 5 < nr := by omega
  have h5i : (5 : Int) < (nr : Int) := by omega
  obtain ⟨b1, o1, rfl, hb1, hc⟩ := H.out.rs.at_ (by rw [← E2.out]; omega)
  have hb1 := Nat.lt_of_lt_of_le hb1 hB
  obtain ⟨y5, hy5⟩ : ∃ y, y = Ck.at_ Ck.VRc.o rs 5 := ⟨_, rfl⟩
  have f5 := hc 5 (by rw [← E2.out]; exact h5n)
  have f50 : w.cell? ⟨b1, o1 + 50, none⟩ = some (.bool y5.u) := by rw [hy5]; exact f5 0 _ rfl
  have f52 : w.cell? ⟨b1, o1 + 50 + 2, none⟩ = some (.int .i64 y5.k) := by rw [hy5]; exact f5 2 _ rfl
  have f52' : w.cell? ⟨b1, o1 + 52, none⟩ = some (.int .i64 y5.k) := f52
  clear f5
  have P5 : Hid (Ck.at_ Ck.Rc.o p.rs 5 = y5.p) := Lib.hid (by rw [PR.out 5 h5n, hy5])
  clear hy5
  obtain ⟨u5, q5, k5, r5, l5, d5, n5, s5, e5, A5, c5, B5, g5, C5, i5⟩ := y5
  simp only at *
  have HC := Lib.hid hc
  clear hc
  cases u5
  · have hm := Lib.hid (miss.out (by unfold Ck.rootErr; rw [if_pos (.inr (.inl (by rw [P5.out]; rfl)))]))
    go_enter Tryz.func14, Tryz.ntmps14
    go_wp2_with (refine WL.out ?_; (repeat (first | (refine WL.op ?_ ?_; (exact rfl); intro K hK; (first | ((first | ((with_reducible apply ow_move); exact rfl) | ((with_reducible apply ow_assign); exact rfl)); (go_simp <;> (try simp (disch := omega) only [wrap_id, sub_left, zac]) <;> rfl)) | ((first | ((with_reducible apply ow_load1 st); exact rfl; exact inferInstance; exact rfl; (exact get0)) | ((with_reducible apply ow_loadN st); exact rfl; exact inferInstance; exact rfl; (exact get0); ((try simp only [zta, ztz, zda, zdz, zca, zcn, zan, zsz, zss]) <;> exact rfl))); exact rfl) | ((((with_reducible apply ow_box st); exact rfl; (go_simp <;> (try simp (disch := omega) only [wrap_id, sub_left, zac]) <;> rfl); (go_simp <;> (try simp (disch := omega) only [wrap_id, sub_left, zac]) <;> rfl))); (try clear st); intro b w' st) | ((with_reducible apply ow_old1 st); exact rfl; exact inferInstance; exact rfl; assumption; assumption) | ((with_reducible apply ow_eval); (go_simp <;> (try simp (disch := omega) only [wrap_id, sub_left, zac]) <;> rfl); first | (with_reducible apply up_value) | ((with_reducible apply up_enter); first | (go_at_call 29; refine (Within_any _ _ _ _).mono ?_; rintro e w' ⟨rfl, rfl⟩; refine ⟨_, rfl, ?_⟩) | (go_at_call 50; ((with_reducible refine (HW.out _ st.below).mono ?_)); rintro e w' ⟨rfl, hb⟩; replace st := st.call hb; clear hb; refine ⟨_, rfl, ?_⟩)))); refine WL.next hK (by simp only [Act.put, zpt, zsz, zss]; exact rfl) ?_; clear hK K) | (refine WL.skip ?_ (by simp only [Act.put, zpt, zsz, zss]; exact rfl) ?_; (exact rfl)))); (try refine WL.nil ?_))
    go_ret2
    exact ⟨ret2 hm.out.1.symm hm.out.2.symm, st.below⟩
  by_cases hk : k5 = 0
  rotate_left
  · have hm := Lib.hid (miss.out (by unfold Ck.rootErr; rw [if_pos (.inr (.inr (by rw [P5.out]; exact hk)))]))
    have hk' : (k5 != 0) = true := by simpa using hk
    go_enter Tryz.func14, Tryz.ntmps14
    go_wp2_with (refine WL.out ?_; (repeat ((refine WL.op ?_ ?_; (exact rfl); intro K hK; (first | ((first | ((with_reducible apply ow_move); exact rfl) | ((with_reducible apply ow_assign); exact rfl)); (go_simp <;> (try simp (disch := omega) only [wrap_id, sub_left, zac]) <;> rfl)) | ((first | ((with_reducible apply ow_load1 st); exact rfl; exact inferInstance; exact rfl; (exact get0)) | ((with_reducible apply ow_loadN st); exact rfl; exact inferInstance; exact rfl; (exact get0); ((try simp only [zta, ztz, zda, zdz, zca, zcn, zan, zsz, zss]) <;> exact rfl))); exact rfl) | ((((with_reducible apply ow_box st); exact rfl; (go_simp <;> (try simp (disch := omega) only [wrap_id, sub_left, zac]) <;> rfl); (go_simp <;> (try simp (disch := omega) only [wrap_id, sub_left, zac]) <;> rfl))); (try clear st); intro b w' st) | ((with_reducible apply ow_old1 st); exact rfl; exact inferInstance; exact rfl; assumption; assumption) | ((with_reducible apply ow_eval); (go_simp <;> (try simp (disch := omega) only [wrap_id, sub_left, zac]) <;> rfl); first | (with_reducible apply up_value) | ((with_reducible apply up_enter); first | (go_at_call 29; refine (Within_any _ _ _ _).mono ?_; rintro e w' ⟨rfl, rfl⟩; refine ⟨_, rfl, ?_⟩) | (go_at_call 50; ((with_reducible refine (HW.out _ st.below).mono ?_)); rintro e w' ⟨rfl, hb⟩; replace st := st.call hb; clear hb; refine ⟨_, rfl, ?_⟩)))); refine WL.next hK (by simp only [Act.put, zpt, zsz, zss]; exact rfl) ?_; clear hK K))); (try refine WL.nil ?_))
    go_ret2
    exact ⟨ret2 hm.out.1.symm hm.out.2.symm, st.below⟩
  subst hk
  have hroot : Hid (Ck.rootErr p = 0) := Lib.hid (by
    unfold Ck.rootErr
    rw [if_neg]
    rw [PL.out, P5.out]
    rintro (h | h | h)
    · omega
    · cases h
    · exact h rfl)
  have HI : Hid (Ck.partsIx p = Ck.goI (fun i => Ck.recErr i (Ck.at_ Ck.Rc.o p.rs i)) nr ∧ Ck.partsErr p = Ck.goE (fun i => Ck.recErr i (Ck.at_ Ck.Rc.o p.rs i)) nr) := Lib.hid (by
    refine ⟨?_, ?_⟩
    · unfold Ck.partsIx
      rw [← WE.out, hroot.out, if_neg (by simp), if_neg (by simp), PL.out]
    · unfold Ck.partsErr Ck.recsErr
      rw [← WE.out, hroot.out, PL.out]
      show (if (0 : Int) = 0 then (if (0 : Int) = 0 then (if Ck.goE _ nr = 0 then 0 else Ck.goE _ nr) else 0) else 0) = _
      rw [if_pos rfl, if_pos rfl]
      split <;> simp_all)
  clear miss P5 hroot
  go_enter Tryz.func14, Tryz.ntmps14
  go_wp2_with (refine WL.out ?_; (repeat ((refine WL.op ?_ ?_; (exact rfl); intro K hK; (first | ((first | ((with_reducible apply ow_move); exact rfl) | ((with_reducible apply ow_assign); exact rfl)); (go_simp <;> (try simp (disch := omega) only [wrap_id, sub_left, zac]) <;> rfl)) | ((first | ((with_reducible apply ow_load1 st); exact rfl; exact inferInstance; exact rfl; (exact get0)) | ((with_reducible apply ow_loadN st); exact rfl; exact inferInstance; exact rfl; (exact get0); ((try simp only [zta, ztz, zda, zdz, zca, zcn, zan, zsz, zss]) <;> exact rfl))); exact rfl) | ((((with_reducible apply ow_box st); exact rfl; (go_simp <;> (try simp (disch := omega) only [wrap_id, sub_left, zac]) <;> rfl); (go_simp <;> (try simp (disch := omega) only [wrap_id, sub_left, zac]) <;> rfl))); (try clear st); intro b w' st) | ((with_reducible apply ow_old1 st); exact rfl; exact inferInstance; exact rfl; assumption; assumption) | ((with_reducible apply ow_eval); (go_simp <;> (try simp (disch := omega) only [wrap_id, sub_left, zac]) <;> rfl); first | (with_reducible apply up_value) | ((with_reducible apply up_enter); first | (go_at_call 29; refine (Within_any _ _ _ _).mono ?_; rintro e w' ⟨rfl, rfl⟩; refine ⟨_, rfl, ?_⟩) | (go_at_call 50; ((with_reducible refine (HW.out _ st.below).mono ?_)); rintro e w' ⟨rfl, hb⟩; replace st := st.call hb; clear hb; refine ⟨_, rfl, ?_⟩)))); refine WL.next hK (by simp only [Act.put, zpt, zsz, zss]; exact rfl) ?_; clear hK K))); (try refine WL.nil ?_))
  clear f50 f52 f52'
  go_loopw [5] (fun i wr => ∃ j : Nat, j ≤ nr ∧ i = .int .i64 j ∧ St w wr [.box b 26 [.int .i64 c, .slice Aa na ca, .slice (some ⟨b1, o1, none⟩) nr cr, .slice Ad nd cd, .string ⟨mp.toArray⟩]] ∧ Hid (Ck.goE (fun i => Ck.recErr i (Ck.at_ Ck.Rc.o p.rs i)) j = 0)) (fun i _ => nr - (intOf i).toNat)
  case atStart => exact ⟨0, by omega, rfl, st, rfl⟩
  case round =>
    clear st
    obtain ⟨j, hj, rfl, st, hs⟩ := hrel
    by_cases hlt : j < nr
    · obtain ⟨y, hy⟩ : ∃ y, y = Ck.at_ Ck.VRc.o rs j := ⟨_, rfl⟩
      have hkl : j < rs.length := by rw [← E2.out]; exact hlt
      have hym : y ∈ rs := by rw [hy]; exact Ck.at_mem _ _ _ hkl
      have f1 : OldC w b1 (o1 + j * 10) [.bool y.u, .int .i64 y.q, .int .i64 y.k, .int .i64 y.b.r, .int .i64 y.b.q, .int .i64 y.ln, .int .i64 y.ds, .slice y.An y.ns.length y.cn, .slice y.As y.ss.length y.cs, .slice y.Ae y.es.length y.ce] := by rw [hy]; exact HC.out j hkl
      have hyp : Hid (Ck.at_ Ck.Rc.o p.rs j = y.p) := Lib.hid (by rw [PR.out j hlt, hy])
      clear hy hkl
      obtain ⟨x, hx⟩ : ∃ x, x = Ck.recErr j y.p := ⟨_, rfl⟩
      have HX : Hid (x = Ck.recErr j (Ck.at_ Ck.Rc.o p.rs j)) := Lib.hid (by rw [hyp.out, hx])
      have HC : Hid (∀ W, Below w.heap.size w W → Calls Tryz.prog 51 #[.agg #[.bool y.u, .int .i64 y.q, .int .i64 y.k, .int .i64 y.b.r, .int .i64 y.b.q, .int .i64 y.ln, .int .i64 y.ds, .slice y.An y.ns.length y.cn, .slice y.As y.ss.length y.cs, .slice y.Ae y.es.length y.ce], .int .i64 (j : Int)] W fun e w' => e = .returned (.int .i64 x) ∧ Below W.heap.size W w') := Lib.hid fun W hb => by
        rw [hx]
        exact rrecordErr_any j y B W ((H.out.rcs y hym).below hb hB) (Nat.le_trans hB hb.size) (HF.out.rcs y hym) (by omega)
      clear hx hym
      by_cases h0 : x = 0
      · have hs' : Hid (Ck.goE (fun i => Ck.recErr i (Ck.at_ Ck.Rc.o p.rs i)) (j + 1) = 0) := Lib.hid (by rw [Ck.goE_next _ hs.out, ← HX.out]; exact h0)
        subst h0
        go_wp2_with (refine WL.out ?_; (repeat ((refine WL.op ?_ ?_; (exact rfl); intro K hK; (first | ((first | ((with_reducible apply ow_move); exact rfl) | ((with_reducible apply ow_assign); exact rfl)); (go_simp <;> (try simp (disch := omega) only [wrap_id, sub_left, zac]) <;> rfl)) | ((((with_reducible apply ow_load1 st); exact rfl; exact inferInstance; exact rfl; (exact get0))); exact rfl) | ((with_reducible apply ow_oldC st); exact rfl; exact inferInstance; exact rfl; assumption; assumption; exact rfl) | ((with_reducible apply ow_eval); (go_simp <;> (try simp (disch := omega) only [wrap_id, sub_left, zac]) <;> rfl); first | (with_reducible apply up_value) | ((with_reducible apply up_enter); ((go_at_call 51; ((with_reducible refine (HC.out _ st.below).mono ?_)); rintro e w' ⟨rfl, hb⟩; replace st := st.call hb; clear hb; refine ⟨_, rfl, ?_⟩))))); refine WL.next hK (by simp only [Act.put, zpt, zsz, zss]; exact rfl) ?_; clear hK K))); (try refine WL.nil ?_))
        exact ⟨⟨j + 1, by omega, by go_num, st, hs'⟩, by simp [intOf]; omega⟩
      · have hE : Hid (Ck.partsErr p = x) := Lib.hid (by
          rw [HI.out.2, HX.out]
          exact Ck.goE_stop _ hs.out (by rw [← HX.out]; exact h0) nr hlt)
        have hI : Hid (Ck.partsIx p = j) := Lib.hid (by
          rw [HI.out.1]
          exact Ck.goI_stop _ hs.out (by rw [← HX.out]; exact h0) nr hlt)
        have h0' : (x != 0) = true := by simpa using h0
        go_wp2_with (refine WL.out ?_; (repeat ((refine WL.op ?_ ?_; (exact rfl); intro K hK; (first | ((first | ((with_reducible apply ow_move); exact rfl) | ((with_reducible apply ow_assign); exact rfl)); (go_simp <;> (try simp (disch := omega) only [wrap_id, sub_left, zac]) <;> rfl)) | ((((with_reducible apply ow_load1 st); exact rfl; exact inferInstance; exact rfl; (exact get0))); exact rfl) | ((with_reducible apply ow_oldC st); exact rfl; exact inferInstance; exact rfl; assumption; assumption; exact rfl) | ((with_reducible apply ow_eval); (go_simp <;> (try simp (disch := omega) only [wrap_id, sub_left, zac]) <;> rfl); first | (with_reducible apply up_value) | ((with_reducible apply up_enter); ((go_at_call 51; ((with_reducible refine (HC.out _ st.below).mono ?_)); rintro e w' ⟨rfl, hb⟩; replace st := st.call hb; clear hb; refine ⟨_, rfl, ?_⟩))))); refine WL.next hK (by simp only [Act.put, zpt, zsz, zss]; exact rfl) ?_; clear hK K))); (try refine WL.nil ?_))
        go_ret2
        exact ⟨ret2 hI.out.symm hE.out.symm, st.below⟩
    · obtain rfl : nr = j := by omega
      have hE : Hid (Ck.partsErr p = 0) := Lib.hid (by rw [HI.out.2, hs.out])
      have hI : Hid (Ck.partsIx p = 0) := Lib.hid (by rw [HI.out.1]; exact Ck.goI_zero _ _ hs.out)
      go_wp2_with (refine WL.out ?_; (repeat ((refine WL.op ?_ ?_; (exact rfl); intro K hK; (first | ((((with_reducible apply ow_load1 st); exact rfl; exact inferInstance; exact rfl; (exact get0))); exact rfl) | ((with_reducible apply ow_eval); (go_simp <;> (try simp (disch := omega) only [wrap_id, sub_left, zac]) <;> rfl); ((with_reducible apply up_value)))); refine WL.next hK (by simp only [Act.put, zpt, zsz, zss]; exact rfl) ?_; clear hK K))); (try refine WL.nil ?_))
      go_ret2
      exact ⟨ret2 hI.out.symm hE.out.symm, st.below⟩
end Go.Proofs.YtgcjejajljhnaaaGreatDoor
namespace Go.Proofs.YtgcjejajljhnaaaGreatDoor
open Go.RowKit Go.Hp
set_option maxRecDepth 8000 in
set_option maxHeartbeats 4000000 in
theorem CheckerErrors_any (v : Ck.VPt) (w : World) (h : v.At w w.heap.size) :
    Calls Tryz.prog 3 #[v.val] w fun e w' => e = .returned (.bool true) ∧ Below w.heap.size w w' := by
  have HF : Hid (∀ W, Below w.heap.size w W → Calls Tryz.prog 11 #[v.val] W fun e w' => e = .returned (.bool (Ck.few v)) ∧ Below W.heap.size W w') := Lib.hid fun W hb => few_any v w.heap.size W (h.below hb (Nat.le_refl _)) hb.size
  obtain ⟨i, hi⟩ : ∃ i, i = Ck.partsIx v.p := ⟨_, rfl⟩
  obtain ⟨er, her⟩ : ∃ i, i = Ck.partsErr v.p := ⟨_, rfl⟩
  have HC : Hid (Ck.few v = true → (∀ W, Below w.heap.size w W → Calls Tryz.prog 13 #[v.val] W fun e w' => ∃ v2 : Ck.VPt, e = .returned v2.val ∧ Hid (v2.p = v.p) ∧ St W w' v2.res) ∧
      (∀ W, Below w.heap.size w W → Calls Tryz.prog 14 #[v.val] W fun e w' => e = .returned (.tuple #[.int .i64 i, .int .i64 er]) ∧ Below W.heap.size W w') ∧
      (∀ (v2 : Ck.VPt) W, v2.p = v.p → v2.At W W.heap.size → Calls Tryz.prog 12 #[v2.val] W fun e w' => e = .returned (.tuple #[.int .i64 i, .int .i64 er]) ∧ Below W.heap.size W w')) := Lib.hid fun hf => by
    obtain ⟨h1, h2⟩ := Ck.few_fit hf
    refine ⟨fun W hb => (Copy_any v w.heap.size W (h.below hb (Nat.le_refl _)) hb.size h1).mono fun e w' ⟨v2, ha, hb, hc⟩ => ⟨v2, ha, Lib.hid hb, hc⟩, fun W hb => ?_, fun v2 W hp hA => ?_⟩
    · rw [hi, her]
      exact rCheckParts_any v w.heap.size W (h.below hb (Nat.le_refl _)) hb.size h1 h2
    · rw [hi, her, ← hp]
      exact CheckParts_any v2 W.heap.size W hA (Nat.le_refl _) (Ck.VPt.Fit.of_p hp h1) (by rw [show v2.mp = v.mp from congrArg Ck.Pt.mp hp]; exact h2)
  obtain ⟨f, hf⟩ : ∃ f, f = Ck.few v := ⟨_, rfl⟩
  rw [← hf] at HF HC
  clear hf hi her h
  have st := St.start w
  cases f
  · obtain ⟨c, al, rs, ds, mp, Aa, ca, Ar, cr, Ad, cd⟩ := v
    unfold Ck.VPt.val at *
    simp only at *
    clear HC
    go_enter Tryz.func3, Tryz.ntmps3
    go_wp2_with (refine WL.out ?_; (repeat ((refine WL.op ?_ ?_; (exact rfl); intro K hK; (first | ((((with_reducible apply ow_assign); exact rfl)); (go_simp <;> (try simp (disch := omega) only [wrap_id, sub_left, zac]) <;> rfl)) | ((((with_reducible apply ow_loadN st); exact rfl; exact inferInstance; exact rfl; (exact get0); ((try simp only [zta, ztz, zda, zdz, zca, zcn, zan, zsz, zss]) <;> exact rfl))); exact rfl) | ((((with_reducible apply ow_box st); exact rfl; (go_simp <;> (try simp (disch := omega) only [wrap_id, sub_left, zac]) <;> rfl); (go_simp <;> (try simp (disch := omega) only [wrap_id, sub_left, zac]) <;> rfl))); (try clear st); intro b w' st) | ((with_reducible apply ow_eval); (go_simp <;> (try simp (disch := omega) only [wrap_id, sub_left, zac]) <;> rfl); first | (with_reducible apply up_value) | ((with_reducible apply up_enter); first | (go_at_call 10; refine (awake_any _).mono ?_; rintro e w' ⟨rfl, hb⟩; replace st := st.call hb; clear hb; refine ⟨_, rfl, ?_⟩) | (go_at_call 11; ((with_reducible refine (HF.out _ st.below).mono ?_)); rintro e w' ⟨rfl, hb⟩; replace st := st.call hb; clear hb; refine ⟨_, rfl, ?_⟩)))); refine WL.next hK (by simp only [Act.put, zpt, zsz, zss]; exact rfl) ?_; clear hK K))); (try refine WL.nil ?_))
    go_ret
    exact ⟨rfl, st.below⟩
  obtain ⟨h1, h2, h3⟩ := HC.out rfl
  have H1 := Lib.hid h1
  have H2 := Lib.hid h2
  have H3 := Lib.hid h3
  clear HC h1 h2 h3
  obtain ⟨p, hp⟩ : ∃ p, p = v.p := ⟨_, rfl⟩
  rw [← hp] at H1 H3
  clear hp
  obtain ⟨c, al, rs, ds, mp, Aa, ca, Ar, cr, Ad, cd⟩ := v
  have e0 : Ck.VPt.val ⟨c, al, rs, ds, mp, Aa, ca, Ar, cr, Ad, cd⟩ = .agg #[.int .i64 c, .slice Aa al.length ca, .slice Ar rs.length cr, .slice Ad ds.length cd, .string ⟨mp.toArray⟩] := rfl
  rw [e0] at HF H1 H2 ⊢
  clear e0
  go_enter Tryz.func3, Tryz.ntmps3
  go_wp2_with (refine WL.out ?_; (repeat ((refine WL.op ?_ ?_; (exact rfl); intro K hK; (first | ((first | ((with_reducible apply ow_move); exact rfl) | ((with_reducible apply ow_assign); exact rfl)); (go_simp <;> (try simp (disch := omega) only [wrap_id, sub_left, zac]) <;> rfl)) | ((((with_reducible apply ow_loadN st); exact rfl; exact inferInstance; exact rfl; (exact get0); ((try simp only [zta, ztz, zda, zdz, zca, zcn, zan, zsz, zss]) <;> exact rfl))); exact rfl) | ((((with_reducible apply ow_box st); exact rfl; (go_simp <;> (try simp (disch := omega) only [wrap_id, sub_left, zac]) <;> rfl); (go_simp <;> (try simp (disch := omega) only [wrap_id, sub_left, zac]) <;> rfl))); (try clear st); intro b w' st) | ((with_reducible apply ow_eval); (go_simp <;> (try simp (disch := omega) only [wrap_id, sub_left, zac]) <;> rfl); first | (with_reducible apply up_value) | ((with_reducible apply up_enter); first | (go_at_call 10; refine (awake_any _).mono ?_; rintro e w' ⟨rfl, hb⟩; replace st := st.call hb; clear hb; refine ⟨_, rfl, ?_⟩) | (go_at_call 11; ((with_reducible refine (HF.out _ st.below).mono ?_)); rintro e w' ⟨rfl, hb⟩; replace st := st.call hb; clear hb; refine ⟨_, rfl, ?_⟩) | (go_at_call 13; refine (H1.out _ st.below).mono ?_; rintro e5 w' ⟨v2, rfl, HP, st'⟩; have HA := Lib.hid (Ck.VPt.at_own st' (fun r hr => hr)); replace st := st.call st'.below; clear st'; refine ⟨_, rfl, ?_⟩) | (go_at_call 12; ((with_reducible refine (H3.out _ _ HP.out HA.out).mono ?_)); rintro e w' ⟨rfl, hb⟩; replace st := st.call hb; clear hb; refine ⟨_, rfl, ?_⟩) | (go_at_call 14; ((with_reducible refine (H2.out _ st.below).mono ?_)); rintro e w' ⟨rfl, hb⟩; replace st := st.call hb; clear hb; refine ⟨_, rfl, ?_⟩)))); refine WL.next hK (by simp only [Act.put, zpt, zsz, zss]; exact rfl) ?_; clear hK K))); (try refine WL.nil ?_))
  go_ret
  exact ⟨by simp, st.below⟩
end Go.Proofs.YtgcjejajljhnaaaGreatDoor
namespace Go.Proofs.YtgcjejajljhnaaaGreatDoor
open Go.ChangeShapes Go.WideShapes Go.ChangeAt Go.RowKit Go.Deep Go.Hp
set_option maxRecDepth 100000
theorem list_of {α : Type} (d : α) {p : Nat → α → Prop} : ∀ n : Nat, (∀ i, i < n → ∃ a, p i a) → ∃ l : List α, l.length = n ∧ ∀ i, i < n → p i (Ck.at_ d l i)
  | 0, _ => ⟨[], rfl, fun _ h => absurd h (by omega)⟩
  | n + 1, h => by
    obtain ⟨l, hl, hp⟩ := list_of d n fun i hi => h i (by omega)
    obtain ⟨a, ha⟩ := h n (by omega)
    refine ⟨l ++ [a], by simp [hl], fun i hi => ?_⟩
    unfold Ck.at_ at hp ⊢
    by_cases e : i = n
    · subst e
      rw [List.getElem?_append_right (by omega)]
      simpa [hl] using ha
    · have := hp i (by omega)
      rwa [List.getElem?_append_left (by omega)]
section
variable {H : Type} {enc : TypeId × Value → H} {W : World} {held : Bool}
theorem add_at (b o i : Nat) : (⟨b, o, none⟩ : Addr).add i = ⟨b, o + i, none⟩ := by
  unfold Addr.add
  split
  · subst_vars; rfl
  · rfl
theorem open_list {α : Type} {k : Nat} [El α k] {t e : TypeId} (Q : α → Prop) {fuel : Nat} {cs : List Value} {x : DataW H × List MemPlace} (hu : Tryz.prog.underlying t = some (.slice e)) (hC : Tryz.prog.cellsOf e = k)
    (one : ∀ (fuel : Nat) (cs : List Value) (y : DataW H × List MemPlace), DataW.trod enc Tryz.prog W 0 (fun _ => true) held fuel e cs = some y → cs.length = k → (∀ p ∈ y.2, p.block < W.heap.size) → ∃ a : α, cs = El.cells a ∧ Q a)
    (h : DataW.trod enc Tryz.prog W 0 (fun _ => true) held fuel t cs = some x) (hlt : ∀ p ∈ x.2, p.block < W.heap.size) : ∃ (A : Option Addr) (c : Nat) (l : List α), cs = [.slice A l.length c] ∧ Lst W W.heap.size A l ∧ ∀ a ∈ l, Q a := by
  have hk : 0 < k := El.pos (α := α)
  rcases open_slice hu h with ⟨hc, _⟩ | ⟨a, len, cap, m, fu, D, Pl, hc, _, hle, hcap, hm, hx, hat⟩
  · exact ⟨none, 0, [], hc, Lst.nil _ _ _, fun q hq => (by cases hq)⟩
  · have hm' : m = cap := by simpa using hm
    subst hm'
    have hcell : ∀ i, i < len → ∃ q : α, (∀ j v, (El.cells q)[j]? = some v → W.cell? ((a.add (i * k)).add j) = some v) ∧ Q q := by
      intro i hi
      obtain ⟨cs', hcs, ht⟩ := hat i (by omega)
      rw [hC] at hcs
      obtain ⟨_, hl, hcl⟩ := World.cells?_some hcs
      obtain ⟨q, he, hq⟩ := one fu cs' _ ht (by simpa using hl) (fun p hp => hlt p (by
        rw [hx]
        exact List.mem_append_right _ (List.mem_flatMap.2 ⟨i, List.mem_range.2 (by omega), hp⟩)))
      refine ⟨q, fun j v hj => ?_, hq⟩
      have hjk : j < k := by
        have := (List.getElem?_eq_some_iff.1 hj).1
        rwa [El.len] at this
      rw [← he] at hj
      have := hcl j (by omega)
      rw [this]
      have hlk : cs'.length = k := by simpa using hl
      rw [List.getElem?_eq_getElem (by omega)] at hj
      simpa [List.getD, List.getElem?_eq_getElem (show j < cs'.length by omega)] using hj
    obtain ⟨l, hl, hp⟩ := list_of (El.o (α := α)) len hcell
    subst hl
    refine ⟨some a, m, l, hc, ⟨by rw [El.all_length], fun hn => ?_⟩, fun q hq => ?_⟩
    · have h0 : (El.cells (Ck.at_ El.o l 0))[0]? = some ((El.cells (Ck.at_ El.o l 0))[0]'(by rw [El.len]; exact hk)) := List.getElem?_eq_getElem _
      have hs : a.spot = none := by
        have := World.cell?_spot ((hp 0 hn).1 0 _ h0)
        simpa [Addr.add] using this
      obtain ⟨b, o, sp⟩ := a
      simp only at hs
      subst hs
      refine ⟨b, o, rfl, ?_, fun j u hj => ?_⟩
      · have : MemPlace.cell b o ∈ x.2 := by
          rw [hx]
          refine List.mem_append_left _ ?_
          rw [hC]
          exact List.mem_map.2 ⟨0, by simp only [List.mem_range]; exact Nat.mul_pos (by omega) hk, rfl⟩
        exact hlt _ this
      · have hjl := (List.getElem?_eq_some_iff.1 hj).1
        rw [El.all_length] at hjl
        have e1 : j = j / k * k + j % k := by rw [Nat.mul_comm]; exact (Nat.div_add_mod j k).symm
        have hr : j % k < k := Nat.mod_lt _ hk
        have hi : j / k < l.length := Nat.div_lt_of_lt_mul (by rw [Nat.mul_comm]; exact hjl)
        generalize j / k = i at *
        generalize j % k = r at *
        subst e1
        rw [El.all_get l i hi r hr] at hj
        have hh := (hp i hi).1 r u hj
        simp only [add_at] at hh
        rw [← Nat.add_assoc]
        exact hh
    · obtain ⟨i, hi, rfl⟩ := List.mem_iff_getElem.1 hq
      have hh := (hp i hi).2
      rwa [Ck.at_eq _ l i hi] at hh
theorem open_int1 {fuel : Nat} {cs : List Value} {x : DataW H × List MemPlace} (h : DataW.trod enc Tryz.prog W 0 (fun _ => true) held fuel 3 cs = some x) (_ : cs.length = 1) (_ : ∀ p ∈ x.2, p.block < W.heap.size) : ∃ a : Int, cs = El.cells a ∧ True := by
  obtain ⟨n, e, _, _⟩ := DataW.trod_int Tryz.underlying3 h
  exact ⟨n, e, trivial⟩
theorem open_run {fuel : Nat} {cs : List Value} {x : DataW H × List MemPlace} (h : DataW.trod enc Tryz.prog W 0 (fun _ => true) held fuel 78 cs = some x) (hsz : cs.length = 2) (hlt : ∀ p ∈ x.2, p.block < W.heap.size) : ∃ a : Ck.Run, cs = El.cells a ∧ (fun _ => True) a := by
  obtain ⟨xs, n, _, hx, _, hxl, hg⟩ := DataW.trod_struct Tryz.underlying78 h
  have hC0 : Tryz.prog.cellsOf 3 = 1 := by kernel_rfl
  match cs, hsz, xs, hxl with
  | [c0, c1], _, [y0, y1], _ =>
    have hp : x.2 = ([y0, y1] : List (DataW H × List MemPlace)).flatMap Prod.snd := by rw [hx]
    have h0 : DataW.trod enc Tryz.prog W 0 (fun _ => true) held n 3 (List.take (Tryz.prog.cellsOf 3) (List.drop 0 [c0, c1])) = some y0 := hg 0 _ rfl
    have h1 : DataW.trod enc Tryz.prog W 0 (fun _ => true) held n 3 (List.take (Tryz.prog.cellsOf 3) (List.drop 1 [c0, c1])) = some y1 := hg 1 _ rfl
    rw [hC0] at h0
    obtain ⟨f0, e0, _, _⟩ := DataW.trod_int Tryz.underlying3 (x := y0) h0
    rw [hC0] at h1
    obtain ⟨f1, e1, _, _⟩ := DataW.trod_int Tryz.underlying3 (x := y1) h1
    simp at e0
    subst e0
    simp at e1
    subst e1
    exact ⟨⟨f0, f1⟩, rfl, trivial⟩
theorem open_ref {fuel : Nat} {cs : List Value} {x : DataW H × List MemPlace} (h : DataW.trod enc Tryz.prog W 0 (fun _ => true) held fuel 61 cs = some x) (hsz : cs.length = 2) (hlt : ∀ p ∈ x.2, p.block < W.heap.size) : ∃ a : Ck.Ref, cs = [.int .i64 a.r, .int .i64 a.q] := by
  obtain ⟨xs, n, _, hx, _, hxl, hg⟩ := DataW.trod_struct Tryz.underlying61 h
  have hC0 : Tryz.prog.cellsOf 3 = 1 := by kernel_rfl
  match cs, hsz, xs, hxl with
  | [c0, c1], _, [y0, y1], _ =>
    have hp : x.2 = ([y0, y1] : List (DataW H × List MemPlace)).flatMap Prod.snd := by rw [hx]
    have h0 : DataW.trod enc Tryz.prog W 0 (fun _ => true) held n 3 (List.take (Tryz.prog.cellsOf 3) (List.drop 0 [c0, c1])) = some y0 := hg 0 _ rfl
    have h1 : DataW.trod enc Tryz.prog W 0 (fun _ => true) held n 3 (List.take (Tryz.prog.cellsOf 3) (List.drop 1 [c0, c1])) = some y1 := hg 1 _ rfl
    rw [hC0] at h0
    obtain ⟨f0, e0, _, _⟩ := DataW.trod_int Tryz.underlying3 (x := y0) h0
    rw [hC0] at h1
    obtain ⟨f1, e1, _, _⟩ := DataW.trod_int Tryz.underlying3 (x := y1) h1
    simp at e0
    subst e0
    simp at e1
    subst e1
    exact ⟨⟨f0, f1⟩, rfl⟩
theorem open_nm {fuel : Nat} {cs : List Value} {x : DataW H × List MemPlace} (h : DataW.trod enc Tryz.prog W 0 (fun _ => true) held fuel 71 cs = some x) (hsz : cs.length = 3) (hlt : ∀ p ∈ x.2, p.block < W.heap.size) : ∃ a : Ck.Nm, cs = El.cells a ∧ (fun _ => True) a := by
  obtain ⟨xs, n, _, hx, _, hxl, hg⟩ := DataW.trod_struct Tryz.underlying71 h
  have hC0 : Tryz.prog.cellsOf 61 = 2 := by kernel_rfl
  have hC1 : Tryz.prog.cellsOf 9 = 1 := by kernel_rfl
  match cs, hsz, xs, hxl with
  | [c0, c1, c2], _, [y0, y1], _ =>
    have hp : x.2 = ([y0, y1] : List (DataW H × List MemPlace)).flatMap Prod.snd := by rw [hx]
    have h0 : DataW.trod enc Tryz.prog W 0 (fun _ => true) held n 61 (List.take (Tryz.prog.cellsOf 61) (List.drop 0 [c0, c1, c2])) = some y0 := hg 0 _ rfl
    have h1 : DataW.trod enc Tryz.prog W 0 (fun _ => true) held n 9 (List.take (Tryz.prog.cellsOf 9) (List.drop 2 [c0, c1, c2])) = some y1 := hg 1 _ rfl
    rw [hC0] at h0
    obtain ⟨f0, e0⟩ := open_ref (x := y0) h0 rfl (fun p hp2 => hlt p (by rw [hp]; simp [hp2]))
    replace e0 : [c0, c1] = [.int .i64 f0.r, .int .i64 f0.q] := e0
    rw [hC1] at h1
    obtain ⟨f1, e1, _, _⟩ := DataW.trod_string Tryz.underlying9 (x := y1) h1
    obtain ⟨rfl, rfl⟩ : c0 = .int .i64 f0.r ∧ c1 = .int .i64 f0.q := by simpa using e0
    simp at e1
    subst e1
    exact ⟨⟨f0, f1.data.toList⟩, rfl, trivial⟩
theorem open_en {fuel : Nat} {cs : List Value} {x : DataW H × List MemPlace} (h : DataW.trod enc Tryz.prog W 0 (fun _ => true) held fuel 73 cs = some x) (hsz : cs.length = 4) (hlt : ∀ p ∈ x.2, p.block < W.heap.size) : ∃ a : Ck.En, cs = El.cells a ∧ (fun _ => True) a := by
  obtain ⟨xs, n, _, hx, _, hxl, hg⟩ := DataW.trod_struct Tryz.underlying73 h
  have hC0 : Tryz.prog.cellsOf 9 = 1 := by kernel_rfl
  have hC1 : Tryz.prog.cellsOf 61 = 2 := by kernel_rfl
  have hC2 : Tryz.prog.cellsOf 3 = 1 := by kernel_rfl
  match cs, hsz, xs, hxl with
  | [c0, c1, c2, c3], _, [y0, y1, y2], _ =>
    have hp : x.2 = ([y0, y1, y2] : List (DataW H × List MemPlace)).flatMap Prod.snd := by rw [hx]
    have h0 : DataW.trod enc Tryz.prog W 0 (fun _ => true) held n 9 (List.take (Tryz.prog.cellsOf 9) (List.drop 0 [c0, c1, c2, c3])) = some y0 := hg 0 _ rfl
    have h1 : DataW.trod enc Tryz.prog W 0 (fun _ => true) held n 61 (List.take (Tryz.prog.cellsOf 61) (List.drop 1 [c0, c1, c2, c3])) = some y1 := hg 1 _ rfl
    have h2 : DataW.trod enc Tryz.prog W 0 (fun _ => true) held n 3 (List.take (Tryz.prog.cellsOf 3) (List.drop 3 [c0, c1, c2, c3])) = some y2 := hg 2 _ rfl
    rw [hC0] at h0
    obtain ⟨f0, e0, _, _⟩ := DataW.trod_string Tryz.underlying9 (x := y0) h0
    rw [hC1] at h1
    obtain ⟨f1, e1⟩ := open_ref (x := y1) h1 rfl (fun p hp2 => hlt p (by rw [hp]; simp [hp2]))
    replace e1 : [c1, c2] = [.int .i64 f1.r, .int .i64 f1.q] := e1
    rw [hC2] at h2
    obtain ⟨f2, e2, _, _⟩ := DataW.trod_int Tryz.underlying3 (x := y2) h2
    simp at e0
    subst e0
    obtain ⟨rfl, rfl⟩ : c1 = .int .i64 f1.r ∧ c2 = .int .i64 f1.q := by simpa using e1
    simp at e2
    subst e2
    exact ⟨⟨f0.data.toList, f1, f2⟩, rfl, trivial⟩
theorem open_sm {fuel : Nat} {cs : List Value} {x : DataW H × List MemPlace} (h : DataW.trod enc Tryz.prog W 0 (fun _ => true) held fuel 80 cs = some x) (hsz : cs.length = 2) (hlt : ∀ p ∈ x.2, p.block < W.heap.size) : ∃ a : Ck.VSm, cs = El.cells a ∧ (fun a => a.At W W.heap.size) a := by
  obtain ⟨xs, n, _, hx, _, hxl, hg⟩ := DataW.trod_struct Tryz.underlying80 h
  have hC0 : Tryz.prog.cellsOf 22 = 1 := by kernel_rfl
  have hC1 : Tryz.prog.cellsOf 3 = 1 := by kernel_rfl
  match cs, hsz, xs, hxl with
  | [c0, c1], _, [y0, y1], _ =>
    have hp : x.2 = ([y0, y1] : List (DataW H × List MemPlace)).flatMap Prod.snd := by rw [hx]
    have h0 : DataW.trod enc Tryz.prog W 0 (fun _ => true) held n 22 (List.take (Tryz.prog.cellsOf 22) (List.drop 0 [c0, c1])) = some y0 := hg 0 _ rfl
    have h1 : DataW.trod enc Tryz.prog W 0 (fun _ => true) held n 3 (List.take (Tryz.prog.cellsOf 3) (List.drop 1 [c0, c1])) = some y1 := hg 1 _ rfl
    rw [hC0] at h0
    obtain ⟨Af0, kf0, f0, e0, a0, q0⟩ := open_list (α := Ck.Run) (fun _ => True) Tryz.underlying22 (by kernel_rfl) (fun _ _ _ => open_run) (x := y0) h0 (fun p hp2 => hlt p (by rw [hp]; simp [hp2]))
    rw [hC1] at h1
    obtain ⟨f1, e1, _, _⟩ := DataW.trod_int Tryz.underlying3 (x := y1) h1
    simp at e0
    subst e0
    simp at e1
    subst e1
    exact ⟨⟨f0, f1, Af0, kf0⟩, rfl, a0⟩
theorem open_rc {fuel : Nat} {cs : List Value} {x : DataW H × List MemPlace} (h : DataW.trod enc Tryz.prog W 0 (fun _ => true) held fuel 66 cs = some x) (hsz : cs.length = 10) (hlt : ∀ p ∈ x.2, p.block < W.heap.size) : ∃ a : Ck.VRc, cs = El.cells a ∧ (fun a => a.At W W.heap.size) a := by
  obtain ⟨xs, n, _, hx, _, hxl, hg⟩ := DataW.trod_struct Tryz.underlying66 h
  have hC0 : Tryz.prog.cellsOf 4 = 1 := by kernel_rfl
  have hC1 : Tryz.prog.cellsOf 3 = 1 := by kernel_rfl
  have hC2 : Tryz.prog.cellsOf 61 = 2 := by kernel_rfl
  have hC3 : Tryz.prog.cellsOf 62 = 1 := by kernel_rfl
  have hC4 : Tryz.prog.cellsOf 63 = 1 := by kernel_rfl
  have hC5 : Tryz.prog.cellsOf 64 = 1 := by kernel_rfl
  match cs, hsz, xs, hxl with
  | [c0, c1, c2, c3, c4, c5, c6, c7, c8, c9], _, [y0, y1, y2, y3, y4, y5, y6, y7, y8], _ =>
    have hp : x.2 = ([y0, y1, y2, y3, y4, y5, y6, y7, y8] : List (DataW H × List MemPlace)).flatMap Prod.snd := by rw [hx]
    have h0 : DataW.trod enc Tryz.prog W 0 (fun _ => true) held n 4 (List.take (Tryz.prog.cellsOf 4) (List.drop 0 [c0, c1, c2, c3, c4, c5, c6, c7, c8, c9])) = some y0 := hg 0 _ rfl
    have h1 : DataW.trod enc Tryz.prog W 0 (fun _ => true) held n 3 (List.take (Tryz.prog.cellsOf 3) (List.drop 1 [c0, c1, c2, c3, c4, c5, c6, c7, c8, c9])) = some y1 := hg 1 _ rfl
    have h2 : DataW.trod enc Tryz.prog W 0 (fun _ => true) held n 3 (List.take (Tryz.prog.cellsOf 3) (List.drop 2 [c0, c1, c2, c3, c4, c5, c6, c7, c8, c9])) = some y2 := hg 2 _ rfl
    have h3 : DataW.trod enc Tryz.prog W 0 (fun _ => true) held n 61 (List.take (Tryz.prog.cellsOf 61) (List.drop 3 [c0, c1, c2, c3, c4, c5, c6, c7, c8, c9])) = some y3 := hg 3 _ rfl
    have h4 : DataW.trod enc Tryz.prog W 0 (fun _ => true) held n 3 (List.take (Tryz.prog.cellsOf 3) (List.drop 5 [c0, c1, c2, c3, c4, c5, c6, c7, c8, c9])) = some y4 := hg 4 _ rfl
    have h5 : DataW.trod enc Tryz.prog W 0 (fun _ => true) held n 3 (List.take (Tryz.prog.cellsOf 3) (List.drop 6 [c0, c1, c2, c3, c4, c5, c6, c7, c8, c9])) = some y5 := hg 5 _ rfl
    have h6 : DataW.trod enc Tryz.prog W 0 (fun _ => true) held n 62 (List.take (Tryz.prog.cellsOf 62) (List.drop 7 [c0, c1, c2, c3, c4, c5, c6, c7, c8, c9])) = some y6 := hg 6 _ rfl
    have h7 : DataW.trod enc Tryz.prog W 0 (fun _ => true) held n 63 (List.take (Tryz.prog.cellsOf 63) (List.drop 8 [c0, c1, c2, c3, c4, c5, c6, c7, c8, c9])) = some y7 := hg 7 _ rfl
    have h8 : DataW.trod enc Tryz.prog W 0 (fun _ => true) held n 64 (List.take (Tryz.prog.cellsOf 64) (List.drop 9 [c0, c1, c2, c3, c4, c5, c6, c7, c8, c9])) = some y8 := hg 8 _ rfl
    rw [hC0] at h0
    obtain ⟨f0, e0, _⟩ := DataW.trod_bool Tryz.underlying4 (x := y0) h0
    rw [hC1] at h1
    obtain ⟨f1, e1, _, _⟩ := DataW.trod_int Tryz.underlying3 (x := y1) h1
    rw [hC1] at h2
    obtain ⟨f2, e2, _, _⟩ := DataW.trod_int Tryz.underlying3 (x := y2) h2
    rw [hC2] at h3
    obtain ⟨f3, e3⟩ := open_ref (x := y3) h3 rfl (fun p hp2 => hlt p (by rw [hp]; simp [hp2]))
    replace e3 : [c3, c4] = [.int .i64 f3.r, .int .i64 f3.q] := e3
    rw [hC1] at h4
    obtain ⟨f4, e4, _, _⟩ := DataW.trod_int Tryz.underlying3 (x := y4) h4
    rw [hC1] at h5
    obtain ⟨f5, e5, _, _⟩ := DataW.trod_int Tryz.underlying3 (x := y5) h5
    rw [hC3] at h6
    obtain ⟨Af6, kf6, f6, e6, a6, q6⟩ := open_list (α := Ck.Nm) (fun _ => True) Tryz.underlying62 (by kernel_rfl) (fun _ _ _ => open_nm) (x := y6) h6 (fun p hp2 => hlt p (by rw [hp]; simp [hp2]))
    rw [hC4] at h7
    obtain ⟨Af7, kf7, f7, e7, a7, q7⟩ := open_list (α := Ck.VSm) (fun a => a.At W W.heap.size) Tryz.underlying63 (by kernel_rfl) (fun _ _ _ => open_sm) (x := y7) h7 (fun p hp2 => hlt p (by rw [hp]; simp [hp2]))
    rw [hC5] at h8
    obtain ⟨Af8, kf8, f8, e8, a8, q8⟩ := open_list (α := Ck.En) (fun _ => True) Tryz.underlying64 (by kernel_rfl) (fun _ _ _ => open_en) (x := y8) h8 (fun p hp2 => hlt p (by rw [hp]; simp [hp2]))
    simp at e0
    subst e0
    simp at e1
    subst e1
    simp at e2
    subst e2
    obtain ⟨rfl, rfl⟩ : c3 = .int .i64 f3.r ∧ c4 = .int .i64 f3.q := by simpa using e3
    simp at e4
    subst e4
    simp at e5
    subst e5
    simp at e6
    subst e6
    simp at e7
    subst e7
    simp at e8
    subst e8
    exact ⟨⟨f0, f1, f2, f3, f4, f5, f6, f7, f8, Af6, kf6, Af7, kf7, Af8, kf8⟩, rfl, ⟨a6, a7, q7, a8⟩⟩
theorem open_pt {fuel : Nat} {cs : List Value} {x : DataW H × List MemPlace} (h : DataW.trod enc Tryz.prog W 0 (fun _ => true) held fuel 26 cs = some x) (hsz : cs.length = 5) (hlt : ∀ p ∈ x.2, p.block < W.heap.size) : ∃ a : Ck.VPt, cs = [.int .i64 a.c, .slice a.Aa a.al.length a.ca, .slice a.Ar a.rs.length a.cr, .slice a.Ad a.ds.length a.cd, .string ⟨a.mp.toArray⟩] ∧ a.At W W.heap.size := by
  obtain ⟨xs, n, _, hx, _, hxl, hg⟩ := DataW.trod_struct Tryz.underlying26 h
  have hC0 : Tryz.prog.cellsOf 3 = 1 := by kernel_rfl
  have hC1 : Tryz.prog.cellsOf 22 = 1 := by kernel_rfl
  have hC2 : Tryz.prog.cellsOf 23 = 1 := by kernel_rfl
  have hC3 : Tryz.prog.cellsOf 24 = 1 := by kernel_rfl
  have hC4 : Tryz.prog.cellsOf 9 = 1 := by kernel_rfl
  match cs, hsz, xs, hxl with
  | [c0, c1, c2, c3, c4], _, [y0, y1, y2, y3, y4], _ =>
    have hp : x.2 = ([y0, y1, y2, y3, y4] : List (DataW H × List MemPlace)).flatMap Prod.snd := by rw [hx]
    have h0 : DataW.trod enc Tryz.prog W 0 (fun _ => true) held n 3 (List.take (Tryz.prog.cellsOf 3) (List.drop 0 [c0, c1, c2, c3, c4])) = some y0 := hg 0 _ rfl
    have h1 : DataW.trod enc Tryz.prog W 0 (fun _ => true) held n 22 (List.take (Tryz.prog.cellsOf 22) (List.drop 1 [c0, c1, c2, c3, c4])) = some y1 := hg 1 _ rfl
    have h2 : DataW.trod enc Tryz.prog W 0 (fun _ => true) held n 23 (List.take (Tryz.prog.cellsOf 23) (List.drop 2 [c0, c1, c2, c3, c4])) = some y2 := hg 2 _ rfl
    have h3 : DataW.trod enc Tryz.prog W 0 (fun _ => true) held n 24 (List.take (Tryz.prog.cellsOf 24) (List.drop 3 [c0, c1, c2, c3, c4])) = some y3 := hg 3 _ rfl
    have h4 : DataW.trod enc Tryz.prog W 0 (fun _ => true) held n 9 (List.take (Tryz.prog.cellsOf 9) (List.drop 4 [c0, c1, c2, c3, c4])) = some y4 := hg 4 _ rfl
    rw [hC0] at h0
    obtain ⟨f0, e0, _, _⟩ := DataW.trod_int Tryz.underlying3 (x := y0) h0
    rw [hC1] at h1
    obtain ⟨Af1, kf1, f1, e1, a1, q1⟩ := open_list (α := Ck.Run) (fun _ => True) Tryz.underlying22 (by kernel_rfl) (fun _ _ _ => open_run) (x := y1) h1 (fun p hp2 => hlt p (by rw [hp]; simp [hp2]))
    rw [hC2] at h2
    obtain ⟨Af2, kf2, f2, e2, a2, q2⟩ := open_list (α := Ck.VRc) (fun a => a.At W W.heap.size) Tryz.underlying23 (by kernel_rfl) (fun _ _ _ => open_rc) (x := y2) h2 (fun p hp2 => hlt p (by rw [hp]; simp [hp2]))
    rw [hC3] at h3
    obtain ⟨Af3, kf3, f3, e3, a3, q3⟩ := open_list (α := Int) (fun _ => True) Tryz.underlying24 (by kernel_rfl) (fun _ _ _ => open_int1) (x := y3) h3 (fun p hp2 => hlt p (by rw [hp]; simp [hp2]))
    rw [hC4] at h4
    obtain ⟨f4, e4, _, _⟩ := DataW.trod_string Tryz.underlying9 (x := y4) h4
    simp at e0
    subst e0
    simp at e1
    subst e1
    simp at e2
    subst e2
    simp at e3
    subst e3
    simp at e4
    subst e4
    exact ⟨⟨f0, f1, f2, f3, f4.data.toList, Af1, kf1, Af2, kf2, Af3, kf3⟩, rfl, ⟨a1, a2, q2, a3⟩⟩
theorem open_partsV {v : Value} {d : DataW H} {p : List MemPlace} {r : Reach} {b0 : Nat} (hv : Value.okWide Tryz.prog W r b0 26 v) (h : DataW.Trod enc Tryz.prog W 0 (fun _ => true) held 26 v d p) (hlt : ∀ x ∈ p, x.block < W.heap.size) :
    ∃ a : Ck.VPt, v = a.val ∧ a.At W W.heap.size := by
  obtain ⟨cs, rfl, hsz⟩ := okWide_struct Tryz.underlying26 hv
  obtain ⟨fuel, hf⟩ := h
  have hC : Tryz.prog.cellsOf 26 = 5 := by kernel_rfl
  rw [hC] at hsz
  obtain ⟨a, ha, hA⟩ := open_pt hf (by simpa [Value.cells] using hsz) hlt
  refine ⟨a, ?_, hA⟩
  have ha : cs.toList = _ := ha
  show Value.agg cs = Value.agg _
  exact congrArg Value.agg (by rw [← Array.toArray_toList (xs := cs), ha])
end
end Go.Proofs.YtgcjejajljhnaaaGreatDoor
namespace Go
variable {H : Type} {enc : TypeId × Value → H}
theorem returnsInHanded_of_change_both {a : Assume} {C : Checked} {os : Os} {f : FuncId} {fn : Func} {s : ChangeSpec} {conds : List PathCond} {apart fresh handsOn again : Bool} {X : World → Array Value → Prop}
    (hX : ∀ (w w' : World) (args : Array Value), w.heap = w'.heap → X w args → X w' args)
    (own : ownKnob C.prog.godebug = none) (started : os.Started) (noInit : C.prog.inits.idxOf? f = none) (hfn : C.prog.funcs[f]? = some fn)
    (witness : ∃ (w : World) (tape : Tape) (i : Input), w.os = os ∧ (w.forCall tape i).Shaped C.prog ∧ i.vars = [] ∧ Input.okWide C.prog (w.forCall tape i) .any w.heap.size f i ∧
      ((s.pre enc C.prog fn conds apart (w.forCall tape i).memory i.args ∧ X (w.forCall tape i).memory i.args) ∧ sizedMet enc C.prog fn (OpenSpec.ofChange s) apart (w.forCall tape i).memory i.args) ∧ a.holds C.prog (lone (Frame.enter C.prog f i.args .normal) [] (w.forCall tape i)))
    (contract : ∀ (W : World) (base : Nat) (args : Array Value) (ds gs : List (DataW H)) (before : List MemPlace),
      (∀ (j : Nat) t v, fn.params[j]? = some t → args[j]? = some v → Value.okWide C.prog W .any base t v) →
      DataW.Whole enc C.prog fn.params.toList s.vars apart W args.toList ds gs before →
      conds.all (PathCond.test C.prog ⟨fn.params.toList, ds, s.plain.varTypes C.prog, gs⟩) = true →
      (DataW.weightsEach C.prog (fn.params.toList ++ s.plain.varTypes C.prog) (ds ++ gs)).all (· ≤ reachBytes) = true → X W args → W.ShapedOpen C.prog →
      a.holds C.prog (lone (Frame.enter C.prog f args .normal) [] W) →
      Calls C.prog f args W fun e W' => ∃ v, e = .returned v ∧ s.post enc C.prog fn apart fresh handsOn again W args v W') :
    ReturnsInHanded a C os f .any (fun w args => (s.pre enc C.prog fn conds apart w args ∧ X w args) ∧ sizedMet enc C.prog fn (OpenSpec.ofChange s) apart w args) (s.post enc C.prog fn apart fresh handsOn again) := by
  refine returnsInHanded_of_calls own started noInit witness ?_
  intro w tape i _ hsh _ hok hpre hholds
  obtain ⟨_, _, _, fn', hfn', _, _, _, _, hval⟩ := hok
  have e : fn' = fn := Option.some.inj (hfn'.symm.trans hfn)
  subst e
  obtain ⟨⟨⟨ds, gs, before, hw, hc⟩, hx⟩, hz⟩ := hpre
  have hw' := DataW.Whole.of_heap (w' := w.forCall tape i) (by rfl) hw
  refine (contract (w.forCall tape i) w.heap.size i.args ds gs before hval hw' hc (hz.weights hw) (hX _ _ _ (by rfl) hx) hsh hholds).mono fun e W' ⟨v, he, hp⟩ => ?_
  subst he
  exact ChangeSpec.post_blind hp
end Go
namespace Go.Proofs.YtgcjejajljhnaaaGreatDoor
open Go.RowKit Go.ChangeShapes
theorem starW : "*" ++ "errors.errorString" = "*errors.errorString" := by decide
theorem rowErr (u : TypeId) (h : Tryz.prog.typeName? 3 u = some "*errors.errorString") : u = 235 :=
  typeName_ptr_named (nm := "errors.errorString") (by rw [starW]; kernel_rfl) (by kernel_rfl) (by decide) u (by rw [starW]; exact h)
theorem env_of_laid {W : World} (hL : laidMetH Tryz.prog Rows.checkerStringsRow.laid W) (hsh : W.ShapedOpen Tryz.prog) : Env W := by
  rw [MakeChecks.laidMetH_plain Tryz.prog Rows.checkerStringsRow.laid W (by kernel_rfl)] at hL
  have h2 := hL.tail.tail
  have h4 := h2.tail.tail
  have h5 := h4.tail
  have e0 : Tryz.prog.globalNamed "internal/strconv.uint64pow10" = some 0 := by kernel_rfl
  have t0 : (Tryz.prog.globals[0]?).map (·.type) = some 214 := by kernel_rfl
  have d0 : (Rows.laid_internal_strconv_uint64pow10 : DataW Unit) = Lib.tabData .u64 Lib.pow10Tab := by kernel_rfl
  have h3 : laidMet Tryz.prog (("internal/strconv.uint64pow10", Lib.tabData .u64 Lib.pow10Tab) :: [("unicode/utf8.acceptRanges", Rows.laid_unicode_utf8_acceptRanges), ("strconv.ErrRange", Rows.laid_strconv_ErrRange), ("strconv.ErrSyntax", Rows.laid_strconv_ErrSyntax), ("unicode/utf8.first", Rows.laid_unicode_utf8_first)]) W := by
    rw [← d0]; exact h2
  have htab : Lib.TabIs Tryz.prog W "internal/strconv.uint64pow10" .u64 Lib.pow10Tab :=
    Lib.tabIs_of_head (n := 20) (e := 196) e0 t0 (by kernel_rfl) (by kernel_rfl) (by kernel_rfl) (by kernel_rfl) h3
  have e3 : Tryz.prog.globalNamed "strconv.ErrRange" = some 3 := by kernel_rfl
  have t3 : (Tryz.prog.globals[3]?).map (·.type) = some 152 := by kernel_rfl
  obtain ⟨a3, s3, v3, _⟩ := laid_sentinel (te := 237) (ts := 9) h4 e3 t3 Tryz.underlying152 rowErr Tryz.underlying235 Tryz.underlying237 rfl rfl Tryz.underlying9 (by kernel_rfl) (by kernel_rfl)
  have e2 : Tryz.prog.globalNamed "strconv.ErrSyntax" = some 2 := by kernel_rfl
  have t2 : (Tryz.prog.globals[2]?).map (·.type) = some 152 := by kernel_rfl
  obtain ⟨a2, s2, v2, _⟩ := laid_sentinel (te := 237) (ts := 9) h5 e2 t2 Tryz.underlying152 rowErr Tryz.underlying235 Tryz.underlying237 rfl rfl Tryz.underlying9 (by kernel_rfl) (by kernel_rfl)
  have hm := cell_of_shapedOpen_int (g := 1) (zero := #[.int .i64 0]) (t := 3) hsh (of_decide_eq_true (by kernel_rfl)) (by kernel_rfl) rfl (by kernel_rfl) (by kernel_rfl) Tryz.underlying3
  have c3 := World.var?_cell e3 v3 0
  have c2 := World.var?_cell e2 v2 0
  exact ⟨htab, hm, ⟨_, c2, .inr ⟨_, _, rfl⟩⟩, ⟨_, c3, .inr ⟨_, _, rfl⟩⟩⟩
end Go.Proofs.YtgcjejajljhnaaaGreatDoor
