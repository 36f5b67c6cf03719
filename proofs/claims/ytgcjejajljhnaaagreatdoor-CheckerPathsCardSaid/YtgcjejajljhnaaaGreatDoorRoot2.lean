/- Own text, part Root 2: walks of the package acl and of its reference, and the plain laws that they lean on; no statement of the seat is here. -/
import Derived.Test.YtgcjejajljhnaaaGreatDoorRoot1
import Derived.Shelf.Small.Strs
import Derived.Shelf.Strconv.Itoa0
import Derived.Shelf.Strconv.Itoa1
import Derived.Shelf.LaysM
import Derived.Shelf.Strconv.Itoa2
import Derived.Shelf.Strconv.Itoa3
import Derived.Shelf.Strings.Prefix
import Derived.Ground.Names2Prog
import Derived.Ground.SlgnProg
import Derived.Test.YtgcjejajljhnaaaGreatDoorProg
set_option linter.all false
namespace Go.Proofs.YtgcjejajljhnaaaGreatDoor
open Go.RowKit Go.Hp
set_option maxHeartbeats 1000000 in
theorem IndexFuncR_any (A : Option Addr) (c B : Nat) (l : List Ck.Run) (kf : FuncId) (caps : Array Value) (p : Ck.Run → Bool) (w : World) (h1 : Lst w B A l) (hB1 : B ≤ w.heap.size) (hn : l.length ≤ 100000)
    (hk : ∀ (args : Array Value) (W : World), (callFunc kf args).run Tryz.prog W = .ok (.enter kf args) W)
    (hf : ∀ W x, x ∈ l → Below w.heap.size w W → Calls Tryz.prog kf (#[.agg (El.cells x).toArray] ++ caps) W fun e w' => e = .returned (.bool (p x)) ∧ Below W.heap.size W w') :
    Calls Tryz.prog 169 #[.slice A l.length c, .func (.func kf) #[] caps] w fun e w' => e = .returned (.int .i64 (Ck.idxF p 0 l)) ∧ Below w.heap.size w w' := by
  have H1 := Lib.hid h1
  have HF := Lib.hid hf
  clear h1 hf
  obtain ⟨n, en⟩ : ∃ n, n = l.length := ⟨_, rfl⟩
  have e1 := Lib.hid en
  rw [← en] at hn ⊢
  clear en
  have st := St.start w
  go_enter Tryz.func169, Tryz.ntmps169
  go_wp2_with (refine WL.out ?_; (repeat ((refine WL.op ?_ ?_; (exact rfl); intro K hK; (first | ((((with_reducible apply ow_move); exact rfl)); (go_simp <;> (try simp (disch := omega) only [wrap_id, sub_left, zac]) <;> rfl)) | ((with_reducible apply ow_eval); (go_simp <;> (try simp (disch := omega) only [wrap_id, sub_left, zac]) <;> rfl); ((with_reducible apply up_value)))); refine WL.next hK (by simp only [Act.put, zpt, zsz, zss]; exact rfl) ?_; clear hK K))); (try refine WL.nil ?_))
  go_loopw [8] (fun i wr => ∃ k : Nat, k ≤ n ∧ i = .int .i64 k ∧ St w wr [] ∧ Hid (Ck.idxF p 0 l = Ck.idxF p k (l.drop k))) (fun i _ => n - (intOf i).toNat)
  case atStart => exact ⟨0, by omega, rfl, st, rfl⟩
  case round =>
    clear st
    obtain ⟨k, hk, rfl, st, hs⟩ := hrel
    by_cases hlt : k < n
    · have hkl : Hid (k < l.length) := Lib.hid (by rw [← e1.out]; exact hlt)
      have hst := Lib.hid (Ck.idxF_step p l k hkl.out)
      have hmem := Lib.hid (Ck.at_mem El.o l k hkl.out)
      have hlt' := hlt
      rw [e1.out] at hlt
      obtain ⟨b1, o1, rfl, hb1, hc⟩ := H1.out.at_ (by omega)
      have hb1 := Nat.lt_of_lt_of_le hb1 hB1
      have f1 := hc k hlt
      clear hc
      replace hlt := hlt'
      clear hlt'
      obtain ⟨v, hv⟩ : ∃ v, v = p (Ck.at_ El.o l k) := ⟨_, rfl⟩
      have HV := Lib.hid hv
      clear hv
      cases v
      · have hs' : Hid (Ck.idxF p 0 l = Ck.idxF p (k + 1) (l.drop (k + 1))) := Lib.hid (by rw [hs.out, hst.out, ← HV.out]; rfl)
        go_wp2_with (refine WL.out ?_; (repeat ((refine WL.op ?_ ?_; (exact rfl); intro K hK; (first | ((((with_reducible apply ow_move); exact rfl)); (go_simp <;> (try simp (disch := omega) only [wrap_id, sub_left, zac]) <;> rfl)) | ((with_reducible apply ow_oldC st); exact rfl; exact inferInstance; exact rfl; assumption; assumption; exact rfl) | ((with_reducible apply ow_eval); (go_simp <;> (try simp (disch := omega) only [wrap_id, sub_left, zac]) <;> rfl); first | (with_reducible apply up_value) | ((with_reducible apply up_enter); ((refine (HF.out _ _ hmem.out st.below).mono ?_; rw [← HV.out]; rintro e w' ⟨rfl, hb⟩; replace st := st.call hb; clear hb; refine ⟨_, rfl, ?_⟩))))); refine WL.next hK (by simp only [Act.put, zpt, zsz, zss]; exact rfl) ?_; clear hK K))); (try refine WL.nil ?_))
        exact ⟨⟨k + 1, by omega, by go_num, st, hs'⟩, by simp [intOf]; omega⟩
      · have hs' : Hid (Ck.idxF p 0 l = k) := Lib.hid (by rw [hs.out, hst.out, ← HV.out]; rfl)
        go_wp2_with (refine WL.out ?_; (repeat ((refine WL.op ?_ ?_; (exact rfl); intro K hK; (first | ((with_reducible apply ow_oldC st); exact rfl; exact inferInstance; exact rfl; assumption; assumption; exact rfl) | ((with_reducible apply ow_eval); (go_simp <;> (try simp (disch := omega) only [wrap_id, sub_left, zac]) <;> rfl); first | (with_reducible apply up_value) | ((with_reducible apply up_enter); ((refine (HF.out _ _ hmem.out st.below).mono ?_; rw [← HV.out]; rintro e w' ⟨rfl, hb⟩; replace st := st.call hb; clear hb; refine ⟨_, rfl, ?_⟩))))); refine WL.next hK (by simp only [Act.put, zpt, zsz, zss]; exact rfl) ?_; clear hK K))); (try refine WL.nil ?_))
        go_ret
        exact ⟨Ck.ret_int hs'.out.symm, st.below⟩
    · have hs' : Hid (Ck.idxF p 0 l = -1) := Lib.hid (by rw [hs.out]; exact Ck.idxF_end p l k (by rw [← e1.out]; omega))
      go_wp2_with (refine WL.out ?_; (repeat ((refine WL.op ?_ ?_; (exact rfl); intro K hK; (((with_reducible apply ow_eval); (go_simp <;> (try simp (disch := omega) only [wrap_id, sub_left, zac]) <;> rfl); ((with_reducible apply up_value)))); refine WL.next hK (by simp only [Act.put, zpt, zsz, zss]; exact rfl) ?_; clear hK K))); (try refine WL.nil ?_))
      go_ret
      exact ⟨Ck.ret_int hs'.out.symm, st.below⟩
theorem ContainsFuncR_any (A : Option Addr) (c B : Nat) (l : List Ck.Run) (kf : FuncId) (caps : Array Value) (p : Ck.Run → Bool) (w : World) (h1 : Lst w B A l) (hB1 : B ≤ w.heap.size) (hn : l.length ≤ 100000)
    (hk : ∀ (args : Array Value) (W : World), (callFunc kf args).run Tryz.prog W = .ok (.enter kf args) W)
    (hf : ∀ W x, x ∈ l → Below w.heap.size w W → Calls Tryz.prog kf (#[.agg (El.cells x).toArray] ++ caps) W fun e w' => e = .returned (.bool (p x)) ∧ Below W.heap.size W w') :
    Calls Tryz.prog 136 #[.slice A l.length c, .func (.func kf) #[] caps] w fun e w' => e = .returned (.bool (l.any p)) ∧ Below w.heap.size w w' := by
  have H := Lib.hid fun W (hb : Below w.heap.size w W) => IndexFuncR_any A c B l kf caps p W (h1.below hb hB1) (Nat.le_trans hB1 hb.size) hn hk (fun W' x hx hb' => hf W' x hx (hb.trans (hb'.mono hb.size)))
  clear h1 hf hn
  have HA := Lib.hid (Ck.idxF_any p 0 l)
  have st := St.start w
  go_enter Tryz.func136, Tryz.ntmps136
  go_wp2_with (refine WL.out ?_; (repeat ((refine WL.op ?_ ?_; (exact rfl); intro K hK; (first | ((((with_reducible apply ow_assign); exact rfl)); (go_simp <;> (try simp (disch := omega) only [wrap_id, sub_left, zac]) <;> rfl)) | ((with_reducible apply ow_eval); (go_simp <;> (try simp (disch := omega) only [wrap_id, sub_left, zac]) <;> rfl); first | (with_reducible apply up_value) | ((with_reducible apply up_enter); ((go_at_call 169; refine (H.out _ st.below).mono ?_; rintro e w' ⟨rfl, hb⟩; replace st := st.call hb; clear hb; refine ⟨_, rfl, ?_⟩))))); refine WL.next hK (by simp only [Act.put, zpt, zsz, zss]; exact rfl) ?_; clear hK K))); (try refine WL.nil ?_))
  go_ret
  exact ⟨Ck.ret_bool HA.out, st.below⟩
set_option maxHeartbeats 1000000 in
theorem IndexFuncE_any (A : Option Addr) (c B : Nat) (l : List Ck.En) (kf : FuncId) (caps : Array Value) (p : Ck.En → Bool) (w : World) (h1 : Lst w B A l) (hB1 : B ≤ w.heap.size) (hn : l.length ≤ 100000)
    (hk : ∀ (args : Array Value) (W : World), (callFunc kf args).run Tryz.prog W = .ok (.enter kf args) W)
    (hf : ∀ W x, x ∈ l → Below w.heap.size w W → Calls Tryz.prog kf (#[.agg (El.cells x).toArray] ++ caps) W fun e w' => e = .returned (.bool (p x)) ∧ Below W.heap.size W w') :
    Calls Tryz.prog 177 #[.slice A l.length c, .func (.func kf) #[] caps] w fun e w' => e = .returned (.int .i64 (Ck.idxF p 0 l)) ∧ Below w.heap.size w w' := by
  have H1 := Lib.hid h1
  have HF := Lib.hid hf
  clear h1 hf
  obtain ⟨n, en⟩ : ∃ n, n = l.length := ⟨_, rfl⟩
  have e1 := Lib.hid en
  rw [← en] at hn ⊢
  clear en
  have st := St.start w
  go_enter Tryz.func177, Tryz.ntmps177
  go_wp2_with (refine WL.out ?_; (repeat ((refine WL.op ?_ ?_; (exact rfl); intro K hK; (first | ((((with_reducible apply ow_move); exact rfl)); (go_simp <;> (try simp (disch := omega) only [wrap_id, sub_left, zac]) <;> rfl)) | ((with_reducible apply ow_eval); (go_simp <;> (try simp (disch := omega) only [wrap_id, sub_left, zac]) <;> rfl); ((with_reducible apply up_value)))); refine WL.next hK (by simp only [Act.put, zpt, zsz, zss]; exact rfl) ?_; clear hK K))); (try refine WL.nil ?_))
  go_loopw [8] (fun i wr => ∃ k : Nat, k ≤ n ∧ i = .int .i64 k ∧ St w wr [] ∧ Hid (Ck.idxF p 0 l = Ck.idxF p k (l.drop k))) (fun i _ => n - (intOf i).toNat)
  case atStart => exact ⟨0, by omega, rfl, st, rfl⟩
  case round =>
    clear st
    obtain ⟨k, hk, rfl, st, hs⟩ := hrel
    by_cases hlt : k < n
    · have hkl : Hid (k < l.length) := Lib.hid (by rw [← e1.out]; exact hlt)
      have hst := Lib.hid (Ck.idxF_step p l k hkl.out)
      have hmem := Lib.hid (Ck.at_mem El.o l k hkl.out)
      have hlt' := hlt
      rw [e1.out] at hlt
      obtain ⟨b1, o1, rfl, hb1, hc⟩ := H1.out.at_ (by omega)
      have hb1 := Nat.lt_of_lt_of_le hb1 hB1
      have f1 := hc k hlt
      clear hc
      replace hlt := hlt'
      clear hlt'
      obtain ⟨v, hv⟩ : ∃ v, v = p (Ck.at_ El.o l k) := ⟨_, rfl⟩
      have HV := Lib.hid hv
      clear hv
      cases v
      · have hs' : Hid (Ck.idxF p 0 l = Ck.idxF p (k + 1) (l.drop (k + 1))) := Lib.hid (by rw [hs.out, hst.out, ← HV.out]; rfl)
        go_wp2_with (refine WL.out ?_; (repeat ((refine WL.op ?_ ?_; (exact rfl); intro K hK; (first | ((((with_reducible apply ow_move); exact rfl)); (go_simp <;> (try simp (disch := omega) only [wrap_id, sub_left, zac]) <;> rfl)) | ((with_reducible apply ow_oldC st); exact rfl; exact inferInstance; exact rfl; assumption; assumption; exact rfl) | ((with_reducible apply ow_eval); (go_simp <;> (try simp (disch := omega) only [wrap_id, sub_left, zac]) <;> rfl); first | (with_reducible apply up_value) | ((with_reducible apply up_enter); ((refine (HF.out _ _ hmem.out st.below).mono ?_; rw [← HV.out]; rintro e w' ⟨rfl, hb⟩; replace st := st.call hb; clear hb; refine ⟨_, rfl, ?_⟩))))); refine WL.next hK (by simp only [Act.put, zpt, zsz, zss]; exact rfl) ?_; clear hK K))); (try refine WL.nil ?_))
        exact ⟨⟨k + 1, by omega, by go_num, st, hs'⟩, by simp [intOf]; omega⟩
      · have hs' : Hid (Ck.idxF p 0 l = k) := Lib.hid (by rw [hs.out, hst.out, ← HV.out]; rfl)
        go_wp2_with (refine WL.out ?_; (repeat ((refine WL.op ?_ ?_; (exact rfl); intro K hK; (first | ((with_reducible apply ow_oldC st); exact rfl; exact inferInstance; exact rfl; assumption; assumption; exact rfl) | ((with_reducible apply ow_eval); (go_simp <;> (try simp (disch := omega) only [wrap_id, sub_left, zac]) <;> rfl); first | (with_reducible apply up_value) | ((with_reducible apply up_enter); ((refine (HF.out _ _ hmem.out st.below).mono ?_; rw [← HV.out]; rintro e w' ⟨rfl, hb⟩; replace st := st.call hb; clear hb; refine ⟨_, rfl, ?_⟩))))); refine WL.next hK (by simp only [Act.put, zpt, zsz, zss]; exact rfl) ?_; clear hK K))); (try refine WL.nil ?_))
        go_ret
        exact ⟨Ck.ret_int hs'.out.symm, st.below⟩
    · have hs' : Hid (Ck.idxF p 0 l = -1) := Lib.hid (by rw [hs.out]; exact Ck.idxF_end p l k (by rw [← e1.out]; omega))
      go_wp2_with (refine WL.out ?_; (repeat ((refine WL.op ?_ ?_; (exact rfl); intro K hK; (((with_reducible apply ow_eval); (go_simp <;> (try simp (disch := omega) only [wrap_id, sub_left, zac]) <;> rfl); ((with_reducible apply up_value)))); refine WL.next hK (by simp only [Act.put, zpt, zsz, zss]; exact rfl) ?_; clear hK K))); (try refine WL.nil ?_))
      go_ret
      exact ⟨Ck.ret_int hs'.out.symm, st.below⟩
theorem ContainsFuncE_any (A : Option Addr) (c B : Nat) (l : List Ck.En) (kf : FuncId) (caps : Array Value) (p : Ck.En → Bool) (w : World) (h1 : Lst w B A l) (hB1 : B ≤ w.heap.size) (hn : l.length ≤ 100000)
    (hk : ∀ (args : Array Value) (W : World), (callFunc kf args).run Tryz.prog W = .ok (.enter kf args) W)
    (hf : ∀ W x, x ∈ l → Below w.heap.size w W → Calls Tryz.prog kf (#[.agg (El.cells x).toArray] ++ caps) W fun e w' => e = .returned (.bool (p x)) ∧ Below W.heap.size W w') :
    Calls Tryz.prog 171 #[.slice A l.length c, .func (.func kf) #[] caps] w fun e w' => e = .returned (.bool (l.any p)) ∧ Below w.heap.size w w' := by
  have H := Lib.hid fun W (hb : Below w.heap.size w W) => IndexFuncE_any A c B l kf caps p W (h1.below hb hB1) (Nat.le_trans hB1 hb.size) hn hk (fun W' x hx hb' => hf W' x hx (hb.trans (hb'.mono hb.size)))
  clear h1 hf hn
  have HA := Lib.hid (Ck.idxF_any p 0 l)
  have st := St.start w
  go_enter Tryz.func171, Tryz.ntmps171
  go_wp2_with (refine WL.out ?_; (repeat ((refine WL.op ?_ ?_; (exact rfl); intro K hK; (first | ((((with_reducible apply ow_assign); exact rfl)); (go_simp <;> (try simp (disch := omega) only [wrap_id, sub_left, zac]) <;> rfl)) | ((with_reducible apply ow_eval); (go_simp <;> (try simp (disch := omega) only [wrap_id, sub_left, zac]) <;> rfl); first | (with_reducible apply up_value) | ((with_reducible apply up_enter); ((go_at_call 177; refine (H.out _ st.below).mono ?_; rintro e w' ⟨rfl, hb⟩; replace st := st.call hb; clear hb; refine ⟨_, rfl, ?_⟩))))); refine WL.next hK (by simp only [Act.put, zpt, zsz, zss]; exact rfl) ?_; clear hK K))); (try refine WL.nil ?_))
  go_ret
  exact ⟨Ck.ret_bool HA.out, st.below⟩
set_option maxHeartbeats 1000000 in
theorem IndexFuncN_any (A : Option Addr) (c B : Nat) (l : List Ck.Nm) (kf : FuncId) (caps : Array Value) (p : Ck.Nm → Bool) (w : World) (h1 : Lst w B A l) (hB1 : B ≤ w.heap.size) (hn : l.length ≤ 100000)
    (hk : ∀ (args : Array Value) (W : World), (callFunc kf args).run Tryz.prog W = .ok (.enter kf args) W)
    (hf : ∀ W x, x ∈ l → Below w.heap.size w W → Calls Tryz.prog kf (#[.agg (El.cells x).toArray] ++ caps) W fun e w' => e = .returned (.bool (p x)) ∧ Below W.heap.size W w') :
    Calls Tryz.prog 203 #[.slice A l.length c, .func (.func kf) #[] caps] w fun e w' => e = .returned (.int .i64 (Ck.idxF p 0 l)) ∧ Below w.heap.size w w' := by
  have H1 := Lib.hid h1
  have HF := Lib.hid hf
  clear h1 hf
  obtain ⟨n, en⟩ : ∃ n, n = l.length := ⟨_, rfl⟩
  have e1 := Lib.hid en
  rw [← en] at hn ⊢
  clear en
  have st := St.start w
  go_enter Tryz.func203, Tryz.ntmps203
  go_wp2_with (refine WL.out ?_; (repeat ((refine WL.op ?_ ?_; (exact rfl); intro K hK; (first | ((((with_reducible apply ow_move); exact rfl)); (go_simp <;> (try simp (disch := omega) only [wrap_id, sub_left, zac]) <;> rfl)) | ((with_reducible apply ow_eval); (go_simp <;> (try simp (disch := omega) only [wrap_id, sub_left, zac]) <;> rfl); ((with_reducible apply up_value)))); refine WL.next hK (by simp only [Act.put, zpt, zsz, zss]; exact rfl) ?_; clear hK K))); (try refine WL.nil ?_))
  go_loopw [8] (fun i wr => ∃ k : Nat, k ≤ n ∧ i = .int .i64 k ∧ St w wr [] ∧ Hid (Ck.idxF p 0 l = Ck.idxF p k (l.drop k))) (fun i _ => n - (intOf i).toNat)
  case atStart => exact ⟨0, by omega, rfl, st, rfl⟩
  case round =>
    clear st
    obtain ⟨k, hk, rfl, st, hs⟩ := hrel
    by_cases hlt : k < n
    · have hkl : Hid (k < l.length) := Lib.hid (by rw [← e1.out]; exact hlt)
      have hst := Lib.hid (Ck.idxF_step p l k hkl.out)
      have hmem := Lib.hid (Ck.at_mem El.o l k hkl.out)
      have hlt' := hlt
      rw [e1.out] at hlt
      obtain ⟨b1, o1, rfl, hb1, hc⟩ := H1.out.at_ (by omega)
      have hb1 := Nat.lt_of_lt_of_le hb1 hB1
      have f1 := hc k hlt
      clear hc
      replace hlt := hlt'
      clear hlt'
      obtain ⟨v, hv⟩ : ∃ v, v = p (Ck.at_ El.o l k) := ⟨_, rfl⟩
      have HV := Lib.hid hv
      clear hv
      cases v
      · have hs' : Hid (Ck.idxF p 0 l = Ck.idxF p (k + 1) (l.drop (k + 1))) := Lib.hid (by rw [hs.out, hst.out, ← HV.out]; rfl)
        go_wp2_with (refine WL.out ?_; (repeat ((refine WL.op ?_ ?_; (exact rfl); intro K hK; (first | ((((with_reducible apply ow_move); exact rfl)); (go_simp <;> (try simp (disch := omega) only [wrap_id, sub_left, zac]) <;> rfl)) | ((with_reducible apply ow_oldC st); exact rfl; exact inferInstance; exact rfl; assumption; assumption; exact rfl) | ((with_reducible apply ow_eval); (go_simp <;> (try simp (disch := omega) only [wrap_id, sub_left, zac]) <;> rfl); first | (with_reducible apply up_value) | ((with_reducible apply up_enter); ((refine (HF.out _ _ hmem.out st.below).mono ?_; rw [← HV.out]; rintro e w' ⟨rfl, hb⟩; replace st := st.call hb; clear hb; refine ⟨_, rfl, ?_⟩))))); refine WL.next hK (by simp only [Act.put, zpt, zsz, zss]; exact rfl) ?_; clear hK K))); (try refine WL.nil ?_))
        exact ⟨⟨k + 1, by omega, by go_num, st, hs'⟩, by simp [intOf]; omega⟩
      · have hs' : Hid (Ck.idxF p 0 l = k) := Lib.hid (by rw [hs.out, hst.out, ← HV.out]; rfl)
        go_wp2_with (refine WL.out ?_; (repeat ((refine WL.op ?_ ?_; (exact rfl); intro K hK; (first | ((with_reducible apply ow_oldC st); exact rfl; exact inferInstance; exact rfl; assumption; assumption; exact rfl) | ((with_reducible apply ow_eval); (go_simp <;> (try simp (disch := omega) only [wrap_id, sub_left, zac]) <;> rfl); first | (with_reducible apply up_value) | ((with_reducible apply up_enter); ((refine (HF.out _ _ hmem.out st.below).mono ?_; rw [← HV.out]; rintro e w' ⟨rfl, hb⟩; replace st := st.call hb; clear hb; refine ⟨_, rfl, ?_⟩))))); refine WL.next hK (by simp only [Act.put, zpt, zsz, zss]; exact rfl) ?_; clear hK K))); (try refine WL.nil ?_))
        go_ret
        exact ⟨Ck.ret_int hs'.out.symm, st.below⟩
    · have hs' : Hid (Ck.idxF p 0 l = -1) := Lib.hid (by rw [hs.out]; exact Ck.idxF_end p l k (by rw [← e1.out]; omega))
      go_wp2_with (refine WL.out ?_; (repeat ((refine WL.op ?_ ?_; (exact rfl); intro K hK; (((with_reducible apply ow_eval); (go_simp <;> (try simp (disch := omega) only [wrap_id, sub_left, zac]) <;> rfl); ((with_reducible apply up_value)))); refine WL.next hK (by simp only [Act.put, zpt, zsz, zss]; exact rfl) ?_; clear hK K))); (try refine WL.nil ?_))
      go_ret
      exact ⟨Ck.ret_int hs'.out.symm, st.below⟩
theorem ContainsFuncN_any (A : Option Addr) (c B : Nat) (l : List Ck.Nm) (kf : FuncId) (caps : Array Value) (p : Ck.Nm → Bool) (w : World) (h1 : Lst w B A l) (hB1 : B ≤ w.heap.size) (hn : l.length ≤ 100000)
    (hk : ∀ (args : Array Value) (W : World), (callFunc kf args).run Tryz.prog W = .ok (.enter kf args) W)
    (hf : ∀ W x, x ∈ l → Below w.heap.size w W → Calls Tryz.prog kf (#[.agg (El.cells x).toArray] ++ caps) W fun e w' => e = .returned (.bool (p x)) ∧ Below W.heap.size W w') :
    Calls Tryz.prog 175 #[.slice A l.length c, .func (.func kf) #[] caps] w fun e w' => e = .returned (.bool (l.any p)) ∧ Below w.heap.size w w' := by
  have H := Lib.hid fun W (hb : Below w.heap.size w W) => IndexFuncN_any A c B l kf caps p W (h1.below hb hB1) (Nat.le_trans hB1 hb.size) hn hk (fun W' x hx hb' => hf W' x hx (hb.trans (hb'.mono hb.size)))
  clear h1 hf hn
  have HA := Lib.hid (Ck.idxF_any p 0 l)
  have st := St.start w
  go_enter Tryz.func175, Tryz.ntmps175
  go_wp2_with (refine WL.out ?_; (repeat ((refine WL.op ?_ ?_; (exact rfl); intro K hK; (first | ((((with_reducible apply ow_assign); exact rfl)); (go_simp <;> (try simp (disch := omega) only [wrap_id, sub_left, zac]) <;> rfl)) | ((with_reducible apply ow_eval); (go_simp <;> (try simp (disch := omega) only [wrap_id, sub_left, zac]) <;> rfl); first | (with_reducible apply up_value) | ((with_reducible apply up_enter); ((go_at_call 203; refine (H.out _ st.below).mono ?_; rintro e w' ⟨rfl, hb⟩; replace st := st.call hb; clear hb; refine ⟨_, rfl, ?_⟩))))); refine WL.next hK (by simp only [Act.put, zpt, zsz, zss]; exact rfl) ?_; clear hK K))); (try refine WL.nil ?_))
  go_ret
  exact ⟨Ck.ret_bool HA.out, st.below⟩
set_option maxHeartbeats 1000000 in
theorem IndexFuncB_any (A : Option Addr) (c B : Nat) (l : List UInt8) (kf : FuncId) (caps : Array Value) (p : UInt8 → Bool) (w : World) (h1 : Lst w B A l) (hB1 : B ≤ w.heap.size) (hn : l.length ≤ 100000)
    (hk : ∀ (args : Array Value) (W : World), (callFunc kf args).run Tryz.prog W = .ok (.enter kf args) W)
    (hf : ∀ W x, x ∈ l → Below w.heap.size w W → Calls Tryz.prog kf (#[.int .u8 x.toNat] ++ caps) W fun e w' => e = .returned (.bool (p x)) ∧ Below W.heap.size W w') :
    Calls Tryz.prog 229 #[.slice A l.length c, .func (.func kf) #[] caps] w fun e w' => e = .returned (.int .i64 (Ck.idxF p 0 l)) ∧ Below w.heap.size w w' := by
  have H1 := Lib.hid h1
  have HF := Lib.hid hf
  clear h1 hf
  obtain ⟨n, en⟩ : ∃ n, n = l.length := ⟨_, rfl⟩
  have e1 := Lib.hid en
  rw [← en] at hn ⊢
  clear en
  have st := St.start w
  go_enter Tryz.func229, Tryz.ntmps229
  go_wp2_with (refine WL.out ?_; (repeat ((refine WL.op ?_ ?_; (exact rfl); intro K hK; (first | ((((with_reducible apply ow_move); exact rfl)); (go_simp <;> (try simp (disch := omega) only [wrap_id, sub_left, zac]) <;> rfl)) | ((with_reducible apply ow_eval); (go_simp <;> (try simp (disch := omega) only [wrap_id, sub_left, zac]) <;> rfl); ((with_reducible apply up_value)))); refine WL.next hK (by simp only [Act.put, zpt, zsz, zss]; exact rfl) ?_; clear hK K))); (try refine WL.nil ?_))
  go_loopw [8] (fun i wr => ∃ k : Nat, k ≤ n ∧ i = .int .i64 k ∧ St w wr [] ∧ Hid (Ck.idxF p 0 l = Ck.idxF p k (l.drop k))) (fun i _ => n - (intOf i).toNat)
  case atStart => exact ⟨0, by omega, rfl, st, rfl⟩
  case round =>
    clear st
    obtain ⟨k, hk, rfl, st, hs⟩ := hrel
    by_cases hlt : k < n
    · have hkl : Hid (k < l.length) := Lib.hid (by rw [← e1.out]; exact hlt)
      have hst := Lib.hid (Ck.idxF_step p l k hkl.out)
      have hmem := Lib.hid (Ck.at_mem El.o l k hkl.out)
      have hlt' := hlt
      rw [e1.out] at hlt
      obtain ⟨b1, o1, rfl, hb1, hc⟩ := H1.out.at_ (by omega)
      have hb1 := Nat.lt_of_lt_of_le hb1 hB1
      have f1 := hc k hlt
      clear hc
      replace f1 := f1 0 _ rfl
      rw [Nat.add_zero, Nat.mul_one] at f1
      replace hlt := hlt'
      clear hlt'
      obtain ⟨v, hv⟩ : ∃ v, v = p (Ck.at_ El.o l k) := ⟨_, rfl⟩
      have HV := Lib.hid hv
      clear hv
      cases v
      · have hs' : Hid (Ck.idxF p 0 l = Ck.idxF p (k + 1) (l.drop (k + 1))) := Lib.hid (by rw [hs.out, hst.out, ← HV.out]; rfl)
        go_wp2_with (refine WL.out ?_; (repeat ((refine WL.op ?_ ?_; (exact rfl); intro K hK; (first | ((((with_reducible apply ow_move); exact rfl)); (go_simp <;> (try simp (disch := omega) only [wrap_id, sub_left, zac]) <;> rfl)) | ((with_reducible apply ow_old1 st); exact rfl; exact inferInstance; exact rfl; assumption; assumption) | ((with_reducible apply ow_eval); (go_simp <;> (try simp (disch := omega) only [wrap_id, sub_left, zac]) <;> rfl); first | (with_reducible apply up_value) | ((with_reducible apply up_enter); ((refine (HF.out _ _ hmem.out st.below).mono ?_; rw [← HV.out]; rintro e w' ⟨rfl, hb⟩; replace st := st.call hb; clear hb; refine ⟨_, rfl, ?_⟩))))); refine WL.next hK (by simp only [Act.put, zpt, zsz, zss]; exact rfl) ?_; clear hK K))); (try refine WL.nil ?_))
        exact ⟨⟨k + 1, by omega, by go_num, st, hs'⟩, by simp [intOf]; omega⟩
      · have hs' : Hid (Ck.idxF p 0 l = k) := Lib.hid (by rw [hs.out, hst.out, ← HV.out]; rfl)
        go_wp2_with (refine WL.out ?_; (repeat ((refine WL.op ?_ ?_; (exact rfl); intro K hK; (first | ((with_reducible apply ow_old1 st); exact rfl; exact inferInstance; exact rfl; assumption; assumption) | ((with_reducible apply ow_eval); (go_simp <;> (try simp (disch := omega) only [wrap_id, sub_left, zac]) <;> rfl); first | (with_reducible apply up_value) | ((with_reducible apply up_enter); ((refine (HF.out _ _ hmem.out st.below).mono ?_; rw [← HV.out]; rintro e w' ⟨rfl, hb⟩; replace st := st.call hb; clear hb; refine ⟨_, rfl, ?_⟩))))); refine WL.next hK (by simp only [Act.put, zpt, zsz, zss]; exact rfl) ?_; clear hK K))); (try refine WL.nil ?_))
        go_ret
        exact ⟨Ck.ret_int hs'.out.symm, st.below⟩
    · have hs' : Hid (Ck.idxF p 0 l = -1) := Lib.hid (by rw [hs.out]; exact Ck.idxF_end p l k (by rw [← e1.out]; omega))
      go_wp2_with (refine WL.out ?_; (repeat ((refine WL.op ?_ ?_; (exact rfl); intro K hK; (((with_reducible apply ow_eval); (go_simp <;> (try simp (disch := omega) only [wrap_id, sub_left, zac]) <;> rfl); ((with_reducible apply up_value)))); refine WL.next hK (by simp only [Act.put, zpt, zsz, zss]; exact rfl) ?_; clear hK K))); (try refine WL.nil ?_))
      go_ret
      exact ⟨Ck.ret_int hs'.out.symm, st.below⟩
theorem ContainsFuncB_any (A : Option Addr) (c B : Nat) (l : List UInt8) (kf : FuncId) (caps : Array Value) (p : UInt8 → Bool) (w : World) (h1 : Lst w B A l) (hB1 : B ≤ w.heap.size) (hn : l.length ≤ 100000)
    (hk : ∀ (args : Array Value) (W : World), (callFunc kf args).run Tryz.prog W = .ok (.enter kf args) W)
    (hf : ∀ W x, x ∈ l → Below w.heap.size w W → Calls Tryz.prog kf (#[.int .u8 x.toNat] ++ caps) W fun e w' => e = .returned (.bool (p x)) ∧ Below W.heap.size W w') :
    Calls Tryz.prog 218 #[.slice A l.length c, .func (.func kf) #[] caps] w fun e w' => e = .returned (.bool (l.any p)) ∧ Below w.heap.size w w' := by
  have H := Lib.hid fun W (hb : Below w.heap.size w W) => IndexFuncB_any A c B l kf caps p W (h1.below hb hB1) (Nat.le_trans hB1 hb.size) hn hk (fun W' x hx hb' => hf W' x hx (hb.trans (hb'.mono hb.size)))
  clear h1 hf hn
  have HA := Lib.hid (Ck.idxF_any p 0 l)
  have st := St.start w
  go_enter Tryz.func218, Tryz.ntmps218
  go_wp2_with (refine WL.out ?_; (repeat ((refine WL.op ?_ ?_; (exact rfl); intro K hK; (first | ((((with_reducible apply ow_assign); exact rfl)); (go_simp <;> (try simp (disch := omega) only [wrap_id, sub_left, zac]) <;> rfl)) | ((with_reducible apply ow_eval); (go_simp <;> (try simp (disch := omega) only [wrap_id, sub_left, zac]) <;> rfl); first | (with_reducible apply up_value) | ((with_reducible apply up_enter); ((go_at_call 229; refine (H.out _ st.below).mono ?_; rintro e w' ⟨rfl, hb⟩; replace st := st.call hb; clear hb; refine ⟨_, rfl, ?_⟩))))); refine WL.next hK (by simp only [Act.put, zpt, zsz, zss]; exact rfl) ?_; clear hK K))); (try refine WL.nil ?_))
  go_ret
  exact ⟨Ck.ret_bool HA.out, st.below⟩
end Go.Proofs.YtgcjejajljhnaaaGreatDoor
namespace Go.Proofs
open Go.Shelf
def Tryz.lays137_ren : Go.Shelf.Ren := ⟨fun | 137 => 220 | 217 => 211 | 266 => 225 | n => n, fun | 9 => 9 | 5 => 5 | 3 => 3 | n => n, fun | n => n⟩
theorem Tryz.lays137 : Go.Proofs.Lays.n137 Tryz.prog Tryz.lays137_ren := {
  mixed := by kernel_rfl
  f137 := Tryz.func220.trans (congrArg some (by kernel_rfl))
  f217 := Tryz.func211.trans (congrArg some (by kernel_rfl))
  f266 := Tryz.func225.trans (congrArg some (by kernel_rfl))
  t3 := Tryz.underlying3
  a3 := Tryz.isAgg3
  z3 := Tryz.sizeOf3
  v3 := Tryz.zeroValue3
  t5 := Tryz.underlying5
  a5 := Tryz.isAgg5
  z5 := Tryz.sizeOf5
  v5 := Tryz.zeroValue5
  t9 := Tryz.underlying9
  a9 := Tryz.isAgg9
  z9 := Tryz.sizeOf9
  v9 := Tryz.zeroValue9 }
open Go.RowKit in
theorem Tryz.strings_IndexByte (s : ByteArray) (c : Int) (w : World) :
    Calls Tryz.prog 220 #[.string s, .int .u8 c] w fun e w' => e = .returned (.int .i64 (Lib.indexByte s.data.toList c.toNat.toUInt8)) ∧ w' = w := Any.strings_IndexByte Tryz.lays137 s c w
def Tryz.lays100_ren : Go.Shelf.Ren := ⟨fun | 100 => 201 | 207 => 221 | n => n, fun | 9 => 9 | 4 => 4 | 3 => 3 | n => n, fun | n => n⟩
theorem Tryz.lays100 : Go.Proofs.Lays.n100 Tryz.prog Tryz.lays100_ren := {
  mixed := by kernel_rfl
  f100 := Tryz.func201.trans (congrArg some (by kernel_rfl))
  f207 := Tryz.func221.trans (congrArg some (by kernel_rfl))
  t3 := Tryz.underlying3
  a3 := Tryz.isAgg3
  z3 := Tryz.sizeOf3
  v3 := Tryz.zeroValue3
  t4 := Tryz.underlying4
  a4 := Tryz.isAgg4
  z4 := Tryz.sizeOf4
  v4 := Tryz.zeroValue4
  t9 := Tryz.underlying9
  a9 := Tryz.isAgg9
  z9 := Tryz.sizeOf9
  v9 := Tryz.zeroValue9 }
open Go.RowKit Go.Lib in
theorem Tryz.strings_HasSuffix (s p : ByteArray) (w : World) (hs : s.size ≤ 9223372036854775807) :
    Calls Tryz.prog 201 #[.string s, .string p] w fun e w' => e = .returned (.bool (Lib.hasSuffix s.data.toList p.data.toList)) ∧ w' = w := Any.strings_HasSuffix Tryz.lays100 s p w hs
end Go.Proofs
namespace Go.Proofs.YtgcjejajljhnaaaGreatDoor
open Go.RowKit Go.Hp
theorem indexByte_any (all : List UInt8) (c : UInt8) (w : World) : Calls Tryz.prog 220 #[.string ⟨all.toArray⟩, .int .u8 (c.toNat : Int)] w fun e w' => e = .returned (.int .i64 (Lib.indexByte all c)) ∧ w = w' :=
  (Tryz.strings_IndexByte ⟨all.toArray⟩ (c.toNat : Int) w).mono fun e w' ⟨he, hw⟩ => ⟨by rw [he, Int.toNat_natCast]; simp, hw.symm⟩
theorem hasSuffix_any (s p : List UInt8) (w : World) (hs : s.length ≤ 100000) : Calls Tryz.prog 201 #[.string ⟨s.toArray⟩, .string ⟨p.toArray⟩] w fun e w' => e = .returned (.bool (Lib.hasSuffix s p)) ∧ w = w' :=
  (Tryz.strings_HasSuffix ⟨s.toArray⟩ ⟨p.toArray⟩ w (by show s.toArray.size ≤ _; simp; omega)).mono fun e w' ⟨he, hw⟩ => ⟨by rw [he], hw.symm⟩
theorem indexByte_none : ∀ (all : List UInt8) (c : UInt8), decide (Lib.indexByte all c < 0) = !all.contains c
  | [], c => rfl
  | x :: l, c => by
    have ih := indexByte_none l c
    have hge := Lib.indexByte_ge l c
    unfold Lib.indexByte
    rw [List.contains_cons]
    by_cases h : (x == c) = true
    · have h' : (c == x) = true := by simpa using (by simpa using h : x = c).symm
      rw [if_pos h, h']
      rfl
    · have h' : (c == x) = false := by
        rw [Bool.eq_false_iff]
        intro e
        exact h (by simpa using (by simpa using e : c = x).symm)
      rw [if_neg h, h', Bool.false_or, ← ih]
      by_cases h0 : Lib.indexByte l c = -1
      · simp [h0]
      · have : ¬ (Lib.indexByte l c == -1) = true := by simpa using h0
        rw [if_neg this, decide_eq_false (by omega), decide_eq_false (by omega)]
theorem isLegalByte_any (c : UInt8) (w : World) :
    Calls Tryz.prog 200 #[.int .u8 (c.toNat : Int)] w fun e w' => e = .returned (.bool (Ck.legalB c)) ∧ w = w' := by
  have hn := Lib.hid (indexByte_none [34, 42, 47, 58, 60, 62, 63, 92, 124] c)
  by_cases h1 : 32 ≤ (c.toNat : Int)
  · by_cases h2 : (c.toNat : Int) ≤ 126
    · have hr := Lib.hid (show Ck.legalB c = !([34, 42, 47, 58, 60, 62, 63, 92, 124].contains c) by unfold Ck.legalB; rw [decide_eq_true (by omega), decide_eq_true (by omega)]; rfl)
      go_enter Tryz.func200, Tryz.ntmps200
      go_wp2_with (go_at_call 220; refine (indexByte_any [34, 42, 47, 58, 60, 62, 63, 92, 124] c _).mono ?_; rintro e w' ⟨rfl, rfl⟩)
      go_ret
      exact ⟨by rw [hr.out, ← hn.out]; rfl, rfl⟩
    · have hr := Lib.hid (show Ck.legalB c = false by unfold Ck.legalB; rw [decide_eq_false (p := c.toNat ≤ 126) (by omega)]; simp)
      go_enter Tryz.func200, Tryz.ntmps200
      go_wp2
      go_ret
      exact ⟨by rw [hr.out]; rfl, rfl⟩
  · have hr := Lib.hid (show Ck.legalB c = false by unfold Ck.legalB; rw [decide_eq_false (by omega)]; rfl)
    go_enter Tryz.func200, Tryz.ntmps200
    go_wp2
    go_ret
    exact ⟨by rw [hr.out]; rfl, rfl⟩
theorem allBytes1_any (c : UInt8) (b : Nat) (w : World) (h : w.cell? ⟨b, 0, none⟩ = some (.func (.func 200) #[] #[])) :
    Calls Tryz.prog 219 #[.int .u8 (c.toNat : Int), .pointer (some ⟨b, 0, none⟩)] w fun e w' => e = .returned (.bool (!Ck.legalB c)) ∧ w = w' := by
  go_enter Tryz.func219, Tryz.ntmps219
  go_wp2_with (go_at_call 200; refine (isLegalByte_any c _).mono ?_; rintro e w' ⟨rfl, rfl⟩)
  go_ret
  exact ⟨rfl, rfl⟩
theorem all_not (s : List UInt8) : (!s.any fun c => !Ck.legalB c) = s.all Ck.legalB := by
  induction s with
  | nil => rfl
  | cons c s ih => rw [List.any_cons, List.all_cons, Bool.not_or, Bool.not_not, ih]
set_option maxHeartbeats 1000000 in
theorem allBytes_any (s : List UInt8) (w : World) (hs : s.length ≤ 100000) :
    Calls Tryz.prog 199 #[.string ⟨s.toArray⟩, .func (.func 200) #[] #[]] w fun e w' => e = .returned (.bool (s.all Ck.legalB)) ∧ Below w.heap.size w w' := by
  have hn := Lib.hid (all_not s)
  have st := St.start w
  go_enter Tryz.func199, Tryz.ntmps199
  go_wp2_with (refine WL.out ?_; (repeat ((refine WL.op ?_ ?_; (exact rfl); intro K hK; (first | ((((with_reducible apply ow_assign); exact rfl)); (go_simp <;> (try simp (disch := omega) only [wrap_id, sub_left, zac]) <;> rfl)) | ((((with_reducible apply ow_box st); exact rfl; (go_simp <;> (try simp (disch := omega) only [wrap_id, sub_left, zac]) <;> rfl); (go_simp <;> (try simp (disch := omega) only [wrap_id, sub_left, zac]) <;> rfl))); (try clear st); intro b w' st) | ((with_reducible apply ow_bytes Tryz.underlying9 Tryz.underlying117 Tryz.underlying5 st); exact rfl; exact rfl; (try clear st); intro g c1 R w' st hc1) | ((with_reducible apply ow_eval); (go_simp <;> (try simp (disch := omega) only [wrap_id, sub_left, zac]) <;> rfl); first | (with_reducible apply up_value) | ((with_reducible apply up_enter); ((go_at_call 218; (refine (ContainsFuncB_any (some ⟨g, 0, none⟩) c1 _ s 219 #[.pointer (some ⟨b, 0, none⟩)] (fun c => !Ck.legalB c) _ (St.marked_lst st (List.mem_cons_self ..)) (Nat.le_refl _) hs (fun _ _ => by kernel_rfl) (fun W x _ hb => (allBytes1_any x b W ((hb.cell (p := ⟨b, 0, none⟩) (Res.holds_lt (st.get (i := 1) rfl) rfl).2).trans ((st.cell (i := 1) rfl 0).trans rfl))).mono fun e w' ⟨he, hw⟩ => ⟨he, hw ▸ Below.refl _ _⟩)).mono ?_); rintro e w' ⟨rfl, hb⟩; replace st := st.call hb; clear hb; refine ⟨_, rfl, ?_⟩))))); refine WL.next hK (by simp only [Act.put, zpt, zsz, zss]; exact rfl) ?_; clear hK K))); (try refine WL.nil ?_))
  go_ret
  exact ⟨Ck.ret_bool hn.out, st.below⟩
end Go.Proofs.YtgcjejajljhnaaaGreatDoor
namespace Ck
theorem suffix_last (s : List UInt8) (c : UInt8) (h : s ≠ []) : Go.Lib.hasSuffix s [c] = (s.getLast? == some c) := by
  have e : s = s.dropLast ++ [s.getLast h] := (List.dropLast_concat_getLast h).symm
  unfold Go.Lib.hasSuffix
  rw [List.getLast?_eq_some_getLast h]
  by_cases hc : s.getLast h = c
  · rw [hc, beq_self_eq_true]
    rw [List.isSuffixOf_iff_suffix]
    exact ⟨s.dropLast, by rw [← hc]; exact e.symm⟩
  · have h2 : (some (s.getLast h) == some c) = false := by simpa using hc
    rw [h2, Bool.eq_false_iff]
    intro h3
    rw [List.isSuffixOf_iff_suffix] at h3
    obtain ⟨t, ht⟩ := h3
    apply hc
    subst ht
    simp
theorem legal_eq (s : List UInt8) : legal s = (!s.isEmpty && decide (s.length ≤ 32) && s.all legalB && !(s == [46, 46]) && !Go.Lib.hasSuffix s [32] && !Go.Lib.hasSuffix s [46]) := by
  unfold legal
  by_cases h : s = []
  · subst h; rfl
  · rw [suffix_last s 32 h, suffix_last s 46 h]
    have h1 : (s != []) = !s.isEmpty := by cases s <;> rfl
    rw [h1]
    rfl
end Ck
namespace Go.Proofs.YtgcjejajljhnaaaGreatDoor
open Go.RowKit Go.Hp
set_option maxHeartbeats 1000000 in
theorem isLegal_any (s : List UInt8) (w : World) (hs : s.length ≤ 100000) :
    Calls Tryz.prog 168 #[.string ⟨s.toArray⟩] w fun e w' => e = .returned (.bool (Ck.legal s)) ∧ Below w.heap.size w w' := by
  have HR := Lib.hid (Ck.legal_eq s)
  by_cases h0 : s = []
  · subst h0
    (have st := St.start w; go_enter Tryz.func168, Tryz.ntmps168; (go_wp2_with (refine WL.out ?_; (repeat (first | (refine WL.op ?_ ?_; (exact rfl); intro K hK; (first | ((first | ((with_reducible apply ow_move); exact rfl) | ((with_reducible apply ow_assign); exact rfl)); (go_simp <;> (try simp (disch := omega) only [wrap_id, sub_left, zac]) <;> rfl)) | ((with_reducible apply ow_eval); (go_simp <;> (try simp (disch := omega) only [wrap_id, sub_left, zac]) <;> rfl); ((with_reducible apply up_value)))); refine WL.next hK (by simp only [Act.put, zpt, zsz, zss]; exact rfl) ?_; clear hK K) | (refine WL.skip ?_ (by simp only [Act.put, zpt, zsz, zss]; exact rfl) ?_; (exact rfl)))); (try refine WL.nil ?_))); go_ret; exact ⟨Ck.ret_bool (by rw [HR.out]; rfl), st.below⟩)
  · by_cases h32 : (s.length : Int) ≤ 32
    · have h32' : s.length ≤ 32 := by omega
      rcases Bool.eq_false_or_eq_true (s.all Ck.legalB) with ha | ha
      · have HA := Lib.hid ha
        clear ha
        have hall : ∀ W : World, Calls Tryz.prog 199 #[.string ⟨s.toArray⟩, .func (.func 200) #[] #[]] W fun e w' => e = .returned (.bool true) ∧ Below W.heap.size W w' := fun W => by
          have := allBytes_any s W hs
          rwa [HA.out] at this
        by_cases hd : s = [46, 46]
        · subst hd
          clear h0 h32 h32'
          have st := St.start w
          go_enter Tryz.func168, Tryz.ntmps168
          go_wp2_with (refine WL.out ?_; (repeat (first | (refine WL.op ?_ ?_; (exact rfl); intro K hK; (first | ((first | ((with_reducible apply ow_move); exact rfl) | ((with_reducible apply ow_assign); exact rfl)); (go_simp <;> (try simp (disch := omega) only [wrap_id, sub_left, zac]) <;> rfl)) | ((with_reducible apply ow_eval); (go_simp <;> (try simp (disch := omega) only [wrap_id, sub_left, zac]) <;> rfl); first | (with_reducible apply up_value) | ((with_reducible apply up_enter); ((go_at_call 199; refine (hall _).mono ?_; rintro e w' ⟨rfl, hb⟩; replace st := st.call hb; clear hb; refine ⟨_, rfl, ?_⟩))))); refine WL.next hK (by simp only [Act.put, zpt, zsz, zss]; exact rfl) ?_; clear hK K) | (refine WL.skip ?_ (by simp only [Act.put, zpt, zsz, zss]; exact rfl) ?_; (exact rfl)))); (try refine WL.nil ?_))
          go_ret
          exact ⟨Ck.ret_bool (by rw [HR.out]; rfl), st.below⟩
        · have HD := Lib.hid (show (s == [46, 46]) = false from beq_false_of_ne hd)
          rcases Bool.eq_false_or_eq_true (Lib.hasSuffix s [32]) with h1 | h1
          · (have st := St.start w; go_enter Tryz.func168, Tryz.ntmps168; (go_wp2_with (refine WL.out ?_; (repeat (first | (refine WL.op ?_ ?_; (first | exact rfl | (simp [Region.wanted, yielded, *] <;> done)); intro K hK; (first | ((first | ((with_reducible apply ow_move); exact rfl) | ((with_reducible apply ow_assign); exact rfl)); (go_simp <;> (try simp (disch := omega) only [wrap_id, sub_left, zac]) <;> rfl)) | ((with_reducible apply ow_eval); (go_simp <;> (try simp (disch := omega) only [wrap_id, sub_left, zac]) <;> rfl); first | (with_reducible apply up_value) | ((with_reducible apply up_enter); first | (go_at_call 199; refine (hall _).mono ?_; rintro e w' ⟨rfl, hb⟩; replace st := st.call hb; clear hb; refine ⟨_, rfl, ?_⟩) | (go_at_call 201; ((with_reducible refine (hasSuffix_any s [32] _ hs).mono ?_); rintro e5 w' ⟨rfl, rfl⟩; refine ⟨_, rfl, ?_⟩))))); refine WL.next hK (by simp only [Act.put, zpt, zsz, zss]; exact rfl) ?_; clear hK K) | (refine WL.skip ?_ (by simp only [Act.put, zpt, zsz, zss]; exact rfl) ?_; (exact rfl)))); (try refine WL.nil ?_))); go_ret; exact ⟨Ck.ret_bool (by rw [HR.out, HA.out, HD.out, decide_eq_true h32', h1]; simp [h0]), st.below⟩)
          · (have st := St.start w; go_enter Tryz.func168, Tryz.ntmps168; (go_wp2_with (refine WL.out ?_; (repeat ((refine WL.op ?_ ?_; (first | exact rfl | (simp [Region.wanted, yielded, *] <;> done)); intro K hK; (first | ((first | ((with_reducible apply ow_move); exact rfl) | ((with_reducible apply ow_assign); exact rfl)); (go_simp <;> (try simp (disch := omega) only [wrap_id, sub_left, zac]) <;> rfl)) | ((with_reducible apply ow_eval); (go_simp <;> (try simp (disch := omega) only [wrap_id, sub_left, zac]) <;> rfl); first | (with_reducible apply up_value) | ((with_reducible apply up_enter); first | (go_at_call 199; refine (hall _).mono ?_; rintro e w' ⟨rfl, hb⟩; replace st := st.call hb; clear hb; refine ⟨_, rfl, ?_⟩) | (go_at_call 201; ((with_reducible refine (hasSuffix_any s [32] _ hs).mono ?_); rintro e5 w' ⟨rfl, rfl⟩; refine ⟨_, rfl, ?_⟩)) | (go_at_call 201; ((with_reducible refine (hasSuffix_any s [46] _ hs).mono ?_); rintro e5 w' ⟨rfl, rfl⟩; refine ⟨_, rfl, ?_⟩))))); refine WL.next hK (by simp only [Act.put, zpt, zsz, zss]; exact rfl) ?_; clear hK K))); (try refine WL.nil ?_))); go_ret; exact ⟨Ck.ret_bool (by rw [HR.out, HA.out, HD.out, decide_eq_true h32', h1]; simp [h0]), st.below⟩)
      · have HA := Lib.hid ha
        clear ha
        have hall : ∀ W : World, Calls Tryz.prog 199 #[.string ⟨s.toArray⟩, .func (.func 200) #[] #[]] W fun e w' => e = .returned (.bool false) ∧ Below W.heap.size W w' := fun W => by
          have := allBytes_any s W hs
          rwa [HA.out] at this
        (have st := St.start w; go_enter Tryz.func168, Tryz.ntmps168; (go_wp2_with (refine WL.out ?_; (repeat (first | (refine WL.op ?_ ?_; (first | exact rfl | (simp [Region.wanted, yielded, *] <;> done)); intro K hK; (first | ((first | ((with_reducible apply ow_move); exact rfl) | ((with_reducible apply ow_assign); exact rfl)); (go_simp <;> (try simp (disch := omega) only [wrap_id, sub_left, zac]) <;> rfl)) | ((with_reducible apply ow_eval); (go_simp <;> (try simp (disch := omega) only [wrap_id, sub_left, zac]) <;> rfl); first | (with_reducible apply up_value) | ((with_reducible apply up_enter); ((go_at_call 199; refine (hall _).mono ?_; rintro e w' ⟨rfl, hb⟩; replace st := st.call hb; clear hb; refine ⟨_, rfl, ?_⟩))))); refine WL.next hK (by simp only [Act.put, zpt, zsz, zss]; exact rfl) ?_; clear hK K) | (refine WL.skip ?_ (by simp only [Act.put, zpt, zsz, zss]; exact rfl) ?_; (exact rfl)))); (try refine WL.nil ?_))); go_ret; exact ⟨Ck.ret_bool (by rw [HR.out, HA.out]; simp [h0]), st.below⟩)
    · have h32' := Lib.hid (show decide (s.length ≤ 32) = false from decide_eq_false (by omega))
      (have st := St.start w; go_enter Tryz.func168, Tryz.ntmps168; (go_wp2_with (refine WL.out ?_; (repeat (first | (refine WL.op ?_ ?_; (first | exact rfl | (simp [Region.wanted, yielded, *] <;> done)); intro K hK; (first | ((first | ((with_reducible apply ow_move); exact rfl) | ((with_reducible apply ow_assign); exact rfl)); (go_simp <;> (try simp (disch := omega) only [wrap_id, sub_left, zac]) <;> rfl)) | ((with_reducible apply ow_eval); (go_simp <;> (try simp (disch := omega) only [wrap_id, sub_left, zac]) <;> rfl); ((with_reducible apply up_value)))); refine WL.next hK (by simp only [Act.put, zpt, zsz, zss]; exact rfl) ?_; clear hK K) | (refine WL.skip ?_ (by simp only [Act.put, zpt, zsz, zss]; exact rfl) ?_; (exact rfl)))); (try refine WL.nil ?_))); go_ret; exact ⟨Ck.ret_bool (by rw [HR.out, h32'.out]; cases s.isEmpty <;> rfl), st.below⟩)
theorem CheckName_any (s : List UInt8) (w : World) (hs : s.length ≤ 100000) :
    Calls Tryz.prog 134 #[.string ⟨s.toArray⟩] w fun e w' => e = .returned (.int .i64 (Ck.nameErr s)) ∧ Below w.heap.size w w' := by
  have HR := Lib.hid (show Ck.nameErr s = Ck.first [Ck.unl (decide ((s.length : Int) ≤ 32)) 8, Ck.unl (Ck.legal s) 4] by
    unfold Ck.nameErr Ck.unl
    by_cases h : 32 < s.length
    · rw [if_pos h, decide_eq_false (by omega)]; rfl
    · rw [if_neg h, decide_eq_true (by omega)]
      cases Ck.legal s <;> rfl)
  have st := St.start w
  go_enter Tryz.func134, Tryz.ntmps134
  go_wp2_with (refine WL.out ?_; (repeat ((refine WL.op ?_ ?_; (exact rfl); intro K hK; (first | ((first | ((with_reducible apply ow_move); exact rfl) | ((with_reducible apply ow_assign); exact rfl)); (go_simp <;> (try simp (disch := omega) only [wrap_id, sub_left, zac]) <;> rfl)) | ((((with_reducible apply ow_newSlice st); exact rfl; (go_simp <;> (try simp (disch := omega) only [wrap_id, sub_left, zac]) <;> rfl); exact rfl)); (try clear st); intro b w' st) | ((with_reducible apply ow_eval); (go_simp <;> (try simp (disch := omega) only [wrap_id, sub_left, zac]) <;> rfl); first | (with_reducible apply up_value) | ((with_reducible apply up_enter); first | (go_at_call 167; refine (nunless_any _ _ _).mono ?_; rintro e w' ⟨rfl, rfl⟩; refine ⟨_, rfl, ?_⟩) | (go_at_call 168; refine (isLegal_any s _ hs).mono ?_; rintro e w' ⟨rfl, hb⟩; replace st := st.call hb; clear hb; refine ⟨_, rfl, ?_⟩) | (go_at_call 166; refine (nfirst2_any _ _ _ _ (st.boxC (i := 0) rfl)).mono ?_; rintro e w' ⟨rfl, rfl⟩; refine ⟨_, rfl, ?_⟩)))); refine WL.next hK (by simp only [Act.put, zpt, zsz, zss]; exact rfl) ?_; clear hK K))); (try refine WL.nil ?_))
  go_ret
  exact ⟨Ck.ret_int HR.out.symm, st.below⟩
end Go.Proofs.YtgcjejajljhnaaaGreatDoor
namespace Ck
theorem nmErr_eq (x : Nm) : nmErr x = first [refErr x.d, nameErr x.n] := by
  unfold nmErr first first first
  by_cases h : refErr x.d = 0
  · rw [if_pos h, if_pos h]
    by_cases h2 : nameErr x.n = 0
    · rw [if_pos h2, h2]
    · rw [if_neg h2]
  · rw [if_neg h, if_neg h]
theorem enErr_eq (x : En) : enErr x = first [nameErr x.n, refErr x.f, unl (num x.z) 2] := by
  unfold enErr unl first first first first
  by_cases h : nameErr x.n = 0
  · rw [if_pos h, if_pos h]
    by_cases h2 : refErr x.f = 0
    · rw [if_pos h2, if_pos h2]
      cases num x.z <;> rfl
    · rw [if_neg h2, if_neg h2]
  · rw [if_neg h, if_neg h]
end Ck
namespace Go.Proofs.YtgcjejajljhnaaaGreatDoor
open Go.RowKit Go.Hp
set_option maxHeartbeats 1000000 in
theorem nameErr_any (x : Ck.Nm) (w : World) (hs : x.n.length ≤ 100000) :
    Calls Tryz.prog 92 #[.agg #[.int .i64 x.d.r, .int .i64 x.d.q, .string ⟨x.n.toArray⟩]] w fun e w' => e = .returned (.int .i64 (Ck.nmErr x)) ∧ Below w.heap.size w w' := by
  have HR := Lib.hid (Ck.nmErr_eq x)
  have st := St.start w
  go_enter Tryz.func92, Tryz.ntmps92
  go_wp2_with (refine WL.out ?_; (repeat ((refine WL.op ?_ ?_; (exact rfl); intro K hK; (first | ((((with_reducible apply ow_assign); exact rfl)); (go_simp <;> (try simp (disch := omega) only [wrap_id, sub_left, zac]) <;> rfl)) | ((((with_reducible apply ow_box st); exact rfl; (go_simp <;> (try simp (disch := omega) only [wrap_id, sub_left, zac]) <;> rfl); (go_simp <;> (try simp (disch := omega) only [wrap_id, sub_left, zac]) <;> rfl))); (try clear st); intro b w' st)); refine WL.next hK (by simp only [Act.put, zpt, zsz, zss]; exact rfl) ?_; clear hK K))); (try refine WL.nil ?_))
  refine wp_region_plan 6 (by kernel_rfl) (by kernel_rfl) ?_; replace st := st.drew; generalize World.drew _ = W at st ⊢
  (apply Plan.val'; (focus (intro x0 x1 x2 x3 x4 x5 w1 hb; (try simp only [depF, fillA, Act.put, zta, ztz, zpt, zsz, zss, zl0, zls]); (repeat (fail)); have st := st.call hb; ((apply Yphi.run; (exact rfl); (go_simp <;> (try simp (disch := omega) only [wrap_id, sub_left, zac]) <;> rfl); exact rfl)))); (simp only [zca, zcn] <;> exact rfl))
  (apply Plan.val'; (focus (intro x0 x1 x2 x3 x4 x5 w1 hb; (try simp only [depF, fillA, Act.put, zta, ztz, zpt, zsz, zss, zl0, zls]); (repeat (rintro rfl)); have st := st.call hb; ((apply Yphi.loadN st; exact rfl; exact inferInstance; (exact rfl); exact rfl; (exact get0); ((try simp only [zta, ztz, zda, zdz, zca, zcn, zan, zsz, zss]) <;> exact rfl); exact rfl)))); (simp only [zca, zcn] <;> exact rfl))
  (apply Plan.val'; (focus (intro x0 x1 x2 x3 x4 x5 w1 hb; (try simp only [depF, fillA, Act.put, zta, ztz, zpt, zsz, zss, zl0, zls]); (repeat (rintro rfl)); have st := st.call hb; apply Yphi.call; (exact rfl); (go_simp <;> (try simp (disch := omega) only [wrap_id, sub_left, zac]) <;> rfl); exact rfl; refine (refErr_any x.d.r x.d.q _).mono ?_; rintro e w' ⟨rfl, hb'⟩; exact ⟨_, rfl, hb', rfl⟩)); (simp only [zca, zcn] <;> exact rfl))
  (apply Plan.val'; (focus (intro x0 x1 x2 x3 x4 x5 w1 hb; (try simp only [depF, fillA, Act.put, zta, ztz, zpt, zsz, zss, zl0, zls]); (repeat (fail)); have st := st.call hb; ((apply Yphi.run; (exact rfl); (go_simp <;> (try simp (disch := omega) only [wrap_id, sub_left, zac]) <;> rfl); exact rfl)))); (simp only [zca, zcn] <;> exact rfl))
  (apply Plan.val'; (focus (intro x0 x1 x2 x3 x4 x5 w1 hb; (try simp only [depF, fillA, Act.put, zta, ztz, zpt, zsz, zss, zl0, zls]); (repeat (rintro rfl)); have st := st.call hb; ((apply Yphi.load1 st; exact rfl; exact inferInstance; (exact rfl); exact rfl; (exact get0); exact rfl)))); (simp only [zca, zcn] <;> exact rfl))
  (apply Plan.val'; (focus (intro x0 x1 x2 x3 x4 x5 w1 hb; (try simp only [depF, fillA, Act.put, zta, ztz, zpt, zsz, zss, zl0, zls]); (repeat (rintro rfl)); have st := st.call hb; apply Yphi.call; (exact rfl); (go_simp <;> (try simp (disch := omega) only [wrap_id, sub_left, zac]) <;> rfl); exact rfl; refine (CheckName_any x.n _ hs).mono ?_; rintro e w' ⟨rfl, hb'⟩; exact ⟨_, rfl, hb', rfl⟩)); (simp only [zca, zcn] <;> exact rfl))
  intro x0 x1 x2 x3 x4 x5 lo hi w1 hb hap
  rintro rfl rfl rfl rfl rfl rfl
  simp only [allPhi, fillA, Act.put, zta, ztz, zpt, zsz, zss, zda, zdz]
  have st := st.call hb
  clear hap hb
  go_wp2_with (refine WL.out ?_; (repeat ((refine WL.op ?_ ?_; (exact rfl); intro K hK; (first | ((((with_reducible apply ow_assign); exact rfl)); (go_simp <;> (try simp (disch := omega) only [wrap_id, sub_left, zac]) <;> rfl)) | ((((with_reducible apply ow_newSlice st); exact rfl; (go_simp <;> (try simp (disch := omega) only [wrap_id, sub_left, zac]) <;> rfl); exact rfl)); (try clear st); intro b w' st) | ((with_reducible apply ow_eval); (go_simp <;> (try simp (disch := omega) only [wrap_id, sub_left, zac]) <;> rfl); (((with_reducible apply up_enter); ((go_at_call 57; refine (first2_any _ _ _ _ (st.boxC (i := 0) rfl)).mono ?_; rintro e w' ⟨rfl, rfl⟩; refine ⟨_, rfl, ?_⟩)))))); refine WL.next hK (by simp only [Act.put, zpt, zsz, zss]; exact rfl) ?_; clear hK K))); (try refine WL.nil ?_))
  go_ret
  exact ⟨Ck.ret_int HR.out.symm, st.below⟩
set_option maxHeartbeats 1000000 in
theorem entryErr_any (x : Ck.En) (w : World) (hs : x.n.length ≤ 100000) :
    Calls Tryz.prog 94 #[.agg #[.string ⟨x.n.toArray⟩, .int .i64 x.f.r, .int .i64 x.f.q, .int .i64 x.z]] w fun e w' => e = .returned (.int .i64 (Ck.enErr x)) ∧ Below w.heap.size w w' := by
  have HR := Lib.hid (Ck.enErr_eq x)
  have st := St.start w
  go_enter Tryz.func94, Tryz.ntmps94
  go_wp2_with (refine WL.out ?_; (repeat ((refine WL.op ?_ ?_; (exact rfl); intro K hK; (first | ((((with_reducible apply ow_assign); exact rfl)); (go_simp <;> (try simp (disch := omega) only [wrap_id, sub_left, zac]) <;> rfl)) | ((((with_reducible apply ow_box st); exact rfl; (go_simp <;> (try simp (disch := omega) only [wrap_id, sub_left, zac]) <;> rfl); (go_simp <;> (try simp (disch := omega) only [wrap_id, sub_left, zac]) <;> rfl))); (try clear st); intro b w' st)); refine WL.next hK (by simp only [Act.put, zpt, zsz, zss]; exact rfl) ?_; clear hK K))); (try refine WL.nil ?_))
  refine wp_region_plan 10 (by kernel_rfl) (by kernel_rfl) ?_; replace st := st.drew; generalize World.drew _ = W at st ⊢
  (apply Plan.val'; (focus (intro x0 x1 x2 x3 x4 x5 x6 x7 x8 x9 w1 hb; (try simp only [depF, fillA, Act.put, zta, ztz, zpt, zsz, zss, zl0, zls]); (repeat (fail)); have st := st.call hb; ((apply Yphi.run; (exact rfl); (go_simp <;> (try simp (disch := omega) only [wrap_id, sub_left, zac]) <;> rfl); exact rfl)))); (simp only [zca, zcn] <;> exact rfl))
  (apply Plan.val'; (focus (intro x0 x1 x2 x3 x4 x5 x6 x7 x8 x9 w1 hb; (try simp only [depF, fillA, Act.put, zta, ztz, zpt, zsz, zss, zl0, zls]); (repeat (rintro rfl)); have st := st.call hb; ((apply Yphi.load1 st; exact rfl; exact inferInstance; (exact rfl); exact rfl; (exact get0); exact rfl)))); (simp only [zca, zcn] <;> exact rfl))
  (apply Plan.val'; (focus (intro x0 x1 x2 x3 x4 x5 x6 x7 x8 x9 w1 hb; (try simp only [depF, fillA, Act.put, zta, ztz, zpt, zsz, zss, zl0, zls]); (repeat (rintro rfl)); have st := st.call hb; apply Yphi.call; (exact rfl); (go_simp <;> (try simp (disch := omega) only [wrap_id, sub_left, zac]) <;> rfl); exact rfl; refine (CheckName_any x.n _ hs).mono ?_; rintro e w' ⟨rfl, hb'⟩; exact ⟨_, rfl, hb', rfl⟩)); (simp only [zca, zcn] <;> exact rfl))
  (apply Plan.val'; (focus (intro x0 x1 x2 x3 x4 x5 x6 x7 x8 x9 w1 hb; (try simp only [depF, fillA, Act.put, zta, ztz, zpt, zsz, zss, zl0, zls]); (repeat (fail)); have st := st.call hb; ((apply Yphi.run; (exact rfl); (go_simp <;> (try simp (disch := omega) only [wrap_id, sub_left, zac]) <;> rfl); exact rfl)))); (simp only [zca, zcn] <;> exact rfl))
  (apply Plan.val'; (focus (intro x0 x1 x2 x3 x4 x5 x6 x7 x8 x9 w1 hb; (try simp only [depF, fillA, Act.put, zta, ztz, zpt, zsz, zss, zl0, zls]); (repeat (rintro rfl)); have st := st.call hb; ((apply Yphi.loadN st; exact rfl; exact inferInstance; (exact rfl); exact rfl; (exact get0); ((try simp only [zta, ztz, zda, zdz, zca, zcn, zan, zsz, zss]) <;> exact rfl); exact rfl)))); (simp only [zca, zcn] <;> exact rfl))
  (apply Plan.val'; (focus (intro x0 x1 x2 x3 x4 x5 x6 x7 x8 x9 w1 hb; (try simp only [depF, fillA, Act.put, zta, ztz, zpt, zsz, zss, zl0, zls]); (repeat (rintro rfl)); have st := st.call hb; apply Yphi.call; (exact rfl); (go_simp <;> (try simp (disch := omega) only [wrap_id, sub_left, zac]) <;> rfl); exact rfl; refine (refErr_any x.f.r x.f.q _).mono ?_; rintro e w' ⟨rfl, hb'⟩; exact ⟨_, rfl, hb', rfl⟩)); (simp only [zca, zcn] <;> exact rfl))
  (apply Plan.val'; (focus (intro x0 x1 x2 x3 x4 x5 x6 x7 x8 x9 w1 hb; (try simp only [depF, fillA, Act.put, zta, ztz, zpt, zsz, zss, zl0, zls]); (repeat (fail)); have st := st.call hb; ((apply Yphi.run; (exact rfl); (go_simp <;> (try simp (disch := omega) only [wrap_id, sub_left, zac]) <;> rfl); exact rfl)))); (simp only [zca, zcn] <;> exact rfl))
  (apply Plan.val'; (focus (intro x0 x1 x2 x3 x4 x5 x6 x7 x8 x9 w1 hb; (try simp only [depF, fillA, Act.put, zta, ztz, zpt, zsz, zss, zl0, zls]); (repeat (rintro rfl)); have st := st.call hb; ((apply Yphi.load1 st; exact rfl; exact inferInstance; (exact rfl); exact rfl; (exact get0); exact rfl)))); (simp only [zca, zcn] <;> exact rfl))
  (apply Plan.val'; (focus (intro x0 x1 x2 x3 x4 x5 x6 x7 x8 x9 w1 hb; (try simp only [depF, fillA, Act.put, zta, ztz, zpt, zsz, zss, zl0, zls]); (repeat (rintro rfl)); have st := st.call hb; apply Yphi.call; (exact rfl); (go_simp <;> (try simp (disch := omega) only [wrap_id, sub_left, zac]) <;> rfl); exact rfl; refine (isNumber_any x.z _).mono ?_; rintro e w' ⟨rfl, rfl⟩; exact ⟨_, rfl, Below.refl _ _, rfl⟩)); (simp only [zca, zcn] <;> exact rfl))
  (apply Plan.val'; (focus (intro x0 x1 x2 x3 x4 x5 x6 x7 x8 x9 w1 hb; (try simp only [depF, fillA, Act.put, zta, ztz, zpt, zsz, zss, zl0, zls]); (repeat (first | rintro rfl | intro _)); have st := st.call hb; apply Yphi.call; (exact rfl); (go_simp <;> (try simp (disch := omega) only [wrap_id, sub_left, zac]) <;> rfl); exact rfl; refine (unless_any _ _ _).mono ?_; rintro e w' ⟨rfl, rfl⟩; exact ⟨_, rfl, Below.refl _ _, rfl⟩)); (simp only [zca, zcn] <;> exact rfl))
  intro x0 x1 x2 x3 x4 x5 x6 x7 x8 x9 lo hi w1 hb hap
  rintro rfl rfl rfl rfl rfl rfl rfl rfl rfl rfl
  simp only [allPhi, fillA, Act.put, zta, ztz, zpt, zsz, zss, zda, zdz]
  have st := st.call hb
  clear hap hb
  go_wp2_with (refine WL.out ?_; (repeat ((refine WL.op ?_ ?_; (exact rfl); intro K hK; (first | ((((with_reducible apply ow_assign); exact rfl)); (go_simp <;> (try simp (disch := omega) only [wrap_id, sub_left, zac]) <;> rfl)) | ((((with_reducible apply ow_newSlice st); exact rfl; (go_simp <;> (try simp (disch := omega) only [wrap_id, sub_left, zac]) <;> rfl); exact rfl)); (try clear st); intro b w' st) | ((with_reducible apply ow_eval); (go_simp <;> (try simp (disch := omega) only [wrap_id, sub_left, zac]) <;> rfl); (((with_reducible apply up_enter); ((go_at_call 57; refine (first3_any _ _ _ _ _ (st.boxC (i := 0) rfl)).mono ?_; rintro e w' ⟨rfl, rfl⟩; refine ⟨_, rfl, ?_⟩)))))); refine WL.next hK (by simp only [Act.put, zpt, zsz, zss]; exact rfl) ?_; clear hK K))); (try refine WL.nil ?_))
  go_ret
  exact ⟨Ck.ret_int HR.out.symm, st.below⟩
theorem badRun_on (W : World) (x : Ck.Run) : Calls Tryz.prog 135 (#[.agg (El.cells x).toArray] ++ #[]) W fun e w' => e = .returned (.bool (Ck.badRun x)) ∧ Below W.heap.size W w' := badRun_any x.s x.l W
set_option maxHeartbeats 1000000 in
theorem streamErr_any (x : Ck.VSm) (B : Nat) (w : World) (h : x.At w B) (hB : B ≤ w.heap.size) (hr : x.r.length ≤ 100000) :
    Calls Tryz.prog 93 #[.agg #[.slice x.A x.r.length x.c, .int .i64 x.z]] w fun e w' => e = .returned (.int .i64 (Ck.smErr x.p)) ∧ Below w.heap.size w w' := by
  have H := Lib.hid h
  clear h
  obtain ⟨n, en⟩ : ∃ n, n = x.r.length := ⟨_, rfl⟩
  have e1 := Lib.hid en
  rw [← en] at hr ⊢
  clear en
  by_cases h24 : 24 < n
  · have h24' : (24 : Int) < (n : Int) := by omega
    have HR := Lib.hid (show Ck.smErr x.p = 8 by unfold Ck.smErr; exact if_pos (by show 24 < x.r.length; rw [← e1.out]; exact h24))
    have st := St.start w
    go_enter Tryz.func93, Tryz.ntmps93
    go_wp2_with (refine WL.out ?_; (repeat ((refine WL.op ?_ ?_; (exact rfl); intro K hK; (first | ((((with_reducible apply ow_assign); exact rfl)); (go_simp <;> (try simp (disch := omega) only [wrap_id, sub_left, zac]) <;> rfl)) | ((((with_reducible apply ow_load1 st); exact rfl; exact inferInstance; exact rfl; (exact get0))); exact rfl) | ((((with_reducible apply ow_box st); exact rfl; (go_simp <;> (try simp (disch := omega) only [wrap_id, sub_left, zac]) <;> rfl); (go_simp <;> (try simp (disch := omega) only [wrap_id, sub_left, zac]) <;> rfl))); (try clear st); intro b w' st) | ((with_reducible apply ow_eval); (go_simp <;> (try simp (disch := omega) only [wrap_id, sub_left, zac]) <;> rfl); ((with_reducible apply up_value)))); refine WL.next hK (by simp only [Act.put, zpt, zsz, zss]; exact rfl) ?_; clear hK K))); (try refine WL.nil ?_))
    go_ret
    exact ⟨Ck.ret_int HR.out.symm, st.below⟩
  · have h24' : ¬ (24 : Int) < (n : Int) := by omega
    have HR := Lib.hid (show Ck.smErr x.p = if !(x.r.any Ck.badRun) && Ck.num x.z then 0 else 2 by unfold Ck.smErr; exact if_neg (by show ¬ 24 < x.r.length; rw [← e1.out]; exact h24))
    have hc : Hid (∀ W, Below w.heap.size w W → Calls Tryz.prog 136 #[.slice x.A n x.c, .func (.func 135) #[] #[]] W fun e w' => e = .returned (.bool (x.r.any Ck.badRun)) ∧ Below W.heap.size W w') := Lib.hid fun W hb => by
      have := ContainsFuncR_any x.A x.c B x.r 135 #[] Ck.badRun W (Lst.below H.out hb hB) (Nat.le_trans hB hb.size) (by rw [← e1.out]; exact hr) (fun _ _ => by kernel_rfl) (fun W' y _ _ => badRun_on W' y)
      rwa [← e1.out] at this
    rcases Bool.eq_false_or_eq_true (x.r.any Ck.badRun) with ha | ha
    · have HA := Lib.hid ha
      clear ha
      have st := St.start w
      go_enter Tryz.func93, Tryz.ntmps93
      go_wp2_with (refine WL.out ?_; (repeat (first | (refine WL.op ?_ ?_; (exact rfl); intro K hK; (first | ((first | ((with_reducible apply ow_move); exact rfl) | ((with_reducible apply ow_assign); exact rfl)); (go_simp <;> (try simp (disch := omega) only [wrap_id, sub_left, zac]) <;> rfl)) | ((((with_reducible apply ow_load1 st); exact rfl; exact inferInstance; exact rfl; (exact get0))); exact rfl) | ((((with_reducible apply ow_box st); exact rfl; (go_simp <;> (try simp (disch := omega) only [wrap_id, sub_left, zac]) <;> rfl); (go_simp <;> (try simp (disch := omega) only [wrap_id, sub_left, zac]) <;> rfl))); (try clear st); intro b w' st) | ((with_reducible apply ow_eval); (go_simp <;> (try simp (disch := omega) only [wrap_id, sub_left, zac]) <;> rfl); first | (with_reducible apply up_value) | ((with_reducible apply up_enter); first | (go_at_call 136; refine (hc.out _ st.below).mono ?_; rw [HA.out]; rintro e w' ⟨rfl, hb⟩; replace st := st.call hb; clear hb; refine ⟨_, rfl, ?_⟩) | (go_at_call 58; refine (unless_any _ _ _).mono ?_; rintro e w' ⟨rfl, rfl⟩; refine ⟨_, rfl, ?_⟩)))); refine WL.next hK (by simp only [Act.put, zpt, zsz, zss]; exact rfl) ?_; clear hK K) | (refine WL.skip ?_ (by simp only [Act.put, zpt, zsz, zss]; exact rfl) ?_; (exact rfl)))); (try refine WL.nil ?_))
      go_ret
      exact ⟨Ck.ret_int (by rw [HR.out, HA.out]; rfl), st.below⟩
    · have HA := Lib.hid ha
      clear ha
      have st := St.start w
      go_enter Tryz.func93, Tryz.ntmps93
      go_wp2_with (refine WL.out ?_; (repeat ((refine WL.op ?_ ?_; (exact rfl); intro K hK; (first | ((first | ((with_reducible apply ow_move); exact rfl) | ((with_reducible apply ow_assign); exact rfl)); (go_simp <;> (try simp (disch := omega) only [wrap_id, sub_left, zac]) <;> rfl)) | ((((with_reducible apply ow_load1 st); exact rfl; exact inferInstance; exact rfl; (exact get0))); exact rfl) | ((((with_reducible apply ow_box st); exact rfl; (go_simp <;> (try simp (disch := omega) only [wrap_id, sub_left, zac]) <;> rfl); (go_simp <;> (try simp (disch := omega) only [wrap_id, sub_left, zac]) <;> rfl))); (try clear st); intro b w' st) | ((with_reducible apply ow_eval); (go_simp <;> (try simp (disch := omega) only [wrap_id, sub_left, zac]) <;> rfl); first | (with_reducible apply up_value) | ((with_reducible apply up_enter); first | (go_at_call 136; refine (hc.out _ st.below).mono ?_; rw [HA.out]; rintro e w' ⟨rfl, hb⟩; replace st := st.call hb; clear hb; refine ⟨_, rfl, ?_⟩) | (go_at_call 58; refine (unless_any _ _ _).mono ?_; rintro e w' ⟨rfl, rfl⟩; refine ⟨_, rfl, ?_⟩) | (go_at_call 89; refine (isNumber_any x.z _).mono ?_; rintro e w' ⟨rfl, rfl⟩; refine ⟨_, rfl, ?_⟩)))); refine WL.next hK (by simp only [Act.put, zpt, zsz, zss]; exact rfl) ?_; clear hK K))); (try refine WL.nil ?_))
      go_ret
      exact ⟨Ck.ret_int (by rw [HR.out, HA.out]; rfl), st.below⟩
end Go.Proofs.YtgcjejajljhnaaaGreatDoor
namespace Go.Hp
open Go.RowKit
section
variable {P : Program} {ops : Array Oper} {o : Oper} {a : Act} {w0 w : World} {rs : List Res} {Q : Exit → Act → World → Prop} {K : Act → World → Prop}
theorem run_char {t : TypeId} {k : IntKind} {l : List UInt8} {j : Nat} (ht : P.underlying t = some .string) (hj : j < l.length) : (Instr.index t (.string ⟨l.toArray⟩) (.int k (j : Int))).run P w = .ok (.int .u8 (Ck.at_ 0 l j).toNat) w := by
  rw [run_index_string w t _ k _ ht, dif_pos ⟨by omega, by show (j : Int) < ((l.toArray.size : Nat) : Int); simp; omega⟩]
  rw [Ck.at_eq 0 l j hj]
  rfl
theorem ow_char {t : TypeId} {x y : Operand} {k : IntKind} {l : List UInt8} {iv : Int} (j : Nat) (ho : o.op = .index t x y) (ht : P.underlying t = some .string) (hx : a.eval x = .string ⟨l.toArray⟩) (hy : a.eval y = .int k iv) (hi : iv = (j : Int)) (hj : j < l.length)
    (h : K (a.put o.dst (.int .u8 (Ck.at_ 0 l j).toNat)) w) : OW P o a w K Q := by
  subst hi
  refine OW.mk (wp_value ?_ h)
  simp [execOp, ho, hx, hy, run_char (P := P) (k := k) ht hj]
theorem Yphi.chr {t : TypeId} {x y : Operand} {k : IntKind} {l : List UInt8} {iv : Int} (j : Nat) (hw : Region.wanted o (yielded ops a.tmps) = true) (ho : o.op = .index t x y) (ht : P.underlying t = some .string) (hx : a.eval x = .string ⟨l.toArray⟩) (hy : a.eval y = .int k iv) (hi : iv = (j : Int)) (hj : j < l.length) :
    Yphi P ops o a w (isV (.int .u8 (Ck.at_ 0 l j).toNat)) := .inl ⟨hw, (ow_char j ho ht hx hy hi hj ⟨_, rfl, Below.refl _ _, rfl⟩).out⟩
theorem ow_bin {b : BinOp} {t ty : TypeId} {x y : Operand} {xs ys : Array Value} {v : Value} (ho : o.op = .binOp b t x y ty) (hm : P.eqGuardType P.depth t = false) (hx : a.eval x = .agg xs) (hy : a.eval y = .agg ys) (hr : ∀ w, (binOp b t (.agg xs) (.agg ys)).run P w = .ok v w) (h : K (a.put o.dst v) w) : OW P o a w K Q := by
  refine OW.mk (wp_value ?_ h)
  simp [execOp, ho, hx, hy, run_eqGuard_agg _ _ _ _ _ _ _ hm, hr]
theorem Yphi.bin {b : BinOp} {t ty : TypeId} {x y : Operand} {xs ys : Array Value} {v : Value} (hw : Region.wanted o (yielded ops a.tmps) = true) (ho : o.op = .binOp b t x y ty) (hm : P.eqGuardType P.depth t = false) (hx : a.eval x = .agg xs) (hy : a.eval y = .agg ys) (hr : ∀ w, (binOp b t (.agg xs) (.agg ys)).run P w = .ok v w) :
    Yphi P ops o a w (isV v) := .inl ⟨hw, (ow_bin ho hm hx hy hr ⟨_, rfl, Below.refl _ _, rfl⟩).out⟩
end
end Go.Hp
namespace Go.Proofs.YtgcjejajljhnaaaGreatDoor
open Go.RowKit Go.Hp
theorem bsize_any (c : Int) (w : World) (h0 : 0 ≤ c) (h1 : c ≤ 4096) :
    Calls Tryz.prog 132 #[.int .i64 c] w fun e w' => e = .returned (.int .i64 ((c + 7) / 8)) ∧ w = w' := by
  have HR := Lib.hid (show (c + 8 - 1) / 8 = (c + 7) / 8 by congr 1; omega)
  go_enter Tryz.func132, Tryz.ntmps132
  go_wp2
  go_ret
  exact ⟨Ck.ret_int HR.out, rfl⟩
set_option maxHeartbeats 1000000 in
theorem CheckBitmap_any (s : List UInt8) (c : Int) (w : World) (hs : s.length ≤ 100000) :
    Calls Tryz.prog 88 #[.string ⟨s.toArray⟩, .int .i64 c] w fun e w' => e = .returned (.int .i64 (Ck.mapErr s c)) ∧ w = w' := by
  have HR := Lib.hid (Ck.mapErr.eq_1 s c)
  rcases Bool.eq_false_or_eq_true (Ck.wi c 0 4096) with hwi | hwi
  · have hb : 0 ≤ c ∧ c ≤ 4096 := by simpa [Ck.wi] using hwi
    obtain ⟨h0, h1⟩ := hb
    obtain ⟨q, hq⟩ : ∃ q : Nat, (q : Int) = (c + 7) / 8 := ⟨((c + 7) / 8).toNat, by omega⟩
    have hsz : ∀ W, Calls Tryz.prog 132 #[.int .i64 c] W fun e w' => e = .returned (.int .i64 (q : Int)) ∧ W = w' := fun W => by rw [hq]; exact bsize_any c W h0 h1
    have HQ := Lib.hid hq
    clear hq
    by_cases hl : s.length = q
    · obtain ⟨r, hr⟩ : ∃ r : Nat, c.tmod 8 = (r : Int) := ⟨(c % 8).toNat, by rw [Int.tmod_eq_emod_of_nonneg h0]; omega⟩
      have HRR := Lib.hid (show c % 8 = (r : Int) by rw [← Int.tmod_eq_emod_of_nonneg h0]; exact hr)
      have hr8 : r < 8 := by have := HRR.out; omega
      rcases Nat.eq_zero_or_pos r with hz | hz
      · subst hz
        have st := St.start w
        go_enter Tryz.func88, Tryz.ntmps88
        go_wp2_with (refine WL.out ?_; (repeat (first | (refine WL.op ?_ ?_; (exact rfl); intro K hK; (first | ((first | ((with_reducible apply ow_move); exact rfl) | ((with_reducible apply ow_assign); exact rfl)); (go_simp <;> (try simp (disch := omega) only [wrap_id, sub_left, zac]) <;> rfl)) | ((with_reducible apply ow_eval); (go_simp <;> (try simp (disch := omega) only [wrap_id, sub_left, zac]) <;> rfl); first | (with_reducible apply up_value) | ((with_reducible apply up_enter); first | (go_at_call 131; refine (bwithin_any _ _ _ _).mono ?_; rintro e w' ⟨rfl, rfl⟩; refine ⟨_, rfl, ?_⟩) | (go_at_call 132; refine (hsz _).mono ?_; rintro e w' ⟨rfl, rfl⟩; refine ⟨_, rfl, ?_⟩) | (go_at_call 133; refine (bunless_any _ _ _).mono ?_; rintro e w' ⟨rfl, rfl⟩; refine ⟨_, rfl, ?_⟩)))); refine WL.next hK (by simp only [Act.put, zpt, zsz, zss]; exact rfl) ?_; clear hK K) | (refine WL.skip ?_ (by simp only [Act.put, zpt, zsz, zss]; exact rfl) ?_; (exact rfl)))); (try refine WL.nil ?_))
        go_ret
        exact ⟨Ck.ret_int (by rw [HR.out, if_pos hwi, if_pos (by rw [hl]; have := HQ.out; omega), if_pos (.inl HRR.out)]; rfl), rfl⟩
      · obtain ⟨m, rfl⟩ : ∃ m, q = m + 1 := ⟨q - 1, by have := HQ.out; have := HRR.out; omega⟩
        have hr0 : ((r : Int) == 0) = false := by rw [beq_eq_false_iff_ne]; omega
        have hwm : IntKind.i64.wrap (m : Int) = (m : Int) := by rw [IntKind.wrap_i64]; have := HQ.out; omega
        have hm : s.length = m + 1 := hl
        have HL := Lib.hid hl
        clear hl
        have HLast := Lib.hid (show s.getLast?.getD 0 = Ck.at_ 0 s m by
          have : s ≠ [] := by intro e; rw [e] at hm; simp at hm
          rw [List.getLast?_eq_some_getLast this, Ck.at_eq 0 s m (by omega), List.getLast_eq_getElem]
          simp [hm])
        have st := St.start w
        go_enter Tryz.func88, Tryz.ntmps88
        go_wp2_with (refine WL.out ?_; (repeat ((refine WL.op ?_ ?_; (exact rfl); intro K hK; (first | ((first | ((with_reducible apply ow_move); exact rfl) | ((with_reducible apply ow_assign); exact rfl)); (go_simp <;> (try simp (disch := omega) only [wrap_id, sub_left, zac]) <;> rfl)) | ((with_reducible apply ow_char (m)); exact rfl; exact Tryz.underlying9; exact rfl; exact rfl; (focus (exact rfl)); (focus omega)) | ((with_reducible apply ow_eval); (go_simp <;> (try simp (disch := omega) only [wrap_id, sub_left, zac]) <;> rfl); first | (with_reducible apply up_value) | ((with_reducible apply up_enter); first | (go_at_call 131; refine (bwithin_any _ _ _ _).mono ?_; rintro e w' ⟨rfl, rfl⟩; refine ⟨_, rfl, ?_⟩) | (go_at_call 132; refine (hsz _).mono ?_; rintro e w' ⟨rfl, rfl⟩; refine ⟨_, rfl, ?_⟩) | (go_at_call 133; refine (bunless_any _ _ _).mono ?_; rintro e w' ⟨rfl, rfl⟩; refine ⟨_, rfl, ?_⟩)))); refine WL.next hK (by simp only [Act.put, zpt, zsz, zss]; exact rfl) ?_; clear hK K))); (try refine WL.nil ?_))
        go_ret
        refine ⟨Ck.ret_int ?_, rfl⟩
        rw [HR.out, if_pos hwi, if_pos (by rw [hm]; have := HQ.out; omega), HLast.out, HRR.out]
        unfold Ck.unl
        have e1 : (((Ck.at_ 0 s m).toNat : Int) / 2 ^ r == 0) = decide ((Ck.at_ 0 s m).toNat / 2 ^ r = 0) := by
          rw [show (((Ck.at_ 0 s m).toNat : Int) / 2 ^ r) = (((Ck.at_ 0 s m).toNat / 2 ^ r : Nat) : Int) by push_cast; rfl]
          by_cases h : (Ck.at_ 0 s m).toNat / 2 ^ r = 0
          · rw [h]; rfl
          · rw [decide_eq_false h, beq_eq_false_iff_ne]; omega
        rw [e1, Int.toNat_natCast]
        by_cases h : (Ck.at_ 0 s m).toNat / 2 ^ r = 0
        · rw [decide_eq_true h, if_pos (show (r : Int) = 0 ∨ _ from .inr h)]; rfl
        · rw [decide_eq_false h, if_neg (show ¬ ((r : Int) = 0 ∨ (Ck.at_ 0 s m).toNat / 2 ^ r = 0) from fun h' => h'.elim (fun e => by omega) h)]; rfl
    · have hne : ((s.length : Int) != (q : Int)) = true := by rw [bne_iff_ne]; omega
      have hne' : ((s.length : Int) == (q : Int)) = false := by rw [beq_eq_false_iff_ne]; omega
      have HL := Lib.hid hl
      clear hl
      have st := St.start w
      go_enter Tryz.func88, Tryz.ntmps88
      go_wp2_with (refine WL.out ?_; (repeat ((refine WL.op ?_ ?_; (exact rfl); intro K hK; (first | ((((with_reducible apply ow_move); exact rfl)); (go_simp <;> (try simp (disch := omega) only [wrap_id, sub_left, zac]) <;> rfl)) | ((with_reducible apply ow_eval); (go_simp <;> (try simp (disch := omega) only [wrap_id, sub_left, zac]) <;> rfl); first | (with_reducible apply up_value) | ((with_reducible apply up_enter); first | (go_at_call 131; refine (bwithin_any _ _ _ _).mono ?_; rintro e w' ⟨rfl, rfl⟩; refine ⟨_, rfl, ?_⟩) | (go_at_call 132; refine (hsz _).mono ?_; rintro e w' ⟨rfl, rfl⟩; refine ⟨_, rfl, ?_⟩)))); refine WL.next hK (by simp only [Act.put, zpt, zsz, zss]; exact rfl) ?_; clear hK K))); (try refine WL.nil ?_))
      go_ret
      exact ⟨Ck.ret_int (by rw [HR.out, if_pos hwi, if_neg (by have := HQ.out; have := HL.out; omega)]), rfl⟩
  · have st := St.start w
    go_enter Tryz.func88, Tryz.ntmps88
    go_wp2_with (refine WL.out ?_; (repeat ((refine WL.op ?_ ?_; (exact rfl); intro K hK; (((with_reducible apply ow_eval); (go_simp <;> (try simp (disch := omega) only [wrap_id, sub_left, zac]) <;> rfl); first | (with_reducible apply up_value) | ((with_reducible apply up_enter); ((go_at_call 131; refine (bwithin_any _ _ _ _).mono ?_; rintro e w' ⟨rfl, rfl⟩; refine ⟨_, rfl, ?_⟩))))); refine WL.next hK (by simp only [Act.put, zpt, zsz, zss]; exact rfl) ?_; clear hK K))); (try refine WL.nil ?_))
    go_ret
    exact ⟨Ck.ret_int (by rw [HR.out, if_neg (by rw [hwi]; exact Bool.false_ne_true)]), rfl⟩
end Go.Proofs.YtgcjejajljhnaaaGreatDoor
namespace Go.Proofs.YtgcjejajljhnaaaGreatDoor
open Go.RowKit Go.Hp
theorem oldI {w : World} {b o j : Nat} {x : Int} (h : OldC w b (o + j * 1) [.int .i64 x]) : w.cell? ⟨b, o + j, none⟩ = some (.int .i64 x) := by
  have := h 0 _ rfl
  rwa [Nat.mul_one, Nat.add_zero] at this
set_option maxRecDepth 8000 in
set_option maxHeartbeats 4000000 in
theorem wholeErr_any (v : Ck.VPt) (B : Nat) (w : World) (h : v.At w B) (hB : B ≤ w.heap.size) (hf : v.Fit) (hm : v.mp.length ≤ 100000) :
    Calls Tryz.prog 46 #[v.val] w fun e w' => e = .returned (.int .i64 (Ck.wholeErr v.p)) ∧ Below w.heap.size w w' := by
  have H := Lib.hid h
  have HF := Lib.hid hf
  have HMP := Lib.hid hm
  clear h hf hm
  obtain ⟨c, al, rs, ds, mp, Aa, ca, Ar, cr, Ad, cd⟩ := v
  unfold Ck.VPt.val
  simp only at *
  obtain ⟨na, e1⟩ : ∃ n, n = al.length := ⟨_, rfl⟩
  obtain ⟨nr, e2⟩ : ∃ n, n = rs.length := ⟨_, rfl⟩
  obtain ⟨nd, e3⟩ : ∃ n, n = ds.length := ⟨_, rfl⟩
  have E1 := Lib.hid e1
  have E2 := Lib.hid e2
  have E3 := Lib.hid e3
  rw [← e1, ← e2, ← e3]
  clear e1 e2 e3
  have hn1 : na ≤ 100000 := by rw [E1.out]; exact HF.out.al
  have hn2 : nr ≤ 100000 := by rw [E2.out]; exact HF.out.rs
  have hn3 : nd ≤ 100000 := by rw [E3.out]; exact HF.out.ds
  obtain ⟨R, eR⟩ : ∃ R, R = Ck.wholeErr (Ck.VPt.p ⟨c, al, rs, ds, mp, Aa, ca, Ar, cr, Ad, cd⟩) := ⟨_, rfl⟩
  rw [← eR]
  have HR : Hid (R = Ck.first [if Ck.wi c 64 512 then 0 else 2, if 24 < na ∨ 96 < nr ∨ 64 < nd then 8 else 0, Ck.goE (fun i => Ck.alErr c (Ck.at_ Ck.Run.o al i)) na, Ck.goE (Ck.dsErr ds) nd, if nd = 0 then 17 else 0, Ck.mapErr mp c]) := Lib.hid (by
    rw [eR, E1.out, E2.out, E3.out]
    show Ck.first [_, if 24 < al.length ∨ 96 < (rs.map Ck.VRc.p).length ∨ 64 < ds.length then 8 else 0, _, _, _, _] = _
    rw [List.length_map]
    rfl)
  clear eR
  have st := St.start w
  go_enter Tryz.func46, Tryz.ntmps46
  cases z1 : Ck.wi c 64 512
  · go_wp2_with (refine WL.out ?_; (repeat ((refine WL.op ?_ ?_; (exact rfl); intro K hK; (first | ((((with_reducible apply ow_assign); exact rfl)); (go_simp <;> (try simp (disch := omega) only [wrap_id, sub_left, zac]) <;> rfl)) | ((((with_reducible apply ow_load1 st); exact rfl; exact inferInstance; exact rfl; (exact get0))); exact rfl) | ((((with_reducible apply ow_box st); exact rfl; (go_simp <;> (try simp (disch := omega) only [wrap_id, sub_left, zac]) <;> rfl); (go_simp <;> (try simp (disch := omega) only [wrap_id, sub_left, zac]) <;> rfl))); (try clear st); intro b w' st) | ((with_reducible apply ow_eval); (go_simp <;> (try simp (disch := omega) only [wrap_id, sub_left, zac]) <;> rfl); first | (with_reducible apply up_value) | ((with_reducible apply up_enter); first | (go_at_call 59; refine (within_any _ _ _ _).mono ?_; rintro e w' ⟨rfl, rfl⟩; refine ⟨_, rfl, ?_⟩) | (go_at_call 58; refine (unless_any _ _ _).mono ?_; rintro e w' ⟨rfl, rfl⟩; refine ⟨_, rfl, ?_⟩)))); refine WL.next hK (by simp only [Act.put, zpt, zsz, zss]; exact rfl) ?_; clear hK K))); (try refine WL.nil ?_))
    go_ret
    exact ⟨Ck.ret_int (by rw [HR.out, z1]; rfl), st.below⟩
  obtain ⟨hc0, hc1⟩ : 64 ≤ c ∧ c ≤ 512 := by simp [Ck.wi] at z1; omega
  have Z1 := Lib.hid z1
  by_cases hg1 : (24 : Int) < (na : Int)
  · have Z2 := Lib.hid (show 24 < na ∨ 96 < nr ∨ 64 < nd by omega)
    go_wp2_with (refine WL.out ?_; (repeat (first | (refine WL.op ?_ ?_; (exact rfl); intro K hK; (first | ((first | ((with_reducible apply ow_move); exact rfl) | ((with_reducible apply ow_assign); exact rfl)); (go_simp <;> (try simp (disch := omega) only [wrap_id, sub_left, zac]) <;> rfl)) | ((((with_reducible apply ow_load1 st); exact rfl; exact inferInstance; exact rfl; (exact get0))); exact rfl) | ((((with_reducible apply ow_box st); exact rfl; (go_simp <;> (try simp (disch := omega) only [wrap_id, sub_left, zac]) <;> rfl); (go_simp <;> (try simp (disch := omega) only [wrap_id, sub_left, zac]) <;> rfl))); (try clear st); intro b w' st) | ((with_reducible apply ow_eval); (go_simp <;> (try simp (disch := omega) only [wrap_id, sub_left, zac]) <;> rfl); first | (with_reducible apply up_value) | ((with_reducible apply up_enter); first | (go_at_call 59; refine (within_any _ _ _ _).mono ?_; rintro e w' ⟨rfl, rfl⟩; refine ⟨_, rfl, ?_⟩) | (go_at_call 58; refine (unless_any _ _ _).mono ?_; rintro e w' ⟨rfl, rfl⟩; refine ⟨_, rfl, ?_⟩)))); refine WL.next hK (by simp only [Act.put, zpt, zsz, zss]; exact rfl) ?_; clear hK K) | (refine WL.skip ?_ (by simp only [Act.put, zpt, zsz, zss]; exact rfl) ?_; (exact rfl)))); (try refine WL.nil ?_))
    go_ret
    exact ⟨Ck.ret_int (by rw [HR.out, Z1.out, if_pos Z2.out]; rfl), st.below⟩
  by_cases hg2 : (96 : Int) < (nr : Int)
  · have Z2 := Lib.hid (show 24 < na ∨ 96 < nr ∨ 64 < nd by omega)
    go_wp2_with (refine WL.out ?_; (repeat (first | (refine WL.op ?_ ?_; (exact rfl); intro K hK; (first | ((first | ((with_reducible apply ow_move); exact rfl) | ((with_reducible apply ow_assign); exact rfl)); (go_simp <;> (try simp (disch := omega) only [wrap_id, sub_left, zac]) <;> rfl)) | ((((with_reducible apply ow_load1 st); exact rfl; exact inferInstance; exact rfl; (exact get0))); exact rfl) | ((((with_reducible apply ow_box st); exact rfl; (go_simp <;> (try simp (disch := omega) only [wrap_id, sub_left, zac]) <;> rfl); (go_simp <;> (try simp (disch := omega) only [wrap_id, sub_left, zac]) <;> rfl))); (try clear st); intro b w' st) | ((with_reducible apply ow_eval); (go_simp <;> (try simp (disch := omega) only [wrap_id, sub_left, zac]) <;> rfl); first | (with_reducible apply up_value) | ((with_reducible apply up_enter); first | (go_at_call 59; refine (within_any _ _ _ _).mono ?_; rintro e w' ⟨rfl, rfl⟩; refine ⟨_, rfl, ?_⟩) | (go_at_call 58; refine (unless_any _ _ _).mono ?_; rintro e w' ⟨rfl, rfl⟩; refine ⟨_, rfl, ?_⟩)))); refine WL.next hK (by simp only [Act.put, zpt, zsz, zss]; exact rfl) ?_; clear hK K) | (refine WL.skip ?_ (by simp only [Act.put, zpt, zsz, zss]; exact rfl) ?_; (exact rfl)))); (try refine WL.nil ?_))
    go_ret
    exact ⟨Ck.ret_int (by rw [HR.out, Z1.out, if_pos Z2.out]; rfl), st.below⟩
  by_cases hg3 : (64 : Int) < (nd : Int)
  · have Z2 := Lib.hid (show 24 < na ∨ 96 < nr ∨ 64 < nd by omega)
    go_wp2_with (refine WL.out ?_; (repeat ((refine WL.op ?_ ?_; (exact rfl); intro K hK; (first | ((first | ((with_reducible apply ow_move); exact rfl) | ((with_reducible apply ow_assign); exact rfl)); (go_simp <;> (try simp (disch := omega) only [wrap_id, sub_left, zac]) <;> rfl)) | ((((with_reducible apply ow_load1 st); exact rfl; exact inferInstance; exact rfl; (exact get0))); exact rfl) | ((((with_reducible apply ow_box st); exact rfl; (go_simp <;> (try simp (disch := omega) only [wrap_id, sub_left, zac]) <;> rfl); (go_simp <;> (try simp (disch := omega) only [wrap_id, sub_left, zac]) <;> rfl))); (try clear st); intro b w' st) | ((with_reducible apply ow_eval); (go_simp <;> (try simp (disch := omega) only [wrap_id, sub_left, zac]) <;> rfl); first | (with_reducible apply up_value) | ((with_reducible apply up_enter); first | (go_at_call 59; refine (within_any _ _ _ _).mono ?_; rintro e w' ⟨rfl, rfl⟩; refine ⟨_, rfl, ?_⟩) | (go_at_call 58; refine (unless_any _ _ _).mono ?_; rintro e w' ⟨rfl, rfl⟩; refine ⟨_, rfl, ?_⟩)))); refine WL.next hK (by simp only [Act.put, zpt, zsz, zss]; exact rfl) ?_; clear hK K))); (try refine WL.nil ?_))
    go_ret
    exact ⟨Ck.ret_int (by rw [HR.out, Z1.out, if_pos Z2.out]; rfl), st.below⟩
  have HR2 : Hid (R = Ck.first [Ck.goE (fun i => Ck.alErr c (Ck.at_ Ck.Run.o al i)) na, Ck.goE (Ck.dsErr ds) nd, if nd = 0 then 17 else 0, Ck.mapErr mp c]) := Lib.hid (by
    rw [HR.out, Z1.out, if_neg (show ¬ (24 < na ∨ 96 < nr ∨ 64 < nd) by omega)]
    rfl)
  clear HR Z1
  go_wp2_with (refine WL.out ?_; (repeat ((refine WL.op ?_ ?_; (exact rfl); intro K hK; (first | ((first | ((with_reducible apply ow_move); exact rfl) | ((with_reducible apply ow_assign); exact rfl)); (go_simp <;> (try simp (disch := omega) only [wrap_id, sub_left, zac]) <;> rfl)) | ((((with_reducible apply ow_load1 st); exact rfl; exact inferInstance; exact rfl; (exact get0))); exact rfl) | ((((with_reducible apply ow_box st); exact rfl; (go_simp <;> (try simp (disch := omega) only [wrap_id, sub_left, zac]) <;> rfl); (go_simp <;> (try simp (disch := omega) only [wrap_id, sub_left, zac]) <;> rfl))); (try clear st); intro b w' st) | ((with_reducible apply ow_eval); (go_simp <;> (try simp (disch := omega) only [wrap_id, sub_left, zac]) <;> rfl); first | (with_reducible apply up_value) | ((with_reducible apply up_enter); first | (go_at_call 59; refine (within_any _ _ _ _).mono ?_; rintro e w' ⟨rfl, rfl⟩; refine ⟨_, rfl, ?_⟩) | (go_at_call 58; refine (unless_any _ _ _).mono ?_; rintro e w' ⟨rfl, rfl⟩; refine ⟨_, rfl, ?_⟩)))); refine WL.next hK (by simp only [Act.put, zpt, zsz, zss]; exact rfl) ?_; clear hK K))); (try refine WL.nil ?_))
  clear z1
  go_loopw [34] (fun i wr => ∃ j : Nat, j ≤ na ∧ i = .int .i64 j ∧ St w wr [.box b 26 [.int .i64 c, .slice Aa na ca, .slice Ar nr cr, .slice Ad nd cd, .string ⟨mp.toArray⟩]] ∧ Hid (Ck.goE (fun i => Ck.alErr c (Ck.at_ Ck.Run.o al i)) j = 0)) (fun i _ => na - (intOf i).toNat)
  case atStart => exact ⟨0, by omega, rfl, st, rfl⟩
  case round =>
    clear st
    obtain ⟨j, hj, rfl, st, hs⟩ := hrel
    by_cases hlt : j < na
    · have hkl : Hid (j < al.length) := Lib.hid (by rw [← E1.out]; exact hlt)
      obtain ⟨b1, o1, rfl, hb1, hc⟩ := H.out.al.at_ (Nat.lt_of_le_of_lt (Nat.zero_le _) hkl.out)
      have hb1 := Nat.lt_of_lt_of_le hb1 hB
      have f1 := hc j hkl.out
      clear hc
      obtain ⟨y, hy⟩ : ∃ y, y = Ck.at_ Ck.Run.o al j := ⟨_, rfl⟩
      have f1 : OldC w b1 (o1 + j * 2) [.int .i64 y.s, .int .i64 y.l] := by rw [hy]; exact f1
      have HY := Lib.hid hy
      clear hy
      obtain ⟨ys, yl⟩ := y
      simp only at f1
      have bad : Hid (Ck.alErr c ⟨ys, yl⟩ ≠ 0 → R = Ck.alErr c ⟨ys, yl⟩) := Lib.hid fun h0 => by
        have := (Ck.goE_stop (fun i => Ck.alErr c (Ck.at_ Ck.Run.o al i)) hs.out (by show Ck.alErr c (Ck.at_ Ck.Run.o al j) ≠ 0; rw [← HY.out]; exact h0) na hlt)
        rw [HR2.out, this]
        show Ck.first (Ck.alErr c (Ck.at_ Ck.Run.o al j) :: _) = _
        rw [← HY.out]
        exact if_neg h0
      cases z2 : Ck.wi ys 0 (c - 1)
      · have Z2 := Lib.hid z2
        go_wp2_with (refine WL.out ?_; (repeat (first | (refine WL.op ?_ ?_; (exact rfl); intro K hK; (first | ((((with_reducible apply ow_move); exact rfl)); (go_simp <;> (try simp (disch := omega) only [wrap_id, sub_left, zac]) <;> rfl)) | ((((with_reducible apply ow_load1 st); exact rfl; exact inferInstance; exact rfl; (first | exact get0 | exact get1))); exact rfl) | ((((with_reducible apply ow_alloc st); exact rfl; exact inferInstance; (go_simp <;> (try simp (disch := omega) only [wrap_id, sub_left, zac]) <;> rfl))); (try clear st); intro b w' st) | ((((with_reducible apply ow_storeN' st); exact rfl; exact inferInstance; exact rfl; (exact get0); exact rfl)); exact rfl; exact rfl; (simp <;> done); ((try simp only [zta, ztz, zda, zdz, zca, zcn, zan, zsz, zss]) <;> exact rfl); (try clear st); intro w' st) | ((with_reducible apply ow_oldC st); exact rfl; exact inferInstance; exact rfl; assumption; assumption; exact rfl) | ((with_reducible apply ow_eval); (go_simp <;> (try simp (disch := omega) only [wrap_id, sub_left, zac]) <;> rfl); first | (with_reducible apply up_value) | ((with_reducible apply up_enter); ((go_at_call 59; refine (within_any _ _ _ _).mono ?_; rintro e w' ⟨rfl, rfl⟩; refine ⟨_, rfl, ?_⟩))))); refine WL.next hK (by simp only [Act.put, zpt, zsz, zss]; exact rfl) ?_; clear hK K) | (refine WL.skip ?_ (by simp only [Act.put, zpt, zsz, zss]; exact rfl) ?_; (exact rfl)))); (try refine WL.nil ?_))
        go_ret
        have e2 : Ck.alErr c ⟨ys, yl⟩ = 2 := by unfold Ck.alErr; rw [Z2.out]; rfl
        exact ⟨Ck.ret_int (by rw [bad.out (by rw [e2]; decide), e2]), st.below⟩
      obtain ⟨hy0, hy1⟩ : 0 ≤ ys ∧ ys ≤ c - 1 := by simp [Ck.wi] at z2; omega
      cases z3 : Ck.wi yl 1 (c - ys)
      · have Z3 := Lib.hid (And.intro z2 z3)
        go_wp2_with (refine WL.out ?_; (repeat ((refine WL.op ?_ ?_; (exact rfl); intro K hK; (first | ((((with_reducible apply ow_move); exact rfl)); (go_simp <;> (try simp (disch := omega) only [wrap_id, sub_left, zac]) <;> rfl)) | ((((with_reducible apply ow_load1 st); exact rfl; exact inferInstance; exact rfl; (first | exact get0 | exact get1))); exact rfl) | ((((with_reducible apply ow_alloc st); exact rfl; exact inferInstance; (go_simp <;> (try simp (disch := omega) only [wrap_id, sub_left, zac]) <;> rfl))); (try clear st); intro b w' st) | ((((with_reducible apply ow_storeN' st); exact rfl; exact inferInstance; exact rfl; (exact get0); exact rfl)); exact rfl; exact rfl; (simp <;> done); ((try simp only [zta, ztz, zda, zdz, zca, zcn, zan, zsz, zss]) <;> exact rfl); (try clear st); intro w' st) | ((with_reducible apply ow_oldC st); exact rfl; exact inferInstance; exact rfl; assumption; assumption; exact rfl) | ((with_reducible apply ow_eval); (go_simp <;> (try simp (disch := omega) only [wrap_id, sub_left, zac]) <;> rfl); first | (with_reducible apply up_value) | ((with_reducible apply up_enter); ((go_at_call 59; refine (within_any _ _ _ _).mono ?_; rintro e w' ⟨rfl, rfl⟩; refine ⟨_, rfl, ?_⟩))))); refine WL.next hK (by simp only [Act.put, zpt, zsz, zss]; exact rfl) ?_; clear hK K))); (try refine WL.nil ?_))
        go_ret
        have e2 : Ck.alErr c ⟨ys, yl⟩ = 2 := by unfold Ck.alErr; rw [Z3.out.1, Z3.out.2]; rfl
        exact ⟨Ck.ret_int (by rw [bad.out (by rw [e2]; decide), e2]), st.below⟩
      have hs' : Hid (Ck.goE (fun i => Ck.alErr c (Ck.at_ Ck.Run.o al i)) (j + 1) = 0) := Lib.hid (by rw [Ck.goE_next _ hs.out, ← HY.out]; unfold Ck.alErr; rw [z2, z3]; rfl)
      go_wp2_with (refine WL.out ?_; (repeat ((refine WL.op ?_ ?_; (exact rfl); intro K hK; (first | ((((with_reducible apply ow_move); exact rfl)); (go_simp <;> (try simp (disch := omega) only [wrap_id, sub_left, zac]) <;> rfl)) | ((((with_reducible apply ow_load1 st); exact rfl; exact inferInstance; exact rfl; (first | exact get0 | exact get1))); exact rfl) | ((((with_reducible apply ow_alloc st); exact rfl; exact inferInstance; (go_simp <;> (try simp (disch := omega) only [wrap_id, sub_left, zac]) <;> rfl))); (try clear st); intro b w' st) | ((((with_reducible apply ow_storeN' st); exact rfl; exact inferInstance; exact rfl; (exact get0); exact rfl)); exact rfl; exact rfl; (simp <;> done); ((try simp only [zta, ztz, zda, zdz, zca, zcn, zan, zsz, zss]) <;> exact rfl); (try clear st); intro w' st) | ((with_reducible apply ow_oldC st); exact rfl; exact inferInstance; exact rfl; assumption; assumption; exact rfl) | ((with_reducible apply ow_eval); (go_simp <;> (try simp (disch := omega) only [wrap_id, sub_left, zac]) <;> rfl); first | (with_reducible apply up_value) | ((with_reducible apply up_enter); ((go_at_call 59; refine (within_any _ _ _ _).mono ?_; rintro e w' ⟨rfl, rfl⟩; refine ⟨_, rfl, ?_⟩))))); refine WL.next hK (by simp only [Act.put, zpt, zsz, zss]; exact rfl) ?_; clear hK K))); (try refine WL.nil ?_))
      exact ⟨⟨j + 1, by omega, by go_num, st.tail, hs'⟩, by simp [intOf]; omega⟩
    · obtain rfl : na = j := by omega
      have HR3 : Hid (R = Ck.first [Ck.goE (Ck.dsErr ds) nd, if nd = 0 then 17 else 0, Ck.mapErr mp c]) := Lib.hid (by rw [HR2.out, hs.out]; rfl)
      clear hs HR2
      go_wp2_with (refine WL.out ?_; (repeat ((refine WL.op ?_ ?_; (exact rfl); intro K hK; (first | ((((with_reducible apply ow_move); exact rfl)); (go_simp <;> (try simp (disch := omega) only [wrap_id, sub_left, zac]) <;> rfl)) | ((((with_reducible apply ow_load1 st); exact rfl; exact inferInstance; exact rfl; (exact get0))); exact rfl) | ((with_reducible apply ow_eval); (go_simp <;> (try simp (disch := omega) only [wrap_id, sub_left, zac]) <;> rfl); ((with_reducible apply up_value)))); refine WL.next hK (by simp only [Act.put, zpt, zsz, zss]; exact rfl) ?_; clear hK K))); (try refine WL.nil ?_))
      go_loopw [60] (fun i wr => ∃ j : Nat, j ≤ nd ∧ i = .int .i64 j ∧ St w wr [.box b 26 [.int .i64 c, .slice Aa na ca, .slice Ar nr cr, .slice Ad nd cd, .string ⟨mp.toArray⟩]] ∧ Hid (Ck.goE (Ck.dsErr ds) j = 0)) (fun i _ => nd - (intOf i).toNat)
      case atStart => exact ⟨0, by omega, rfl, st, rfl⟩
      case round =>
        clear st
        obtain ⟨j, hj, rfl, st, hs⟩ := hrel
        by_cases hlt : j < nd
        · have hkl : Hid (j < ds.length) := Lib.hid (by rw [← E3.out]; exact hlt)
          obtain ⟨b1, o1, rfl, hb1, hc⟩ := H.out.ds.at_ (Nat.lt_of_le_of_lt (Nat.zero_le _) hkl.out)
          have hb1 := Nat.lt_of_lt_of_le hb1 hB
          have f1 := oldI (hc j hkl.out)
          have f2 := fun i (hi : i < ds.length) => oldI (hc i hi)
          clear hc
          obtain ⟨y, hy⟩ : ∃ y, y = Ck.at_ 0 ds j := ⟨_, rfl⟩
          have f1 : w.cell? ⟨b1, o1 + j, none⟩ = some (.int .i64 y) := by rw [hy]; exact f1
          have HY := Lib.hid hy
          clear hy
          have bad : Hid (Ck.dsErr ds j ≠ 0 → R = Ck.dsErr ds j) := Lib.hid fun h0 => by
            have := Ck.goE_stop (Ck.dsErr ds) hs.out h0 nd hlt
            rw [HR3.out, this]
            exact if_neg h0
          cases z2 : Ck.wi y 1 2147483647
          · have Z2 := Lib.hid z2
            clear f2
            go_wp2_with (refine WL.out ?_; (repeat ((refine WL.op ?_ ?_; (exact rfl); intro K hK; (first | ((((with_reducible apply ow_assign); exact rfl)); (go_simp <;> (try simp (disch := omega) only [wrap_id, sub_left, zac]) <;> rfl)) | ((with_reducible apply ow_old1 st); exact rfl; exact inferInstance; exact rfl; assumption; assumption) | ((with_reducible apply ow_eval); (go_simp <;> (try simp (disch := omega) only [wrap_id, sub_left, zac]) <;> rfl); first | (with_reducible apply up_value) | ((with_reducible apply up_enter); ((go_at_call 59; refine (within_any _ _ _ _).mono ?_; rintro e w' ⟨rfl, rfl⟩; refine ⟨_, rfl, ?_⟩))))); refine WL.next hK (by simp only [Act.put, zpt, zsz, zss]; exact rfl) ?_; clear hK K))); (try refine WL.nil ?_))
            go_ret
            have e2 : Ck.dsErr ds j = 2 := by unfold Ck.dsErr; rw [← HY.out, Z2.out]; rfl
            exact ⟨Ck.ret_int (by rw [bad.out (by rw [e2]; decide), e2]), st.below⟩
          obtain ⟨hy0, hy1⟩ : 1 ≤ y ∧ y ≤ 2147483647 := by simp [Ck.wi] at z2; omega
          rcases Nat.eq_zero_or_pos j with hj0 | hj0
          · have hs' : Hid (Ck.goE (Ck.dsErr ds) (j + 1) = 0) := Lib.hid (by rw [Ck.goE_next _ hs.out]; unfold Ck.dsErr; rw [← HY.out, z2, if_pos rfl, if_neg (by omega)])
            clear f2
            have hj1 : ¬ (0 < j) := by omega
            clear hj0
            go_wp2_with (refine WL.out ?_; (repeat (first | (refine WL.op ?_ ?_; (exact rfl); intro K hK; (first | ((first | ((with_reducible apply ow_move); exact rfl) | ((with_reducible apply ow_assign); exact rfl)); (go_simp <;> (try simp (disch := omega) only [wrap_id, sub_left, zac]) <;> rfl)) | ((with_reducible apply ow_old1 st); exact rfl; exact inferInstance; exact rfl; assumption; assumption) | ((with_reducible apply ow_eval); (go_simp <;> (try simp (disch := omega) only [wrap_id, sub_left, zac]) <;> rfl); first | (with_reducible apply up_value) | ((with_reducible apply up_enter); ((go_at_call 59; refine (within_any _ _ _ _).mono ?_; rintro e w' ⟨rfl, rfl⟩; refine ⟨_, rfl, ?_⟩))))); refine WL.next hK (by simp only [Act.put, zpt, zsz, zss]; exact rfl) ?_; clear hK K) | (refine WL.skip ?_ (by simp only [Act.put, zpt, zsz, zss]; exact rfl) ?_; (exact rfl)))); (try refine WL.nil ?_))
            exact ⟨⟨j + 1, by omega, by go_num, st, hs'⟩, by simp [intOf]; omega⟩
          · obtain ⟨i, hi⟩ : ∃ i, j = i + 1 := ⟨j - 1, by omega⟩
            have HI := Lib.hid hi
            have hji : (j : Int) - 1 = (i : Int) := by omega
            have hin : i < nd := by omega
            have f2 := f2 i (Nat.lt_trans (by omega) hkl.out)
            clear hi
            obtain ⟨x, hx⟩ : ∃ x, x = Ck.at_ 0 ds i := ⟨_, rfl⟩
            have f2 : w.cell? ⟨b1, o1 + i, none⟩ = some (.int .i64 x) := by rw [hx]; exact f2
            have HX := Lib.hid hx
            clear hx
            have hds : Hid (Ck.dsErr ds j = if y ≤ x then 9 else 0) := Lib.hid (by
              unfold Ck.dsErr
              rw [← HY.out, z2, HI.out, Nat.add_sub_cancel, ← HX.out, if_pos rfl]
              by_cases h : y ≤ x
              · rw [if_pos h, if_pos ⟨by omega, h⟩]
              · rw [if_neg h, if_neg (fun q => h q.2)])
            by_cases hyx : y ≤ x
            · go_wp2_with (refine WL.out ?_; (repeat ((refine WL.op ?_ ?_; (exact rfl); intro K hK; (first | ((first | ((with_reducible apply ow_move); exact rfl) | ((with_reducible apply ow_assign); exact rfl)); (go_simp <;> (try simp (disch := omega) only [wrap_id, sub_left, zac]) <;> rfl)) | ((((with_reducible apply ow_load1 st); exact rfl; exact inferInstance; exact rfl; (exact get0))); exact rfl) | ((with_reducible apply ow_old1 st); exact rfl; exact inferInstance; exact rfl; assumption; assumption) | ((with_reducible apply ow_eval); (go_simp <;> (try simp (disch := omega) only [wrap_id, sub_left, zac]) <;> rfl); first | (with_reducible apply up_value) | ((with_reducible apply up_enter); ((go_at_call 59; refine (within_any _ _ _ _).mono ?_; rintro e w' ⟨rfl, rfl⟩; refine ⟨_, rfl, ?_⟩))))); refine WL.next hK (by simp only [Act.put, zpt, zsz, zss]; exact rfl) ?_; clear hK K))); (try refine WL.nil ?_))
              go_ret
              have e2 : Ck.dsErr ds j = 9 := by rw [hds.out, if_pos hyx]
              exact ⟨Ck.ret_int (by rw [bad.out (by rw [e2]; decide), e2]), st.below⟩
            · have hs' : Hid (Ck.goE (Ck.dsErr ds) (j + 1) = 0) := Lib.hid (by rw [Ck.goE_next _ hs.out, hds.out, if_neg hyx])
              go_wp2_with (refine WL.out ?_; (repeat ((refine WL.op ?_ ?_; (exact rfl); intro K hK; (first | ((first | ((with_reducible apply ow_move); exact rfl) | ((with_reducible apply ow_assign); exact rfl)); (go_simp <;> (try simp (disch := omega) only [wrap_id, sub_left, zac]) <;> rfl)) | ((((with_reducible apply ow_load1 st); exact rfl; exact inferInstance; exact rfl; (exact get0))); exact rfl) | ((with_reducible apply ow_old1 st); exact rfl; exact inferInstance; exact rfl; assumption; assumption) | ((with_reducible apply ow_eval); (go_simp <;> (try simp (disch := omega) only [wrap_id, sub_left, zac]) <;> rfl); first | (with_reducible apply up_value) | ((with_reducible apply up_enter); ((go_at_call 59; refine (within_any _ _ _ _).mono ?_; rintro e w' ⟨rfl, rfl⟩; refine ⟨_, rfl, ?_⟩))))); refine WL.next hK (by simp only [Act.put, zpt, zsz, zss]; exact rfl) ?_; clear hK K))); (try refine WL.nil ?_))
              exact ⟨⟨j + 1, by omega, by go_num, st, hs'⟩, by simp [intOf]; omega⟩
        · obtain rfl : nd = j := by omega
          have HR4 : Hid (R = Ck.first [Ck.unl (decide (0 < nd)) 17, Ck.mapErr mp c]) := Lib.hid (by
            rw [HR3.out, hs.out]
            unfold Ck.unl
            by_cases h : nd = 0
            · subst h; rfl
            · rw [if_neg h, decide_eq_true (show 0 < nd by omega)]; rfl)
          clear hs HR3
          go_wp2_with (refine WL.out ?_; (repeat ((refine WL.op ?_ ?_; (exact rfl); intro K hK; (((with_reducible apply ow_eval); (go_simp <;> (try simp (disch := omega) only [wrap_id, sub_left, zac]) <;> rfl); ((with_reducible apply up_value)))); refine WL.next hK (by simp only [Act.put, zpt, zsz, zss]; exact rfl) ?_; clear hK K))); (try refine WL.nil ?_))
          refine wp_region_plan 10 (by kernel_rfl) (by kernel_rfl) ?_; replace st := st.drew; generalize World.drew _ = W at st ⊢
          (apply Plan.val'; (focus (intro x0 x1 x2 x3 x4 x5 x6 x7 x8 x9 w1 hb; (try simp only [depF, fillA, Act.put, zta, ztz, zpt, zsz, zss, zl0, zls]); (repeat (fail)); have st := st.call hb; ((apply Yphi.run; (exact rfl); (go_simp <;> (try simp (disch := omega) only [wrap_id, sub_left, zac]) <;> rfl); exact rfl)))); (simp only [zca, zcn] <;> exact rfl))
          (apply Plan.val'; (focus (intro x0 x1 x2 x3 x4 x5 x6 x7 x8 x9 w1 hb; (try simp only [depF, fillA, Act.put, zta, ztz, zpt, zsz, zss, zl0, zls]); (repeat (rintro rfl)); have st := st.call hb; ((apply Yphi.load1 st; exact rfl; exact inferInstance; (exact rfl); exact rfl; (exact get0); exact rfl)))); (simp only [zca, zcn] <;> exact rfl))
          (apply Plan.val'; (focus (intro x0 x1 x2 x3 x4 x5 x6 x7 x8 x9 w1 hb; (try simp only [depF, fillA, Act.put, zta, ztz, zpt, zsz, zss, zl0, zls]); (repeat (rintro rfl)); have st := st.call hb; ((apply Yphi.run; (exact rfl); (go_simp <;> (try simp (disch := omega) only [wrap_id, sub_left, zac]) <;> rfl); exact rfl)))); (simp only [zca, zcn] <;> exact rfl))
          (apply Plan.val'; (focus (intro x0 x1 x2 x3 x4 x5 x6 x7 x8 x9 w1 hb; (try simp only [depF, fillA, Act.put, zta, ztz, zpt, zsz, zss, zl0, zls]); (repeat (rintro rfl)); have st := st.call hb; ((apply Yphi.run; (exact rfl); (go_simp <;> (try simp (disch := omega) only [wrap_id, sub_left, zac]) <;> rfl); exact rfl)))); (simp only [zca, zcn] <;> exact rfl))
          (apply Plan.val'; (focus (intro x0 x1 x2 x3 x4 x5 x6 x7 x8 x9 w1 hb; (try simp only [depF, fillA, Act.put, zta, ztz, zpt, zsz, zss, zl0, zls]); (repeat (rintro rfl)); have st := st.call hb; apply Yphi.call; (exact rfl); (go_simp <;> (try simp (disch := omega) only [wrap_id, sub_left, zac]) <;> rfl); exact rfl; refine (unless_any _ _ _).mono ?_; rintro e w' ⟨rfl, rfl⟩; exact ⟨_, rfl, Below.refl _ _, rfl⟩)); (simp only [zca, zcn] <;> exact rfl))
          (apply Plan.val'; (focus (intro x0 x1 x2 x3 x4 x5 x6 x7 x8 x9 w1 hb; (try simp only [depF, fillA, Act.put, zta, ztz, zpt, zsz, zss, zl0, zls]); (repeat (fail)); have st := st.call hb; ((apply Yphi.run; (exact rfl); (go_simp <;> (try simp (disch := omega) only [wrap_id, sub_left, zac]) <;> rfl); exact rfl)))); (simp only [zca, zcn] <;> exact rfl))
          (apply Plan.val'; (focus (intro x0 x1 x2 x3 x4 x5 x6 x7 x8 x9 w1 hb; (try simp only [depF, fillA, Act.put, zta, ztz, zpt, zsz, zss, zl0, zls]); (repeat (rintro rfl)); have st := st.call hb; ((apply Yphi.load1 st; exact rfl; exact inferInstance; (exact rfl); exact rfl; (exact get0); exact rfl)))); (simp only [zca, zcn] <;> exact rfl))
          (apply Plan.val'; (focus (intro x0 x1 x2 x3 x4 x5 x6 x7 x8 x9 w1 hb; (try simp only [depF, fillA, Act.put, zta, ztz, zpt, zsz, zss, zl0, zls]); (repeat (fail)); have st := st.call hb; ((apply Yphi.run; (exact rfl); (go_simp <;> (try simp (disch := omega) only [wrap_id, sub_left, zac]) <;> rfl); exact rfl)))); (simp only [zca, zcn] <;> exact rfl))
          (apply Plan.val'; (focus (intro x0 x1 x2 x3 x4 x5 x6 x7 x8 x9 w1 hb; (try simp only [depF, fillA, Act.put, zta, ztz, zpt, zsz, zss, zl0, zls]); (repeat (rintro rfl)); have st := st.call hb; ((apply Yphi.load1 st; exact rfl; exact inferInstance; (exact rfl); exact rfl; (exact get0); exact rfl)))); (simp only [zca, zcn] <;> exact rfl))
          (apply Plan.val'; (focus (intro x0 x1 x2 x3 x4 x5 x6 x7 x8 x9 w1 hb; (try simp only [depF, fillA, Act.put, zta, ztz, zpt, zsz, zss, zl0, zls]); (repeat (rintro rfl)); have st := st.call hb; apply Yphi.call; (exact rfl); (go_simp <;> (try simp (disch := omega) only [wrap_id, sub_left, zac]) <;> rfl); exact rfl; refine (CheckBitmap_any mp c _ HMP.out).mono ?_; rintro e w' ⟨rfl, rfl⟩; exact ⟨_, rfl, Below.refl _ _, rfl⟩)); (simp only [zca, zcn] <;> exact rfl))
          intro x0 x1 x2 x3 x4 x5 x6 x7 x8 x9 lo hi w1 hb hap
          rintro rfl rfl rfl rfl rfl rfl rfl rfl rfl rfl
          simp only [allPhi, fillA, Act.put, zta, ztz, zpt, zsz, zss, zda, zdz]
          have st := st.call hb
          clear hap hb
          go_wp2_with (refine WL.out ?_; (repeat ((refine WL.op ?_ ?_; (exact rfl); intro K hK; (first | ((((with_reducible apply ow_assign); exact rfl)); (go_simp <;> (try simp (disch := omega) only [wrap_id, sub_left, zac]) <;> rfl)) | ((((with_reducible apply ow_newSlice st); exact rfl; (go_simp <;> (try simp (disch := omega) only [wrap_id, sub_left, zac]) <;> rfl); exact rfl)); (try clear st); intro b w' st) | ((with_reducible apply ow_eval); (go_simp <;> (try simp (disch := omega) only [wrap_id, sub_left, zac]) <;> rfl); (((with_reducible apply up_enter); ((go_at_call 57; refine (first2_any _ _ _ _ (st.boxC (i := 0) rfl)).mono ?_; rintro e w' ⟨rfl, rfl⟩; refine ⟨_, rfl, ?_⟩)))))); refine WL.next hK (by simp only [Act.put, zpt, zsz, zss]; exact rfl) ?_; clear hK K))); (try refine WL.nil ?_))
          go_ret
          exact ⟨Ck.ret_int HR4.out.symm, st.below⟩
end Go.Proofs.YtgcjejajljhnaaaGreatDoor
namespace Ck
theorem head1 {i : Int} {x : Rc} (h : (!(wi x.q 1 65535) || !(wi x.k 0 3) || !(num x.ln) || !(num x.ds)) = true) : recErr i x = 2 := by
  unfold recErr first
  rw [show headErr i x = 2 by unfold headErr; rw [if_pos h]]
  rfl
theorem head2 {i : Int} {x : Rc} (h : (!(wi x.q 1 65535) || !(wi x.k 0 3) || !(num x.ln) || !(num x.ds)) = false) (h2 : (!x.u && (x.b != Ref.o || decide (0 < x.ln + x.ds + x.parts + x.k))) = true) : recErr i x = 3 := by
  unfold recErr first
  rw [show headErr i x = 3 by unfold headErr; rw [if_neg (by rw [h]; exact Bool.false_ne_true), if_pos h2]]
  rfl
def baseErr (x : Rc) : Int := if x.k = 3 then refErr x.b else if x.b = Ref.o then 0 else 2
theorem baseErr_two {x : Rc} (h : baseErr x ≠ 0) : baseErr x = 2 := by
  unfold baseErr refErr at *
  (repeat' split) <;> simp_all
theorem head3 {i : Int} {x : Rc} (h : (!(wi x.q 1 65535) || !(wi x.k 0 3) || !(num x.ln) || !(num x.ds)) = false) (h2 : (!x.u && (x.b != Ref.o || decide (0 < x.ln + x.ds + x.parts + x.k))) = false) (h3 : baseErr x ≠ 0) : recErr i x = baseErr x := by
  unfold recErr first
  rw [show headErr i x = 2 by unfold headErr; rw [if_neg (by rw [h]; exact Bool.false_ne_true), if_neg (by rw [h2]; exact Bool.false_ne_true)]; exact if_pos h3, baseErr_two h3]
  rfl
theorem head4 {i : Int} {x : Rc} (h : (!(wi x.q 1 65535) || !(wi x.k 0 3) || !(num x.ln) || !(num x.ds)) = false) (h2 : (!x.u && (x.b != Ref.o || decide (0 < x.ln + x.ds + x.parts + x.k))) = false) (h3 : baseErr x = 0) (h4 : 8 < x.ns.length ∨ 8 < x.ss.length ∨ most i < x.es.length) : recErr i x = 8 := by
  unfold recErr first
  rw [show headErr i x = 8 by unfold headErr; rw [if_neg (by rw [h]; exact Bool.false_ne_true), if_neg (by rw [h2]; exact Bool.false_ne_true), if_neg (by show ¬ (baseErr x ≠ 0); simp [h3]), if_pos h4]]
  rfl
theorem head5 {i : Int} {x : Rc} (h : (!(wi x.q 1 65535) || !(wi x.k 0 3) || !(num x.ln) || !(num x.ds)) = false) (h2 : (!x.u && (x.b != Ref.o || decide (0 < x.ln + x.ds + x.parts + x.k))) = false) (h3 : baseErr x = 0) (h4 : ¬ (8 < x.ns.length ∨ 8 < x.ss.length ∨ most i < x.es.length))
    (h5 : (0 < x.es.length ∧ x.k ≠ 0) ∨ (0 < x.ns.length ∧ (x.k = 3 ∨ i < 16))) : recErr i x = 3 := by
  unfold recErr first
  rw [show headErr i x = 3 by unfold headErr; rw [if_neg (by rw [h]; exact Bool.false_ne_true), if_neg (by rw [h2]; exact Bool.false_ne_true), if_neg (by show ¬ (baseErr x ≠ 0); simp [h3]), if_neg h4, if_pos h5]]
  rfl
theorem head6 {i : Int} {x : Rc} (h : (!(wi x.q 1 65535) || !(wi x.k 0 3) || !(num x.ln) || !(num x.ds)) = false) (h2 : (!x.u && (x.b != Ref.o || decide (0 < x.ln + x.ds + x.parts + x.k))) = false) (h3 : baseErr x = 0) (h4 : ¬ (8 < x.ns.length ∨ 8 < x.ss.length ∨ most i < x.es.length))
    (h5 : ¬ ((0 < x.es.length ∧ x.k ≠ 0) ∨ (0 < x.ns.length ∧ (x.k = 3 ∨ i < 16)))) : recErr i x = first [nmsErr x, smsErr x, ensErr x] := by
  unfold recErr
  rw [show headErr i x = 0 by unfold headErr; rw [if_neg (by rw [h]; exact Bool.false_ne_true), if_neg (by rw [h2]; exact Bool.false_ne_true), if_neg (by show ¬ (baseErr x ≠ 0); simp [h3]), if_neg h4, if_neg h5]]
  rfl
theorem eight (p q r : Prop) (k : Int) : (p ∧ (k != 0) = true) ∨ (p ∧ k = 0 ∧ ¬ q) ∨ (p ∧ k = 0 ∧ q ∧ r) ∨ (p ∧ k = 0 ∧ q ∧ ¬ r) ∨ (¬ p ∧ ¬ q) ∨ (¬ p ∧ q ∧ (k == 3) = true) ∨ (¬ p ∧ q ∧ (k == 3) = false ∧ r) ∨ (¬ p ∧ q ∧ (k == 3) = false ∧ ¬ r) := by
  by_cases hp : p <;> by_cases hq : q <;> by_cases hr : r <;> by_cases hz : k = 0 <;> by_cases ht : k = 3 <;> simp [hp, hq, hr, hz, ht]
end Ck
namespace Go.Proofs.YtgcjejajljhnaaaGreatDoor
open Go.RowKit Go.Hp
set_option maxRecDepth 8000 in
set_option maxHeartbeats 4000000 in
theorem recordErr_any (i : Nat) (x : Ck.VRc) (B : Nat) (w : World) (h : x.At w B) (hB : B ≤ w.heap.size) (hf : x.Fit) (hi : i ≤ 100000) :
    Calls Tryz.prog 47 #[.int .i64 (i : Int), .agg #[.bool x.u, .int .i64 x.q, .int .i64 x.k, .int .i64 x.b.r, .int .i64 x.b.q, .int .i64 x.ln, .int .i64 x.ds, .slice x.An x.ns.length x.cn, .slice x.As x.ss.length x.cs, .slice x.Ae x.es.length x.ce]] w fun e w' => e = .returned (.int .i64 (Ck.recErr i x.p)) ∧ Below w.heap.size w w' := by
  have H := Lib.hid h
  have HF := Lib.hid hf
  clear h hf
  obtain ⟨u, q, k, ⟨br, bq⟩, ln, ds, ns, ss, es, An, cn, As, cs, Ae, ce⟩ := x
  simp only at *
  obtain ⟨nn, e1⟩ : ∃ n, n = ns.length := ⟨_, rfl⟩
  obtain ⟨nss, e2⟩ : ∃ n, n = ss.length := ⟨_, rfl⟩
  obtain ⟨ne, e3⟩ : ∃ n, n = es.length := ⟨_, rfl⟩
  have E1 := Lib.hid e1
  have E2 := Lib.hid e2
  have E3 := Lib.hid e3
  rw [← e1, ← e2, ← e3]
  clear e1 e2 e3
  have hn1 : nn ≤ 100000 := by rw [E1.out]; exact HF.out.ns
  have hn2 : nss ≤ 100000 := by rw [E2.out]; exact HF.out.ss
  have hn3 : ne ≤ 100000 := by rw [E3.out]; exact HF.out.es
  obtain ⟨R, eR⟩ : ∃ R, R = Ck.recErr (i : Int) (Ck.VRc.p ⟨u, q, k, ⟨br, bq⟩, ln, ds, ns, ss, es, An, cn, As, cs, Ae, ce⟩) := ⟨_, rfl⟩
  rw [← eR]
  have HR := Lib.hid eR
  clear eR
  have st := St.start w
  go_enter Tryz.func47, Tryz.ntmps47
  go_upto_region 1 with (refine WL.out ?_; (repeat ((refine WL.op ?_ ?_; (exact rfl); intro K hK; (first | ((((with_reducible apply ow_assign); exact rfl)); (go_simp <;> (try simp (disch := omega) only [wrap_id, sub_left, zac]) <;> rfl)) | ((((with_reducible apply ow_box st); exact rfl; (go_simp <;> (try simp (disch := omega) only [wrap_id, sub_left, zac]) <;> rfl); (go_simp <;> (try simp (disch := omega) only [wrap_id, sub_left, zac]) <;> rfl))); (try clear st); intro b w' st)); refine WL.next hK (by simp only [Act.put, zpt, zsz, zss]; exact rfl) ?_; clear hK K))); (try refine WL.nil ?_))
  cases z1 : Ck.wi q 1 65535
  · go_wp2_with (refine WL.out ?_; (repeat (first | (refine WL.op ?_ ?_; (exact rfl); intro K hK; (first | ((((with_reducible apply ow_move); exact rfl)); (go_simp <;> (try simp (disch := omega) only [wrap_id, sub_left, zac]) <;> rfl)) | ((((with_reducible apply ow_load1 st); exact rfl; exact inferInstance; exact rfl; (exact get0))); exact rfl) | ((with_reducible apply ow_eval); (go_simp <;> (try simp (disch := omega) only [wrap_id, sub_left, zac]) <;> rfl); first | (with_reducible apply up_value) | ((with_reducible apply up_enter); ((go_at_call 59; refine (within_any _ _ _ _).mono ?_; rintro e w' ⟨rfl, rfl⟩; refine ⟨_, rfl, ?_⟩))))); refine WL.next hK (by simp only [Act.put, zpt, zsz, zss]; exact rfl) ?_; clear hK K) | (refine WL.skip ?_ (by simp only [Act.put, zpt, zsz, zss]; exact rfl) ?_; (exact rfl)))); (try refine WL.nil ?_))
    go_ret
    exact ⟨Ck.ret_int (by rw [HR.out, Ck.head1 (by simp [Ck.VRc.p, z1])]), st.below⟩
  cases z2 : Ck.wi k 0 3
  · go_wp2_with (refine WL.out ?_; (repeat (first | (refine WL.op ?_ ?_; (exact rfl); intro K hK; (first | ((((with_reducible apply ow_move); exact rfl)); (go_simp <;> (try simp (disch := omega) only [wrap_id, sub_left, zac]) <;> rfl)) | ((((with_reducible apply ow_load1 st); exact rfl; exact inferInstance; exact rfl; (exact get0))); exact rfl) | ((with_reducible apply ow_eval); (go_simp <;> (try simp (disch := omega) only [wrap_id, sub_left, zac]) <;> rfl); first | (with_reducible apply up_value) | ((with_reducible apply up_enter); ((go_at_call 59; refine (within_any _ _ _ _).mono ?_; rintro e w' ⟨rfl, rfl⟩; refine ⟨_, rfl, ?_⟩))))); refine WL.next hK (by simp only [Act.put, zpt, zsz, zss]; exact rfl) ?_; clear hK K) | (refine WL.skip ?_ (by simp only [Act.put, zpt, zsz, zss]; exact rfl) ?_; (exact rfl)))); (try refine WL.nil ?_))
    go_ret
    exact ⟨Ck.ret_int (by rw [HR.out, Ck.head1 (by simp [Ck.VRc.p, z2])]), st.below⟩
  cases z3 : Ck.num ln
  · go_wp2_with (refine WL.out ?_; (repeat (first | (refine WL.op ?_ ?_; (exact rfl); intro K hK; (first | ((((with_reducible apply ow_move); exact rfl)); (go_simp <;> (try simp (disch := omega) only [wrap_id, sub_left, zac]) <;> rfl)) | ((((with_reducible apply ow_load1 st); exact rfl; exact inferInstance; exact rfl; (exact get0))); exact rfl) | ((with_reducible apply ow_eval); (go_simp <;> (try simp (disch := omega) only [wrap_id, sub_left, zac]) <;> rfl); first | (with_reducible apply up_value) | ((with_reducible apply up_enter); first | (go_at_call 59; refine (within_any _ _ _ _).mono ?_; rintro e w' ⟨rfl, rfl⟩; refine ⟨_, rfl, ?_⟩) | (go_at_call 89; refine (isNumber_any _ _).mono ?_; rintro e w' ⟨rfl, rfl⟩; refine ⟨_, rfl, ?_⟩)))); refine WL.next hK (by simp only [Act.put, zpt, zsz, zss]; exact rfl) ?_; clear hK K) | (refine WL.skip ?_ (by simp only [Act.put, zpt, zsz, zss]; exact rfl) ?_; (exact rfl)))); (try refine WL.nil ?_))
    go_ret
    exact ⟨Ck.ret_int (by rw [HR.out, Ck.head1 (by simp [Ck.VRc.p, z3])]), st.below⟩
  cases z4 : Ck.num ds
  · go_wp2_with (refine WL.out ?_; (repeat ((refine WL.op ?_ ?_; (exact rfl); intro K hK; (first | ((((with_reducible apply ow_move); exact rfl)); (go_simp <;> (try simp (disch := omega) only [wrap_id, sub_left, zac]) <;> rfl)) | ((((with_reducible apply ow_load1 st); exact rfl; exact inferInstance; exact rfl; (exact get0))); exact rfl) | ((with_reducible apply ow_eval); (go_simp <;> (try simp (disch := omega) only [wrap_id, sub_left, zac]) <;> rfl); first | (with_reducible apply up_value) | ((with_reducible apply up_enter); first | (go_at_call 59; refine (within_any _ _ _ _).mono ?_; rintro e w' ⟨rfl, rfl⟩; refine ⟨_, rfl, ?_⟩) | (go_at_call 89; refine (isNumber_any _ _).mono ?_; rintro e w' ⟨rfl, rfl⟩; refine ⟨_, rfl, ?_⟩)))); refine WL.next hK (by simp only [Act.put, zpt, zsz, zss]; exact rfl) ?_; clear hK K))); (try refine WL.nil ?_))
    go_ret
    exact ⟨Ck.ret_int (by rw [HR.out, Ck.head1 (by simp [Ck.VRc.p, z4])]), st.below⟩
  have Z1 := Lib.hid (show (!(Ck.wi q 1 65535) || !(Ck.wi k 0 3) || !(Ck.num ln) || !(Ck.num ds)) = false by rw [z1, z2, z3, z4]; rfl)
  have hb : 0 ≤ k ∧ k ≤ 3 ∧ 0 ≤ ln ∧ ln ≤ 2147483647 ∧ 0 ≤ ds ∧ ds ≤ 2147483647 := by simp [Ck.wi, Ck.num] at z2 z3 z4; omega
  obtain ⟨hk0, hk1, hl0, hl1, hd0, hd1⟩ := hb
  go_upto_region 4 with (refine WL.out ?_; (repeat ((refine WL.op ?_ ?_; (exact rfl); intro K hK; (first | ((first | ((with_reducible apply ow_move); exact rfl) | ((with_reducible apply ow_assign); exact rfl)); (go_simp <;> (try simp (disch := omega) only [wrap_id, sub_left, zac]) <;> rfl)) | ((((with_reducible apply ow_load1 st); exact rfl; exact inferInstance; exact rfl; (exact get0))); exact rfl) | ((with_reducible apply ow_eval); (go_simp <;> (try simp (disch := omega) only [wrap_id, sub_left, zac]) <;> rfl); first | (with_reducible apply up_value) | ((with_reducible apply up_enter); first | (go_at_call 59; refine (within_any _ _ _ _).mono ?_; rintro e w' ⟨rfl, rfl⟩; refine ⟨_, rfl, ?_⟩) | (go_at_call 89; refine (isNumber_any _ _).mono ?_; rintro e w' ⟨rfl, rfl⟩; refine ⟨_, rfl, ?_⟩)))); refine WL.next hK (by simp only [Act.put, zpt, zsz, zss]; exact rfl) ?_; clear hK K))); (try refine WL.nil ?_))
  clear z1 z2 z3 z4
  go_cut [71] from 50 to 71 (fun v wx => v = .bool (!u && (!decide ((⟨br, bq⟩ : Ck.Ref) = Ck.Ref.o) || decide (0 < ln + ds + ((nn : Int) + (nss : Int) + (ne : Int)) + k))) ∧ St w wx [.box b 66 [.bool u, .int .i64 q, .int .i64 k, .int .i64 br, .int .i64 bq, .int .i64 ln, .int .i64 ds, .slice An nn cn, .slice As nss cs, .slice Ae ne ce]])
  case first =>
    cases u
    · cases z5 : decide ((⟨br, bq⟩ : Ck.Ref) = Ck.Ref.o)
      · go_wp2_with (refine WL.out ?_; (repeat (first | (refine WL.op ?_ ?_; (exact rfl); intro K hK; (first | ((((with_reducible apply ow_move); exact rfl)); (go_simp <;> (try simp (disch := omega) only [wrap_id, sub_left, zac]) <;> rfl)) | ((first | ((with_reducible apply ow_load1 st); exact rfl; exact inferInstance; exact rfl; (exact get0)) | ((with_reducible apply ow_loadN st); exact rfl; exact inferInstance; exact rfl; (exact get0); ((try simp only [zta, ztz, zda, zdz, zca, zcn, zan, zsz, zss]) <;> exact rfl))); exact rfl) | ((with_reducible apply ow_bin); exact rfl; kernel_rfl; exact rfl; exact rfl; exact fun w => neq_ref ⟨br, bq⟩ Ck.Ref.o w) | ((with_reducible apply ow_eval); (go_simp <;> (try simp (disch := omega) only [wrap_id, sub_left, zac]) <;> rfl); ((with_reducible apply up_value)))); refine WL.next hK (by simp only [Act.put, zpt, zsz, zss]; exact rfl) ?_; clear hK K) | (refine WL.skip ?_ (by simp only [Act.put, zpt, zsz, zss]; exact rfl) ?_; (exact rfl)))); (try refine WL.nil ?_))
        go_meet
        case rel => exact ⟨by simp [z5], st⟩
      · go_wp2_with (refine WL.out ?_; (repeat ((refine WL.op ?_ ?_; (exact rfl); intro K hK; (first | ((((with_reducible apply ow_move); exact rfl)); (go_simp <;> (try simp (disch := omega) only [wrap_id, sub_left, zac]) <;> rfl)) | ((first | ((with_reducible apply ow_load1 st); exact rfl; exact inferInstance; exact rfl; (exact get0)) | ((with_reducible apply ow_loadN st); exact rfl; exact inferInstance; exact rfl; (exact get0); ((try simp only [zta, ztz, zda, zdz, zca, zcn, zan, zsz, zss]) <;> exact rfl))); exact rfl) | ((with_reducible apply ow_bin); exact rfl; kernel_rfl; exact rfl; exact rfl; exact fun w => neq_ref ⟨br, bq⟩ Ck.Ref.o w) | ((with_reducible apply ow_eval); (go_simp <;> (try simp (disch := omega) only [wrap_id, sub_left, zac]) <;> rfl); ((with_reducible apply up_value)))); refine WL.next hK (by simp only [Act.put, zpt, zsz, zss]; exact rfl) ?_; clear hK K))); (try refine WL.nil ?_))
        go_meet
        case rel => exact ⟨by simp [z5], st⟩
    · go_wp2_with (refine WL.out ?_; (repeat (first | (refine WL.op ?_ ?_; (exact rfl); intro K hK; (first | ((((with_reducible apply ow_move); exact rfl)); (go_simp <;> (try simp (disch := omega) only [wrap_id, sub_left, zac]) <;> rfl)) | ((((with_reducible apply ow_load1 st); exact rfl; exact inferInstance; exact rfl; (exact get0))); exact rfl) | ((with_reducible apply ow_eval); (go_simp <;> (try simp (disch := omega) only [wrap_id, sub_left, zac]) <;> rfl); ((with_reducible apply up_value)))); refine WL.next hK (by simp only [Act.put, zpt, zsz, zss]; exact rfl) ?_; clear hK K) | (refine WL.skip ?_ (by simp only [Act.put, zpt, zsz, zss]; exact rfl) ?_; (exact rfl)))); (try refine WL.nil ?_))
      go_meet
      case rel => exact ⟨by simp, st⟩
  case rest =>
    obtain ⟨rfl, st⟩ := hcut
    have ZP : Hid ((!u && ((⟨br, bq⟩ : Ck.Ref) != Ck.Ref.o || decide (0 < ln + ds + (Ck.Rc.parts (Ck.VRc.p ⟨u, q, k, ⟨br, bq⟩, ln, ds, ns, ss, es, An, cn, As, cs, Ae, ce⟩) : Nat) + k))) = (!u && (!decide ((⟨br, bq⟩ : Ck.Ref) = Ck.Ref.o) || decide (0 < ln + ds + ((nn : Int) + (nss : Int) + (ne : Int)) + k)))) := Lib.hid (by
      rw [show (((⟨br, bq⟩ : Ck.Ref) != Ck.Ref.o)) = !decide ((⟨br, bq⟩ : Ck.Ref) = Ck.Ref.o) from rfl]
      rw [show ((Ck.Rc.parts (Ck.VRc.p ⟨u, q, k, ⟨br, bq⟩, ln, ds, ns, ss, es, An, cn, As, cs, Ae, ce⟩) : Nat) : Int) = (nn : Int) + (nss : Int) + (ne : Int) by
        rw [E1.out, E2.out, E3.out]
        simp [Ck.Rc.parts, Ck.VRc.p]])
    cases z5 : (!u && (!decide ((⟨br, bq⟩ : Ck.Ref) = Ck.Ref.o) || decide (0 < ln + ds + ((nn : Int) + (nss : Int) + (ne : Int)) + k)))
    rotate_left
    · have z6 := Lib.hid z5
      clear z5
      go_wp2_with (refine WL.out ?_; (repeat (fail)); (try refine WL.nil ?_))
      go_ret
      exact ⟨Ck.ret_int (by rw [HR.out, Ck.head2 Z1.out (by rw [← z6.out]; exact ZP.out)]), st.below⟩
    have Z2 := Lib.hid (ZP.out.trans z5)
    clear z5 ZP
    go_upto_region 7 with (refine WL.out ?_; (repeat ((refine WL.op ?_ ?_; (exact rfl); intro K hK; (first | ((((with_reducible apply ow_assign); exact rfl)); (go_simp <;> (try simp (disch := omega) only [wrap_id, sub_left, zac]) <;> rfl)) | ((((with_reducible apply ow_load1 st); exact rfl; exact inferInstance; exact rfl; (exact get0))); exact rfl) | ((with_reducible apply ow_eval); (go_simp <;> (try simp (disch := omega) only [wrap_id, sub_left, zac]) <;> rfl); ((with_reducible apply up_value)))); refine WL.next hK (by simp only [Act.put, zpt, zsz, zss]; exact rfl) ?_; clear hK K))); (try refine WL.nil ?_))
    go_upto_if 80 with (refine WL.out ?_; (repeat ((refine WL.op ?_ ?_; (exact rfl); intro K hK; (first | ((first | ((with_reducible apply ow_move); exact rfl) | ((with_reducible apply ow_assign); exact rfl)); (go_simp <;> (try simp (disch := omega) only [wrap_id, sub_left, zac]) <;> rfl)) | ((((with_reducible apply ow_loadN st); exact rfl; exact inferInstance; exact rfl; (exact get0); ((try simp only [zta, ztz, zda, zdz, zca, zcn, zan, zsz, zss]) <;> exact rfl))); exact rfl) | ((with_reducible apply ow_bin); exact rfl; kernel_rfl; exact rfl; exact rfl; exact fun w => eql_ref ⟨br, bq⟩ Ck.Ref.o w) | ((with_reducible apply ow_eval); (go_simp <;> (try simp (disch := omega) only [wrap_id, sub_left, zac]) <;> rfl); first | (with_reducible apply up_value) | ((with_reducible apply up_enter); ((go_at_call 58; refine (unless_any _ _ _).mono ?_; rintro e w' ⟨rfl, rfl⟩; refine ⟨_, rfl, ?_⟩))))); refine WL.next hK (by simp only [Act.put, zpt, zsz, zss]; exact rfl) ?_; clear hK K))); (try refine WL.nil ?_))
    obtain ⟨be, ebe⟩ : ∃ x, x = Ck.baseErr (Ck.VRc.p ⟨u, q, k, ⟨br, bq⟩, ln, ds, ns, ss, es, An, cn, As, cs, Ae, ce⟩) := ⟨_, rfl⟩
    have EB := Lib.hid ebe
    clear ebe
    go_cut [6, 7, 74] from 80 to 83 (fun v6 v7 v74 wx => v6 = .bool (k == 3) ∧ v7 = .int .i64 be ∧ St w wx [.box b 66 [.bool u, .int .i64 q, .int .i64 k, .int .i64 br, .int .i64 bq, .int .i64 ln, .int .i64 ds, .slice An nn cn, .slice As nss cs, .slice Ae ne ce]])
    case first =>
      cases z6 : (k == 3)
      · have z7 : k ≠ 3 := by simpa using z6
        go_wp2_with (refine WL.out ?_; (repeat (fail)); (try refine WL.nil ?_))
        go_meet
        case rel => exact ⟨by rw [z6], by rw [EB.out]; by_cases hro : (⟨br, bq⟩ : Ck.Ref) = Ck.Ref.o <;> simp [Ck.baseErr, Ck.VRc.p, Ck.unl, z7, hro], st⟩
      · have z7 : k = 3 := by simpa using z6
        go_wp2_with (refine WL.out ?_; (repeat ((refine WL.op ?_ ?_; (exact rfl); intro K hK; (first | ((((with_reducible apply ow_assign); exact rfl)); (go_simp <;> (try simp (disch := omega) only [wrap_id, sub_left, zac]) <;> rfl)) | ((((with_reducible apply ow_loadN st); exact rfl; exact inferInstance; exact rfl; (exact get0); ((try simp only [zta, ztz, zda, zdz, zca, zcn, zan, zsz, zss]) <;> exact rfl))); exact rfl) | ((with_reducible apply ow_eval); (go_simp <;> (try simp (disch := omega) only [wrap_id, sub_left, zac]) <;> rfl); first | (with_reducible apply up_value) | ((with_reducible apply up_enter); ((go_at_call 90; refine (refErr_any _ _ _).mono ?_; rintro e w' ⟨rfl, hb⟩; replace st := st.call hb; clear hb; refine ⟨_, rfl, ?_⟩))))); refine WL.next hK (by simp only [Act.put, zpt, zsz, zss]; exact rfl) ?_; clear hK K))); (try refine WL.nil ?_))
        go_meet
        case rel => exact ⟨by rw [z6], by rw [EB.out]; simp [Ck.baseErr, Ck.VRc.p, z7], st⟩
    case rest =>
      obtain ⟨rfl, rfl, st⟩ := hcut
      cases z6 : (be == 0)
      · have z7 := Lib.hid (show be ≠ 0 by simpa using z6)
        have z8 : (be != 0) = true := by simpa using z7.out
        go_wp2_with (refine WL.out ?_; (repeat ((refine WL.op ?_ ?_; (exact rfl); intro K hK; (((with_reducible apply ow_eval); (go_simp <;> (try simp (disch := omega) only [wrap_id, sub_left, zac]) <;> rfl); ((with_reducible apply up_value)))); refine WL.next hK (by simp only [Act.put, zpt, zsz, zss]; exact rfl) ?_; clear hK K))); (try refine WL.nil ?_))
        go_ret
        exact ⟨Ck.ret_int (by rw [HR.out, Ck.head3 Z1.out Z2.out (by rw [← EB.out]; exact z7.out), EB.out]), st.below⟩
      have z7 : be = 0 := by simpa using z6
      have Z3 := Lib.hid (show Ck.baseErr (Ck.VRc.p ⟨u, q, k, ⟨br, bq⟩, ln, ds, ns, ss, es, An, cn, As, cs, Ae, ce⟩) = 0 by rw [← EB.out, z7])
      subst z7
      clear z6 EB
      go_upto_region 12 with (refine WL.out ?_; (repeat ((refine WL.op ?_ ?_; (exact rfl); intro K hK; (first | ((((with_reducible apply ow_move); exact rfl)); (go_simp <;> (try simp (disch := omega) only [wrap_id, sub_left, zac]) <;> rfl)) | ((with_reducible apply ow_eval); (go_simp <;> (try simp (disch := omega) only [wrap_id, sub_left, zac]) <;> rfl); ((with_reducible apply up_value)))); refine WL.next hK (by simp only [Act.put, zpt, zsz, zss]; exact rfl) ?_; clear hK K))); (try refine WL.nil ?_))
      have hc7 := st.cell (i := 0) rfl 7
      have hc8 := st.cell (i := 0) rfl 8
      have hc9 := st.cell (i := 0) rfl 9
      simp only [List.getElem?_cons_succ, List.getElem?_cons_zero] at hc7 hc8 hc9
      by_cases hg1 : (8 : Int) < (nn : Int)
      · have Z4 := Lib.hid (show 8 < ns.length by rw [← E1.out]; omega)
        go_quiet (fail)
        replace st := st.drewN nq
        clear hc7 hc8 hc9
        go_wp2_with (refine WL.out ?_; (repeat (fail)); (try refine WL.nil ?_))
        go_ret
        exact ⟨Ck.ret_int (by rw [HR.out, Ck.head4 Z1.out Z2.out Z3.out (.inl Z4.out)]), st.below⟩
      by_cases hg2 : (8 : Int) < (nss : Int)
      · have Z4 := Lib.hid (show 8 < (ss.map Ck.VSm.p).length by rw [List.length_map, ← E2.out]; omega)
        have hd1 : decide ((8 : Int) < (nn : Int)) = false := decide_eq_false hg1
        go_quiet (fail)
        replace st := st.drewN nq
        clear hc7 hc8 hc9
        go_wp2_with (refine WL.out ?_; (repeat (fail)); (try refine WL.nil ?_))
        go_ret
        exact ⟨Ck.ret_int (by rw [HR.out, Ck.head4 Z1.out Z2.out Z3.out (.inr (.inl Z4.out))]), st.below⟩
      have hd1 : decide ((8 : Int) < (nn : Int)) = false := decide_eq_false hg1
      have hd2 : decide ((8 : Int) < (nss : Int)) = false := decide_eq_false hg2
      by_cases hg3 : ((Ck.most i : Nat) : Int) < (ne : Int)
      · have Z4 := Lib.hid (show Ck.most i < es.length by rw [← E3.out]; omega)
        go_quiet ((go_at_call 91; refine Calls.quiet_of_same ((mostEntries_any _ _).mono fun _ _ h => ⟨h.1, h.2.symm⟩)))
        replace st := st.drewN nq
        clear hc7 hc8 hc9
        go_wp2_with (refine WL.out ?_; (repeat (fail)); (try refine WL.nil ?_))
        go_ret
        exact ⟨Ck.ret_int (by rw [HR.out, Ck.head4 Z1.out Z2.out Z3.out (.inr (.inr Z4.out))]), st.below⟩
      have hd3 : decide (((Ck.most i : Nat) : Int) < (ne : Int)) = false := decide_eq_false hg3
      have Z4 := Lib.hid (show ¬ (8 < (Ck.VRc.p ⟨u, q, k, ⟨br, bq⟩, ln, ds, ns, ss, es, An, cn, As, cs, Ae, ce⟩).ns.length ∨ 8 < (Ck.VRc.p ⟨u, q, k, ⟨br, bq⟩, ln, ds, ns, ss, es, An, cn, As, cs, Ae, ce⟩).ss.length ∨ Ck.most i < (Ck.VRc.p ⟨u, q, k, ⟨br, bq⟩, ln, ds, ns, ss, es, An, cn, As, cs, Ae, ce⟩).es.length) by
        show ¬ (8 < ns.length ∨ 8 < (ss.map Ck.VSm.p).length ∨ Ck.most i < es.length)
        rw [List.length_map, ← E1.out, ← E2.out, ← E3.out]; omega)
      go_quiet ((go_at_call 91; refine Calls.quiet_of_same ((mostEntries_any _ _).mono fun _ _ h => ⟨h.1, h.2.symm⟩)))
      replace st := st.drewN nq
      clear hc7 hc8 hc9 hd1 hd2 hd3
      go_upto_region 14 with (refine WL.out ?_; (repeat (fail)); (try refine WL.nil ?_))
      go_cut [6, 126] from 105 to 126 (fun v6 v wx => v = .bool ((decide (0 < (ne : Int)) && (k != 0)) || (decide (0 < (nn : Int)) && ((k == 3) || decide ((i : Int) < 16)))) ∧ St w wx [.box b 66 [.bool u, .int .i64 q, .int .i64 k, .int .i64 br, .int .i64 bq, .int .i64 ln, .int .i64 ds, .slice An nn cn, .slice As nss cs, .slice Ae ne ce]])
      case first =>
        have hc9 := Ck.eight (0 < (ne : Int)) (0 < (nn : Int)) ((i : Int) < 16) k
        rcases hc9 with ⟨y1, y2⟩ | ⟨y1, rfl, y3⟩ | ⟨y1, rfl, y3, y5⟩ | ⟨y1, rfl, y3, y5⟩ | ⟨y1, y3⟩ | ⟨y1, y3, y4⟩ | ⟨y1, y3, y4, y5⟩ | ⟨y1, y3, y4, y5⟩
        all_goals (
          go_wp2_with (refine WL.out ?_; (repeat (first | (refine WL.op ?_ ?_; (first | exact rfl | (simp [Region.wanted, yielded] <;> omega)); intro K hK; (first | ((((with_reducible apply ow_move); exact rfl)); (go_simp <;> (try simp (disch := omega) only [wrap_id, sub_left, zac]) <;> rfl)) | ((((with_reducible apply ow_load1 st); exact rfl; exact inferInstance; exact rfl; (exact get0))); exact rfl) | ((with_reducible apply ow_eval); (go_simp <;> (try simp (disch := omega) only [wrap_id, sub_left, zac]) <;> rfl); ((with_reducible apply up_value)))); refine WL.next hK (by simp only [Act.put, zpt, zsz, zss]; exact rfl) ?_; clear hK K) | (refine WL.skip ?_ (by simp only [Act.put, zpt, zsz, zss]; exact rfl) ?_; (first | exact rfl | (simp [Region.wanted, yielded] <;> omega))))); (try refine WL.nil ?_))
          (try (((repeat (first | (refine WL.op ?_ ?_; (first | exact rfl | (simp [Region.wanted, yielded] <;> omega)); intro K hK; (first | ((((with_reducible apply ow_move); exact rfl)); (go_simp <;> (try simp (disch := omega) only [wrap_id, sub_left, zac]) <;> rfl)) | ((((with_reducible apply ow_load1 st); exact rfl; exact inferInstance; exact rfl; (exact get0))); exact rfl) | ((with_reducible apply ow_eval); (go_simp <;> (try simp (disch := omega) only [wrap_id, sub_left, zac]) <;> rfl); ((with_reducible apply up_value)))); refine WL.next hK (by simp only [Act.put, zpt, zsz, zss]; exact rfl) ?_; clear hK K) | (refine WL.skip ?_ (by simp only [Act.put, zpt, zsz, zss]; exact rfl) ?_; (first | exact rfl | (simp [Region.wanted, yielded] <;> omega))))); (try refine WL.nil ?_)); go_wp2_with (refine WL.out ?_; (repeat (fail)); (try refine WL.nil ?_))))
          refine Met.intro ?_
          try go_step
          (repeat apply Exists.intro)
          refine ⟨?rel, rfl⟩
          case rel => exact ⟨by simp [*], st⟩)
      case rest =>
        obtain ⟨rfl, st⟩ := hcut
        have Z5 : Hid (((decide (0 < (ne : Int)) && (k != 0)) || (decide (0 < (nn : Int)) && ((k == 3) || decide ((i : Int) < 16)))) = true ↔ ((0 < (Ck.VRc.p ⟨u, q, k, ⟨br, bq⟩, ln, ds, ns, ss, es, An, cn, As, cs, Ae, ce⟩).es.length ∧ (Ck.VRc.p ⟨u, q, k, ⟨br, bq⟩, ln, ds, ns, ss, es, An, cn, As, cs, Ae, ce⟩).k ≠ 0) ∨ (0 < (Ck.VRc.p ⟨u, q, k, ⟨br, bq⟩, ln, ds, ns, ss, es, An, cn, As, cs, Ae, ce⟩).ns.length ∧ ((Ck.VRc.p ⟨u, q, k, ⟨br, bq⟩, ln, ds, ns, ss, es, An, cn, As, cs, Ae, ce⟩).k = 3 ∨ (i : Int) < 16)))) := Lib.hid (by
          show _ ↔ ((0 < es.length ∧ k ≠ 0) ∨ (0 < ns.length ∧ (k = 3 ∨ (i : Int) < 16)))
          rw [← E1.out, ← E3.out]
          simp)
        cases z5 : ((decide (0 < (ne : Int)) && (k != 0)) || (decide (0 < (nn : Int)) && ((k == 3) || decide ((i : Int) < 16))))
        rotate_left
        · have z6 := Lib.hid z5
          clear z5
          go_wp2_with (refine WL.out ?_; (repeat (fail)); (try refine WL.nil ?_))
          go_ret
          exact ⟨Ck.ret_int (by rw [HR.out, Ck.head5 Z1.out Z2.out Z3.out Z4.out (Z5.out.1 z6.out)]), st.below⟩
        have Z6 := Lib.hid (show R = Ck.first [Ck.nmsErr (Ck.VRc.p ⟨u, q, k, ⟨br, bq⟩, ln, ds, ns, ss, es, An, cn, As, cs, Ae, ce⟩), Ck.smsErr (Ck.VRc.p ⟨u, q, k, ⟨br, bq⟩, ln, ds, ns, ss, es, An, cn, As, cs, Ae, ce⟩), Ck.ensErr (Ck.VRc.p ⟨u, q, k, ⟨br, bq⟩, ln, ds, ns, ss, es, An, cn, As, cs, Ae, ce⟩)] by
          rw [HR.out, Ck.head6 Z1.out Z2.out Z3.out Z4.out (fun h => by have := Z5.out.2 h; rw [z5] at this; exact Bool.false_ne_true this)])
        clear z5 Z5 HR
        go_wp2_with (refine WL.out ?_; (repeat ((refine WL.op ?_ ?_; (exact rfl); intro K hK; (first | ((((with_reducible apply ow_move); exact rfl)); (go_simp <;> (try simp (disch := omega) only [wrap_id, sub_left, zac]) <;> rfl)) | ((((with_reducible apply ow_load1 st); exact rfl; exact inferInstance; exact rfl; (exact get0))); exact rfl) | ((with_reducible apply ow_eval); (go_simp <;> (try simp (disch := omega) only [wrap_id, sub_left, zac]) <;> rfl); ((with_reducible apply up_value)))); refine WL.next hK (by simp only [Act.put, zpt, zsz, zss]; exact rfl) ?_; clear hK K))); (try refine WL.nil ?_))
        go_loopw [130] (fun i wr => ∃ j : Nat, j ≤ nn ∧ i = .int .i64 j ∧ St w wr [.box b 66 [.bool u, .int .i64 q, .int .i64 k, .int .i64 br, .int .i64 bq, .int .i64 ln, .int .i64 ds, .slice An nn cn, .slice As nss cs, .slice Ae ne ce]] ∧ Hid (Ck.goE (fun i => Ck.nmErr (Ck.at_ Ck.Nm.o ns i)) j = 0)) (fun i _ => nn - (intOf i).toNat)
        case atStart => exact ⟨0, by omega, rfl, st, rfl⟩
        case round =>
          clear st
          obtain ⟨j, hj, rfl, st, hs⟩ := hrel
          by_cases hlt : j < nn
          · have hkl : Hid (j < ns.length) := Lib.hid (by rw [← E1.out]; exact hlt)
            obtain ⟨b1, o1, rfl, hb1, hc⟩ := H.out.ns.at_ (Nat.lt_of_le_of_lt (Nat.zero_le _) hkl.out)
            have hb1 := Nat.lt_of_lt_of_le hb1 hB
            have f1 := hc j hkl.out
            clear hc
            obtain ⟨y, hy⟩ : ∃ y, y = Ck.at_ Ck.Nm.o ns j := ⟨_, rfl⟩
            have hyl : y.n.length ≤ 100000 := by rw [hy]; exact HF.out.nl _ (Ck.at_mem _ _ _ hkl.out)
            have f1 : OldC w b1 (o1 + j * 3) [.int .i64 y.d.r, .int .i64 y.d.q, .string ⟨y.n.toArray⟩] := by rw [hy]; exact f1
            have HY := Lib.hid hy
            clear hy
            obtain ⟨v, hv⟩ : ∃ v, v = Ck.nmErr y := ⟨_, rfl⟩
            have HV := Lib.hid (show v = Ck.nmErr (Ck.at_ Ck.Nm.o ns j) by rw [hv, HY.out])
            have HC : Hid (∀ W, Calls Tryz.prog 92 #[.agg #[.int .i64 y.d.r, .int .i64 y.d.q, .string ⟨y.n.toArray⟩]] W fun e w' => e = .returned (.int .i64 v) ∧ Below W.heap.size W w') := Lib.hid fun W => by rw [hv]; exact nameErr_any y W hyl
            clear hv
            by_cases h0 : v = 0
            · have hs' : Hid (Ck.goE (fun i => Ck.nmErr (Ck.at_ Ck.Nm.o ns i)) (j + 1) = 0) := Lib.hid (by rw [Ck.goE_next _ hs.out, ← HV.out]; exact h0)
              subst h0
              go_wp2_with (refine WL.out ?_; (repeat ((refine WL.op ?_ ?_; (exact rfl); intro K hK; (first | ((first | ((with_reducible apply ow_move); exact rfl) | ((with_reducible apply ow_assign); exact rfl)); (go_simp <;> (try simp (disch := omega) only [wrap_id, sub_left, zac]) <;> rfl)) | ((((with_reducible apply ow_loadN st); exact rfl; exact inferInstance; exact rfl; (exact get0); ((try simp only [zta, ztz, zda, zdz, zca, zcn, zan, zsz, zss]) <;> exact rfl))); exact rfl) | ((((with_reducible apply ow_alloc st); exact rfl; exact inferInstance; (go_simp <;> (try simp (disch := omega) only [wrap_id, sub_left, zac]) <;> rfl))); (try clear st); intro b w' st) | ((((with_reducible apply ow_storeN' st); exact rfl; exact inferInstance; exact rfl; (exact get0); exact rfl)); exact rfl; exact rfl; (simp <;> done); ((try simp only [zta, ztz, zda, zdz, zca, zcn, zan, zsz, zss]) <;> exact rfl); (try clear st); intro w' st) | ((with_reducible apply ow_oldC st); exact rfl; exact inferInstance; exact rfl; assumption; assumption; exact rfl) | ((with_reducible apply ow_eval); (go_simp <;> (try simp (disch := omega) only [wrap_id, sub_left, zac]) <;> rfl); first | (with_reducible apply up_value) | ((with_reducible apply up_enter); ((go_at_call 92; refine (HC.out _).mono ?_; rintro e w' ⟨rfl, hb⟩; replace st := st.call hb; clear hb; refine ⟨_, rfl, ?_⟩))))); refine WL.next hK (by simp only [Act.put, zpt, zsz, zss]; exact rfl) ?_; clear hK K))); (try refine WL.nil ?_))
              exact ⟨⟨j + 1, by omega, by go_num, st.tail, hs'⟩, by simp [intOf]; omega⟩
            · have hR : Hid (R = v) := Lib.hid (by
                rw [Z6.out, show Ck.nmsErr (Ck.VRc.p ⟨u, q, k, ⟨br, bq⟩, ln, ds, ns, ss, es, some ⟨b1, o1, none⟩, cn, As, cs, Ae, ce⟩) = v from (Ck.goE_stop _ hs.out (by rw [← HV.out]; exact h0) _ hkl.out).trans HV.out.symm]
                exact if_neg h0)
              have h0' : (v != 0) = true := by simpa using h0
              go_wp2_with (refine WL.out ?_; (repeat ((refine WL.op ?_ ?_; (exact rfl); intro K hK; (first | ((((with_reducible apply ow_assign); exact rfl)); (go_simp <;> (try simp (disch := omega) only [wrap_id, sub_left, zac]) <;> rfl)) | ((((with_reducible apply ow_loadN st); exact rfl; exact inferInstance; exact rfl; (exact get0); ((try simp only [zta, ztz, zda, zdz, zca, zcn, zan, zsz, zss]) <;> exact rfl))); exact rfl) | ((((with_reducible apply ow_alloc st); exact rfl; exact inferInstance; (go_simp <;> (try simp (disch := omega) only [wrap_id, sub_left, zac]) <;> rfl))); (try clear st); intro b w' st) | ((((with_reducible apply ow_storeN' st); exact rfl; exact inferInstance; exact rfl; (exact get0); exact rfl)); exact rfl; exact rfl; (simp <;> done); ((try simp only [zta, ztz, zda, zdz, zca, zcn, zan, zsz, zss]) <;> exact rfl); (try clear st); intro w' st) | ((with_reducible apply ow_oldC st); exact rfl; exact inferInstance; exact rfl; assumption; assumption; exact rfl) | ((with_reducible apply ow_eval); (go_simp <;> (try simp (disch := omega) only [wrap_id, sub_left, zac]) <;> rfl); first | (with_reducible apply up_value) | ((with_reducible apply up_enter); ((go_at_call 92; refine (HC.out _).mono ?_; rintro e w' ⟨rfl, hb⟩; replace st := st.call hb; clear hb; refine ⟨_, rfl, ?_⟩))))); refine WL.next hK (by simp only [Act.put, zpt, zsz, zss]; exact rfl) ?_; clear hK K))); (try refine WL.nil ?_))
              go_ret
              exact ⟨Ck.ret_int hR.out.symm, st.below⟩
          · obtain rfl : nn = j := by omega
            have hN : Hid (Ck.nmsErr (Ck.VRc.p ⟨u, q, k, ⟨br, bq⟩, ln, ds, ns, ss, es, An, cn, As, cs, Ae, ce⟩) = 0) := Lib.hid (by show Ck.goE _ ns.length = 0; rw [← E1.out]; exact hs.out)
            clear hs
            go_wp2_with (refine WL.out ?_; (repeat ((refine WL.op ?_ ?_; (exact rfl); intro K hK; (first | ((((with_reducible apply ow_move); exact rfl)); (go_simp <;> (try simp (disch := omega) only [wrap_id, sub_left, zac]) <;> rfl)) | ((((with_reducible apply ow_load1 st); exact rfl; exact inferInstance; exact rfl; (exact get0))); exact rfl) | ((with_reducible apply ow_eval); (go_simp <;> (try simp (disch := omega) only [wrap_id, sub_left, zac]) <;> rfl); ((with_reducible apply up_value)))); refine WL.next hK (by simp only [Act.put, zpt, zsz, zss]; exact rfl) ?_; clear hK K))); (try refine WL.nil ?_))
            go_loopw [143] (fun i wr => ∃ j : Nat, j ≤ nss ∧ i = .int .i64 j ∧ St w wr [.box b 66 [.bool u, .int .i64 q, .int .i64 k, .int .i64 br, .int .i64 bq, .int .i64 ln, .int .i64 ds, .slice An nn cn, .slice As nss cs, .slice Ae ne ce]] ∧ Hid (Ck.goE (fun i => Ck.smErr (Ck.at_ Ck.Sm.o (ss.map Ck.VSm.p) i)) j = 0)) (fun i _ => nss - (intOf i).toNat)
            case atStart => exact ⟨0, by omega, rfl, st, rfl⟩
            case round =>
              clear st
              obtain ⟨j, hj, rfl, st, hs⟩ := hrel
              by_cases hlt : j < nss
              · have hkl : Hid (j < ss.length) := Lib.hid (by rw [← E2.out]; exact hlt)
                obtain ⟨b1, o1, rfl, hb1, hc⟩ := H.out.ss.at_ (Nat.lt_of_le_of_lt (Nat.zero_le _) hkl.out)
                have hb1 := Nat.lt_of_lt_of_le hb1 hB
                have f1 := hc j hkl.out
                clear hc
                obtain ⟨y, hy⟩ : ∃ y, y = Ck.at_ Ck.VSm.o ss j := ⟨_, rfl⟩
                have hym : y ∈ ss := by rw [hy]; exact Ck.at_mem _ _ _ hkl.out
                have hyp : Hid (Ck.at_ Ck.Sm.o (ss.map Ck.VSm.p) j = y.p) := Lib.hid (by rw [hy]; exact Ck.at_map Ck.VSm.p Ck.VSm.o Ck.Sm.o ss j hkl.out)
                have f1 : OldC w b1 (o1 + j * 2) [.slice y.A y.r.length y.c, .int .i64 y.z] := by rw [hy]; exact f1
                clear hy
                obtain ⟨v, hv⟩ : ∃ v, v = Ck.smErr y.p := ⟨_, rfl⟩
                have HV := Lib.hid (show v = Ck.smErr (Ck.at_ Ck.Sm.o (ss.map Ck.VSm.p) j) by rw [hv, hyp.out])
                have HC : Hid (∀ W, Below w.heap.size w W → Calls Tryz.prog 93 #[.agg #[.slice y.A y.r.length y.c, .int .i64 y.z]] W fun e w' => e = .returned (.int .i64 v) ∧ Below W.heap.size W w') := Lib.hid fun W hb => by rw [hv]; exact streamErr_any y B W (Lst.below (H.out.rr y hym) hb hB) (Nat.le_trans hB hb.size) (HF.out.rr y hym)
                clear hv hym
                by_cases h0 : v = 0
                · have hs' : Hid (Ck.goE (fun i => Ck.smErr (Ck.at_ Ck.Sm.o (ss.map Ck.VSm.p) i)) (j + 1) = 0) := Lib.hid (by rw [Ck.goE_next _ hs.out, ← HV.out]; exact h0)
                  subst h0
                  go_wp2_with (refine WL.out ?_; (repeat ((refine WL.op ?_ ?_; (exact rfl); intro K hK; (first | ((first | ((with_reducible apply ow_move); exact rfl) | ((with_reducible apply ow_assign); exact rfl)); (go_simp <;> (try simp (disch := omega) only [wrap_id, sub_left, zac]) <;> rfl)) | ((((with_reducible apply ow_loadN st); exact rfl; exact inferInstance; exact rfl; (exact get0); ((try simp only [zta, ztz, zda, zdz, zca, zcn, zan, zsz, zss]) <;> exact rfl))); exact rfl) | ((((with_reducible apply ow_alloc st); exact rfl; exact inferInstance; (go_simp <;> (try simp (disch := omega) only [wrap_id, sub_left, zac]) <;> rfl))); (try clear st); intro b w' st) | ((((with_reducible apply ow_storeN' st); exact rfl; exact inferInstance; exact rfl; (exact get0); exact rfl)); exact rfl; exact rfl; (simp <;> done); ((try simp only [zta, ztz, zda, zdz, zca, zcn, zan, zsz, zss]) <;> exact rfl); (try clear st); intro w' st) | ((with_reducible apply ow_oldC st); exact rfl; exact inferInstance; exact rfl; assumption; assumption; exact rfl) | ((with_reducible apply ow_eval); (go_simp <;> (try simp (disch := omega) only [wrap_id, sub_left, zac]) <;> rfl); first | (with_reducible apply up_value) | ((with_reducible apply up_enter); ((go_at_call 93; refine (HC.out _ st.below).mono ?_; rintro e w' ⟨rfl, hb⟩; replace st := st.call hb; clear hb; refine ⟨_, rfl, ?_⟩))))); refine WL.next hK (by simp only [Act.put, zpt, zsz, zss]; exact rfl) ?_; clear hK K))); (try refine WL.nil ?_))
                  exact ⟨⟨j + 1, by omega, by go_num, st.tail, hs'⟩, by simp [intOf]; omega⟩
                · have hR : Hid (R = v) := Lib.hid (by
                    rw [Z6.out, show Ck.smsErr (Ck.VRc.p ⟨u, q, k, ⟨br, bq⟩, ln, ds, ns, ss, es, An, cn, some ⟨b1, o1, none⟩, cs, Ae, ce⟩) = v from (Ck.goE_stop _ hs.out (by rw [← HV.out]; exact h0) _ (by show j < (ss.map Ck.VSm.p).length; rw [List.length_map]; exact hkl.out)).trans HV.out.symm]
                    show (if _ = 0 then _ else _) = v
                    rw [if_pos hN.out]
                    exact if_neg h0)
                  have h0' : (v != 0) = true := by simpa using h0
                  go_wp2_with (refine WL.out ?_; (repeat ((refine WL.op ?_ ?_; (exact rfl); intro K hK; (first | ((((with_reducible apply ow_assign); exact rfl)); (go_simp <;> (try simp (disch := omega) only [wrap_id, sub_left, zac]) <;> rfl)) | ((((with_reducible apply ow_loadN st); exact rfl; exact inferInstance; exact rfl; (exact get0); ((try simp only [zta, ztz, zda, zdz, zca, zcn, zan, zsz, zss]) <;> exact rfl))); exact rfl) | ((((with_reducible apply ow_alloc st); exact rfl; exact inferInstance; (go_simp <;> (try simp (disch := omega) only [wrap_id, sub_left, zac]) <;> rfl))); (try clear st); intro b w' st) | ((((with_reducible apply ow_storeN' st); exact rfl; exact inferInstance; exact rfl; (exact get0); exact rfl)); exact rfl; exact rfl; (simp <;> done); ((try simp only [zta, ztz, zda, zdz, zca, zcn, zan, zsz, zss]) <;> exact rfl); (try clear st); intro w' st) | ((with_reducible apply ow_oldC st); exact rfl; exact inferInstance; exact rfl; assumption; assumption; exact rfl) | ((with_reducible apply ow_eval); (go_simp <;> (try simp (disch := omega) only [wrap_id, sub_left, zac]) <;> rfl); first | (with_reducible apply up_value) | ((with_reducible apply up_enter); ((go_at_call 93; refine (HC.out _ st.below).mono ?_; rintro e w' ⟨rfl, hb⟩; replace st := st.call hb; clear hb; refine ⟨_, rfl, ?_⟩))))); refine WL.next hK (by simp only [Act.put, zpt, zsz, zss]; exact rfl) ?_; clear hK K))); (try refine WL.nil ?_))
                  go_ret
                  exact ⟨Ck.ret_int hR.out.symm, st.below⟩
              · obtain rfl : nss = j := by omega
                have hM : Hid (Ck.smsErr (Ck.VRc.p ⟨u, q, k, ⟨br, bq⟩, ln, ds, ns, ss, es, An, cn, As, cs, Ae, ce⟩) = 0) := Lib.hid (by show Ck.goE _ (ss.map Ck.VSm.p).length = 0; rw [List.length_map, ← E2.out]; exact hs.out)
                clear hs
                go_wp2_with (refine WL.out ?_; (repeat ((refine WL.op ?_ ?_; (exact rfl); intro K hK; (first | ((((with_reducible apply ow_move); exact rfl)); (go_simp <;> (try simp (disch := omega) only [wrap_id, sub_left, zac]) <;> rfl)) | ((((with_reducible apply ow_load1 st); exact rfl; exact inferInstance; exact rfl; (exact get0))); exact rfl) | ((with_reducible apply ow_eval); (go_simp <;> (try simp (disch := omega) only [wrap_id, sub_left, zac]) <;> rfl); ((with_reducible apply up_value)))); refine WL.next hK (by simp only [Act.put, zpt, zsz, zss]; exact rfl) ?_; clear hK K))); (try refine WL.nil ?_))
                go_loopw [156] (fun i wr => ∃ j : Nat, j ≤ ne ∧ i = .int .i64 j ∧ St w wr [.box b 66 [.bool u, .int .i64 q, .int .i64 k, .int .i64 br, .int .i64 bq, .int .i64 ln, .int .i64 ds, .slice An nn cn, .slice As nss cs, .slice Ae ne ce]] ∧ Hid (Ck.goE (fun i => Ck.enErr (Ck.at_ Ck.En.o es i)) j = 0)) (fun i _ => ne - (intOf i).toNat)
                case atStart => exact ⟨0, by omega, rfl, st, rfl⟩
                case round =>
                  clear st
                  obtain ⟨j, hj, rfl, st, hs⟩ := hrel
                  by_cases hlt : j < ne
                  · have hkl : Hid (j < es.length) := Lib.hid (by rw [← E3.out]; exact hlt)
                    obtain ⟨b1, o1, rfl, hb1, hc⟩ := H.out.es.at_ (Nat.lt_of_le_of_lt (Nat.zero_le _) hkl.out)
                    have hb1 := Nat.lt_of_lt_of_le hb1 hB
                    have f1 := hc j hkl.out
                    clear hc
                    obtain ⟨y, hy⟩ : ∃ y, y = Ck.at_ Ck.En.o es j := ⟨_, rfl⟩
                    have hyl : y.n.length ≤ 100000 := by rw [hy]; exact HF.out.el _ (Ck.at_mem _ _ _ hkl.out)
                    have f1 : OldC w b1 (o1 + j * 4) [.string ⟨y.n.toArray⟩, .int .i64 y.f.r, .int .i64 y.f.q, .int .i64 y.z] := by rw [hy]; exact f1
                    have HY := Lib.hid hy
                    clear hy
                    obtain ⟨v, hv⟩ : ∃ v, v = Ck.enErr y := ⟨_, rfl⟩
                    have HV := Lib.hid (show v = Ck.enErr (Ck.at_ Ck.En.o es j) by rw [hv, HY.out])
                    have HC : Hid (∀ W, Calls Tryz.prog 94 #[.agg #[.string ⟨y.n.toArray⟩, .int .i64 y.f.r, .int .i64 y.f.q, .int .i64 y.z]] W fun e w' => e = .returned (.int .i64 v) ∧ Below W.heap.size W w') := Lib.hid fun W => by rw [hv]; exact entryErr_any y W hyl
                    clear hv
                    by_cases h0 : v = 0
                    · have hs' : Hid (Ck.goE (fun i => Ck.enErr (Ck.at_ Ck.En.o es i)) (j + 1) = 0) := Lib.hid (by rw [Ck.goE_next _ hs.out, ← HV.out]; exact h0)
                      subst h0
                      go_wp2_with (refine WL.out ?_; (repeat ((refine WL.op ?_ ?_; (exact rfl); intro K hK; (first | ((first | ((with_reducible apply ow_move); exact rfl) | ((with_reducible apply ow_assign); exact rfl)); (go_simp <;> (try simp (disch := omega) only [wrap_id, sub_left, zac]) <;> rfl)) | ((((with_reducible apply ow_loadN st); exact rfl; exact inferInstance; exact rfl; (exact get0); ((try simp only [zta, ztz, zda, zdz, zca, zcn, zan, zsz, zss]) <;> exact rfl))); exact rfl) | ((((with_reducible apply ow_alloc st); exact rfl; exact inferInstance; (go_simp <;> (try simp (disch := omega) only [wrap_id, sub_left, zac]) <;> rfl))); (try clear st); intro b w' st) | ((((with_reducible apply ow_storeN' st); exact rfl; exact inferInstance; exact rfl; (exact get0); exact rfl)); exact rfl; exact rfl; (simp <;> done); ((try simp only [zta, ztz, zda, zdz, zca, zcn, zan, zsz, zss]) <;> exact rfl); (try clear st); intro w' st) | ((with_reducible apply ow_oldC st); exact rfl; exact inferInstance; exact rfl; assumption; assumption; exact rfl) | ((with_reducible apply ow_eval); (go_simp <;> (try simp (disch := omega) only [wrap_id, sub_left, zac]) <;> rfl); first | (with_reducible apply up_value) | ((with_reducible apply up_enter); ((go_at_call 94; refine (HC.out _).mono ?_; rintro e w' ⟨rfl, hb⟩; replace st := st.call hb; clear hb; refine ⟨_, rfl, ?_⟩))))); refine WL.next hK (by simp only [Act.put, zpt, zsz, zss]; exact rfl) ?_; clear hK K))); (try refine WL.nil ?_))
                      exact ⟨⟨j + 1, by omega, by go_num, st.tail, hs'⟩, by simp [intOf]; omega⟩
                    · have hR : Hid (R = v) := Lib.hid (by
                        rw [Z6.out, show Ck.ensErr (Ck.VRc.p ⟨u, q, k, ⟨br, bq⟩, ln, ds, ns, ss, es, An, cn, As, cs, some ⟨b1, o1, none⟩, ce⟩) = v from (Ck.goE_stop _ hs.out (by rw [← HV.out]; exact h0) _ hkl.out).trans HV.out.symm]
                        show (if _ = 0 then (if _ = 0 then _ else _) else _) = v
                        rw [if_pos hN.out, if_pos hM.out]
                        exact if_neg h0)
                      have h0' : (v != 0) = true := by simpa using h0
                      go_wp2_with (refine WL.out ?_; (repeat ((refine WL.op ?_ ?_; (exact rfl); intro K hK; (first | ((((with_reducible apply ow_assign); exact rfl)); (go_simp <;> (try simp (disch := omega) only [wrap_id, sub_left, zac]) <;> rfl)) | ((((with_reducible apply ow_loadN st); exact rfl; exact inferInstance; exact rfl; (exact get0); ((try simp only [zta, ztz, zda, zdz, zca, zcn, zan, zsz, zss]) <;> exact rfl))); exact rfl) | ((((with_reducible apply ow_alloc st); exact rfl; exact inferInstance; (go_simp <;> (try simp (disch := omega) only [wrap_id, sub_left, zac]) <;> rfl))); (try clear st); intro b w' st) | ((((with_reducible apply ow_storeN' st); exact rfl; exact inferInstance; exact rfl; (exact get0); exact rfl)); exact rfl; exact rfl; (simp <;> done); ((try simp only [zta, ztz, zda, zdz, zca, zcn, zan, zsz, zss]) <;> exact rfl); (try clear st); intro w' st) | ((with_reducible apply ow_oldC st); exact rfl; exact inferInstance; exact rfl; assumption; assumption; exact rfl) | ((with_reducible apply ow_eval); (go_simp <;> (try simp (disch := omega) only [wrap_id, sub_left, zac]) <;> rfl); first | (with_reducible apply up_value) | ((with_reducible apply up_enter); ((go_at_call 94; refine (HC.out _).mono ?_; rintro e w' ⟨rfl, hb⟩; replace st := st.call hb; clear hb; refine ⟨_, rfl, ?_⟩))))); refine WL.next hK (by simp only [Act.put, zpt, zsz, zss]; exact rfl) ?_; clear hK K))); (try refine WL.nil ?_))
                      go_ret
                      exact ⟨Ck.ret_int hR.out.symm, st.below⟩
                  · obtain rfl : ne = j := by omega
                    have hR : Hid (R = 0) := Lib.hid (by
                      rw [Z6.out, show Ck.ensErr (Ck.VRc.p ⟨u, q, k, ⟨br, bq⟩, ln, ds, ns, ss, es, An, cn, As, cs, Ae, ce⟩) = 0 by show Ck.goE _ es.length = 0; rw [← E3.out]; exact hs.out]
                      show (if _ = 0 then (if _ = 0 then _ else _) else _) = (0 : Int)
                      rw [if_pos hN.out, if_pos hM.out]
                      rfl)
                    go_wp2_with (refine WL.out ?_; (repeat ((refine WL.op ?_ ?_; (exact rfl); intro K hK; (((with_reducible apply ow_eval); (go_simp <;> (try simp (disch := omega) only [wrap_id, sub_left, zac]) <;> rfl); ((with_reducible apply up_value)))); refine WL.next hK (by simp only [Act.put, zpt, zsz, zss]; exact rfl) ?_; clear hK K))); (try refine WL.nil ?_))
                    go_ret
                    exact ⟨Ck.ret_int hR.out.symm, st.below⟩
end Go.Proofs.YtgcjejajljhnaaaGreatDoor
namespace Go.Proofs.YtgcjejajljhnaaaGreatDoor
open Go.RowKit Go.Hp
theorem ret2 {a b c d : Int} (h1 : a = c) (h2 : b = d) : Ending.returned (.tuple #[.int .i64 a, .int .i64 b]) = Ending.returned (.tuple #[.int .i64 c, .int .i64 d]) := by rw [h1, h2]
set_option maxRecDepth 8000 in
set_option maxHeartbeats 4000000 in
theorem CheckParts_any (v : Ck.VPt) (B : Nat) (w : World) (h : v.At w B) (hB : B ≤ w.heap.size) (hf : v.Fit) (hm : v.mp.length ≤ 100000) :
    Calls Tryz.prog 12 #[v.val] w fun e w' => e = .returned (.tuple #[.int .i64 (Ck.partsIx v.p), .int .i64 (Ck.partsErr v.p)]) ∧ Below w.heap.size w w' := by
  have HW : Hid (∀ W, Below w.heap.size w W → Calls Tryz.prog 46 #[v.val] W fun e w' => e = .returned (.int .i64 (Ck.wholeErr v.p)) ∧ Below W.heap.size W w') := Lib.hid fun W hb => wholeErr_any v B W (h.below hb hB) (Nat.le_trans hB hb.size) hf hm
  have H := Lib.hid h
  have HF := Lib.hid hf
  clear h hf hm
  obtain ⟨c, al, rs, ds, mp, Aa, ca, Ar, cr, Ad, cd⟩ := v
  unfold Ck.VPt.val at *
  simp only at *
  obtain ⟨na, e1⟩ : ∃ n, n = al.length := ⟨_, rfl⟩
  obtain ⟨nr, e2⟩ : ∃ n, n = rs.length := ⟨_, rfl⟩
  obtain ⟨nd, e3⟩ : ∃ n, n = ds.length := ⟨_, rfl⟩
  have E2 := Lib.hid e2
  rw [← e1, ← e2, ← e3] at HW ⊢
  clear e1 e3 e2
  have hn2 : nr ≤ 100000 := by rw [E2.out]; exact HF.out.rs
  obtain ⟨p, ep⟩ : ∃ p, p = Ck.VPt.p ⟨c, al, rs, ds, mp, Aa, ca, Ar, cr, Ad, cd⟩ := ⟨_, rfl⟩
  rw [← ep] at HW ⊢
  have hpl : p.rs.length = nr := by rw [ep, E2.out]; exact List.length_map ..
  have hpr : ∀ j, j < nr → Ck.at_ Ck.Rc.o p.rs j = (Ck.at_ Ck.VRc.o rs j).p := fun j hj => by rw [ep]; exact Ck.at_map Ck.VRc.p Ck.VRc.o Ck.Rc.o rs j (by rw [← E2.out]; exact hj)
  have PL := Lib.hid hpl
  have PR := Lib.hid hpr
  clear hpl hpr ep
  obtain ⟨we, ewe⟩ : ∃ x, x = Ck.wholeErr p := ⟨_, rfl⟩
  rw [← ewe] at HW
  have WE := Lib.hid ewe
  clear ewe
  by_cases h0 : we = 0
  rotate_left
  · have hi : Hid (Ck.partsIx p = 0) := Lib.hid (by unfold Ck.partsIx; rw [if_pos (by rw [← WE.out]; exact h0)])
    have he : Hid (Ck.partsErr p = we) := Lib.hid (by rw [WE.out]; exact if_neg (by rw [← WE.out]; exact h0))
    have h0' : (we != 0) = true := by simpa using h0
    have st := St.start w
    go_enter Tryz.func12, Tryz.ntmps12
    go_wp2_with (refine WL.out ?_; (repeat ((refine WL.op ?_ ?_; (exact rfl); intro K hK; (first | ((((with_reducible apply ow_assign); exact rfl)); (go_simp <;> (try simp (disch := omega) only [wrap_id, sub_left, zac]) <;> rfl)) | ((((with_reducible apply ow_loadN st); exact rfl; exact inferInstance; exact rfl; (exact get0); ((try simp only [zta, ztz, zda, zdz, zca, zcn, zan, zsz, zss]) <;> exact rfl))); exact rfl) | ((((with_reducible apply ow_box st); exact rfl; (go_simp <;> (try simp (disch := omega) only [wrap_id, sub_left, zac]) <;> rfl); (go_simp <;> (try simp (disch := omega) only [wrap_id, sub_left, zac]) <;> rfl))); (try clear st); intro b w' st) | ((with_reducible apply ow_eval); (go_simp <;> (try simp (disch := omega) only [wrap_id, sub_left, zac]) <;> rfl); first | (with_reducible apply up_value) | ((with_reducible apply up_enter); ((go_at_call 46; refine (HW.out _ st.below).mono ?_; rintro e w' ⟨rfl, hb⟩; replace st := st.call hb; clear hb; refine ⟨_, rfl, ?_⟩))))); refine WL.next hK (by simp only [Act.put, zpt, zsz, zss]; exact rfl) ?_; clear hK K))); (try refine WL.nil ?_))
    go_ret2
    exact ⟨ret2 hi.out.symm he.out.symm, st.below⟩
  subst h0
  have miss : Hid (Ck.rootErr p = 6 → Ck.partsIx p = 5 ∧ Ck.partsErr p = 6) := Lib.hid fun h => by
    refine ⟨?_, ?_⟩
    · unfold Ck.partsIx
      rw [← WE.out, h]
      rfl
    · unfold Ck.partsErr
      rw [← WE.out, h]
      rfl
  have st := St.start w
  by_cases h5 : (nr : Int) ≤ 5
  · have hm := Lib.hid (miss.out (by unfold Ck.rootErr; rw [if_pos (.inl (by rw [PL.out]; omega))]))
    go_enter Tryz.func12, Tryz.ntmps12
    go_wp2_with (refine WL.out ?_; (repeat (first | (refine WL.op ?_ ?_; (exact rfl); intro K hK; (first | ((first | ((with_reducible apply ow_move); exact rfl) | ((with_reducible apply ow_assign); exact rfl)); (go_simp <;> (try simp (disch := omega) only [wrap_id, sub_left, zac]) <;> rfl)) | ((first | ((with_reducible apply ow_load1 st); exact rfl; exact inferInstance; exact rfl; (exact get0)) | ((with_reducible apply ow_loadN st); exact rfl; exact inferInstance; exact rfl; (exact get0); ((try simp only [zta, ztz, zda, zdz, zca, zcn, zan, zsz, zss]) <;> exact rfl))); exact rfl) | ((((with_reducible apply ow_box st); exact rfl; (go_simp <;> (try simp (disch := omega) only [wrap_id, sub_left, zac]) <;> rfl); (go_simp <;> (try simp (disch := omega) only [wrap_id, sub_left, zac]) <;> rfl))); (try clear st); intro b w' st) | ((with_reducible apply ow_eval); (go_simp <;> (try simp (disch := omega) only [wrap_id, sub_left, zac]) <;> rfl); first | (with_reducible apply up_value) | ((with_reducible apply up_enter); ((go_at_call 46; refine (HW.out _ st.below).mono ?_; rintro e w' ⟨rfl, hb⟩; replace st := st.call hb; clear hb; refine ⟨_, rfl, ?_⟩))))); refine WL.next hK (by simp only [Act.put, zpt, zsz, zss]; exact rfl) ?_; clear hK K) | (refine WL.skip ?_ (by simp only [Act.put, zpt, zsz, zss]; exact rfl) ?_; (exact rfl)))); (try refine WL.nil ?_))
    go_ret2
    exact ⟨ret2 hm.out.1.symm hm.out.2.symm, st.below⟩
  have h5n : 5 < nr := by omega
  have h5i : (5 : Int) < (nr : Int) := by omega
  obtain ⟨b1, o1, rfl, hb1, hc⟩ := H.out.rs.at_ (by rw [← E2.out]; omega)
  have hb1 := Nat.lt_of_lt_of_le hb1 hB
  obtain ⟨y5, hy5⟩ : ∃ y, y = Ck.at_ Ck.VRc.o rs 5 := ⟨_, rfl⟩
  have f5 := hc 5 (by rw [← E2.out]; exact h5n)
  have f50 : w.cell? ⟨b1, o1 + 50, none⟩ = some (.bool y5.u) := by rw [hy5]; exact f5 0 _ rfl
  have f52 : w.cell? ⟨b1, o1 + 50 + 2, none⟩ = some (.int .i64 y5.k) := by rw [hy5]; exact f5 2 _ rfl
  have f52' : w.cell? ⟨b1, o1 + 52, none⟩ = some (.int .i64 y5.k) := f52
  clear f5
  have P5 : Hid (Ck.at_ Ck.Rc.o p.rs 5 = y5.p) := Lib.hid (by rw [PR.out 5 h5n, hy5])
  clear hy5
  obtain ⟨u5, q5, k5, r5, l5, d5, n5, s5, e5, A5, c5, B5, g5, C5, i5⟩ := y5
  simp only at *
  have HC := Lib.hid hc
  clear hc
  cases u5
  · have hm := Lib.hid (miss.out (by unfold Ck.rootErr; rw [if_pos (.inr (.inl (by rw [P5.out]; rfl)))]))
    go_enter Tryz.func12, Tryz.ntmps12
    go_wp2_with (refine WL.out ?_; (repeat (first | (refine WL.op ?_ ?_; (exact rfl); intro K hK; (first | ((first | ((with_reducible apply ow_move); exact rfl) | ((with_reducible apply ow_assign); exact rfl)); (go_simp <;> (try simp (disch := omega) only [wrap_id, sub_left, zac]) <;> rfl)) | ((first | ((with_reducible apply ow_load1 st); exact rfl; exact inferInstance; exact rfl; (exact get0)) | ((with_reducible apply ow_loadN st); exact rfl; exact inferInstance; exact rfl; (exact get0); ((try simp only [zta, ztz, zda, zdz, zca, zcn, zan, zsz, zss]) <;> exact rfl))); exact rfl) | ((((with_reducible apply ow_box st); exact rfl; (go_simp <;> (try simp (disch := omega) only [wrap_id, sub_left, zac]) <;> rfl); (go_simp <;> (try simp (disch := omega) only [wrap_id, sub_left, zac]) <;> rfl))); (try clear st); intro b w' st) | ((with_reducible apply ow_old1 st); exact rfl; exact inferInstance; exact rfl; assumption; assumption) | ((with_reducible apply ow_eval); (go_simp <;> (try simp (disch := omega) only [wrap_id, sub_left, zac]) <;> rfl); first | (with_reducible apply up_value) | ((with_reducible apply up_enter); ((go_at_call 46; refine (HW.out _ st.below).mono ?_; rintro e w' ⟨rfl, hb⟩; replace st := st.call hb; clear hb; refine ⟨_, rfl, ?_⟩))))); refine WL.next hK (by simp only [Act.put, zpt, zsz, zss]; exact rfl) ?_; clear hK K) | (refine WL.skip ?_ (by simp only [Act.put, zpt, zsz, zss]; exact rfl) ?_; (exact rfl)))); (try refine WL.nil ?_))
    go_ret2
    exact ⟨ret2 hm.out.1.symm hm.out.2.symm, st.below⟩
  by_cases hk : k5 = 0
  rotate_left
  · have hm := Lib.hid (miss.out (by unfold Ck.rootErr; rw [if_pos (.inr (.inr (by rw [P5.out]; exact hk)))]))
    have hk' : (k5 != 0) = true := by simpa using hk
    go_enter Tryz.func12, Tryz.ntmps12
    go_wp2_with (refine WL.out ?_; (repeat ((refine WL.op ?_ ?_; (exact rfl); intro K hK; (first | ((first | ((with_reducible apply ow_move); exact rfl) | ((with_reducible apply ow_assign); exact rfl)); (go_simp <;> (try simp (disch := omega) only [wrap_id, sub_left, zac]) <;> rfl)) | ((first | ((with_reducible apply ow_load1 st); exact rfl; exact inferInstance; exact rfl; (exact get0)) | ((with_reducible apply ow_loadN st); exact rfl; exact inferInstance; exact rfl; (exact get0); ((try simp only [zta, ztz, zda, zdz, zca, zcn, zan, zsz, zss]) <;> exact rfl))); exact rfl) | ((((with_reducible apply ow_box st); exact rfl; (go_simp <;> (try simp (disch := omega) only [wrap_id, sub_left, zac]) <;> rfl); (go_simp <;> (try simp (disch := omega) only [wrap_id, sub_left, zac]) <;> rfl))); (try clear st); intro b w' st) | ((with_reducible apply ow_old1 st); exact rfl; exact inferInstance; exact rfl; assumption; assumption) | ((with_reducible apply ow_eval); (go_simp <;> (try simp (disch := omega) only [wrap_id, sub_left, zac]) <;> rfl); first | (with_reducible apply up_value) | ((with_reducible apply up_enter); ((go_at_call 46; refine (HW.out _ st.below).mono ?_; rintro e w' ⟨rfl, hb⟩; replace st := st.call hb; clear hb; refine ⟨_, rfl, ?_⟩))))); refine WL.next hK (by simp only [Act.put, zpt, zsz, zss]; exact rfl) ?_; clear hK K))); (try refine WL.nil ?_))
    go_ret2
    exact ⟨ret2 hm.out.1.symm hm.out.2.symm, st.below⟩
  subst hk
  have hroot : Hid (Ck.rootErr p = 0) := Lib.hid (by
    unfold Ck.rootErr
    rw [if_neg]
    rw [PL.out, P5.out]
    rintro (h | h | h)
    · omega
    · cases h
    · exact h rfl)
  have HI : Hid (Ck.partsIx p = Ck.goI (fun i => Ck.recErr i (Ck.at_ Ck.Rc.o p.rs i)) nr ∧ Ck.partsErr p = Ck.goE (fun i => Ck.recErr i (Ck.at_ Ck.Rc.o p.rs i)) nr) := Lib.hid (by
    refine ⟨?_, ?_⟩
    · unfold Ck.partsIx
      rw [← WE.out, hroot.out, if_neg (by simp), if_neg (by simp), PL.out]
    · unfold Ck.partsErr Ck.recsErr
      rw [← WE.out, hroot.out, PL.out]
      show (if (0 : Int) = 0 then (if (0 : Int) = 0 then (if Ck.goE _ nr = 0 then 0 else Ck.goE _ nr) else 0) else 0) = _
      rw [if_pos rfl, if_pos rfl]
      split <;> simp_all)
  clear miss P5 hroot
  go_enter Tryz.func12, Tryz.ntmps12
  go_wp2_with (refine WL.out ?_; (repeat ((refine WL.op ?_ ?_; (exact rfl); intro K hK; (first | ((first | ((with_reducible apply ow_move); exact rfl) | ((with_reducible apply ow_assign); exact rfl)); (go_simp <;> (try simp (disch := omega) only [wrap_id, sub_left, zac]) <;> rfl)) | ((first | ((with_reducible apply ow_load1 st); exact rfl; exact inferInstance; exact rfl; (exact get0)) | ((with_reducible apply ow_loadN st); exact rfl; exact inferInstance; exact rfl; (exact get0); ((try simp only [zta, ztz, zda, zdz, zca, zcn, zan, zsz, zss]) <;> exact rfl))); exact rfl) | ((((with_reducible apply ow_box st); exact rfl; (go_simp <;> (try simp (disch := omega) only [wrap_id, sub_left, zac]) <;> rfl); (go_simp <;> (try simp (disch := omega) only [wrap_id, sub_left, zac]) <;> rfl))); (try clear st); intro b w' st) | ((with_reducible apply ow_old1 st); exact rfl; exact inferInstance; exact rfl; assumption; assumption) | ((with_reducible apply ow_eval); (go_simp <;> (try simp (disch := omega) only [wrap_id, sub_left, zac]) <;> rfl); first | (with_reducible apply up_value) | ((with_reducible apply up_enter); ((go_at_call 46; refine (HW.out _ st.below).mono ?_; rintro e w' ⟨rfl, hb⟩; replace st := st.call hb; clear hb; refine ⟨_, rfl, ?_⟩))))); refine WL.next hK (by simp only [Act.put, zpt, zsz, zss]; exact rfl) ?_; clear hK K))); (try refine WL.nil ?_))
  clear f50 f52 f52'
  go_loopw [36] (fun i wr => ∃ j : Nat, j ≤ nr ∧ i = .int .i64 j ∧ St w wr [.box b 26 [.int .i64 c, .slice Aa na ca, .slice (some ⟨b1, o1, none⟩) nr cr, .slice Ad nd cd, .string ⟨mp.toArray⟩]] ∧ Hid (Ck.goE (fun i => Ck.recErr i (Ck.at_ Ck.Rc.o p.rs i)) j = 0)) (fun i _ => nr - (intOf i).toNat)
  case atStart => exact ⟨0, by omega, rfl, st, rfl⟩
  case round =>
    clear st
    obtain ⟨j, hj, rfl, st, hs⟩ := hrel
    by_cases hlt : j < nr
    · obtain ⟨y, hy⟩ : ∃ y, y = Ck.at_ Ck.VRc.o rs j := ⟨_, rfl⟩
      have hkl : j < rs.length := by rw [← E2.out]; exact hlt
      have hym : y ∈ rs := by rw [hy]; exact Ck.at_mem _ _ _ hkl
      have f1 : OldC w b1 (o1 + j * 10) [.bool y.u, .int .i64 y.q, .int .i64 y.k, .int .i64 y.b.r, .int .i64 y.b.q, .int .i64 y.ln, .int .i64 y.ds, .slice y.An y.ns.length y.cn, .slice y.As y.ss.length y.cs, .slice y.Ae y.es.length y.ce] := by rw [hy]; exact HC.out j hkl
      have hyp : Hid (Ck.at_ Ck.Rc.o p.rs j = y.p) := Lib.hid (by rw [PR.out j hlt, hy])
      clear hy hkl
      obtain ⟨x, hx⟩ : ∃ x, x = Ck.recErr j y.p := ⟨_, rfl⟩
      have HX : Hid (x = Ck.recErr j (Ck.at_ Ck.Rc.o p.rs j)) := Lib.hid (by rw [hyp.out, hx])
      have HC : Hid (∀ W, Below w.heap.size w W → Calls Tryz.prog 47 #[.int .i64 (j : Int), .agg #[.bool y.u, .int .i64 y.q, .int .i64 y.k, .int .i64 y.b.r, .int .i64 y.b.q, .int .i64 y.ln, .int .i64 y.ds, .slice y.An y.ns.length y.cn, .slice y.As y.ss.length y.cs, .slice y.Ae y.es.length y.ce]] W fun e w' => e = .returned (.int .i64 x) ∧ Below W.heap.size W w') := Lib.hid fun W hb => by
        rw [hx]
        exact recordErr_any j y B W ((H.out.rcs y hym).below hb hB) (Nat.le_trans hB hb.size) (HF.out.rcs y hym) (by omega)
      clear hx hym
      by_cases h0 : x = 0
      · have hs' : Hid (Ck.goE (fun i => Ck.recErr i (Ck.at_ Ck.Rc.o p.rs i)) (j + 1) = 0) := Lib.hid (by rw [Ck.goE_next _ hs.out, ← HX.out]; exact h0)
        subst h0
        go_wp2_with (refine WL.out ?_; (repeat ((refine WL.op ?_ ?_; (exact rfl); intro K hK; (first | ((first | ((with_reducible apply ow_move); exact rfl) | ((with_reducible apply ow_assign); exact rfl)); (go_simp <;> (try simp (disch := omega) only [wrap_id, sub_left, zac]) <;> rfl)) | ((((with_reducible apply ow_loadN st); exact rfl; exact inferInstance; exact rfl; (exact get0); ((try simp only [zta, ztz, zda, zdz, zca, zcn, zan, zsz, zss]) <;> exact rfl))); exact rfl) | ((((with_reducible apply ow_alloc st); exact rfl; exact inferInstance; (go_simp <;> (try simp (disch := omega) only [wrap_id, sub_left, zac]) <;> rfl))); (try clear st); intro b w' st) | ((((with_reducible apply ow_storeN' st); exact rfl; exact inferInstance; exact rfl; (exact get0); exact rfl)); exact rfl; exact rfl; (simp <;> done); ((try simp only [zta, ztz, zda, zdz, zca, zcn, zan, zsz, zss]) <;> exact rfl); (try clear st); intro w' st) | ((with_reducible apply ow_oldC st); exact rfl; exact inferInstance; exact rfl; assumption; assumption; exact rfl) | ((with_reducible apply ow_eval); (go_simp <;> (try simp (disch := omega) only [wrap_id, sub_left, zac]) <;> rfl); first | (with_reducible apply up_value) | ((with_reducible apply up_enter); ((go_at_call 47; refine (HC.out _ st.below).mono ?_; rintro e w' ⟨rfl, hb⟩; replace st := st.call hb; clear hb; refine ⟨_, rfl, ?_⟩))))); refine WL.next hK (by simp only [Act.put, zpt, zsz, zss]; exact rfl) ?_; clear hK K))); (try refine WL.nil ?_))
        exact ⟨⟨j + 1, by omega, by go_num, st.tail, hs'⟩, by simp [intOf]; omega⟩
      · have hE : Hid (Ck.partsErr p = x) := Lib.hid (by
          rw [HI.out.2, HX.out]
          exact Ck.goE_stop _ hs.out (by rw [← HX.out]; exact h0) nr hlt)
        have hI : Hid (Ck.partsIx p = j) := Lib.hid (by
          rw [HI.out.1]
          exact Ck.goI_stop _ hs.out (by rw [← HX.out]; exact h0) nr hlt)
        have h0' : (x != 0) = true := by simpa using h0
        go_wp2_with (refine WL.out ?_; (repeat ((refine WL.op ?_ ?_; (exact rfl); intro K hK; (first | ((((with_reducible apply ow_assign); exact rfl)); (go_simp <;> (try simp (disch := omega) only [wrap_id, sub_left, zac]) <;> rfl)) | ((((with_reducible apply ow_loadN st); exact rfl; exact inferInstance; exact rfl; (exact get0); ((try simp only [zta, ztz, zda, zdz, zca, zcn, zan, zsz, zss]) <;> exact rfl))); exact rfl) | ((((with_reducible apply ow_alloc st); exact rfl; exact inferInstance; (go_simp <;> (try simp (disch := omega) only [wrap_id, sub_left, zac]) <;> rfl))); (try clear st); intro b w' st) | ((((with_reducible apply ow_storeN' st); exact rfl; exact inferInstance; exact rfl; (exact get0); exact rfl)); exact rfl; exact rfl; (simp <;> done); ((try simp only [zta, ztz, zda, zdz, zca, zcn, zan, zsz, zss]) <;> exact rfl); (try clear st); intro w' st) | ((with_reducible apply ow_oldC st); exact rfl; exact inferInstance; exact rfl; assumption; assumption; exact rfl) | ((with_reducible apply ow_eval); (go_simp <;> (try simp (disch := omega) only [wrap_id, sub_left, zac]) <;> rfl); first | (with_reducible apply up_value) | ((with_reducible apply up_enter); ((go_at_call 47; refine (HC.out _ st.below).mono ?_; rintro e w' ⟨rfl, hb⟩; replace st := st.call hb; clear hb; refine ⟨_, rfl, ?_⟩))))); refine WL.next hK (by simp only [Act.put, zpt, zsz, zss]; exact rfl) ?_; clear hK K))); (try refine WL.nil ?_))
        go_ret2
        exact ⟨ret2 hI.out.symm hE.out.symm, st.below⟩
    · obtain rfl : nr = j := by omega
      have hE : Hid (Ck.partsErr p = 0) := Lib.hid (by rw [HI.out.2, hs.out])
      have hI : Hid (Ck.partsIx p = 0) := Lib.hid (by rw [HI.out.1]; exact Ck.goI_zero _ _ hs.out)
      go_wp2_with (refine WL.out ?_; (repeat ((refine WL.op ?_ ?_; (exact rfl); intro K hK; (((with_reducible apply ow_eval); (go_simp <;> (try simp (disch := omega) only [wrap_id, sub_left, zac]) <;> rfl); ((with_reducible apply up_value)))); refine WL.next hK (by simp only [Act.put, zpt, zsz, zss]; exact rfl) ?_; clear hK K))); (try refine WL.nil ?_))
      go_ret2
      exact ⟨ret2 hI.out.symm hE.out.symm, st.below⟩
end Go.Proofs.YtgcjejajljhnaaaGreatDoor
namespace Ck
theorem str_size (l : List UInt8) : (ByteArray.mk l.toArray).size = l.length := by show l.toArray.size = _; simp
def butL : List UInt8 := [34, 42, 47, 58, 60, 62, 63, 92, 124]
theorem legalB_no {c : UInt8} (h : ¬ (32 ≤ c.toNat ∧ c.toNat ≤ 126)) : legalB c = false := by
  unfold legalB
  by_cases h1 : 32 ≤ c.toNat
  · rw [decide_eq_false (p := c.toNat ≤ 126) (fun q => h ⟨h1, q⟩)]; simp
  · rw [decide_eq_false h1]; rfl
theorem legalB_in {c : UInt8} (h : 32 ≤ c.toNat ∧ c.toNat ≤ 126) : legalB c = !(butL.contains c) := by
  unfold legalB butL
  rw [decide_eq_true h.1, decide_eq_true h.2]
  simp
theorem but_hit {c : UInt8} {k : Nat} (hk : k < butL.length) (h : (at_ 0 butL k).toNat = c.toNat) : butL.contains c = true := by
  have e : at_ 0 butL k = c := UInt8.toNat_inj.1 h
  rw [← e]
  simpa using at_mem 0 butL k hk
theorem but_miss {c : UInt8} (h : ∀ k, k < butL.length → (at_ 0 butL k).toNat ≠ c.toNat) : butL.contains c = false := by
  cases hb : butL.contains c with
  | false => rfl
  | true =>
    have hm : c ∈ butL := by simpa using hb
    obtain ⟨k, hk, e⟩ := List.getElem_of_mem hm
    exact absurd (by rw [at_eq 0 butL k hk, e]) (h k hk)
theorem nameErr_last {s : List UInt8} (h : s.length ≤ 32) (h0 : s ≠ []) {m : Nat} (hm : s.length = m + 1) (h2 : s ≠ [46, 46]) (h32 : (at_ 0 s m).toNat ≠ 32) (h46 : (at_ 0 s m).toNat ≠ 46) : nameErr s = if s.all legalB then 0 else 4 := by
  have hl : s.getLast? = some (at_ 0 s m) := by
    rw [List.getLast?_eq_some_getLast h0, at_eq 0 s m (by omega), List.getLast_eq_getElem]
    simp [hm]
  have e1 : (s.getLast? != some 32) = true := by
    rw [hl, bne_iff_ne]
    intro e
    exact h32 (by rw [Option.some.inj e]; rfl)
  have e2 : (s.getLast? != some 46) = true := by
    rw [hl, bne_iff_ne]
    intro e
    exact h46 (by rw [Option.some.inj e]; rfl)
  have e3 : (s != []) = true := by rw [bne_iff_ne]; exact h0
  have e4 : (s != [46, 46]) = true := by rw [bne_iff_ne]; exact h2
  unfold nameErr legal
  rw [if_neg (by omega), e1, e2, e3, e4, decide_eq_true h]
  cases s.all legalB <;> rfl
theorem nameErr_bad {s : List UInt8} (h : s.length ≤ 32) (h0 : s = [] ∨ s = [46, 46] ∨ s.getLast? = some 32 ∨ s.getLast? = some 46) : nameErr s = 4 := by
  unfold nameErr
  rw [if_neg (by omega), if_neg]
  intro e
  unfold legal at e
  simp only [Bool.and_eq_true, bne_iff_ne] at e
  obtain ⟨⟨⟨⟨⟨e1, _⟩, _⟩, e2⟩, e3⟩, e4⟩ := e
  rcases h0 with h | h | h | h
  · exact e1 h
  · exact e2 h
  · exact e3 h
  · exact e4 h
theorem last_at {s : List UInt8} {m : Nat} (hm : s.length = m + 1) : s.getLast? = some (at_ 0 s m) := by
  have h0 : s ≠ [] := by intro e; rw [e] at hm; simp at hm
  rw [List.getLast?_eq_some_getLast h0, at_eq 0 s m (by omega), List.getLast_eq_getElem]
  simp [hm]
theorem all_no {s : List UInt8} {k : Nat} (hk : k < s.length) (h : legalB (at_ 0 s k) = false) : s.all legalB = false := by
  cases ha : s.all legalB with
  | false => rfl
  | true =>
    have := List.all_eq_true.1 ha _ (at_mem 0 s k hk)
    rw [h] at this
    cases this
end Ck
namespace Go.Proofs.YtgcjejajljhnaaaGreatDoor
open Go.RowKit Go.Hp
set_option maxHeartbeats 2000000 in
theorem rlegal_any (c : UInt8) (w : World) : Calls Tryz.prog 138 #[.int .u8 (c.toNat : Int)] w fun e w' => e = .returned (.bool (Ck.legalB c)) ∧ Below w.heap.size w w' := by
  have hsz := Ck.str_size
  have st := St.start w
  obtain ⟨n, hn⟩ : ∃ n, c.toNat = n := ⟨_, rfl⟩
  have HN := Lib.hid hn
  rw [hn]
  clear hn
  by_cases h1 : n < 32
  · have HR := Lib.hid (Ck.legalB_no (c := c) (by rw [HN.out]; omega))
    go_enter Tryz.func138, Tryz.ntmps138
    go_wp2_with (refine WL.out ?_; (repeat (first | (refine WL.op ?_ ?_; (exact rfl); intro K hK; (first | ((((with_reducible apply ow_move); exact rfl)); (go_simp <;> (try simp (disch := omega) only [wrap_id, sub_left, zac]) <;> rfl)) | ((with_reducible apply ow_eval); (go_simp <;> (try simp (disch := omega) only [wrap_id, sub_left, zac]) <;> rfl); ((with_reducible apply up_value)))); refine WL.next hK (by simp only [Act.put, zpt, zsz, zss]; exact rfl) ?_; clear hK K) | (refine WL.skip ?_ (by simp only [Act.put, zpt, zsz, zss]; exact rfl) ?_; ((simp [Region.wanted, yielded] <;> omega))))); (try refine WL.nil ?_))
    go_ret
    exact ⟨by rw [HR.out]; rfl, st.below⟩
  by_cases h2 : 126 < n
  · have HR := Lib.hid (Ck.legalB_no (c := c) (by rw [HN.out]; omega))
    go_enter Tryz.func138, Tryz.ntmps138
    go_wp2_with (refine WL.out ?_; (repeat ((refine WL.op ?_ ?_; (first | exact rfl | (simp [Region.wanted, yielded] <;> omega)); intro K hK; (first | ((((with_reducible apply ow_move); exact rfl)); (go_simp <;> (try simp (disch := omega) only [wrap_id, sub_left, zac]) <;> rfl)) | ((with_reducible apply ow_eval); (go_simp <;> (try simp (disch := omega) only [wrap_id, sub_left, zac]) <;> rfl); ((with_reducible apply up_value)))); refine WL.next hK (by simp only [Act.put, zpt, zsz, zss]; exact rfl) ?_; clear hK K))); (try refine WL.nil ?_))
    go_ret
    exact ⟨by rw [HR.out]; rfl, st.below⟩
  have HR := Lib.hid (Ck.legalB_in (c := c) (by rw [HN.out]; omega))
  go_enter Tryz.func138, Tryz.ntmps138
  go_wp2_with (refine WL.out ?_; (repeat ((refine WL.op ?_ ?_; (first | exact rfl | (simp [Region.wanted, yielded] <;> omega)); intro K hK; (first | ((((with_reducible apply ow_move); exact rfl)); (go_simp <;> (try simp (disch := omega) only [wrap_id, sub_left, zac]) <;> rfl)) | ((with_reducible apply ow_eval); (go_simp <;> (try simp (disch := omega) only [wrap_id, sub_left, zac]) <;> rfl); ((with_reducible apply up_value)))); refine WL.next hK (by simp only [Act.put, zpt, zsz, zss]; exact rfl) ?_; clear hK K))); (try refine WL.nil ?_))
  go_loopw [3] (fun i wr => ∃ k : Nat, k ≤ 9 ∧ i = .int .i64 (k : Int) ∧ Hid (∀ j, j < k → (Ck.at_ 0 Ck.butL j).toNat ≠ n) ∧ St w wr []) (fun i _ => 9 - (intOf i).toNat)
  case atStart => exact ⟨0, by omega, rfl, Lib.hid (fun j h => absurd h (by omega)), st⟩
  case round =>
    clear st
    obtain ⟨k, hk, rfl, hs, st⟩ := hrel
    by_cases hlt : k < 9
    · obtain ⟨x, hx⟩ : ∃ x, (Ck.at_ (0 : UInt8) [34, 42, 47, 58, 60, 62, 63, 92, 124] k).toNat = x := ⟨_, rfl⟩
      have HX : Hid ((Ck.at_ 0 Ck.butL k).toNat = x) := Lib.hid hx
      by_cases he : x = n
      · have hb := Lib.hid (Ck.but_hit (c := c) (k := k) (by show k < 9; exact hlt) (by rw [HX.out, HN.out, he]))
        have he' : ((x : Int) == (n : Int)) = true := by rw [he]; simp
        clear he
        go_wp2_with (refine WL.out ?_; (repeat ((refine WL.op ?_ ?_; (exact rfl); intro K hK; (first | ((((with_reducible apply ow_move); exact rfl)); (go_simp <;> (try simp (disch := omega) only [wrap_id, sub_left, zac]) <;> rfl)) | ((with_reducible apply ow_char (l := [34, 42, 47, 58, 60, 62, 63, 92, 124]) k); exact rfl; exact Tryz.underlying9; exact rfl; exact rfl; exact rfl; exact hlt) | ((with_reducible apply ow_eval); (go_simp <;> (try simp (disch := omega) only [wrap_id, sub_left, zac]) <;> rfl); ((with_reducible apply up_value)))); refine WL.next hK (by simp only [Act.put, zpt, zsz, zss]; exact rfl) ?_; clear hK K))); (try refine WL.nil ?_))
        go_ret
        exact ⟨by rw [HR.out, hb.out]; rfl, st.below⟩
      · have he' : ((x : Int) == (n : Int)) = false := by rw [beq_eq_false_iff_ne]; omega
        have hs' : Hid (∀ j, j < k + 1 → (Ck.at_ 0 Ck.butL j).toNat ≠ n) := Lib.hid fun j hj => by
          by_cases e : j = k
          · rw [e, HX.out]; exact he
          · exact hs.out j (by omega)
        clear he
        go_wp2_with (refine WL.out ?_; (repeat ((refine WL.op ?_ ?_; (exact rfl); intro K hK; (first | ((first | ((with_reducible apply ow_move); exact rfl) | ((with_reducible apply ow_assign); exact rfl)); (go_simp <;> (try simp (disch := omega) only [wrap_id, sub_left, zac]) <;> rfl)) | ((with_reducible apply ow_char (l := [34, 42, 47, 58, 60, 62, 63, 92, 124]) k); exact rfl; exact Tryz.underlying9; exact rfl; exact rfl; exact rfl; exact hlt) | ((with_reducible apply ow_eval); (go_simp <;> (try simp (disch := omega) only [wrap_id, sub_left, zac]) <;> rfl); ((with_reducible apply up_value)))); refine WL.next hK (by simp only [Act.put, zpt, zsz, zss]; exact rfl) ?_; clear hK K))); (try refine WL.nil ?_))
        exact ⟨⟨k + 1, by omega, by go_num, hs', st⟩, by simp [intOf]; omega⟩
    · have hb := Lib.hid (Ck.but_miss (c := c) (fun j hj => by rw [HN.out]; exact hs.out j (by have : j < 9 := hj; omega)))
      go_wp2_with (refine WL.out ?_; (repeat ((refine WL.op ?_ ?_; (exact rfl); intro K hK; (((with_reducible apply ow_eval); (go_simp <;> (try simp (disch := omega) only [wrap_id, sub_left, zac]) <;> rfl); ((with_reducible apply up_value)))); refine WL.next hK (by simp only [Act.put, zpt, zsz, zss]; exact rfl) ?_; clear hK K))); (try refine WL.nil ?_))
      go_ret
      exact ⟨by rw [HR.out, hb.out]; rfl, st.below⟩
set_option maxRecDepth 8000 in
set_option maxHeartbeats 4000000 in
theorem rNameErr_any (s : List UInt8) (w : World) (hl : s.length ≤ 100000) : Calls Tryz.prog 99 #[.string ⟨s.toArray⟩] w fun e w' => e = .returned (.int .i64 (Ck.nameErr s)) ∧ Below w.heap.size w w' := by
  have hsz := Ck.str_size
  have st := St.start w
  by_cases h32 : (32 : Int) < (s.length : Int)
  · have HR : Hid (Ck.nameErr s = 8) := Lib.hid (by unfold Ck.nameErr; rw [if_pos (by omega)])
    go_enter Tryz.func99, Tryz.ntmps99
    go_wp2_with (refine WL.out ?_; (repeat ((refine WL.op ?_ ?_; (exact rfl); intro K hK; (((with_reducible apply ow_eval); (go_simp <;> (try simp (disch := omega) only [wrap_id, sub_left, zac]) <;> rfl); ((with_reducible apply up_value)))); refine WL.next hK (by simp only [Act.put, zpt, zsz, zss]; exact rfl) ?_; clear hK K))); (try refine WL.nil ?_))
    go_ret
    exact ⟨by rw [HR.out]; rfl, st.below⟩
  have h32' : s.length ≤ 32 := by omega
  by_cases h0 : s = []
  · have HR := Lib.hid (Ck.nameErr_bad h32' (.inl h0))
    subst h0
    go_enter Tryz.func99, Tryz.ntmps99
    go_wp2_with (refine WL.out ?_; (repeat (first | (refine WL.op ?_ ?_; (exact rfl); intro K hK; (first | ((((with_reducible apply ow_move); exact rfl)); (go_simp <;> (try simp (disch := omega) only [wrap_id, sub_left, zac]) <;> rfl)) | ((with_reducible apply ow_eval); (go_simp <;> (try simp (disch := omega) only [wrap_id, sub_left, zac]) <;> rfl); ((with_reducible apply up_value)))); refine WL.next hK (by simp only [Act.put, zpt, zsz, zss]; exact rfl) ?_; clear hK K) | (refine WL.skip ?_ (by simp only [Act.put, zpt, zsz, zss]; exact rfl) ?_; (exact rfl)))); (try refine WL.nil ?_))
    go_ret
    exact ⟨by rw [HR.out]; rfl, st.below⟩
  by_cases h1 : s = [46]
  · have HR := Lib.hid (Ck.nameErr_bad h32' (.inr (.inr (.inr (by rw [h1]; rfl)))))
    subst h1
    go_enter Tryz.func99, Tryz.ntmps99
    go_wp2_with (refine WL.out ?_; (repeat (first | (refine WL.op ?_ ?_; (exact rfl); intro K hK; (first | ((((with_reducible apply ow_move); exact rfl)); (go_simp <;> (try simp (disch := omega) only [wrap_id, sub_left, zac]) <;> rfl)) | ((with_reducible apply ow_eval); (go_simp <;> (try simp (disch := omega) only [wrap_id, sub_left, zac]) <;> rfl); ((with_reducible apply up_value)))); refine WL.next hK (by simp only [Act.put, zpt, zsz, zss]; exact rfl) ?_; clear hK K) | (refine WL.skip ?_ (by simp only [Act.put, zpt, zsz, zss]; exact rfl) ?_; (exact rfl)))); (try refine WL.nil ?_))
    go_ret
    exact ⟨by rw [HR.out]; rfl, st.below⟩
  by_cases h2 : s = [46, 46]
  · have HR := Lib.hid (Ck.nameErr_bad h32' (.inr (.inl h2)))
    subst h2
    go_enter Tryz.func99, Tryz.ntmps99
    go_wp2_with (refine WL.out ?_; (repeat (first | (refine WL.op ?_ ?_; (exact rfl); intro K hK; (first | ((((with_reducible apply ow_move); exact rfl)); (go_simp <;> (try simp (disch := omega) only [wrap_id, sub_left, zac]) <;> rfl)) | ((with_reducible apply ow_eval); (go_simp <;> (try simp (disch := omega) only [wrap_id, sub_left, zac]) <;> rfl); ((with_reducible apply up_value)))); refine WL.next hK (by simp only [Act.put, zpt, zsz, zss]; exact rfl) ?_; clear hK K) | (refine WL.skip ?_ (by simp only [Act.put, zpt, zsz, zss]; exact rfl) ?_; (exact rfl)))); (try refine WL.nil ?_))
    go_ret
    exact ⟨by rw [HR.out]; rfl, st.below⟩
  have e0 : (s == []) = false := by rw [beq_eq_false_iff_ne]; exact h0
  have e1 : (s == [46]) = false := by rw [beq_eq_false_iff_ne]; exact h1
  have e2 : (s == [46, 46]) = false := by rw [beq_eq_false_iff_ne]; exact h2
  obtain ⟨m, hm⟩ : ∃ m, s.length = m + 1 := ⟨s.length - 1, by have : 0 < s.length := List.length_pos_iff.2 h0; omega⟩
  have HM := Lib.hid hm
  have hml : (s.length : Int) - 1 = (m : Int) := by omega
  have hmlt : m < s.length := by omega
  obtain ⟨x, hx⟩ : ∃ x, (Ck.at_ 0 s m).toNat = x := ⟨_, rfl⟩
  have HX := Lib.hid hx
  have H0 := Lib.hid h0
  have H2 := Lib.hid h2
  clear h0 h1 h2 hm
  by_cases hx32 : x = 32
  · have HR := Lib.hid (Ck.nameErr_bad h32' (.inr (.inr (.inl (by rw [Ck.last_at HM.out]; congr 1; exact UInt8.toNat_inj.1 (by rw [HX.out, hx32]; rfl))))))
    have i3 : ((x : Int) == 32) = true := by rw [hx32]; rfl
    clear hx32
    go_enter Tryz.func99, Tryz.ntmps99
    go_wp2_with (refine WL.out ?_; (repeat (first | (refine WL.op ?_ ?_; (exact rfl); intro K hK; (first | ((((with_reducible apply ow_move); exact rfl)); (go_simp <;> (try simp (disch := omega) only [wrap_id, sub_left, zac]) <;> rfl)) | ((with_reducible apply ow_char (m)); exact rfl; exact Tryz.underlying9; exact rfl; exact rfl; (focus (exact rfl)); (focus omega)) | ((with_reducible apply ow_eval); (go_simp <;> (try simp (disch := omega) only [wrap_id, sub_left, zac]) <;> rfl); ((with_reducible apply up_value)))); refine WL.next hK (by simp only [Act.put, zpt, zsz, zss]; exact rfl) ?_; clear hK K) | (refine WL.skip ?_ (by simp only [Act.put, zpt, zsz, zss]; exact rfl) ?_; (exact rfl)))); (try refine WL.nil ?_))
    go_ret
    exact ⟨by rw [HR.out]; rfl, st.below⟩
  have i3 : ((x : Int) == 32) = false := by rw [beq_eq_false_iff_ne]; omega
  by_cases hx46 : x = 46
  · have HR := Lib.hid (Ck.nameErr_bad h32' (.inr (.inr (.inr (by rw [Ck.last_at HM.out]; congr 1; exact UInt8.toNat_inj.1 (by rw [HX.out, hx46]; rfl))))))
    have i4 : ((x : Int) == 46) = true := by rw [hx46]; rfl
    clear hx46 hx32
    go_enter Tryz.func99, Tryz.ntmps99
    go_wp2_with (refine WL.out ?_; (repeat ((refine WL.op ?_ ?_; (exact rfl); intro K hK; (first | ((((with_reducible apply ow_move); exact rfl)); (go_simp <;> (try simp (disch := omega) only [wrap_id, sub_left, zac]) <;> rfl)) | ((with_reducible apply ow_char (m)); exact rfl; exact Tryz.underlying9; exact rfl; exact rfl; (focus (exact rfl)); (focus omega)) | ((with_reducible apply ow_eval); (go_simp <;> (try simp (disch := omega) only [wrap_id, sub_left, zac]) <;> rfl); ((with_reducible apply up_value)))); refine WL.next hK (by simp only [Act.put, zpt, zsz, zss]; exact rfl) ?_; clear hK K))); (try refine WL.nil ?_))
    go_ret
    exact ⟨by rw [HR.out]; rfl, st.below⟩
  have i4 : ((x : Int) == 46) = false := by rw [beq_eq_false_iff_ne]; omega
  have HR := Lib.hid (Ck.nameErr_last h32' H0.out HM.out H2.out (by rw [HX.out]; exact hx32) (by rw [HX.out]; exact hx46))
  clear hx32 hx46
  go_enter Tryz.func99, Tryz.ntmps99
  go_wp2_with (refine WL.out ?_; (repeat ((refine WL.op ?_ ?_; (exact rfl); intro K hK; (first | ((((with_reducible apply ow_move); exact rfl)); (go_simp <;> (try simp (disch := omega) only [wrap_id, sub_left, zac]) <;> rfl)) | ((with_reducible apply ow_char (m)); exact rfl; exact Tryz.underlying9; exact rfl; exact rfl; (focus (exact rfl)); (focus omega)) | ((with_reducible apply ow_eval); (go_simp <;> (try simp (disch := omega) only [wrap_id, sub_left, zac]) <;> rfl); ((with_reducible apply up_value)))); refine WL.next hK (by simp only [Act.put, zpt, zsz, zss]; exact rfl) ?_; clear hK K))); (try refine WL.nil ?_))
  go_loopw [3] (fun i wr => ∃ k : Nat, k ≤ s.length ∧ i = .int .i64 (k : Int) ∧ Hid (∀ j, j < k → Ck.legalB (Ck.at_ 0 s j) = true) ∧ St w wr []) (fun i _ => s.length - (intOf i).toNat)
  case atStart => exact ⟨0, by omega, rfl, Lib.hid (fun j h => absurd h (by omega)), st⟩
  case round =>
    clear st
    obtain ⟨k, hk, rfl, hs, st⟩ := hrel
    by_cases hlt : k < s.length
    · obtain ⟨y, hy⟩ : ∃ y, y = Ck.at_ 0 s k := ⟨_, rfl⟩
      have hyy : Ck.at_ 0 s k = y := hy.symm
      have HY := Lib.hid hy
      have HL := Lib.hid (fun W => rlegal_any y W)
      clear hy
      cases q : Ck.legalB y
      · have hb : Hid (s.all Ck.legalB = false) := Lib.hid (Ck.all_no hlt (by rw [← HY.out]; exact q))
        rw [q] at HL
        clear q
        go_wp2_with (refine WL.out ?_; (repeat ((refine WL.op ?_ ?_; (exact rfl); intro K hK; (first | ((with_reducible apply ow_char (k)); exact rfl; exact Tryz.underlying9; exact rfl; exact rfl; (focus (exact rfl)); (focus omega)) | ((with_reducible apply ow_eval); (go_simp <;> (try simp (disch := omega) only [wrap_id, sub_left, zac]) <;> rfl); first | (with_reducible apply up_value) | ((with_reducible apply up_enter); ((go_at_call 138; ((with_reducible refine (HL.out _).mono ?_)); rintro e w' ⟨rfl, hb⟩; replace st := st.call hb; clear hb; refine ⟨_, rfl, ?_⟩))))); refine WL.next hK (by simp only [Act.put, zpt, zsz, zss]; exact rfl) ?_; clear hK K))); (try refine WL.nil ?_))
        go_ret
        exact ⟨by rw [HR.out, hb.out]; rfl, st.below⟩
      · have hs' : Hid (∀ j, j < k + 1 → Ck.legalB (Ck.at_ 0 s j) = true) := Lib.hid fun j hj => by
          by_cases e : j = k
          · rw [e, ← HY.out]; exact q
          · exact hs.out j (by omega)
        rw [q] at HL
        clear q
        go_wp2_with (refine WL.out ?_; (repeat ((refine WL.op ?_ ?_; (exact rfl); intro K hK; (first | ((((with_reducible apply ow_assign); exact rfl)); (go_simp <;> (try simp (disch := omega) only [wrap_id, sub_left, zac]) <;> rfl)) | ((with_reducible apply ow_char (k)); exact rfl; exact Tryz.underlying9; exact rfl; exact rfl; (focus (exact rfl)); (focus omega)) | ((with_reducible apply ow_eval); (go_simp <;> (try simp (disch := omega) only [wrap_id, sub_left, zac]) <;> rfl); first | (with_reducible apply up_value) | ((with_reducible apply up_enter); ((go_at_call 138; ((with_reducible refine (HL.out _).mono ?_)); rintro e w' ⟨rfl, hb⟩; replace st := st.call hb; clear hb; refine ⟨_, rfl, ?_⟩))))); refine WL.next hK (by simp only [Act.put, zpt, zsz, zss]; exact rfl) ?_; clear hK K))); (try refine WL.nil ?_))
        exact ⟨⟨k + 1, by omega, by go_num, hs', st⟩, by simp [intOf]; omega⟩
    · have hall : Hid (s.all Ck.legalB = true) := Lib.hid (List.all_eq_true.2 fun c hc => by
        obtain ⟨j, hj, e⟩ := List.getElem_of_mem hc
        rw [← e, ← Ck.at_eq 0 s j hj]
        exact hs.out j (by omega))
      go_wp2_with (refine WL.out ?_; (repeat ((refine WL.op ?_ ?_; (exact rfl); intro K hK; (((with_reducible apply ow_eval); (go_simp <;> (try simp (disch := omega) only [wrap_id, sub_left, zac]) <;> rfl); ((with_reducible apply up_value)))); refine WL.next hK (by simp only [Act.put, zpt, zsz, zss]; exact rfl) ?_; clear hK K))); (try refine WL.nil ?_))
      go_ret
      exact ⟨by rw [HR.out, hall.out]; rfl, st.below⟩
end Go.Proofs.YtgcjejajljhnaaaGreatDoor
namespace Ck
theorem any_hit {l : List Run} {j : Nat} (hj : j < l.length) (h : badRun (at_ Run.o l j) = true) : l.any badRun = true := List.any_eq_true.2 ⟨_, at_mem _ l j hj, h⟩
theorem any_miss {l : List Run} (h : ∀ j, j < l.length → badRun (at_ Run.o l j) = false) : l.any badRun = false := by
  cases ha : l.any badRun with
  | false => rfl
  | true =>
    obtain ⟨x, hx, e⟩ := List.any_eq_true.1 ha
    obtain ⟨j, hj, rfl⟩ := List.getElem_of_mem hx
    have := h j hj
    rw [at_eq Run.o l j hj, e] at this
    cases this
end Ck
namespace Go.Proofs.YtgcjejajljhnaaaGreatDoor
open Go.RowKit Go.Hp
set_option maxHeartbeats 2000000 in
theorem rstreamErr_any (x : Ck.VSm) (B : Nat) (w : World) (h : x.At w B) (hB : B ≤ w.heap.size) (hr : x.r.length ≤ 100000) :
    Calls Tryz.prog 100 #[.agg #[.slice x.A x.r.length x.c, .int .i64 x.z]] w fun e w' => e = .returned (.int .i64 (Ck.smErr x.p)) ∧ Below w.heap.size w w' := by
  have H := Lib.hid h
  clear h
  obtain ⟨r, z, A, c⟩ := x
  simp only at *
  obtain ⟨n, en⟩ : ∃ n, n = r.length := ⟨_, rfl⟩
  have E1 := Lib.hid en
  rw [← en] at hr ⊢
  clear en
  have st := St.start w
  by_cases h24 : (24 : Int) < (n : Int)
  · have HR : Hid (Ck.smErr (Ck.VSm.p ⟨r, z, A, c⟩) = 8) := Lib.hid (by unfold Ck.smErr; exact if_pos (by show 24 < r.length; rw [← E1.out]; omega))
    go_enter Tryz.func100, Tryz.ntmps100
    go_wp2_with (refine WL.out ?_; (repeat ((refine WL.op ?_ ?_; (exact rfl); intro K hK; (first | ((((with_reducible apply ow_assign); exact rfl)); (go_simp <;> (try simp (disch := omega) only [wrap_id, sub_left, zac]) <;> rfl)) | ((((with_reducible apply ow_load1 st); exact rfl; exact inferInstance; exact rfl; (exact get0))); exact rfl) | ((((with_reducible apply ow_box st); exact rfl; (go_simp <;> (try simp (disch := omega) only [wrap_id, sub_left, zac]) <;> rfl); (go_simp <;> (try simp (disch := omega) only [wrap_id, sub_left, zac]) <;> rfl))); (try clear st); intro b w' st) | ((with_reducible apply ow_eval); (go_simp <;> (try simp (disch := omega) only [wrap_id, sub_left, zac]) <;> rfl); ((with_reducible apply up_value)))); refine WL.next hK (by simp only [Act.put, zpt, zsz, zss]; exact rfl) ?_; clear hK K))); (try refine WL.nil ?_))
    go_ret
    exact ⟨Ck.ret_int HR.out.symm, st.below⟩
  have HR : Hid (Ck.smErr (Ck.VSm.p ⟨r, z, A, c⟩) = if !(r.any Ck.badRun) && Ck.num z then 0 else 2) := Lib.hid (by unfold Ck.smErr; exact if_neg (by show ¬ 24 < r.length; rw [← E1.out]; omega))
  go_enter Tryz.func100, Tryz.ntmps100
  go_wp2_with (refine WL.out ?_; (repeat ((refine WL.op ?_ ?_; (exact rfl); intro K hK; (first | ((((with_reducible apply ow_assign); exact rfl)); (go_simp <;> (try simp (disch := omega) only [wrap_id, sub_left, zac]) <;> rfl)) | ((((with_reducible apply ow_load1 st); exact rfl; exact inferInstance; exact rfl; (exact get0))); exact rfl) | ((((with_reducible apply ow_box st); exact rfl; (go_simp <;> (try simp (disch := omega) only [wrap_id, sub_left, zac]) <;> rfl); (go_simp <;> (try simp (disch := omega) only [wrap_id, sub_left, zac]) <;> rfl))); (try clear st); intro b w' st) | ((with_reducible apply ow_eval); (go_simp <;> (try simp (disch := omega) only [wrap_id, sub_left, zac]) <;> rfl); ((with_reducible apply up_value)))); refine WL.next hK (by simp only [Act.put, zpt, zsz, zss]; exact rfl) ?_; clear hK K))); (try refine WL.nil ?_))
  go_loopw [3] (fun i wr => ∃ j : Nat, j ≤ n ∧ i = .int .i64 j ∧ Hid (∀ k, k < j → Ck.badRun (Ck.at_ Ck.Run.o r k) = false) ∧ St w wr [.box b 80 [.slice A n c, .int .i64 z]]) (fun i _ => n - (intOf i).toNat)
  case atStart => exact ⟨0, by omega, rfl, Lib.hid (fun j h => absurd h (by omega)), st⟩
  case round =>
    clear st
    obtain ⟨j, hj, rfl, hs, st⟩ := hrel
    by_cases hlt : j < n
    · have hkl : Hid (j < r.length) := Lib.hid (by rw [← E1.out]; exact hlt)
      obtain ⟨b1, o1, rfl, hb1, hc⟩ := Lst.at_ H.out (Nat.lt_of_le_of_lt (Nat.zero_le _) hkl.out)
      have hb1 := Nat.lt_of_lt_of_le hb1 hB
      have f1 := hc j hkl.out
      clear hc
      obtain ⟨y, hy⟩ : ∃ y, y = Ck.at_ Ck.Run.o r j := ⟨_, rfl⟩
      have f0 : w.cell? ⟨b1, o1 + j * 2, none⟩ = some (.int .i64 y.s) := by rw [hy]; exact f1 0 _ rfl
      have f1 : w.cell? ⟨b1, o1 + j * 2 + 1, none⟩ = some (.int .i64 y.l) := by rw [hy]; exact f1 1 _ rfl
      have HY := Lib.hid hy
      clear hy
      obtain ⟨ys, yl⟩ := y
      simp only at f0 f1
      have bad : Hid (Ck.badRun ⟨ys, yl⟩ = true → Ck.smErr (Ck.VSm.p ⟨r, z, some ⟨b1, o1, none⟩, c⟩) = 2) := Lib.hid fun h => by
        rw [HR.out, Ck.any_hit hkl.out (by rw [← HY.out]; exact h)]
        rfl
      cases q1 : Ck.wi ys (-1) 2147483647
      · have hq := Lib.hid (bad.out (by unfold Ck.badRun; rw [q1]; rfl))
        go_wp2_with (refine WL.out ?_; (repeat (first | (refine WL.op ?_ ?_; (exact rfl); intro K hK; (first | ((((with_reducible apply ow_move); exact rfl)); (go_simp <;> (try simp (disch := omega) only [wrap_id, sub_left, zac]) <;> rfl)) | ((((with_reducible apply ow_load1 st); exact rfl; exact inferInstance; exact rfl; (exact get0))); exact rfl) | ((with_reducible apply ow_old1 st); exact rfl; exact inferInstance; exact rfl; assumption; assumption) | ((with_reducible apply ow_eval); (go_simp <;> (try simp (disch := omega) only [wrap_id, sub_left, zac]) <;> rfl); first | (with_reducible apply up_value) | ((with_reducible apply up_enter); ((go_at_call 29; refine (Within_any _ _ _ _).mono ?_; rintro e w' ⟨rfl, rfl⟩; refine ⟨_, rfl, ?_⟩))))); refine WL.next hK (by simp only [Act.put, zpt, zsz, zss]; exact rfl) ?_; clear hK K) | (refine WL.skip ?_ (by simp only [Act.put, zpt, zsz, zss]; exact rfl) ?_; (exact rfl)))); (try refine WL.nil ?_))
        go_ret
        exact ⟨Ck.ret_int hq.out.symm, st.below⟩
      cases q2 : Ck.wi yl 1 512
      · have hq := Lib.hid (bad.out (by unfold Ck.badRun; rw [q1, q2]; rfl))
        go_wp2_with (refine WL.out ?_; (repeat ((refine WL.op ?_ ?_; (exact rfl); intro K hK; (first | ((((with_reducible apply ow_move); exact rfl)); (go_simp <;> (try simp (disch := omega) only [wrap_id, sub_left, zac]) <;> rfl)) | ((((with_reducible apply ow_load1 st); exact rfl; exact inferInstance; exact rfl; (exact get0))); exact rfl) | ((with_reducible apply ow_old1 st); exact rfl; exact inferInstance; exact rfl; assumption; assumption) | ((with_reducible apply ow_eval); (go_simp <;> (try simp (disch := omega) only [wrap_id, sub_left, zac]) <;> rfl); first | (with_reducible apply up_value) | ((with_reducible apply up_enter); ((go_at_call 29; refine (Within_any _ _ _ _).mono ?_; rintro e w' ⟨rfl, rfl⟩; refine ⟨_, rfl, ?_⟩))))); refine WL.next hK (by simp only [Act.put, zpt, zsz, zss]; exact rfl) ?_; clear hK K))); (try refine WL.nil ?_))
        go_ret
        exact ⟨Ck.ret_int hq.out.symm, st.below⟩
      have hs' : Hid (∀ k, k < j + 1 → Ck.badRun (Ck.at_ Ck.Run.o r k) = false) := Lib.hid fun k hk => by
        by_cases e : k = j
        · rw [e, ← HY.out]; unfold Ck.badRun; rw [q1, q2]; rfl
        · exact hs.out k (by omega)
      go_wp2_with (refine WL.out ?_; (repeat ((refine WL.op ?_ ?_; (exact rfl); intro K hK; (first | ((first | ((with_reducible apply ow_move); exact rfl) | ((with_reducible apply ow_assign); exact rfl)); (go_simp <;> (try simp (disch := omega) only [wrap_id, sub_left, zac]) <;> rfl)) | ((((with_reducible apply ow_load1 st); exact rfl; exact inferInstance; exact rfl; (exact get0))); exact rfl) | ((with_reducible apply ow_old1 st); exact rfl; exact inferInstance; exact rfl; assumption; assumption) | ((with_reducible apply ow_eval); (go_simp <;> (try simp (disch := omega) only [wrap_id, sub_left, zac]) <;> rfl); first | (with_reducible apply up_value) | ((with_reducible apply up_enter); ((go_at_call 29; refine (Within_any _ _ _ _).mono ?_; rintro e w' ⟨rfl, rfl⟩; refine ⟨_, rfl, ?_⟩))))); refine WL.next hK (by simp only [Act.put, zpt, zsz, zss]; exact rfl) ?_; clear hK K))); (try refine WL.nil ?_))
      exact ⟨⟨j + 1, by omega, by go_num, hs', st⟩, by simp [intOf]; omega⟩
    · have hm := Lib.hid (Ck.any_miss (l := r) fun k hk => hs.out k (by have := E1.out; omega))
      cases q : Ck.num z
      · have hq : Hid (Ck.smErr (Ck.VSm.p ⟨r, z, A, c⟩) = 2) := Lib.hid (by rw [HR.out, hm.out, q]; rfl)
        go_wp2_with (refine WL.out ?_; (repeat ((refine WL.op ?_ ?_; (exact rfl); intro K hK; (first | ((((with_reducible apply ow_load1 st); exact rfl; exact inferInstance; exact rfl; (exact get0))); exact rfl) | ((with_reducible apply ow_eval); (go_simp <;> (try simp (disch := omega) only [wrap_id, sub_left, zac]) <;> rfl); first | (with_reducible apply up_value) | ((with_reducible apply up_enter); ((go_at_call 96; refine (IsNumber_any _ _).mono ?_; rintro e w' ⟨rfl, rfl⟩; refine ⟨_, rfl, ?_⟩))))); refine WL.next hK (by simp only [Act.put, zpt, zsz, zss]; exact rfl) ?_; clear hK K))); (try refine WL.nil ?_))
        go_ret
        exact ⟨Ck.ret_int hq.out.symm, st.below⟩
      · have hq : Hid (Ck.smErr (Ck.VSm.p ⟨r, z, A, c⟩) = 0) := Lib.hid (by rw [HR.out, hm.out, q]; rfl)
        go_wp2_with (refine WL.out ?_; (repeat ((refine WL.op ?_ ?_; (exact rfl); intro K hK; (first | ((((with_reducible apply ow_load1 st); exact rfl; exact inferInstance; exact rfl; (exact get0))); exact rfl) | ((with_reducible apply ow_eval); (go_simp <;> (try simp (disch := omega) only [wrap_id, sub_left, zac]) <;> rfl); first | (with_reducible apply up_value) | ((with_reducible apply up_enter); ((go_at_call 96; refine (IsNumber_any _ _).mono ?_; rintro e w' ⟨rfl, rfl⟩; refine ⟨_, rfl, ?_⟩))))); refine WL.next hK (by simp only [Act.put, zpt, zsz, zss]; exact rfl) ?_; clear hK K))); (try refine WL.nil ?_))
        go_ret
        exact ⟨Ck.ret_int hq.out.symm, st.below⟩
end Go.Proofs.YtgcjejajljhnaaaGreatDoor
namespace Ck
def bitN (s : List UInt8) (i : Nat) : Nat := (at_ 0 s (i / 8)).toNat / 2 ^ (i % 8) % 2
theorem byte_bits : ∀ b : Nat, b < 256 → ∀ r : Nat, r < 8 → ((∀ j : Nat, j < 8 → r ≤ j → b / 2 ^ j % 2 = 0) ↔ b / 2 ^ r = 0) := by decide +kernel
theorem mapErr_bits {s : List UInt8} {c : Nat} (hc : c ≤ 4096) (hl : s.length = (c + 7) / 8) : ((∀ i, c ≤ i → i < 8 * s.length → bitN s i = 0) → mapErr s c = 0) ∧ (¬ (∀ i, c ≤ i → i < 8 * s.length → bitN s i = 0) → mapErr s c = 3) := by
  have hw : wi (c : Int) 0 4096 = true := by simp [wi]; omega
  unfold mapErr
  rw [hw, if_pos rfl, if_pos (by rw [hl]; omega)]
  have hmod : (c : Int) % 8 = ((c % 8 : Nat) : Int) := by push_cast; rfl
  by_cases h8 : c % 8 = 0
  · rw [if_pos (.inl (by rw [hmod, h8]; rfl))]
    exact ⟨fun _ => rfl, fun h => absurd (fun i h1 h2 => by omega) h⟩
  · obtain ⟨m, hm⟩ : ∃ m, s.length = m + 1 := ⟨s.length - 1, by omega⟩
    have hc8 : c / 8 = m := by omega
    rw [last_at hm]
    have hb := byte_bits (at_ 0 s m).toNat (at_ 0 s m).toNat_lt (c % 8) (by omega)
    have hz : (∀ i, c ≤ i → i < 8 * s.length → bitN s i = 0) ↔ (at_ 0 s m).toNat / 2 ^ (c % 8) = 0 := by
      rw [← hb]
      constructor
      · intro h j hj hr
        have := h (8 * m + j) (by omega) (by omega)
        unfold bitN at this
        rw [show (8 * m + j) / 8 = m by omega, show (8 * m + j) % 8 = j by omega] at this
        exact this
      · intro h i h1 h2
        unfold bitN
        rw [show i / 8 = m by omega]
        exact h (i % 8) (by omega) (by omega)
    have e : ((c : Int) % 8).toNat = c % 8 := by omega
    simp only [Option.getD_some, e]
    by_cases hq : (at_ 0 s m).toNat / 2 ^ (c % 8) = 0
    · rw [if_pos (.inr hq)]
      exact ⟨fun _ => rfl, fun h => absurd (hz.2 hq) h⟩
    · rw [if_neg (by
        rintro (h | h)
        · omega
        · exact hq h)]
      exact ⟨fun h => absurd (hz.1 h) hq, fun _ => rfl⟩
end Ck
namespace Go.Proofs.YtgcjejajljhnaaaGreatDoor
open Go.RowKit Go.Hp
theorem floor8 (n : Int) : (if n.tmod 8 < 0 then n.tdiv 8 - 1 else n.tdiv 8) = n / 8 := by
  rcases Int.le_total 0 n with h | h
  · rw [Int.tmod_eq_emod_of_nonneg h, Int.tdiv_eq_ediv_of_nonneg h, if_neg (by omega)]
  · obtain ⟨m, rfl⟩ : ∃ m : Nat, n = -(m : Int) := ⟨n.natAbs, by omega⟩
    rw [Int.neg_tmod, Int.neg_tdiv, Int.tmod_eq_emod_of_nonneg (by omega), Int.tdiv_eq_ediv_of_nonneg (by omega)]
    split <;> omega
theorem Floor8_any (n : Int) (w : World) (h0 : -100000 ≤ n) (h1 : n ≤ 100000) :
    Calls Tryz.prog 126 #[.int .i64 n, .int .i64 8] w fun e w' => e = .returned (.int .i64 (n / 8)) ∧ w = w' := by
  have hf := floor8 n
  have hqb : -100000 ≤ n.tdiv 8 ∧ n.tdiv 8 ≤ 100000 := by
    have h := Int.natAbs_tdiv n 8
    have h2 : n.natAbs / (8 : Int).natAbs ≤ n.natAbs := Nat.div_le_self _ _
    omega
  obtain ⟨q, hq⟩ : ∃ q, n.tdiv 8 = q := ⟨_, rfl⟩
  obtain ⟨r, hr⟩ : ∃ r, n.tmod 8 = r := ⟨_, rfl⟩
  rw [hq, hr] at hf
  rw [hq] at hqb
  obtain ⟨q0, q1⟩ := hqb
  by_cases h : r < 0
  · rw [if_pos h] at hf
    have HF := Lib.hid hf
    clear hf
    go_enter Tryz.func126, Tryz.ntmps126
    go_wp2
    go_ret
    exact ⟨Ck.ret_int HF.out, rfl⟩
  · rw [if_neg h] at hf
    have HF := Lib.hid hf
    clear hf
    go_enter Tryz.func126, Tryz.ntmps126
    go_wp2
    go_ret
    exact ⟨Ck.ret_int HF.out, rfl⟩
theorem Ceil8_any (c : Nat) (w : World) (h : c ≤ 5000) :
    Calls Tryz.prog 80 #[.int .i64 (c : Int), .int .i64 8] w fun e w' => e = .returned (.int .i64 (((c + 7) / 8 : Nat) : Int)) ∧ w = w' := by
  obtain ⟨n, hn⟩ : ∃ n : Int, -(c : Int) = n := ⟨_, rfl⟩
  obtain ⟨q, hq⟩ : ∃ q : Int, q = n / 8 := ⟨_, rfl⟩
  have HC : Hid (∀ W, Calls Tryz.prog 126 #[.int .i64 n, .int .i64 8] W fun e w' => e = .returned (.int .i64 q) ∧ W = w') := Lib.hid fun W => by rw [hq]; exact Floor8_any n W (by omega) (by omega)
  have q0 : -100000 ≤ q := by omega
  have q1 : q ≤ 100000 := by omega
  have HR := Lib.hid (show -q = (((c + 7) / 8 : Nat) : Int) by omega)
  clear hq
  go_enter Tryz.func80, Tryz.ntmps80
  go_wp2_with (go_at_call 126; refine (HC.out _).mono ?_; rintro e w' ⟨rfl, rfl⟩)
  go_ret
  exact ⟨Ck.ret_int HR.out, rfl⟩
theorem pow_wrap8 : ∀ k : Nat, k < 8 → wrap64 ((2 : Int) ^ k) = (2 : Int) ^ k := by decide +kernel
theorem Power8_any (k : Nat) (w : World) (hk : k < 8) :
    Calls Tryz.prog 81 #[.int .i64 (k : Int)] w fun e w' => e = .returned (.int .i64 ((2 ^ k : Nat) : Int)) ∧ w = w' := by
  have HP := pow_wrap8 k hk
  go_enter Tryz.func81, Tryz.ntmps81
  go_wp2
  go_ret
  exact ⟨by show Ending.returned (.int .i64 (wrap64 ((2 : Int) ^ k))) = _; rw [HP]; push_cast; rfl, rfl⟩
set_option maxHeartbeats 2000000 in
theorem Bit_any (s : List UInt8) (i : Nat) (w : World) (hi : i < 8 * s.length) (hl : s.length ≤ 1000) :
    Calls Tryz.prog 114 #[.string ⟨s.toArray⟩, .int .i64 (i : Int)] w fun e w' => e = .returned (.int .i64 ((Ck.bitN s i : Nat) : Int)) ∧ Below w.heap.size w w' := by
  have hsz := Ck.str_size
  have HR := Lib.hid (Ck.bitN.eq_1 s i)
  have hq : (i : Int).tdiv 8 = ((i / 8 : Nat) : Int) := by rw [Int.tdiv_eq_ediv_of_nonneg (by omega)]; push_cast; rfl
  have hr : (i : Int).tmod 8 = ((i % 8 : Nat) : Int) := by rw [Int.tmod_eq_emod_of_nonneg (by omega)]; push_cast; rfl
  have hlt : i / 8 < s.length := by omega
  have hr8 : i % 8 < 8 := by omega
  obtain ⟨k, hk⟩ : ∃ k, k = i / 8 := ⟨_, rfl⟩
  obtain ⟨j, hj⟩ : ∃ j, j = i % 8 := ⟨_, rfl⟩
  rw [← hk] at hq hlt HR
  rw [← hj] at hr hr8 HR
  clear hk hj
  obtain ⟨p, hp⟩ : ∃ p : Nat, p = 2 ^ j := ⟨_, rfl⟩
  have HP : Hid (∀ W, Calls Tryz.prog 81 #[.int .i64 (j : Int)] W fun e w' => e = .returned (.int .i64 (p : Int)) ∧ W = w') := Lib.hid fun W => by rw [hp]; exact Power8_any j W hr8
  rw [← hp] at HR
  have hp0 : 0 < p := by rw [hp]; exact Nat.two_pow_pos j
  clear hp
  obtain ⟨x, hx⟩ : ∃ x, (Ck.at_ 0 s k).toNat = x := ⟨_, rfl⟩
  have hx256 : x < 256 := by rw [← hx]; exact (Ck.at_ 0 s k).toNat_lt
  rw [hx] at HR
  have hpz : ((p : Int) == 0) = false := by rw [beq_eq_false_iff_ne]; omega
  have hpn : ¬ p = 0 := by omega
  have hd : (x : Int).tdiv (p : Int) = ((x / p : Nat) : Int) := by rw [Int.tdiv_eq_ediv_of_nonneg (by omega)]; push_cast; rfl
  have hdl : x / p ≤ x := Nat.div_le_self _ _
  obtain ⟨y, hy⟩ : ∃ y, y = x / p := ⟨_, rfl⟩
  rw [← hy] at hd hdl HR
  clear hy
  have hm : (y : Int).tmod 2 = ((y % 2 : Nat) : Int) := by rw [Int.tmod_eq_emod_of_nonneg (by omega)]; push_cast; rfl
  have st := St.start w
  go_enter Tryz.func114, Tryz.ntmps114
  go_wp2_with (refine WL.out ?_; (repeat (fail)); (try refine WL.nil ?_))
  refine wp_region_plan 10 (by kernel_rfl) (by kernel_rfl) ?_; replace st := st.drew; generalize World.drew _ = W at st ⊢
  (apply Plan.val'; (focus (intro x0 x1 x2 x3 x4 x5 x6 x7 x8 x9 w1 hb; (try simp only [depF, fillA, Act.put, zta, ztz, zpt, zsz, zss, zl0, zls]); (repeat (fail)); have st := st.call hb; ((apply Yphi.run; (exact rfl); (go_simp <;> (try simp (disch := omega) only [wrap_id, sub_left, zac]) <;> rfl); exact rfl)))); (simp only [zca, zcn] <;> exact rfl))
  (apply Plan.val'; (focus (intro x0 x1 x2 x3 x4 x5 x6 x7 x8 x9 w1 hb; (try simp only [depF, fillA, Act.put, zta, ztz, zpt, zsz, zss, zl0, zls]); (repeat (fail)); have st := st.call hb; ((apply Yphi.run; (exact rfl); (go_simp <;> (try simp (disch := omega) only [wrap_id, sub_left, zac]) <;> rfl); exact rfl)))); (simp only [zca, zcn] <;> exact rfl))
  (apply Plan.val'; (focus (intro x0 x1 x2 x3 x4 x5 x6 x7 x8 x9 w1 hb; (try simp only [depF, fillA, Act.put, zta, ztz, zpt, zsz, zss, zl0, zls]); (repeat (rintro rfl)); have st := st.call hb; ((apply Yphi.run; (exact rfl); (go_simp <;> (try simp (disch := omega) only [wrap_id, sub_left, zac]) <;> rfl); exact rfl)))); (simp only [zca, zcn] <;> exact rfl))
  (apply Plan.val'; (focus (intro x0 x1 x2 x3 x4 x5 x6 x7 x8 x9 w1 hb; (try simp only [depF, fillA, Act.put, zta, ztz, zpt, zsz, zss, zl0, zls]); (repeat (rintro rfl)); have st := st.call hb; apply Yphi.chr (k); (exact rfl); exact rfl; exact Tryz.underlying9; exact rfl; exact rfl; (focus (exact rfl)); (focus omega))); (simp only [zca, zcn] <;> exact rfl))
  (apply Plan.val'; (focus (intro x0 x1 x2 x3 x4 x5 x6 x7 x8 x9 w1 hb; (try simp only [depF, fillA, Act.put, zta, ztz, zpt, zsz, zss, zl0, zls]); (repeat (rintro rfl)); have st := st.call hb; ((apply Yphi.run; (exact rfl); (go_simp <;> (try simp (disch := omega) only [wrap_id, sub_left, zac]) <;> rfl); exact rfl)))); (simp only [zca, zcn] <;> exact rfl))
  (apply Plan.val'; (focus (intro x0 x1 x2 x3 x4 x5 x6 x7 x8 x9 w1 hb; (try simp only [depF, fillA, Act.put, zta, ztz, zpt, zsz, zss, zl0, zls]); (repeat (fail)); have st := st.call hb; ((apply Yphi.run; (exact rfl); (go_simp <;> (try simp (disch := omega) only [wrap_id, sub_left, zac]) <;> rfl); exact rfl)))); (simp only [zca, zcn] <;> exact rfl))
  (apply Plan.val'; (focus (intro x0 x1 x2 x3 x4 x5 x6 x7 x8 x9 w1 hb; (try simp only [depF, fillA, Act.put, zta, ztz, zpt, zsz, zss, zl0, zls]); (repeat (rintro rfl)); have st := st.call hb; ((apply Yphi.run; (exact rfl); (go_simp <;> (try simp (disch := omega) only [wrap_id, sub_left, zac]) <;> rfl); exact rfl)))); (simp only [zca, zcn] <;> exact rfl))
  (apply Plan.val'; (focus (intro x0 x1 x2 x3 x4 x5 x6 x7 x8 x9 w1 hb; (try simp only [depF, fillA, Act.put, zta, ztz, zpt, zsz, zss, zl0, zls]); (repeat (rintro rfl)); have st := st.call hb; apply Yphi.call; (exact rfl); (go_simp <;> (try simp (disch := omega) only [wrap_id, sub_left, zac]) <;> rfl); exact rfl; refine (HP.out _).mono ?_; rintro e w' ⟨rfl, rfl⟩; exact ⟨_, rfl, Below.refl _ _, rfl⟩)); (simp only [zca, zcn] <;> exact rfl))
  (apply Plan.val'; (focus (intro x0 x1 x2 x3 x4 x5 x6 x7 x8 x9 w1 hb; (try simp only [depF, fillA, Act.put, zta, ztz, zpt, zsz, zss, zl0, zls]); (repeat (rintro rfl)); have st := st.call hb; ((apply Yphi.run; (exact rfl); (go_simp <;> (try simp (disch := omega) only [wrap_id, sub_left, zac]) <;> rfl); exact rfl)))); (simp only [zca, zcn] <;> exact rfl))
  (apply Plan.val'; (focus (intro x0 x1 x2 x3 x4 x5 x6 x7 x8 x9 w1 hb; (try simp only [depF, fillA, Act.put, zta, ztz, zpt, zsz, zss, zl0, zls]); (repeat (rintro rfl)); have st := st.call hb; ((apply Yphi.run; (exact rfl); (go_simp <;> (try simp (disch := omega) only [wrap_id, sub_left, zac]) <;> rfl); exact rfl)))); (simp only [zca, zcn] <;> exact rfl))
  intro x0 x1 x2 x3 x4 x5 x6 x7 x8 x9 lo hi w1 hb hap
  rintro rfl rfl rfl rfl rfl rfl rfl rfl rfl rfl
  simp only [allPhi, fillA, Act.put, zta, ztz, zpt, zsz, zss, zda, zdz]
  have st := st.call hb
  clear hap hb
  go_wp2_with (refine WL.out ?_; (repeat (fail)); (try refine WL.nil ?_))
  go_ret
  exact ⟨Ck.ret_int (by rw [HR.out]; push_cast; rfl), st.below⟩
set_option maxHeartbeats 2000000 in
theorem rmapErr_any (s : List UInt8) (c : Int) (w : World) (hs : s.length ≤ 100000) :
    Calls Tryz.prog 95 #[.string ⟨s.toArray⟩, .int .i64 c] w fun e w' => e = .returned (.int .i64 (Ck.mapErr s c)) ∧ Below w.heap.size w w' := by
  have hsz := Ck.str_size
  have st := St.start w
  have SZ : Hid (∀ W, Calls Tryz.prog 137 #[.int .i64 c] W fun e w' => e = .returned (.int .i64 (if Ck.wi c 0 4096 then 0 else 2)) ∧ W = w') := Lib.hid fun W => by
    cases q : Ck.wi c 0 4096
    · go_enter Tryz.func137, Tryz.ntmps137
      go_wp2_with (go_at_call 29; refine (Within_any _ _ _ _).mono ?_; rintro e w' ⟨rfl, rfl⟩)
      go_ret
      exact ⟨rfl, rfl⟩
    · go_enter Tryz.func137, Tryz.ntmps137
      go_wp2_with (go_at_call 29; refine (Within_any _ _ _ _).mono ?_; rintro e w' ⟨rfl, rfl⟩)
      go_ret
      exact ⟨rfl, rfl⟩
  cases q : Ck.wi c 0 4096
  · rw [q] at SZ
    have HR : Hid (Ck.mapErr s c = 2) := Lib.hid (by unfold Ck.mapErr; rw [q]; rfl)
    go_enter Tryz.func95, Tryz.ntmps95
    go_wp2_with (refine WL.out ?_; (repeat ((refine WL.op ?_ ?_; (exact rfl); intro K hK; (first | ((((with_reducible apply ow_assign); exact rfl)); (go_simp <;> (try simp (disch := omega) only [wrap_id, sub_left, zac]) <;> rfl)) | ((with_reducible apply ow_eval); (go_simp <;> (try simp (disch := omega) only [wrap_id, sub_left, zac]) <;> rfl); first | (with_reducible apply up_value) | ((with_reducible apply up_enter); ((go_at_call 137; refine (SZ.out _).mono ?_; rintro e w' ⟨rfl, rfl⟩; refine ⟨_, rfl, ?_⟩))))); refine WL.next hK (by simp only [Act.put, zpt, zsz, zss]; exact rfl) ?_; clear hK K))); (try refine WL.nil ?_))
    go_ret
    exact ⟨Ck.ret_int HR.out.symm, st.below⟩
  rw [q] at SZ
  have hc : 0 ≤ c ∧ c ≤ 4096 := by simp [Ck.wi] at q; omega
  obtain ⟨n, rfl⟩ := Int.eq_ofNat_of_zero_le hc.1
  have hn : n ≤ 4096 := by omega
  obtain ⟨d, hd⟩ : ∃ d, d = (n + 7) / 8 := ⟨_, rfl⟩
  have CE : Hid (∀ W, Calls Tryz.prog 80 #[.int .i64 (n : Int), .int .i64 8] W fun e w' => e = .returned (.int .i64 (d : Int)) ∧ W = w') := Lib.hid fun W => by rw [hd]; exact Ceil8_any n W (by omega)
  by_cases hl : s.length = d
  rotate_left
  · have hne : ((s.length : Int) != (d : Int)) = true := by rw [bne_iff_ne]; omega
    have HR : Hid (Ck.mapErr s (n : Int) = 10) := Lib.hid (by unfold Ck.mapErr; rw [q, if_pos rfl, if_neg (by omega)])
    clear hl hd
    go_enter Tryz.func95, Tryz.ntmps95
    go_wp2_with (refine WL.out ?_; (repeat ((refine WL.op ?_ ?_; (exact rfl); intro K hK; (first | ((first | ((with_reducible apply ow_move); exact rfl) | ((with_reducible apply ow_assign); exact rfl)); (go_simp <;> (try simp (disch := omega) only [wrap_id, sub_left, zac]) <;> rfl)) | ((with_reducible apply ow_eval); (go_simp <;> (try simp (disch := omega) only [wrap_id, sub_left, zac]) <;> rfl); first | (with_reducible apply up_value) | ((with_reducible apply up_enter); first | (go_at_call 137; refine (SZ.out _).mono ?_; rintro e w' ⟨rfl, rfl⟩; refine ⟨_, rfl, ?_⟩) | (go_at_call 80; refine (CE.out _).mono ?_; rintro e w' ⟨rfl, rfl⟩; refine ⟨_, rfl, ?_⟩)))); refine WL.next hK (by simp only [Act.put, zpt, zsz, zss]; exact rfl) ?_; clear hK K))); (try refine WL.nil ?_))
    go_ret
    exact ⟨Ck.ret_int HR.out.symm, st.below⟩
  have HR := Lib.hid (Ck.mapErr_bits (s := s) hn (by rw [hl, hd]))
  have hne : ((s.length : Int) != (d : Int)) = false := by rw [bne_eq_false_iff_eq]; omega
  have hsl : s.length ≤ 513 := by omega
  have hn8 : n ≤ 8 * s.length := by omega
  clear hl hd
  go_enter Tryz.func95, Tryz.ntmps95
  go_wp2_with (refine WL.out ?_; (repeat ((refine WL.op ?_ ?_; (exact rfl); intro K hK; (first | ((first | ((with_reducible apply ow_move); exact rfl) | ((with_reducible apply ow_assign); exact rfl)); (go_simp <;> (try simp (disch := omega) only [wrap_id, sub_left, zac]) <;> rfl)) | ((with_reducible apply ow_eval); (go_simp <;> (try simp (disch := omega) only [wrap_id, sub_left, zac]) <;> rfl); first | (with_reducible apply up_value) | ((with_reducible apply up_enter); first | (go_at_call 137; refine (SZ.out _).mono ?_; rintro e w' ⟨rfl, rfl⟩; refine ⟨_, rfl, ?_⟩) | (go_at_call 80; refine (CE.out _).mono ?_; rintro e w' ⟨rfl, rfl⟩; refine ⟨_, rfl, ?_⟩)))); refine WL.next hK (by simp only [Act.put, zpt, zsz, zss]; exact rfl) ?_; clear hK K))); (try refine WL.nil ?_))
  go_loopw [6] (fun i wr => ∃ k : Nat, n ≤ k ∧ k ≤ 8 * s.length ∧ i = .int .i64 (k : Int) ∧ Hid (∀ j, n ≤ j → j < k → Ck.bitN s j = 0) ∧ St w wr []) (fun i _ => 8 * s.length - (intOf i).toNat)
  case atStart => exact ⟨n, Nat.le_refl _, hn8, rfl, Lib.hid (fun j h1 h2 => absurd h1 (by omega)), st⟩
  case round =>
    clear st
    obtain ⟨k, hk0, hk, rfl, hs2, st⟩ := hrel
    by_cases hlt : k < 8 * s.length
    · have hlt' : (k : Int) < 8 * (s.length : Int) := by omega
      obtain ⟨v, hv⟩ : ∃ v, v = Ck.bitN s k := ⟨_, rfl⟩
      have HV := Lib.hid hv
      have HB : Hid (∀ W, Calls Tryz.prog 114 #[.string ⟨s.toArray⟩, .int .i64 (k : Int)] W fun e w' => e = .returned (.int .i64 (v : Int)) ∧ Below W.heap.size W w') := Lib.hid fun W => by rw [hv]; exact Bit_any s k W hlt (by omega)
      clear hv
      by_cases h0 : v = 0
      · have hs' : Hid (∀ j, n ≤ j → j < k + 1 → Ck.bitN s j = 0) := Lib.hid fun j h1 h2 => by
          by_cases e : j = k
          · rw [e, ← HV.out]; exact h0
          · exact hs2.out j h1 (by omega)
        subst h0
        go_wp2_with (refine WL.out ?_; (repeat ((refine WL.op ?_ ?_; (exact rfl); intro K hK; (first | ((((with_reducible apply ow_assign); exact rfl)); (go_simp <;> (try simp (disch := omega) only [wrap_id, sub_left, zac]) <;> rfl)) | ((with_reducible apply ow_eval); (go_simp <;> (try simp (disch := omega) only [wrap_id, sub_left, zac]) <;> rfl); first | (with_reducible apply up_value) | ((with_reducible apply up_enter); ((go_at_call 114; ((with_reducible refine (HB.out _).mono ?_)); rintro e w' ⟨rfl, hb⟩; replace st := st.call hb; clear hb; refine ⟨_, rfl, ?_⟩))))); refine WL.next hK (by simp only [Act.put, zpt, zsz, zss]; exact rfl) ?_; clear hK K))); (try refine WL.nil ?_))
        exact ⟨⟨k + 1, by omega, by omega, by go_num, hs', st⟩, by simp [intOf]; omega⟩
      · have hbad : Hid (Ck.mapErr s (n : Int) = 3) := Lib.hid (by
          refine HR.out.2 fun h => ?_
          exact h0 (by rw [HV.out]; exact h k hk0 hlt))
        have hv0 : ((v : Int) != 0) = true := by rw [bne_iff_ne]; omega
        clear h0
        go_wp2_with (refine WL.out ?_; (repeat ((refine WL.op ?_ ?_; (exact rfl); intro K hK; (((with_reducible apply ow_eval); (go_simp <;> (try simp (disch := omega) only [wrap_id, sub_left, zac]) <;> rfl); first | (with_reducible apply up_value) | ((with_reducible apply up_enter); ((go_at_call 114; ((with_reducible refine (HB.out _).mono ?_)); rintro e w' ⟨rfl, hb⟩; replace st := st.call hb; clear hb; refine ⟨_, rfl, ?_⟩))))); refine WL.next hK (by simp only [Act.put, zpt, zsz, zss]; exact rfl) ?_; clear hK K))); (try refine WL.nil ?_))
        go_ret
        exact ⟨Ck.ret_int hbad.out.symm, st.below⟩
    · have hlt' : ¬ (k : Int) < 8 * (s.length : Int) := by omega
      have hok : Hid (Ck.mapErr s (n : Int) = 0) := Lib.hid (HR.out.1 (fun i h1 h2 => hs2.out i h1 (by omega)))
      clear hlt
      go_wp2_with (refine WL.out ?_; (repeat ((refine WL.op ?_ ?_; (exact rfl); intro K hK; (((with_reducible apply ow_eval); (go_simp <;> (try simp (disch := omega) only [wrap_id, sub_left, zac]) <;> rfl); ((with_reducible apply up_value)))); refine WL.next hK (by simp only [Act.put, zpt, zsz, zss]; exact rfl) ?_; clear hK K))); (try refine WL.nil ?_))
      go_ret
      exact ⟨Ck.ret_int hok.out.symm, st.below⟩
end Go.Proofs.YtgcjejajljhnaaaGreatDoor
namespace Go.Proofs.YtgcjejajljhnaaaGreatDoor
open Go.RowKit Go.Hp
set_option maxRecDepth 8000 in
set_option maxHeartbeats 4000000 in
theorem ralwaysErr_any (v : Ck.VPt) (B : Nat) (w : World) (h : v.At w B) (hB : B ≤ w.heap.size) (hf : v.Fit) (hm : v.mp.length ≤ 100000) (hc0 : 64 ≤ v.c) (hc1 : v.c ≤ 512) :
    Calls Tryz.prog 50 #[v.val] w fun e w' => e = .returned (.int .i64 (Ck.first [Ck.goE (fun i => Ck.alErr v.c (Ck.at_ Ck.Run.o v.al i)) v.al.length, Ck.goE (Ck.dsErr v.ds) v.ds.length, if v.ds.length = 0 then 17 else 0, Ck.mapErr v.mp v.c])) ∧ Below w.heap.size w w' := by
  have H := Lib.hid h
  have HF := Lib.hid hf
  have HMP := Lib.hid hm
  clear h hf hm
  obtain ⟨c, al, rs, ds, mp, Aa, ca, Ar, cr, Ad, cd⟩ := v
  unfold Ck.VPt.val
  simp only at *
  obtain ⟨na, e1⟩ : ∃ n, n = al.length := ⟨_, rfl⟩
  obtain ⟨nr, e2⟩ : ∃ n, n = rs.length := ⟨_, rfl⟩
  obtain ⟨nd, e3⟩ : ∃ n, n = ds.length := ⟨_, rfl⟩
  have E1 := Lib.hid e1
  have E3 := Lib.hid e3
  rw [← e1, ← e2, ← e3]
  clear e1 e2 e3
  have hn1 : na ≤ 100000 := by rw [E1.out]; exact HF.out.al
  have hn3 : nd ≤ 100000 := by rw [E3.out]; exact HF.out.ds
  obtain ⟨R, eR⟩ : ∃ R, R = Ck.first [Ck.goE (fun i => Ck.alErr c (Ck.at_ Ck.Run.o al i)) na, Ck.goE (Ck.dsErr ds) nd, if nd = 0 then 17 else 0, Ck.mapErr mp c] := ⟨_, rfl⟩
  rw [← eR]
  have HR2 := Lib.hid eR
  clear eR
  have st := St.start w
  go_enter Tryz.func50, Tryz.ntmps50
  go_wp2_with (refine WL.out ?_; (repeat ((refine WL.op ?_ ?_; (exact rfl); intro K hK; (first | ((((with_reducible apply ow_assign); exact rfl)); (go_simp <;> (try simp (disch := omega) only [wrap_id, sub_left, zac]) <;> rfl)) | ((((with_reducible apply ow_box st); exact rfl; (go_simp <;> (try simp (disch := omega) only [wrap_id, sub_left, zac]) <;> rfl); (go_simp <;> (try simp (disch := omega) only [wrap_id, sub_left, zac]) <;> rfl))); (try clear st); intro b w' st)); refine WL.next hK (by simp only [Act.put, zpt, zsz, zss]; exact rfl) ?_; clear hK K))); (try refine WL.nil ?_))
  go_loopw [3] (fun i wr => ∃ j : Nat, j ≤ na ∧ i = .int .i64 j ∧ St w wr [.box b 26 [.int .i64 c, .slice Aa na ca, .slice Ar nr cr, .slice Ad nd cd, .string ⟨mp.toArray⟩]] ∧ Hid (Ck.goE (fun i => Ck.alErr c (Ck.at_ Ck.Run.o al i)) j = 0)) (fun i _ => na - (intOf i).toNat)
  case atStart => exact ⟨0, by omega, rfl, st, rfl⟩
  case round =>
    clear st
    obtain ⟨j, hj, rfl, st, hs⟩ := hrel
    by_cases hlt : j < na
    · have hkl : Hid (j < al.length) := Lib.hid (by rw [← E1.out]; exact hlt)
      obtain ⟨b1, o1, rfl, hb1, hc⟩ := H.out.al.at_ (Nat.lt_of_le_of_lt (Nat.zero_le _) hkl.out)
      have hb1 := Nat.lt_of_lt_of_le hb1 hB
      have f1 := hc j hkl.out
      clear hc
      obtain ⟨y, hy⟩ : ∃ y, y = Ck.at_ Ck.Run.o al j := ⟨_, rfl⟩
      have g0 : wr.cell? ⟨b1, o1 + j * 2, none⟩ = some (.int .i64 y.s) := (st.old hb1).trans (by rw [hy]; exact f1 0 _ rfl)
      have g1 : wr.cell? ⟨b1, o1 + j * 2 + 1, none⟩ = some (.int .i64 y.l) := (st.old hb1).trans (by rw [hy]; exact f1 1 _ rfl)
      have HY := Lib.hid hy
      clear hy f1
      obtain ⟨ys, yl⟩ := y
      simp only at g0 g1
      have k0 := st.cell (i := 0) rfl 0
      have k1 := st.cell (i := 0) rfl 1
      simp only [List.getElem?_cons_succ, List.getElem?_cons_zero] at k0 k1
      have bad : Hid (Ck.alErr c ⟨ys, yl⟩ ≠ 0 → R = Ck.alErr c ⟨ys, yl⟩) := Lib.hid fun h0 => by
        have := (Ck.goE_stop (fun i => Ck.alErr c (Ck.at_ Ck.Run.o al i)) hs.out (by show Ck.alErr c (Ck.at_ Ck.Run.o al j) ≠ 0; rw [← HY.out]; exact h0) na hlt)
        rw [HR2.out, this]
        show Ck.first (Ck.alErr c (Ck.at_ Ck.Run.o al j) :: _) = _
        rw [← HY.out]
        exact if_neg h0
      cases z2 : Ck.wi ys 0 (c - 1)
      · have Z2 := Lib.hid z2
        go_wp2_with (refine WL.out ?_; (repeat ((refine WL.op ?_ ?_; (exact rfl); intro K hK; (first | ((((with_reducible apply ow_load1 st); exact rfl; exact inferInstance; exact rfl; (exact get0))); exact rfl) | ((with_reducible apply ow_eval); (go_simp <;> (try simp (disch := omega) only [wrap_id, sub_left, zac]) <;> rfl); ((with_reducible apply up_value)))); refine WL.next hK (by simp only [Act.put, zpt, zsz, zss]; exact rfl) ?_; clear hK K))); (try refine WL.nil ?_))
        go_quiet ((go_at_call 29; refine Calls.quiet_of_same ((Within_any _ _ _ _).mono fun _ _ h => ⟨h.1, h.2.symm⟩)))
        replace st := st.drewN nq
        clear g0 g1 k0 k1
        go_wp2_with (refine WL.out ?_; (repeat (fail)); (try refine WL.nil ?_))
        go_ret
        have e2 : Ck.alErr c ⟨ys, yl⟩ = 2 := by unfold Ck.alErr; rw [Z2.out]; rfl
        exact ⟨Ck.ret_int (by rw [bad.out (by rw [e2]; decide), e2]), st.below⟩
      obtain ⟨hy0, hy1⟩ : 0 ≤ ys ∧ ys ≤ c - 1 := by simp [Ck.wi] at z2; omega
      cases z3 : Ck.wi yl 1 (c - ys)
      · have Z3 := Lib.hid (And.intro z2 z3)
        go_wp2_with (refine WL.out ?_; (repeat ((refine WL.op ?_ ?_; (exact rfl); intro K hK; (first | ((((with_reducible apply ow_load1 st); exact rfl; exact inferInstance; exact rfl; (exact get0))); exact rfl) | ((with_reducible apply ow_eval); (go_simp <;> (try simp (disch := omega) only [wrap_id, sub_left, zac]) <;> rfl); ((with_reducible apply up_value)))); refine WL.next hK (by simp only [Act.put, zpt, zsz, zss]; exact rfl) ?_; clear hK K))); (try refine WL.nil ?_))
        go_quiet ((go_at_call 29; refine Calls.quiet_of_same ((Within_any _ _ _ _).mono fun _ _ h => ⟨h.1, h.2.symm⟩)))
        replace st := st.drewN nq
        clear g0 g1 k0 k1
        go_wp2_with (refine WL.out ?_; (repeat (fail)); (try refine WL.nil ?_))
        go_ret
        have e2 : Ck.alErr c ⟨ys, yl⟩ = 2 := by unfold Ck.alErr; rw [Z3.out.1, Z3.out.2]; rfl
        exact ⟨Ck.ret_int (by rw [bad.out (by rw [e2]; decide), e2]), st.below⟩
      have hs' : Hid (Ck.goE (fun i => Ck.alErr c (Ck.at_ Ck.Run.o al i)) (j + 1) = 0) := Lib.hid (by rw [Ck.goE_next _ hs.out, ← HY.out]; unfold Ck.alErr; rw [z2, z3]; rfl)
      go_wp2_with (refine WL.out ?_; (repeat ((refine WL.op ?_ ?_; (exact rfl); intro K hK; (first | ((((with_reducible apply ow_load1 st); exact rfl; exact inferInstance; exact rfl; (exact get0))); exact rfl) | ((with_reducible apply ow_eval); (go_simp <;> (try simp (disch := omega) only [wrap_id, sub_left, zac]) <;> rfl); ((with_reducible apply up_value)))); refine WL.next hK (by simp only [Act.put, zpt, zsz, zss]; exact rfl) ?_; clear hK K))); (try refine WL.nil ?_))
      go_quiet ((go_at_call 29; refine Calls.quiet_of_same ((Within_any _ _ _ _).mono fun _ _ h => ⟨h.1, h.2.symm⟩)))
      replace st := st.drewN nq
      clear g0 g1 k0 k1
      go_wp2_with (refine WL.out ?_; (repeat ((refine WL.op ?_ ?_; (exact rfl); intro K hK; (first | ((((with_reducible apply ow_assign); exact rfl)); (go_simp <;> (try simp (disch := omega) only [wrap_id, sub_left, zac]) <;> rfl)) | ((with_reducible apply ow_eval); (go_simp <;> (try simp (disch := omega) only [wrap_id, sub_left, zac]) <;> rfl); ((with_reducible apply up_value)))); refine WL.next hK (by simp only [Act.put, zpt, zsz, zss]; exact rfl) ?_; clear hK K))); (try refine WL.nil ?_))
      exact ⟨⟨j + 1, by omega, by go_num, st, hs'⟩, by simp [intOf]; omega⟩
    · obtain rfl : na = j := by omega
      have HR3 : Hid (R = Ck.first [Ck.goE (Ck.dsErr ds) nd, if nd = 0 then 17 else 0, Ck.mapErr mp c]) := Lib.hid (by rw [HR2.out, hs.out]; rfl)
      clear hs HR2
      go_wp2_with (refine WL.out ?_; (repeat ((refine WL.op ?_ ?_; (exact rfl); intro K hK; (first | ((((with_reducible apply ow_load1 st); exact rfl; exact inferInstance; exact rfl; (exact get0))); exact rfl) | ((with_reducible apply ow_eval); (go_simp <;> (try simp (disch := omega) only [wrap_id, sub_left, zac]) <;> rfl); ((with_reducible apply up_value)))); refine WL.next hK (by simp only [Act.put, zpt, zsz, zss]; exact rfl) ?_; clear hK K))); (try refine WL.nil ?_))
      go_loopw [4] (fun i wr => ∃ j : Nat, j ≤ nd ∧ i = .int .i64 j ∧ St w wr [.box b 26 [.int .i64 c, .slice Aa na ca, .slice Ar nr cr, .slice Ad nd cd, .string ⟨mp.toArray⟩]] ∧ Hid (Ck.goE (Ck.dsErr ds) j = 0)) (fun i _ => nd - (intOf i).toNat)
      case atStart => exact ⟨0, by omega, rfl, st, rfl⟩
      case round =>
        clear st
        obtain ⟨j, hj, rfl, st, hs⟩ := hrel
        by_cases hlt : j < nd
        · have hkl : Hid (j < ds.length) := Lib.hid (by rw [← E3.out]; exact hlt)
          obtain ⟨b1, o1, rfl, hb1, hc⟩ := H.out.ds.at_ (Nat.lt_of_le_of_lt (Nat.zero_le _) hkl.out)
          have hb1 := Nat.lt_of_lt_of_le hb1 hB
          have f1 := oldI (hc j hkl.out)
          have f2 := fun i (hi : i < ds.length) => oldI (hc i hi)
          clear hc
          obtain ⟨y, hy⟩ : ∃ y, y = Ck.at_ 0 ds j := ⟨_, rfl⟩
          have f1 : w.cell? ⟨b1, o1 + j, none⟩ = some (.int .i64 y) := by rw [hy]; exact f1
          have HY := Lib.hid hy
          clear hy
          have bad : Hid (Ck.dsErr ds j ≠ 0 → R = Ck.dsErr ds j) := Lib.hid fun h0 => by
            have := Ck.goE_stop (Ck.dsErr ds) hs.out h0 nd hlt
            rw [HR3.out, this]
            exact if_neg h0
          cases z2 : Ck.wi y 1 2147483647
          · have Z2 := Lib.hid z2
            clear f2
            go_wp2_with (refine WL.out ?_; (repeat ((refine WL.op ?_ ?_; (exact rfl); intro K hK; (first | ((((with_reducible apply ow_move); exact rfl)); (go_simp <;> (try simp (disch := omega) only [wrap_id, sub_left, zac]) <;> rfl)) | ((((with_reducible apply ow_load1 st); exact rfl; exact inferInstance; exact rfl; (exact get0))); exact rfl) | ((with_reducible apply ow_old1 st); exact rfl; exact inferInstance; exact rfl; assumption; assumption) | ((with_reducible apply ow_eval); (go_simp <;> (try simp (disch := omega) only [wrap_id, sub_left, zac]) <;> rfl); first | (with_reducible apply up_value) | ((with_reducible apply up_enter); ((go_at_call 29; refine (Within_any _ _ _ _).mono ?_; rintro e w' ⟨rfl, rfl⟩; refine ⟨_, rfl, ?_⟩))))); refine WL.next hK (by simp only [Act.put, zpt, zsz, zss]; exact rfl) ?_; clear hK K))); (try refine WL.nil ?_))
            go_ret
            have e2 : Ck.dsErr ds j = 2 := by unfold Ck.dsErr; rw [← HY.out, Z2.out]; rfl
            exact ⟨Ck.ret_int (by rw [bad.out (by rw [e2]; decide), e2]), st.below⟩
          have k3 := st.cell (i := 0) rfl 3
          simp only [List.getElem?_cons_succ, List.getElem?_cons_zero] at k3
          have g1 : wr.cell? ⟨b1, o1 + j, none⟩ = some (.int .i64 y) := (st.old hb1).trans f1
          rcases Nat.eq_zero_or_pos j with hj0 | hj0
          · have hs' : Hid (Ck.goE (Ck.dsErr ds) (j + 1) = 0) := Lib.hid (by rw [Ck.goE_next _ hs.out]; unfold Ck.dsErr; rw [← HY.out, z2, if_pos rfl, if_neg (by omega)])
            clear f2
            have hj1 : ¬ (0 < j) := by omega
            have hj2 : decide (0 < (j : Int)) = false := decide_eq_false (by omega)
            clear hj0
            go_upto_region 11 with (refine WL.out ?_; (repeat ((refine WL.op ?_ ?_; (exact rfl); intro K hK; (first | ((((with_reducible apply ow_move); exact rfl)); (go_simp <;> (try simp (disch := omega) only [wrap_id, sub_left, zac]) <;> rfl)) | ((((with_reducible apply ow_load1 st); exact rfl; exact inferInstance; exact rfl; (exact get0))); exact rfl) | ((with_reducible apply ow_old1 st); exact rfl; exact inferInstance; exact rfl; assumption; assumption) | ((with_reducible apply ow_eval); (go_simp <;> (try simp (disch := omega) only [wrap_id, sub_left, zac]) <;> rfl); first | (with_reducible apply up_value) | ((with_reducible apply up_enter); ((go_at_call 29; refine (Within_any _ _ _ _).mono ?_; rintro e w' ⟨rfl, rfl⟩; refine ⟨_, rfl, ?_⟩))))); refine WL.next hK (by simp only [Act.put, zpt, zsz, zss]; exact rfl) ?_; clear hK K))); (try refine WL.nil ?_))
            go_quiet (fail)
            replace st := st.drewN nq
            clear k3 g1 hj2
            go_wp2_with (refine WL.out ?_; (repeat ((refine WL.op ?_ ?_; (exact rfl); intro K hK; (first | ((((with_reducible apply ow_assign); exact rfl)); (go_simp <;> (try simp (disch := omega) only [wrap_id, sub_left, zac]) <;> rfl)) | ((with_reducible apply ow_eval); (go_simp <;> (try simp (disch := omega) only [wrap_id, sub_left, zac]) <;> rfl); ((with_reducible apply up_value)))); refine WL.next hK (by simp only [Act.put, zpt, zsz, zss]; exact rfl) ?_; clear hK K))); (try refine WL.nil ?_))
            exact ⟨⟨j + 1, by omega, by go_num, st, hs'⟩, by simp [intOf]; omega⟩
          · obtain ⟨i, hi⟩ : ∃ i, j = i + 1 := ⟨j - 1, by omega⟩
            have HI := Lib.hid hi
            have hji : (j : Int) - 1 = (i : Int) := by omega
            have hin : i < nd := by omega
            have f2 := f2 i (Nat.lt_trans (by omega) hkl.out)
            have hj2 : decide (0 < (j : Int)) = true := decide_eq_true (by omega)
            clear hi
            obtain ⟨x, hx⟩ : ∃ x, x = Ck.at_ 0 ds i := ⟨_, rfl⟩
            have f2 : w.cell? ⟨b1, o1 + i, none⟩ = some (.int .i64 x) := by rw [hx]; exact f2
            have g2 : wr.cell? ⟨b1, o1 + i, none⟩ = some (.int .i64 x) := (st.old hb1).trans f2
            have HX := Lib.hid hx
            clear hx
            have hds : Hid (Ck.dsErr ds j = if y ≤ x then 9 else 0) := Lib.hid (by
              unfold Ck.dsErr
              rw [← HY.out, z2, HI.out, Nat.add_sub_cancel, ← HX.out, if_pos rfl]
              by_cases h : y ≤ x
              · rw [if_pos h, if_pos ⟨by omega, h⟩]
              · rw [if_neg h, if_neg (fun q => h q.2)])
            by_cases hyx : y ≤ x
            · go_upto_region 11 with (refine WL.out ?_; (repeat ((refine WL.op ?_ ?_; (exact rfl); intro K hK; (first | ((((with_reducible apply ow_move); exact rfl)); (go_simp <;> (try simp (disch := omega) only [wrap_id, sub_left, zac]) <;> rfl)) | ((((with_reducible apply ow_load1 st); exact rfl; exact inferInstance; exact rfl; (exact get0))); exact rfl) | ((with_reducible apply ow_old1 st); exact rfl; exact inferInstance; exact rfl; assumption; assumption) | ((with_reducible apply ow_eval); (go_simp <;> (try simp (disch := omega) only [wrap_id, sub_left, zac]) <;> rfl); first | (with_reducible apply up_value) | ((with_reducible apply up_enter); ((go_at_call 29; refine (Within_any _ _ _ _).mono ?_; rintro e w' ⟨rfl, rfl⟩; refine ⟨_, rfl, ?_⟩))))); refine WL.next hK (by simp only [Act.put, zpt, zsz, zss]; exact rfl) ?_; clear hK K))); (try refine WL.nil ?_))
              go_quiet (fail)
              replace st := st.drewN nq
              clear k3 g1 g2 hj2
              go_wp2_with (refine WL.out ?_; (repeat (fail)); (try refine WL.nil ?_))
              go_ret
              have e2 : Ck.dsErr ds j = 9 := by rw [hds.out, if_pos hyx]
              exact ⟨Ck.ret_int (by rw [bad.out (by rw [e2]; decide), e2]), st.below⟩
            · have hs' : Hid (Ck.goE (Ck.dsErr ds) (j + 1) = 0) := Lib.hid (by rw [Ck.goE_next _ hs.out, hds.out, if_neg hyx])
              go_upto_region 11 with (refine WL.out ?_; (repeat ((refine WL.op ?_ ?_; (exact rfl); intro K hK; (first | ((((with_reducible apply ow_move); exact rfl)); (go_simp <;> (try simp (disch := omega) only [wrap_id, sub_left, zac]) <;> rfl)) | ((((with_reducible apply ow_load1 st); exact rfl; exact inferInstance; exact rfl; (exact get0))); exact rfl) | ((with_reducible apply ow_old1 st); exact rfl; exact inferInstance; exact rfl; assumption; assumption) | ((with_reducible apply ow_eval); (go_simp <;> (try simp (disch := omega) only [wrap_id, sub_left, zac]) <;> rfl); first | (with_reducible apply up_value) | ((with_reducible apply up_enter); ((go_at_call 29; refine (Within_any _ _ _ _).mono ?_; rintro e w' ⟨rfl, rfl⟩; refine ⟨_, rfl, ?_⟩))))); refine WL.next hK (by simp only [Act.put, zpt, zsz, zss]; exact rfl) ?_; clear hK K))); (try refine WL.nil ?_))
              go_quiet (fail)
              replace st := st.drewN nq
              clear k3 g1 g2 hj2
              go_wp2_with (refine WL.out ?_; (repeat ((refine WL.op ?_ ?_; (exact rfl); intro K hK; (first | ((((with_reducible apply ow_assign); exact rfl)); (go_simp <;> (try simp (disch := omega) only [wrap_id, sub_left, zac]) <;> rfl)) | ((with_reducible apply ow_eval); (go_simp <;> (try simp (disch := omega) only [wrap_id, sub_left, zac]) <;> rfl); ((with_reducible apply up_value)))); refine WL.next hK (by simp only [Act.put, zpt, zsz, zss]; exact rfl) ?_; clear hK K))); (try refine WL.nil ?_))
              exact ⟨⟨j + 1, by omega, by go_num, st, hs'⟩, by simp [intOf]; omega⟩
        · obtain rfl : nd = j := by omega
          have HR4 : Hid (R = Ck.first [if nd = 0 then 17 else 0, Ck.mapErr mp c]) := Lib.hid (by rw [HR3.out, hs.out]; rfl)
          clear hs HR3
          by_cases h0 : nd = 0
          · have h0' : ((nd : Int) == 0) = true := by rw [h0]; rfl
            have HQ : Hid (R = 17) := Lib.hid (by rw [HR4.out, if_pos h0]; rfl)
            clear h0
            go_wp2_with (refine WL.out ?_; (repeat ((refine WL.op ?_ ?_; (exact rfl); intro K hK; (first | ((((with_reducible apply ow_load1 st); exact rfl; exact inferInstance; exact rfl; (exact get0))); exact rfl) | ((with_reducible apply ow_eval); (go_simp <;> (try simp (disch := omega) only [wrap_id, sub_left, zac]) <;> rfl); ((with_reducible apply up_value)))); refine WL.next hK (by simp only [Act.put, zpt, zsz, zss]; exact rfl) ?_; clear hK K))); (try refine WL.nil ?_))
            go_ret
            exact ⟨Ck.ret_int HQ.out.symm, st.below⟩
          · have h0' : ((nd : Int) == 0) = false := by rw [beq_eq_false_iff_ne]; omega
            have HQ : Hid (R = Ck.mapErr mp c) := Lib.hid (by
              rw [HR4.out, if_neg h0]
              show (if (0 : Int) = 0 then (if Ck.mapErr mp c = 0 then 0 else Ck.mapErr mp c) else 0) = _
              rw [if_pos rfl]
              split <;> simp_all)
            clear h0
            go_wp2_with (refine WL.out ?_; (repeat ((refine WL.op ?_ ?_; (exact rfl); intro K hK; (first | ((((with_reducible apply ow_assign); exact rfl)); (go_simp <;> (try simp (disch := omega) only [wrap_id, sub_left, zac]) <;> rfl)) | ((((with_reducible apply ow_load1 st); exact rfl; exact inferInstance; exact rfl; (exact get0))); exact rfl) | ((with_reducible apply ow_eval); (go_simp <;> (try simp (disch := omega) only [wrap_id, sub_left, zac]) <;> rfl); first | (with_reducible apply up_value) | ((with_reducible apply up_enter); ((go_at_call 95; ((with_reducible refine (rmapErr_any mp c _ HMP.out).mono ?_)); rintro e w' ⟨rfl, hb⟩; replace st := st.call hb; clear hb; refine ⟨_, rfl, ?_⟩))))); refine WL.next hK (by simp only [Act.put, zpt, zsz, zss]; exact rfl) ?_; clear hK K))); (try refine WL.nil ?_))
            go_ret
            exact ⟨Ck.ret_int HQ.out.symm, st.below⟩
end Go.Proofs.YtgcjejajljhnaaaGreatDoor
