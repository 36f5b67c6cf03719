/- Own text, part Err 2: walks of the package acl and of its reference, and the plain laws that they lean on; no statement of the seat is here. -/
import Derived.Test.YtgcjejajljhnaaaGreatDoorErr1
set_option linter.all false
namespace Go.Proofs.YtgcjejajljhnaaaGreatDoor
open Go.RowKit Go.Hp
theorem Size_any (n : Int) (w : World) (h0 : -1000 ≤ n) (h1 : n ≤ 1000) :
    Calls Tryz.prog 128 #[.int .i64 n] w fun e w' => e = .returned (.int .i64 (n.natAbs : Nat)) ∧ w = w' := by
  have HN := Lib.hid (show max n (-n) = ((n.natAbs : Nat) : Int) by omega)
  go_enter Tryz.func128, Tryz.ntmps128
  go_wp2
  go_ret
  exact ⟨by show Ending.returned (.int .i64 (max n (-n))) = _; rw [HN.out], rfl⟩
theorem itoa_neg {n : Int} (h : n < 0) : Lib.itoa n = 45 :: L.ddz n.natAbs := by
  unfold Lib.itoa L.ddz
  rw [if_pos h, if_neg (by omega)]
theorem itoa_pos {n : Int} (h : 0 < n) : Lib.itoa n = L.ddz n.natAbs := by
  unfold Lib.itoa L.ddz
  rw [if_neg (by omega), if_neg (by omega), show n.toNat = n.natAbs by omega]
theorem ddz_len (n : Nat) (h : n < 100000000000000000000) : (L.ddz n).length ≤ 20 := by
  unfold L.ddz
  split
  · simp
  · exact L.dd_len (k := 20) (by have : (10 : Nat) ^ 20 = 100000000000000000000 := by decide
                                 omega) (by decide)
set_option maxHeartbeats 2000000 in
theorem Decimal_any (n : Int) (w : World) (h0 : -9223372036854775808 ≤ n) (h1 : n ≤ 9223372036854775807) :
    Calls Tryz.prog 83 #[.int .i64 n] w fun e w' => e = .returned (.string ⟨(Lib.itoa n).toArray⟩) ∧ Below w.heap.size w w' := by
  have st := St.start w
  by_cases hz : n = 0
  · subst hz
    go_enter Tryz.func83, Tryz.ntmps83
    go_wp2_with (refine WL.out ?_; (repeat ((refine WL.op ?_ ?_; (exact rfl); intro K hK; (((with_reducible apply ow_eval); (go_simp <;> (try simp (disch := omega) only [wrap_id, sub_left, zac]) <;> rfl); ((with_reducible apply up_value)))); refine WL.next hK (by simp only [Act.put, zpt, zsz, zss]; exact rfl) ?_; clear hK K))); (try refine WL.nil ?_))
    go_ret
    have e0 : Lib.itoa 0 = [48] := by rw [show ((0 : Int)) = ((0 : Nat) : Int) from rfl, L.itoa_nat, L.dd_small (by decide)]; rfl
    exact ⟨by rw [e0]; rfl, st.below⟩
  · have hz1 : (n == 0) = false := by rw [beq_eq_false_iff_ne]; exact hz
    have HL := Lib.hid (ddz_len n.natAbs (by omega))
    have HN := Lib.hid (And.intro h0 h1)
    obtain ⟨N, hN⟩ : ∃ N, N = n.natAbs := ⟨_, rfl⟩
    rw [← hN] at HL
    have HNN := Lib.hid hN
    have hN20 : N ≤ 9223372036854775808 := by omega
    clear h0 h1 hN
    by_cases hneg : n < 0
    all_goals
      have HG := Lib.hid hneg
      go_enter Tryz.func83, Tryz.ntmps83
      go_wp2_with (refine WL.out ?_; (repeat ((refine WL.op ?_ ?_; (exact rfl); intro K hK; (((with_reducible apply ow_eval); (go_simp <;> (try simp (disch := omega) only [wrap_id, sub_left, zac]) <;> rfl); ((with_reducible apply up_value)))); refine WL.next hK (by simp only [Act.put, zpt, zsz, zss]; exact rfl) ?_; clear hK K))); (try refine WL.nil ?_))
      go_loopw [0, 3] (fun x v wr => ∃ (m : Int) (s : List UInt8), m.natAbs ≤ N ∧ x = .int .i64 m ∧ v = .string ⟨s.toArray⟩ ∧ Hid (L.ddz N = L.ddz m.natAbs ++ s) ∧ St w wr []) (fun x _ _ => (intOf x).natAbs)
      case atStart => exact ⟨n, [], by rw [HNN.out]; exact Nat.le_refl _, rfl, rfl, Lib.hid (by rw [HNN.out]; simp), st⟩
      case round =>
        clear st
        obtain ⟨m, s, hm, rfl, rfl, hs, st⟩ := hrel
        by_cases h0 : m = 0
        · subst h0
          have hs' : Hid (L.ddz N = s) := Lib.hid (by rw [hs.out]; rfl)
          have hln : s.length ≤ 20 := by have h1 := HL.out; rw [hs'.out] at h1; omega
          go_wp2_with (refine WL.out ?_; (repeat ((refine WL.op ?_ ?_; (exact rfl); intro K hK; (first | ((((with_reducible apply ow_assign); exact rfl)); (go_simp <;> (try simp (disch := omega) only [wrap_id, sub_left, zac]) <;> rfl)) | ((with_reducible apply ow_cat); exact rfl; exact rfl; exact rfl; (focus (simp only [List.length_append, List.length_cons, List.length_nil]; omega))) | ((with_reducible apply ow_eval); (go_simp <;> (try simp (disch := omega) only [wrap_id, sub_left, zac]) <;> rfl); ((with_reducible apply up_value)))); refine WL.next hK (by simp only [Act.put, zpt, zsz, zss]; exact rfl) ?_; clear hK K))); (try refine WL.nil ?_))
          go_ret
          first
            | exact ⟨by rw [itoa_neg HG.out, ← HNN.out, hs'.out]; rfl, st.below⟩
            | exact ⟨by rw [itoa_pos (by have := HG.out; omega), ← HNN.out, hs'.out]; rfl, st.below⟩
        · have hs' := Lib.hid (hs.out.trans (L.ddz_step m.natAbs (by omega) s))
          have hln : s.length ≤ 20 := by have h1 := HL.out; rw [hs.out, List.length_append] at h1; omega
          have hm1 : (m == 0) = false := by rw [beq_eq_false_iff_ne]; exact h0
          have hda : (m.tmod 10).natAbs = m.natAbs % 10 := by rw [Int.natAbs_tmod]; rfl
          have hqa : (m.tdiv 10).natAbs = m.natAbs / 10 := by rw [Int.natAbs_tdiv]; rfl
          have hdb : -1000 ≤ m.tmod 10 ∧ m.tmod 10 ≤ 1000 := by omega
          have HM := Lib.hid h0
          obtain ⟨d, hd⟩ : ∃ d, d = m.tmod 10 := ⟨_, rfl⟩
          obtain ⟨q, hq⟩ : ∃ q, q = m.tdiv 10 := ⟨_, rfl⟩
          rw [← hd] at hda hdb
          rw [← hq] at hqa
          have hmd : m.tmod 10 = d := hd.symm
          have hqd : m.tdiv 10 = q := hq.symm
          have hcb := Lib.hid (show IntKind.u8.wrap (48 + ((d.natAbs : Nat) : Int)) = ((UInt8.ofNat (48 + m.natAbs % 10)).toNat : Int) by
            have hw : IntKind.u8.wrap (48 + ((d.natAbs : Nat) : Int)) = (48 + ((d.natAbs : Nat) : Int)) % 256 := by simp [IntKind.wrap, IntKind.bits, IntKind.signed]
            rw [L.dig_of _ (by omega), hw]
            omega)
          obtain ⟨c, hc⟩ : ∃ c, UInt8.ofNat (48 + m.natAbs % 10) = c := ⟨_, rfl⟩
          rw [hc] at hs' hcb
          have hqN : q.natAbs ≤ N := by omega
          have hqm : q.natAbs < m.natAbs := by omega
          have hs2 : Hid (L.ddz N = L.ddz q.natAbs ++ c :: s) := Lib.hid (by rw [hs'.out, hqa])
          have HQ := Lib.hid (And.intro hqN hqm)
          have hqb0 : -9223372036854775808 ≤ q := by omega
          have hqb1 : q ≤ 9223372036854775807 := by omega
          obtain ⟨e, he⟩ : ∃ e : Nat, e = d.natAbs := ⟨_, rfl⟩
          rw [← he] at hcb
          have HS : Hid (∀ W, Calls Tryz.prog 128 #[.int .i64 d] W fun x w' => x = .returned (.int .i64 (e : Nat)) ∧ W = w') := Lib.hid fun W => by rw [he]; exact Size_any d W hdb.1 hdb.2
          have hee : e ≤ 9 := by omega
          clear hd hq hc hda hqa hdb hqN hqm he h0
          go_wp2_with (refine WL.out ?_; (repeat ((refine WL.op ?_ ?_; (exact rfl); intro K hK; (first | ((first | ((with_reducible apply ow_move); exact rfl) | ((with_reducible apply ow_assign); exact rfl)); (go_simp <;> (try simp (disch := omega) only [wrap_id, sub_left, zac]) <;> rfl)) | ((((with_reducible apply ow_newSlice st); exact rfl; (go_simp <;> (try simp (disch := omega) only [wrap_id, sub_left, zac]) <;> rfl); exact rfl)); (try clear st); intro b w' st) | ((with_reducible apply ow_cat); exact rfl; exact rfl; exact rfl; (focus (simp only [List.length_append, List.length_cons, List.length_nil]; omega))) | ((with_reducible apply ow_string 0 (st_oneByte _ hcb.out st)); exact rfl; exact rfl; exact rfl; exact (by decide)) | ((with_reducible apply ow_eval); (go_simp <;> (try simp (disch := omega) only [wrap_id, sub_left, zac]) <;> rfl); first | (with_reducible apply up_value) | ((with_reducible apply up_enter); ((go_at_call 128; refine (HS.out _).mono ?_; rintro e w' ⟨rfl, rfl⟩; refine ⟨_, rfl, ?_⟩))))); refine WL.next hK (by simp only [Act.put, zpt, zsz, zss]; exact rfl) ?_; clear hK K))); (try refine WL.nil ?_))
          exact ⟨⟨q, c :: s, HQ.out.1, rfl, rfl, hs2, st.tail⟩, by simpa [intOf] using HQ.out.2⟩
set_option maxRecDepth 8000 in
set_option maxHeartbeats 2000000 in
theorem number_any (s : List UInt8) (w : World) (hl : s.length ≤ 100000) (hE : Env w) : Calls Tryz.prog 85 #[.string ⟨s.toArray⟩] w fun e w' => ∃ v : Int, (L.n5 s = true → v = ((L.val s : Nat) : Int)) ∧ e = .returned (.tuple #[.int .i64 v, .bool (L.n5 s)]) ∧ Below w.heap.size w w' := by
  have hsz := bytes_size
  have HE := Lib.hid hE
  have st := St.start w
  clear hE
  rcases L.n5_cases s with ⟨hn, ha, hi, h5⟩ | ⟨hn, v, ha, hv0, hv1, hc⟩ | ⟨hn, ha⟩
  · have HN := Lib.hid hn
    have HA := Lib.hid (fun W => atoi_ok s _ W ha hl)
    obtain ⟨v, hv⟩ : ∃ v : Int, v = ((L.val s : Nat) : Int) := ⟨_, rfl⟩
    rw [← hv] at HA hi
    have hv0 : 0 ≤ v := by omega
    have hv9 : v ≤ 99999 := by have := (L.n5_itoa hn).2.2; omega
    have HI : Hid (∀ W, Below w.heap.size w W → Calls Tryz.prog 82 #[.int .i64 v] W fun e w' => e = .returned (.string ⟨s.toArray⟩) ∧ Below W.heap.size W w') := Lib.hid fun W hb => by
      have := itoa_env (HE.out.later hb) v (by omega) (by omega)
      rwa [hi] at this
    have HV := Lib.hid hv
    clear hn ha hi hv
    have h5' : (s.length : Int) ≤ 5 := by omega
    go_enter Tryz.func85, Tryz.ntmps85
    go_wp2_with (refine WL.out ?_; (repeat ((refine WL.op ?_ ?_; (exact rfl); intro K hK; (first | ((first | ((with_reducible apply ow_move); exact rfl) | ((with_reducible apply ow_assign); exact rfl)); (go_simp <;> (try simp (disch := omega) only [wrap_id, sub_left, zac]) <;> rfl)) | ((with_reducible apply ow_eval); (go_simp <;> (try simp (disch := omega) only [wrap_id, sub_left, zac]) <;> rfl); first | (with_reducible apply up_value) | ((with_reducible apply up_enter); first | (go_at_call 130; refine (HA.out _).mono ?_; rintro e w' ⟨rfl, hb⟩; replace st := st.call hb; clear hb; refine ⟨_, rfl, ?_⟩) | (go_at_call 82; refine (HI.out _ st.below).mono ?_; rintro e w' ⟨rfl, hb⟩; replace st := st.call hb; clear hb; refine ⟨_, rfl, ?_⟩)))); refine WL.next hK (by simp only [Act.put, zpt, zsz, zss]; exact rfl) ?_; clear hK K))); (try refine WL.nil ?_))
    go_ret2
    exact ⟨v, fun _ => HV.out, by rw [HN.out]; rfl, st.below⟩
  · have HN := Lib.hid hn
    have HA := Lib.hid (fun W => atoi_ok s v W ha hl)
    have no : ∀ u : Int, (L.n5 s = true → u = ((L.val s : Nat) : Int)) := fun u h => by rw [hn] at h; cases h
    have NO := Lib.hid no
    clear hn ha no
    rcases hc with h | ⟨h, h5⟩ | ⟨h, h5, hi⟩
    · have hv : ¬ (0 : Int) ≤ v := by omega
      clear h hv0 hv1
      go_enter Tryz.func85, Tryz.ntmps85
      go_wp2_with (refine WL.out ?_; (repeat (first | (refine WL.op ?_ ?_; (exact rfl); intro K hK; (first | ((first | ((with_reducible apply ow_move); exact rfl) | ((with_reducible apply ow_assign); exact rfl)); (go_simp <;> (try simp (disch := omega) only [wrap_id, sub_left, zac]) <;> rfl)) | ((with_reducible apply ow_eval); (go_simp <;> (try simp (disch := omega) only [wrap_id, sub_left, zac]) <;> rfl); first | (with_reducible apply up_value) | ((with_reducible apply up_enter); ((go_at_call 130; refine (HA.out _).mono ?_; rintro e w' ⟨rfl, hb⟩; replace st := st.call hb; clear hb; refine ⟨_, rfl, ?_⟩))))); refine WL.next hK (by simp only [Act.put, zpt, zsz, zss]; exact rfl) ?_; clear hK K) | (refine WL.skip ?_ (by simp only [Act.put, zpt, zsz, zss]; exact rfl) ?_; (exact rfl)))); (try refine WL.nil ?_))
      go_ret2
      exact ⟨v, NO.out v, by rw [HN.out]; rfl, st.below⟩
    · have h5' : ¬ (s.length : Int) ≤ 5 := by omega
      clear h5
      go_enter Tryz.func85, Tryz.ntmps85
      go_wp2_with (refine WL.out ?_; (repeat (first | (refine WL.op ?_ ?_; (exact rfl); intro K hK; (first | ((first | ((with_reducible apply ow_move); exact rfl) | ((with_reducible apply ow_assign); exact rfl)); (go_simp <;> (try simp (disch := omega) only [wrap_id, sub_left, zac]) <;> rfl)) | ((with_reducible apply ow_eval); (go_simp <;> (try simp (disch := omega) only [wrap_id, sub_left, zac]) <;> rfl); first | (with_reducible apply up_value) | ((with_reducible apply up_enter); ((go_at_call 130; refine (HA.out _).mono ?_; rintro e w' ⟨rfl, hb⟩; replace st := st.call hb; clear hb; refine ⟨_, rfl, ?_⟩))))); refine WL.next hK (by simp only [Act.put, zpt, zsz, zss]; exact rfl) ?_; clear hK K) | (refine WL.skip ?_ (by simp only [Act.put, zpt, zsz, zss]; exact rfl) ?_; (exact rfl)))); (try refine WL.nil ?_))
      go_ret2
      exact ⟨v, NO.out v, by rw [HN.out]; rfl, st.below⟩
    · have h5' : (s.length : Int) ≤ 5 := by omega
      clear h5
      have HI : Hid (∀ W, Below w.heap.size w W → Calls Tryz.prog 82 #[.int .i64 v] W fun e w' => e = .returned (.string ⟨(Lib.itoa v).toArray⟩) ∧ Below W.heap.size W w') := Lib.hid fun W hb => itoa_env (HE.out.later hb) v hv0 hv1
      obtain ⟨t, ht⟩ : ∃ t, t = Lib.itoa v := ⟨_, rfl⟩
      rw [← ht] at HI hi
      clear ht hv0 hv1
      go_enter Tryz.func85, Tryz.ntmps85
      go_wp2_with (refine WL.out ?_; (repeat ((refine WL.op ?_ ?_; (exact rfl); intro K hK; (first | ((first | ((with_reducible apply ow_move); exact rfl) | ((with_reducible apply ow_assign); exact rfl)); (go_simp <;> (try simp (disch := omega) only [wrap_id, sub_left, zac]) <;> rfl)) | ((with_reducible apply ow_eval); (go_simp <;> (try simp (disch := omega) only [wrap_id, sub_left, zac]) <;> rfl); first | (with_reducible apply up_value) | ((with_reducible apply up_enter); first | (go_at_call 130; refine (HA.out _).mono ?_; rintro e w' ⟨rfl, hb⟩; replace st := st.call hb; clear hb; refine ⟨_, rfl, ?_⟩) | (go_at_call 82; refine (HI.out _ st.below).mono ?_; rintro e w' ⟨rfl, hb⟩; replace st := st.call hb; clear hb; refine ⟨_, rfl, ?_⟩)))); refine WL.next hK (by simp only [Act.put, zpt, zsz, zss]; exact rfl) ?_; clear hK K))); (try refine WL.nil ?_))
      go_ret2
      exact ⟨v, NO.out v, by rw [HN.out]; rfl, st.below⟩
  · have HN := Lib.hid hn
    have no : ∀ u : Int, (L.n5 s = true → u = ((L.val s : Nat) : Int)) := fun u h => by rw [hn] at h; cases h
    have NO := Lib.hid no
    have HA := Lib.hid ha
    clear hn ha no
    go_enter Tryz.func85, Tryz.ntmps85
    go_wp2_with (refine WL.out ?_; (repeat (first | (refine WL.op ?_ ?_; (exact rfl); intro K hK; (first | ((first | ((with_reducible apply ow_move); exact rfl) | ((with_reducible apply ow_assign); exact rfl)); (go_simp <;> (try simp (disch := omega) only [wrap_id, sub_left, zac]) <;> rfl)) | ((with_reducible apply ow_eval); (go_simp <;> (try simp (disch := omega) only [wrap_id, sub_left, zac]) <;> rfl); first | (with_reducible apply up_value) | ((with_reducible apply up_enter); ((go_at_call 130; ((with_reducible refine (atoi_err s _ HA.out hl (HE.out.later st.below)).mono ?_)); rintro e w' ⟨v5, te5, pe5, rfl, hb⟩; replace st := st.call hb; clear hb; refine ⟨_, rfl, ?_⟩))))); refine WL.next hK (by simp only [Act.put, zpt, zsz, zss]; exact rfl) ?_; clear hK K) | (refine WL.skip ?_ (by simp only [Act.put, zpt, zsz, zss]; exact rfl) ?_; (exact rfl)))); (try refine WL.nil ?_))
    go_ret2
    exact ⟨v5, NO.out v5, by rw [HN.out]; rfl, st.below⟩
end Go.Proofs.YtgcjejajljhnaaaGreatDoor
namespace Go.Proofs.YtgcjejajljhnaaaGreatDoor
open Go.RowKit Go.Hp
namespace L
theorem pre1 (c b : UInt8) (l : List UInt8) : [c].isPrefixOf (b :: l) = (c == b) := by simp [List.isPrefixOf]
theorem index_app (c : UInt8) : ∀ (p r : List UInt8), c ∉ p → Lib.index (p ++ c :: r) [c] = p.length
  | [], r, _ => by rw [List.nil_append]; unfold Lib.index; rw [pre1]; simp
  | a :: p, r, h => by
    have ih := index_app c p r fun hx => h (List.mem_cons_of_mem _ hx)
    have hne : ¬ (c == a) = true := fun e => h (by have : c = a := by simpa using e
                                                   subst this; exact List.mem_cons_self ..)
    rw [List.cons_append]
    unfold Lib.index
    rw [pre1, if_neg hne, ih, if_neg (by simp), List.length_cons]
    push_cast; rfl
theorem index_not (c : UInt8) : ∀ (s : List UInt8), c ∉ s → Lib.index s [c] = -1
  | [], _ => by simp [Lib.index]
  | a :: p, h => by
    have ih := index_not c p fun hx => h (List.mem_cons_of_mem _ hx)
    have hne : ¬ (c == a) = true := fun e => h (by have : c = a := by simpa using e
                                                   subst this; exact List.mem_cons_self ..)
    unfold Lib.index
    rw [pre1, if_neg hne, ih]; rfl
theorem cut_app (c : UInt8) (p r : List UInt8) (h : c ∉ p) : Lib.cut (p ++ c :: r) [c] = (p, r, true) := by
  unfold Lib.cut
  rw [index_app c p r h, if_pos (by omega)]
  simp
theorem cut_not (c : UInt8) (s : List UInt8) (h : c ∉ s) : Lib.cut s [c] = (s, [], false) := by
  unfold Lib.cut
  rw [index_not c s h]; rfl
theorem split_not (c : UInt8) (s : List UInt8) (h : c ∉ s) : Lib.split s [c] = [s] := by
  unfold Lib.split
  rw [Lib.count_miss (index_not c s h)]; rfl
theorem split_app (c : UInt8) (p r : List UInt8) (h : c ∉ p) : Lib.split (p ++ c :: r) [c] = p :: Lib.split r [c] := by
  have hi := index_app c p r h
  unfold Lib.split
  rw [Lib.count_hit (by simp) hi, Nat.add_comm]
  have h1 : (p ++ c :: r).take p.length = p := by simp
  have h2 : (p ++ c :: r).drop (p.length + 1) = r := by rw [List.drop_append, List.drop_eq_nil_of_le (by omega), show p.length + 1 - p.length = 1 by omega]; rfl
  rw [Lib.splitK, hi, if_neg (by simp)]
  simp only [Int.toNat_natCast, Nat.add_zero, List.length_singleton, h1, h2]
theorem mem_parts {c : UInt8} {s : List UInt8} (h : c ∈ s) : ∃ p r, s = p ++ c :: r ∧ c ∉ p := by
  induction s with
  | nil => cases h
  | cons a l ih =>
    by_cases e : c = a
    · subst e; exact ⟨[], l, rfl, by simp⟩
    · obtain ⟨p, r, h1, h2⟩ := ih (by rcases List.mem_cons.1 h with h | h
                                      · exact absurd h e
                                      · exact h)
      exact ⟨a :: p, r, by rw [h1]; rfl, by simp [e, h2]⟩
theorem split_or (c : UInt8) (s : List UInt8) : (c ∉ s ∧ Lib.split s [c] = [s]) ∨ ∃ p r, s = p ++ c :: r ∧ c ∉ p ∧ Lib.split s [c] = p :: Lib.split r [c] := by
  by_cases h : c ∈ s
  · obtain ⟨p, r, rfl, hp⟩ := mem_parts h
    exact .inr ⟨p, r, rfl, hp, split_app c p r hp⟩
  · exact .inl ⟨h, split_not c s h⟩
def cutL (c : UInt8) : List UInt8 → List (List UInt8)
  | [] => [[]]
  | x :: r => if x = c then [] :: cutL c r else match cutL c r with
    | [] => [[x]]
    | p :: ps => (x :: p) :: ps
theorem cutL_not (c : UInt8) : ∀ (s : List UInt8), c ∉ s → cutL c s = [s]
  | [], _ => rfl
  | x :: r, h => by
    have h1 : x ≠ c := fun e => h (by simp [e])
    have h2 := cutL_not c r fun hx => h (List.mem_cons_of_mem _ hx)
    unfold cutL
    rw [if_neg h1, h2]
theorem cutL_app (c : UInt8) : ∀ (p r : List UInt8), c ∉ p → cutL c (p ++ c :: r) = p :: cutL c r
  | [], r, _ => by show cutL c (c :: r) = _; unfold cutL; rw [if_pos rfl]; cases r <;> rfl
  | x :: p, r, h => by
    have h1 : x ≠ c := fun e => h (by simp [e])
    have h2 := cutL_app c p r fun hx => h (List.mem_cons_of_mem _ hx)
    show cutL c (x :: (p ++ c :: r)) = _
    rw [cutL, if_neg h1, h2]
theorem cutL_split (c : UInt8) : ∀ (n : Nat) (s : List UInt8), s.length ≤ n → Lib.split s [c] = cutL c s := by
  intro n
  induction n with
  | zero =>
    intro s h
    obtain rfl := List.eq_nil_of_length_eq_zero (Nat.le_zero.1 h)
    rw [split_not c [] (by simp)]
    rfl
  | succ n ih =>
    intro s h
    rcases split_or c s with ⟨h1, h2⟩ | ⟨p, r, rfl, hp, h2⟩
    · rw [h2, cutL_not c s h1]
    · rw [h2, cutL_app c p r hp, ih r (by simp at h; omega)]
theorem cutL_le (c : UInt8) : ∀ (s : List UInt8) (p : List UInt8), p ∈ cutL c s → p.length ≤ s.length
  | [], p, h => by obtain rfl := List.mem_singleton.1 h; exact Nat.le_refl _
  | x :: r, p, h => by
    unfold cutL at h
    split at h
    · rcases List.mem_cons.1 h with rfl | h
      · simp
      · have := cutL_le c r p h
        simp only [List.length_cons]; omega
    · split at h
      · obtain rfl := List.mem_singleton.1 h
        simp
      · rename_i q ps hq
        rcases List.mem_cons.1 h with rfl | h
        · have := cutL_le c r q (by rw [hq]; simp)
          simp only [List.length_cons]; omega
        · have := cutL_le c r p (by rw [hq]; simp [h])
          simp only [List.length_cons]; omega
theorem cutL_len (c : UInt8) : ∀ (s : List UInt8), 0 < (cutL c s).length ∧ (cutL c s).length ≤ s.length + 1
  | [] => by simp [cutL]
  | x :: r => by
    have := cutL_len c r
    unfold cutL
    split
    · simp only [List.length_cons]; omega
    · split
      · simp
      · rename_i q ps hq
        rw [hq] at this
        simp only [List.length_cons] at this ⊢; omega
structure CutAt (c : UInt8) (s : List UInt8) (f i : Nat) (O : List (List UInt8)) : Prop where
  fi : f ≤ i
  il : i ≤ s.length
  eq : cutL c s = O ++ cutL c (s.drop f)
  no : c ∉ (s.drop f).take (i - f)
theorem CutAt.zero (c : UInt8) (s : List UInt8) : CutAt c s 0 0 [] := ⟨Nat.le_refl _, Nat.zero_le _, rfl, by simp⟩
theorem CutAt.parts {c : UInt8} {s : List UInt8} {f i : Nat} {O : List (List UInt8)} (h : CutAt c s f i O) (hi : i < s.length) : s.drop f = (s.drop f).take (i - f) ++ s[i] :: s.drop (i + 1) := by
  have h1 := List.take_append_drop (i - f) (s.drop f)
  rw [List.drop_drop, show f + (i - f) = i by have := h.fi; omega, List.drop_eq_getElem_cons hi] at h1
  exact h1.symm
theorem CutAt.hit {c : UInt8} {s : List UInt8} {f i : Nat} {O : List (List UInt8)} (h : CutAt c s f i O) (hi : i < s.length) (hc : s[i] = c) : CutAt c s (i + 1) (i + 1) (O ++ [(s.drop f).take (i - f)]) := by
  refine ⟨Nat.le_refl _, hi, ?_, by simp⟩
  rw [h.eq]
  have h1 := h.parts hi
  rw [hc] at h1
  conv => lhs; rw [h1]
  rw [cutL_app c _ _ h.no, List.append_assoc]
  rfl
theorem CutAt.miss {c : UInt8} {s : List UInt8} {f i : Nat} {O : List (List UInt8)} (h : CutAt c s f i O) (hi : i < s.length) (hc : s[i] ≠ c) : CutAt c s f (i + 1) O := by
  refine ⟨by have := h.fi; omega, hi, h.eq, ?_⟩
  have hfi := h.fi
  have e : (s.drop f).take (i + 1 - f) = (s.drop f).take (i - f) ++ [s[i]] := by
    rw [show i + 1 - f = (i - f) + 1 by omega, List.take_succ_eq_append_getElem (by rw [List.length_drop]; omega)]
    congr 2
    rw [List.getElem_drop]
    congr 1
    omega
  rw [e]
  intro hm
  rcases List.mem_append.1 hm with hm | hm
  · exact h.no hm
  · exact hc (List.mem_singleton.1 hm).symm
theorem CutAt.done {c : UInt8} {s : List UInt8} {f i : Nat} {O : List (List UInt8)} (h : CutAt c s f i O) (hi : i = s.length) : cutL c s = O ++ [s.drop f] := by
  rw [h.eq]
  have := h.no
  rw [List.take_of_length_le (by rw [List.length_drop]; omega)] at this
  rw [cutL_not c _ this]
theorem CutAt.len {c : UInt8} {s : List UInt8} {f i : Nat} {O : List (List UInt8)} (h : CutAt c s f i O) : O.length ≤ s.length := by
  have h1 := (cutL_len c s).2
  have h2 := (cutL_len c (s.drop f)).1
  rw [h.eq, List.length_append] at h1
  omega
end L
theorem strs_app (a b : List (List UInt8)) : strs (a ++ b) = strs a ++ strs b := List.map_append ..
theorem strs_len (a : List (List UInt8)) : (strs a).length = a.length := List.length_map ..
theorem strs_one (l : List (List UInt8)) : ∀ u ∈ strs l, u.oneCell' = true := by
  intro u hu
  obtain ⟨b, _, rfl⟩ := List.mem_map.1 hu
  rfl
instance sliceStr : SliceT Tryz.prog 35 9 (.string ⟨#[]⟩) 1 16 := ⟨by kernel_rfl, by kernel_rfl, rfl, by decide⟩
theorem bytes_list (l : List UInt8) : (ByteArray.mk l.toArray).toList = l := by rw [Lib.toList_data]
theorem extract_mk (l : List UInt8) (i j : Nat) : (ByteArray.mk l.toArray).extract i j = ⟨((l.drop i).take (j - i)).toArray⟩ := Lib.extract_eq _ _ _
section
variable {P : Program} {ops : Array Oper} {o : Oper} {a : Act} {w0 w : World} {rs : List Res} {Q : Exit → Act → World → Prop} {K : Act → World → Prop}
theorem run_sub {t : TypeId} {k k' : IntKind} {l : List UInt8} {i j : Nat} (ht : P.underlying t = some .string) (hij : i ≤ j) (hj : j ≤ l.length) :
    (Instr.sliceAt t (.string ⟨l.toArray⟩) (some (.int k (i : Int))) (some (.int k' (j : Int))) none).run P w = .ok (.string ⟨((l.drop i).take (j - i)).toArray⟩) w := by
  have hs := bytes_size l
  rw [run_sliceAt_string w t _ _ _ _ ht, run_slice_string_if w t _ _ _ _ _ ht, if_pos ⟨by omega, by omega⟩, if_pos ⟨by omega, by omega⟩, extract_mk]
  simp
theorem run_from {t : TypeId} {k : IntKind} {l : List UInt8} {i : Nat} (ht : P.underlying t = some .string) (hi : i ≤ l.length) :
    (Instr.sliceAt t (.string ⟨l.toArray⟩) (some (.int k (i : Int))) none none).run P w = .ok (.string ⟨(l.drop i).toArray⟩) w := by
  have hs := bytes_size l
  rw [run_sliceAt_string w t _ _ _ _ ht, run_slice_string_l w t _ ht _ _ (by omega) (by omega), hs, extract_mk]
  rw [List.take_of_length_le (by simp)]
  simp
theorem run_to {t : TypeId} {k : IntKind} {l : List UInt8} {j : Nat} (ht : P.underlying t = some .string) (hj : j ≤ l.length) :
    (Instr.sliceAt t (.string ⟨l.toArray⟩) none (some (.int k (j : Int))) none).run P w = .ok (.string ⟨(l.take j).toArray⟩) w := by
  have hs := bytes_size l
  rw [run_sliceAt_string w t _ _ _ _ ht, run_slice_string_h w t _ ht _ _ (by omega) (by omega), extract_mk]
  simp
theorem ow_sub {t : TypeId} {x y z : Operand} {k k' : IntKind} {l : List UInt8} {iv jv : Int} {i j : Nat} (ho : o.op = .slice t x (some y) (some z) none) (ht : P.underlying t = some .string) (hx : a.eval x = .string ⟨l.toArray⟩) (hy : a.eval y = .int k iv) (hz : a.eval z = .int k' jv)
    (hi : iv = (i : Int)) (hj : jv = (j : Int)) (hij : i ≤ j) (hjl : j ≤ l.length) (h : K (a.put o.dst (.string ⟨((l.drop i).take (j - i)).toArray⟩)) w) : OW P o a w K Q := by
  subst hi hj
  refine OW.mk (wp_value ?_ h)
  simp [execOp, ho, hx, hy, hz, run_sub (P := P) (k := k) (k' := k') ht hij hjl]
theorem ow_from {t : TypeId} {x y : Operand} {k : IntKind} {l : List UInt8} {iv : Int} {i : Nat} (ho : o.op = .slice t x (some y) none none) (ht : P.underlying t = some .string) (hx : a.eval x = .string ⟨l.toArray⟩) (hy : a.eval y = .int k iv) (hi : iv = (i : Int)) (hil : i ≤ l.length)
    (h : K (a.put o.dst (.string ⟨(l.drop i).toArray⟩)) w) : OW P o a w K Q := by
  subst hi
  refine OW.mk (wp_value ?_ h)
  simp [execOp, ho, hx, hy, run_from (P := P) (k := k) ht hil]
theorem ow_to {t : TypeId} {x y : Operand} {k : IntKind} {l : List UInt8} {jv : Int} {j : Nat} (ho : o.op = .slice t x none (some y) none) (ht : P.underlying t = some .string) (hx : a.eval x = .string ⟨l.toArray⟩) (hy : a.eval y = .int k jv) (hj : jv = (j : Int)) (hjl : j ≤ l.length)
    (h : K (a.put o.dst (.string ⟨(l.take j).toArray⟩)) w) : OW P o a w K Q := by
  subst hj
  refine OW.mk (wp_value ?_ h)
  simp [execOp, ho, hx, hy, run_to (P := P) (k := k) ht hjl]
theorem Yphi.from {t : TypeId} {x y : Operand} {k : IntKind} {l : List UInt8} {iv : Int} {i : Nat} (hw : Region.wanted o (yielded ops a.tmps) = true) (ho : o.op = .slice t x (some y) none none) (ht : P.underlying t = some .string) (hx : a.eval x = .string ⟨l.toArray⟩) (hy : a.eval y = .int k iv) (hi : iv = (i : Int)) (hil : i ≤ l.length) :
    Yphi P ops o a w (isV (.string ⟨(l.drop i).toArray⟩)) := .inl ⟨hw, (ow_from ho ht hx hy hi hil ⟨_, rfl, Below.refl _ _, rfl⟩).out⟩
theorem Yphi.sub {t : TypeId} {x y z : Operand} {k k' : IntKind} {l : List UInt8} {iv jv : Int} {i j : Nat} (hw : Region.wanted o (yielded ops a.tmps) = true) (ho : o.op = .slice t x (some y) (some z) none) (ht : P.underlying t = some .string) (hx : a.eval x = .string ⟨l.toArray⟩) (hy : a.eval y = .int k iv) (hz : a.eval z = .int k' jv)
    (hi : iv = (i : Int)) (hj : jv = (j : Int)) (hij : i ≤ j) (hjl : j ≤ l.length) : Yphi P ops o a w (isV (.string ⟨((l.drop i).take (j - i)).toArray⟩)) := .inl ⟨hw, (ow_sub ho ht hx hy hz hi hj hij hjl ⟨_, rfl, Below.refl _ _, rfl⟩).out⟩
end
abbrev strRow (v : Value) (n : Nat) (l : List (List UInt8)) : Res := .row 9 1 v n (strs l)
set_option maxHeartbeats 2000000 in
theorem Cut_any (s : List UInt8) (c : UInt8) (w : World) (hl : s.length ≤ 100000) :
    Calls Tryz.prog 86 #[.string ⟨s.toArray⟩, .int .u8 (c.toNat : Int)] w fun e w' => ∃ A cap, e = .returned (.slice A (L.cutL c s).length cap) ∧ St w w' [strRow (.slice A (L.cutL c s).length cap) (L.cutL c s).length (L.cutL c s)] := by
  have hsz := bytes_size
  have st := St.start w
  go_enter Tryz.func86, Tryz.ntmps86
  go_wp2_with (refine WL.out ?_; (repeat (fail)); (try refine WL.nil ?_))
  have st := st.nilRow 9 1
  go_loopw [5, 6, 7] (fun v fv iv wr => ∃ (f i : Nat) (O : List (List UInt8)) (A : Option Addr) (cap : Nat), fv = .int .i64 f ∧ iv = .int .i64 i ∧ v = .slice A O.length cap ∧ Hid (L.CutAt c s f i O) ∧ St w wr [strRow (.slice A O.length cap) O.length O]) (fun _ _ i _ => s.length - (intOf i).toNat)
  case atStart => exact ⟨0, 0, [], none, 0, rfl, rfl, rfl, Lib.hid (L.CutAt.zero c s), st⟩
  case round =>
    clear st
    obtain ⟨f, i, O, A, cap, rfl, rfl, rfl, hc, st⟩ := hrel
    have hfi := hc.out.fi
    have hil := hc.out.il
    have hO := hc.out.len
    obtain ⟨n, hn⟩ : ∃ n, n = O.length := ⟨_, rfl⟩
    rw [← hn] at st hO ⊢
    have HN := Lib.hid hn
    clear hn
    by_cases hlt : i < s.length
    · have hat : Ck.at_ 0 s i = s[i] := Ck.at_eq 0 s i hlt
      by_cases he : s[i] = c
      · have hc2 := Lib.hid (hc.out.hit hlt he)
        have heq : (((Ck.at_ 0 s i).toNat : Int) == (c.toNat : Int)) = true := by rw [hat, he]; simp
        obtain ⟨p, hp⟩ : ∃ p, p = (s.drop f).take (i - f) := ⟨_, rfl⟩
        rw [← hp] at hc2
        have hpp : (s.drop f).take (i - f) = p := hp.symm
        clear hp hat he
        go_wp2_with (refine WL.out ?_; (repeat ((refine WL.op ?_ ?_; (exact rfl); intro K hK; (first | ((first | ((with_reducible apply ow_move); exact rfl) | ((with_reducible apply ow_assign); exact rfl)); (go_simp <;> (try simp (disch := omega) only [wrap_id, sub_left, zac]) <;> rfl)) | ((((with_reducible apply ow_newSlice st); exact rfl; (go_simp <;> (try simp (disch := omega) only [wrap_id, sub_left, zac]) <;> rfl); exact rfl)); (try clear st); intro b w' st) | ((with_reducible apply ow_char (i)); exact rfl; exact Tryz.underlying9; exact rfl; exact rfl; (focus (exact rfl)); (focus omega)) | ((with_reducible apply ow_sub (i := f) (j := i)); exact rfl; exact Tryz.underlying9; exact rfl; exact rfl; exact rfl; exact rfl; exact rfl; exact hfi; exact hil; rw [hpp]) | ((with_reducible apply ow_append 1 st); exact rfl; exact inferInstance; exact rfl; exact rfl; exact rfl; exact st.rdBox (i := 0) (n := 1) (size := 1) rfl rfl; (focus ((simp [Value.oneCell']; done))); (focus (unfold maxLen; omega)); (focus omega); (try clear st); intro A' c' w' st; (try simp only [List.set_cons_zero, List.set_cons_succ, Nat.zero_add, List.nil_append] at st)) | ((with_reducible apply ow_eval); (go_simp <;> (try simp (disch := omega) only [wrap_id, sub_left, zac]) <;> rfl); ((with_reducible apply up_value)))); refine WL.next hK (by simp only [Act.put, zpt, zsz, zss]; exact rfl) ?_; clear hK K))); (try refine WL.nil ?_))
        have hlen : (O ++ [p]).length = n + 1 := by rw [List.length_append, ← HN.out]; rfl
        exact ⟨⟨i + 1, i + 1, O ++ [p], A', c', by go_num, by go_num, by rw [hlen], hc2, by
          have st := st.tail
          unfold strRow
          rw [hlen, strs_app]
          exact st⟩, by simp [intOf]; omega⟩
      · have hc2 := Lib.hid (hc.out.miss hlt he)
        have heq : (((Ck.at_ 0 s i).toNat : Int) == (c.toNat : Int)) = false := by
          rw [hat, beq_eq_false_iff_ne]
          intro e
          exact he (UInt8.toNat_inj.1 (by omega))
        clear hat he
        go_wp2_with (refine WL.out ?_; (repeat ((refine WL.op ?_ ?_; (exact rfl); intro K hK; (first | ((first | ((with_reducible apply ow_move); exact rfl) | ((with_reducible apply ow_assign); exact rfl)); (go_simp <;> (try simp (disch := omega) only [wrap_id, sub_left, zac]) <;> rfl)) | ((with_reducible apply ow_char (i)); exact rfl; exact Tryz.underlying9; exact rfl; exact rfl; (focus (exact rfl)); (focus omega)) | ((with_reducible apply ow_eval); (go_simp <;> (try simp (disch := omega) only [wrap_id, sub_left, zac]) <;> rfl); ((with_reducible apply up_value)))); refine WL.next hK (by simp only [Act.put, zpt, zsz, zss]; exact rfl) ?_; clear hK K))); (try refine WL.nil ?_))
        exact ⟨⟨f, i + 1, O, A, cap, rfl, by go_num, by rw [HN.out], hc2, by rw [HN.out] at st; exact st⟩, by simp [intOf]; omega⟩
    · obtain rfl : s.length = i := by omega
      have hd := Lib.hid (hc.out.done rfl)
      go_wp2_with (refine WL.out ?_; (repeat ((refine WL.op ?_ ?_; (exact rfl); intro K hK; (first | ((((with_reducible apply ow_assign); exact rfl)); (go_simp <;> (try simp (disch := omega) only [wrap_id, sub_left, zac]) <;> rfl)) | ((((with_reducible apply ow_newSlice st); exact rfl; (go_simp <;> (try simp (disch := omega) only [wrap_id, sub_left, zac]) <;> rfl); exact rfl)); (try clear st); intro b w' st) | ((with_reducible apply ow_from); exact rfl; exact Tryz.underlying9; exact rfl; exact rfl; (focus (exact rfl)); (focus omega)) | ((with_reducible apply ow_append 1 st); exact rfl; exact inferInstance; exact rfl; exact rfl; exact rfl; exact st.rdBox (i := 0) (n := 1) (size := 1) rfl rfl; (focus ((simp [Value.oneCell']; done))); (focus (unfold maxLen; omega)); (focus omega); (try clear st); intro A' c' w' st; (try simp only [List.set_cons_zero, List.set_cons_succ, Nat.zero_add, List.nil_append] at st)) | ((with_reducible apply ow_eval); (go_simp <;> (try simp (disch := omega) only [wrap_id, sub_left, zac]) <;> rfl); ((with_reducible apply up_value)))); refine WL.next hK (by simp only [Act.put, zpt, zsz, zss]; exact rfl) ?_; clear hK K))); (try refine WL.nil ?_))
      go_ret
      have hlen : (L.cutL c s).length = n + 1 := by rw [hd.out, List.length_append, ← HN.out]; rfl
      exact ⟨A', c', by rw [hlen]; rfl, by
        have st := st.tail
        unfold strRow
        rw [hlen, hd.out, strs_app]
        exact st⟩
end Go.Proofs.YtgcjejajljhnaaaGreatDoor
namespace Go.Proofs.YtgcjejajljhnaaaGreatDoor
open Go.RowKit Go.Hp
namespace L
theorem isDig_iff (c : UInt8) : isDig c = true ↔ 48 ≤ c.toNat ∧ c.toNat ≤ 57 := by simp [isDig]
theorem take_step {d : List UInt8} {j x : Nat} (h : j < d.length) (hx : d[j].toNat = x) (h48 : 48 ≤ x) : ((val (d.take (j + 1)) : Nat) : Int) = 10 * ((val (d.take j) : Nat) : Int) + ((x : Int) - 48) := by
  rw [List.take_succ_eq_append_getElem h, val_snoc, hx]
  omega
theorem dig_step {d : List UInt8} {j x : Nat} (h : j < d.length) (hx : d[j].toNat = x) (hd : AllDig (d.take j)) (h48 : 48 ≤ x) (h57 : x ≤ 57) : AllDig (d.take (j + 1)) := by
  rw [List.take_succ_eq_append_getElem h]
  intro c hc
  rcases List.mem_append.1 hc with hc | hc
  · exact hd c hc
  · obtain rfl := List.mem_singleton.1 hc
    exact (isDig_iff _).2 ⟨by omega, by omega⟩
theorem val_small {d : List UInt8} {j : Nat} (hd : AllDig (d.take j)) (h5 : d.length ≤ 5) : val (d.take j) ≤ 99999 := by
  have h1 := val_lt _ hd
  have h2 : 10 ^ (d.take j).length ≤ 10 ^ 5 := Nat.pow_le_pow_right (by decide) (by rw [List.length_take]; omega)
  have h3 : (10 : Nat) ^ 5 = 100000 := by decide
  omega
theorem n5_no {s : List UInt8} {k : Nat} (hk : k < s.length) (h : ¬ (48 ≤ (Ck.at_ 0 s k).toNat ∧ (Ck.at_ 0 s k).toNat ≤ 57)) : n5 s = false := by
  cases hn : n5 s with
  | false => rfl
  | true =>
    have h1 := ((n5_iff s).1 hn).1 s[k] (List.getElem_mem hk)
    rw [isDig_iff, ← Ck.at_eq 0 s k hk] at h1
    exact absurd h1 h
theorem n5_long {s : List UInt8} (h : s.length = 0 ∨ 5 < s.length ∨ ((Ck.at_ 0 s 0).toNat = 48 ∧ 1 < s.length)) : n5 s = false := by
  cases hn : n5 s with
  | false => rfl
  | true =>
    obtain ⟨_, h1, h2, h3⟩ := (n5_iff s).1 hn
    rcases h with h | h | ⟨h, h4⟩
    · omega
    · omega
    · have : s.head? = some 48 := by
        rcases s with _ | ⟨a, t⟩
        · simp at h1
        · have e : Ck.at_ 0 (a :: t) 0 = a := rfl
          rw [e] at h
          have : a = 48 := UInt8.toNat_inj.1 (by rw [h]; rfl)
          rw [this]
          rfl
      have := h3 this
      omega
theorem n5_yes {s : List UInt8} (hd : AllDig s) (h0 : 0 < s.length) (h5 : s.length ≤ 5) (hz : ¬ ((Ck.at_ 0 s 0).toNat = 48 ∧ 1 < s.length)) : n5 s = true := by
  refine (n5_iff s).2 ⟨hd, h0, h5, fun e => ?_⟩
  rcases s with _ | ⟨a, t⟩
  · simp at h0
  · have e2 : a = 48 := by simpa using e
    have e3 : (Ck.at_ 0 (a :: t) 0).toNat = 48 := by
      show a.toNat = 48
      rw [e2]; rfl
    have h := fun q => hz ⟨e3, q⟩
    omega
end L
namespace L
def q5 (d : List UInt8) : Bool := d.all isDig && (decide (0 < d.length) && (decide (d.length ≤ 5) && !(d.head? == some 48)))
theorem q5_iff (d : List UInt8) : q5 d = true ↔ AllDig d ∧ 0 < d.length ∧ d.length ≤ 5 ∧ d.head? ≠ some 48 := by
  unfold q5
  simp only [Bool.and_eq_true, List.all_eq_true, decide_eq_true_eq, Bool.not_eq_true', beq_eq_false_iff_ne]
  rfl
def rNum (s : List UInt8) : Int × Bool := if n5 s then ((val s : Nat), true) else if s.head? == some 45 && q5 (s.drop 1) then (-((val (s.drop 1) : Nat) : Int), true) else (0, false)
theorem rNum_yes {s : List UInt8} (h : n5 s = true) : rNum s = (((val s : Nat) : Int), true) := by unfold rNum; rw [h]; rfl
theorem rNum_no {s : List UInt8} (h : n5 s = false) (h2 : s.head? = some 45 → q5 (s.drop 1) = true → False) : rNum s = (0, false) := by
  unfold rNum
  rw [h, if_neg Bool.false_ne_true, if_neg]
  intro e
  rw [Bool.and_eq_true, beq_iff_eq] at e
  exact h2 e.1 e.2
theorem rNum_neg {s : List UInt8} (h : n5 s = false) (h1 : s.head? = some 45) (h2 : q5 (s.drop 1) = true) : rNum s = (-((val (s.drop 1) : Nat) : Int), true) := by
  unfold rNum
  rw [h, if_neg Bool.false_ne_true, h1, h2]
  rfl
theorem head_at {s : List UInt8} (h : 0 < s.length) : s.head? = some (Ck.at_ 0 s 0) := by
  rcases s with _ | ⟨a, t⟩
  · simp at h
  · rfl
theorem head_drop {s : List UInt8} (h : 1 < s.length) : (s.drop 1).head? = some (Ck.at_ 0 s 1) := by
  rw [List.head?_drop]
  unfold Ck.at_
  rw [List.getElem?_eq_getElem h]
  rfl
theorem rNum_bad (s : List UInt8) (h : n5 s = false) : (rNum s).2 = false ∨ (rNum s).1 < 0 := by
  unfold rNum
  rw [h, if_neg Bool.false_ne_true]
  split
  · rename_i e
    rw [Bool.and_eq_true] at e
    obtain ⟨h1, h2, _, h3⟩ := (q5_iff _).1 e.2
    have := val_pos _ h1 h3 (by intro e; rw [e] at h2; simp at h2)
    right
    show -((val (s.drop 1) : Nat) : Int) < 0
    omega
  · exact .inl rfl
end L
set_option maxRecDepth 8000 in
set_option maxHeartbeats 4000000 in
theorem Number_any (s : List UInt8) (w : World) (hl : s.length ≤ 100000) :
    Calls Tryz.prog 87 #[.string ⟨s.toArray⟩, .int .i64 5] w fun e w' => e = .returned (.tuple #[.int .i64 (L.rNum s).1, .bool (L.rNum s).2]) ∧ Below w.heap.size w w' := by
  have hsz := bytes_size
  have st := St.start w
  have no : L.rNum s = (0, false) → Ending.returned (.tuple #[.int .i64 0, .bool false]) = Ending.returned (.tuple #[.int .i64 (L.rNum s).1, .bool (L.rNum s).2]) := fun hn => by rw [hn]
  have NO := Lib.hid no
  clear no
  have hw8 : ∀ x : Int, 48 ≤ x → x ≤ 57 → IntKind.u8.wrap (x - 48) = x - 48 := by
    intro x h1 h2
    have hw : IntKind.u8.wrap (x - 48) = (x - 48) % 256 := by simp [IntKind.wrap, IntKind.bits, IntKind.signed]
    rw [hw]; omega
  have HW8 := Lib.hid hw8
  clear hw8
  rcases Nat.eq_zero_or_pos s.length with h0 | h0
  · have hx := Lib.hid (L.rNum_no (L.n5_long (.inl h0)) fun e => by rw [List.eq_nil_of_length_eq_zero h0] at e; simp at e)
    have h0' : (s.length : Int) = 0 := by omega
    go_enter Tryz.func87, Tryz.ntmps87
    go_wp2_with (refine WL.out ?_; (repeat (first | (refine WL.op ?_ ?_; (exact rfl); intro K hK; (first | ((((with_reducible apply ow_move); exact rfl)); (go_simp <;> (try simp (disch := omega) only [wrap_id, sub_left, zac]) <;> rfl)) | ((with_reducible apply ow_eval); (go_simp <;> (try simp (disch := omega) only [wrap_id, sub_left, zac]) <;> rfl); ((with_reducible apply up_value)))); refine WL.next hK (by simp only [Act.put, zpt, zsz, zss]; exact rfl) ?_; clear hK K) | (refine WL.skip ?_ (by simp only [Act.put, zpt, zsz, zss]; exact rfl) ?_; (exact rfl)))); (try refine WL.nil ?_))
    go_ret2
    exact ⟨NO.out hx.out, st.below⟩
  have i0 : (0 : Int) < (s.length : Int) := by omega
  have i1 : ((s.length : Int) == 0) = false := by rw [beq_eq_false_iff_ne]; omega
  obtain ⟨x0, hx0⟩ : ∃ x, (Ck.at_ 0 s 0).toNat = x := ⟨_, rfl⟩
  have HX0 := Lib.hid hx0
  by_cases h45 : x0 = 45
  · subst h45
    have hn5 := Lib.hid (L.n5_no h0 (by rw [HX0.out]; omega))
    have l1 : ((s.length : Int) == 1) = decide (s.length = 1) := by
      by_cases h : s.length = 1
      · rw [h]; rfl
      · rw [decide_eq_false h, beq_eq_false_iff_ne]; omega
    by_cases h1 : s.length = 1
    · have h1' : (s.length : Int) = 1 := by omega
      have hx := Lib.hid (L.rNum_no hn5.out fun _ e => by
        have := ((L.q5_iff _).1 e).2.1
        rw [List.length_drop] at this
        omega)
      go_enter Tryz.func87, Tryz.ntmps87
      go_wp2_with (refine WL.out ?_; (repeat (first | (refine WL.op ?_ ?_; (exact rfl); intro K hK; (first | ((((with_reducible apply ow_move); exact rfl)); (go_simp <;> (try simp (disch := omega) only [wrap_id, sub_left, zac]) <;> rfl)) | ((with_reducible apply ow_char (0)); exact rfl; exact Tryz.underlying9; exact rfl; exact rfl; (focus (exact rfl)); (focus omega)) | ((with_reducible apply ow_eval); (go_simp <;> (try simp (disch := omega) only [wrap_id, sub_left, zac]) <;> rfl); ((with_reducible apply up_value)))); refine WL.next hK (by simp only [Act.put, zpt, zsz, zss]; exact rfl) ?_; clear hK K) | (refine WL.skip ?_ (by simp only [Act.put, zpt, zsz, zss]; exact rfl) ?_; (exact rfl)))); (try refine WL.nil ?_))
      go_ret2
      exact ⟨NO.out hx.out, st.below⟩
    have i2 : ((s.length : Int) == 1) = false := by rw [beq_eq_false_iff_ne]; omega
    have h2 : 1 < s.length := by omega
    clear l1 h1
    by_cases h5 : 5 < (s.length : Int) - 1
    · have hx := Lib.hid (L.rNum_no hn5.out fun _ e => by
        have := ((L.q5_iff _).1 e).2.2.1
        rw [List.length_drop] at this
        omega)
      go_enter Tryz.func87, Tryz.ntmps87
      go_wp2_with (refine WL.out ?_; (repeat (first | (refine WL.op ?_ ?_; (exact rfl); intro K hK; (first | ((((with_reducible apply ow_move); exact rfl)); (go_simp <;> (try simp (disch := omega) only [wrap_id, sub_left, zac]) <;> rfl)) | ((with_reducible apply ow_char (0)); exact rfl; exact Tryz.underlying9; exact rfl; exact rfl; (focus (exact rfl)); (focus omega)) | ((with_reducible apply ow_eval); (go_simp <;> (try simp (disch := omega) only [wrap_id, sub_left, zac]) <;> rfl); ((with_reducible apply up_value)))); refine WL.next hK (by simp only [Act.put, zpt, zsz, zss]; exact rfl) ?_; clear hK K) | (refine WL.skip ?_ (by simp only [Act.put, zpt, zsz, zss]; exact rfl) ?_; (exact rfl)))); (try refine WL.nil ?_))
      go_ret2
      exact ⟨NO.out hx.out, st.below⟩
    obtain ⟨x1, hx1⟩ : ∃ x, (Ck.at_ 0 s 1).toNat = x := ⟨_, rfl⟩
    have HX1 := Lib.hid hx1
    by_cases h48 : x1 = 48
    · have i3 : ((x1 : Int) == 48) = true := by rw [h48]; rfl
      have i4 : (1 : Int) < (s.length : Int) := by omega
      have hx := Lib.hid (L.rNum_no hn5.out fun _ e => by
        have := ((L.q5_iff _).1 e).2.2.2
        rw [L.head_drop h2] at this
        exact this (by congr 1; exact UInt8.toNat_inj.1 (by rw [hx1, h48]; rfl)))
      clear h48
      go_enter Tryz.func87, Tryz.ntmps87
      go_wp2_with (refine WL.out ?_; (repeat ((refine WL.op ?_ ?_; (exact rfl); intro K hK; (first | ((((with_reducible apply ow_move); exact rfl)); (go_simp <;> (try simp (disch := omega) only [wrap_id, sub_left, zac]) <;> rfl)) | ((with_reducible apply ow_char (0)); exact rfl; exact Tryz.underlying9; exact rfl; exact rfl; (focus (exact rfl)); (focus omega)) | ((with_reducible apply ow_char (1)); exact rfl; exact Tryz.underlying9; exact rfl; exact rfl; (focus (exact rfl)); (focus omega)) | ((with_reducible apply ow_eval); (go_simp <;> (try simp (disch := omega) only [wrap_id, sub_left, zac]) <;> rfl); ((with_reducible apply up_value)))); refine WL.next hK (by simp only [Act.put, zpt, zsz, zss]; exact rfl) ?_; clear hK K))); (try refine WL.nil ?_))
      go_ret2
      exact ⟨NO.out hx.out, st.below⟩
    have i3 : ((x1 : Int) == 48) = false := by rw [beq_eq_false_iff_ne]; omega
    have H48 := Lib.hid h48
    clear h48
    have hdl : (s.drop 1).length = s.length - 1 := List.length_drop ..
    have HDL := Lib.hid hdl
    clear hdl
    go_enter Tryz.func87, Tryz.ntmps87
    go_wp2_with (refine WL.out ?_; (repeat (first | (refine WL.op ?_ ?_; (exact rfl); intro K hK; (first | ((((with_reducible apply ow_move); exact rfl)); (go_simp <;> (try simp (disch := omega) only [wrap_id, sub_left, zac]) <;> rfl)) | ((with_reducible apply ow_char (0)); exact rfl; exact Tryz.underlying9; exact rfl; exact rfl; (focus (exact rfl)); (focus omega)) | ((with_reducible apply ow_char (1)); exact rfl; exact Tryz.underlying9; exact rfl; exact rfl; (focus (exact rfl)); (focus omega)) | ((with_reducible apply ow_eval); (go_simp <;> (try simp (disch := omega) only [wrap_id, sub_left, zac]) <;> rfl); ((with_reducible apply up_value)))); refine WL.next hK (by simp only [Act.put, zpt, zsz, zss]; exact rfl) ?_; clear hK K) | (refine WL.skip ?_ (by simp only [Act.put, zpt, zsz, zss]; exact rfl) ?_; (exact rfl)))); (try refine WL.nil ?_))
    go_loopw [7, 8] (fun v i wr => ∃ j : Nat, 1 + j ≤ s.length ∧ i = .int .i64 ((1 + j : Nat) : Int) ∧ v = .int .i64 (L.val ((s.drop 1).take j) : Nat) ∧ Hid (L.AllDig ((s.drop 1).take j)) ∧ St w wr []) (fun _ i _ => s.length - (intOf i).toNat)
    case atStart => exact ⟨0, by omega, rfl, rfl, Lib.hid (by intro c hc; simp at hc), st⟩
    case round =>
      clear st
      obtain ⟨j, hk, rfl, rfl, hd, st⟩ := hrel
      have hv := L.val_small hd.out (by rw [HDL.out]; omega)
      obtain ⟨k, hkj⟩ : ∃ k, k = 1 + j := ⟨_, rfl⟩
      rw [← hkj] at hk ⊢
      have HKJ := Lib.hid hkj
      clear hkj
      by_cases hlt : k < s.length
      · obtain ⟨x, hxk⟩ : ∃ x, (Ck.at_ 0 s k).toNat = x := ⟨_, rfl⟩
        have HXK := Lib.hid hxk
        have hdj : Hid (∀ h : j < (s.drop 1).length, (s.drop 1)[j].toNat = x) := Lib.hid fun h => by
          rw [← HXK.out, Ck.at_eq 0 s k hlt, List.getElem_drop]
          congr 2
          exact HKJ.out.symm
        have hj : Hid (j < (s.drop 1).length) := Lib.hid (by rw [HDL.out]; have := HKJ.out; omega)
        have bad : Hid (¬ (48 ≤ x ∧ x ≤ 57) → L.rNum s = (0, false)) := Lib.hid fun hb => L.rNum_no hn5.out fun _ e => by
          have h1 := ((L.q5_iff _).1 e).1 _ (List.getElem_mem hj.out)
          rw [L.isDig_iff, hdj.out hj.out] at h1
          exact hb h1
        obtain ⟨V, hV⟩ : ∃ V, V = L.val ((s.drop 1).take j) := ⟨_, rfl⟩
        rw [← hV] at hv ⊢
        have HV := Lib.hid hV
        clear hV
        by_cases c0 : x < 48
        · have hx := Lib.hid (bad.out (by omega))
          go_wp2_with (refine WL.out ?_; (repeat (first | (refine WL.op ?_ ?_; (exact rfl); intro K hK; (first | ((((with_reducible apply ow_move); exact rfl)); (go_simp <;> (try simp (disch := omega) only [wrap_id, sub_left, zac]) <;> rfl)) | ((with_reducible apply ow_char (k)); exact rfl; exact Tryz.underlying9; exact rfl; exact rfl; (focus (exact rfl)); (focus omega)) | ((with_reducible apply ow_eval); (go_simp <;> (try simp (disch := omega) only [wrap_id, sub_left, zac]) <;> rfl); ((with_reducible apply up_value)))); refine WL.next hK (by simp only [Act.put, zpt, zsz, zss]; exact rfl) ?_; clear hK K) | (refine WL.skip ?_ (by simp only [Act.put, zpt, zsz, zss]; exact rfl) ?_; ((simp [Region.wanted, yielded] <;> omega))))); (try refine WL.nil ?_))
          go_ret2
          exact ⟨NO.out hx.out, st.below⟩
        by_cases c1 : 57 < x
        · have hx := Lib.hid (bad.out (by omega))
          go_wp2_with (refine WL.out ?_; (repeat ((refine WL.op ?_ ?_; (first | exact rfl | (simp [Region.wanted, yielded] <;> omega)); intro K hK; (first | ((((with_reducible apply ow_move); exact rfl)); (go_simp <;> (try simp (disch := omega) only [wrap_id, sub_left, zac]) <;> rfl)) | ((with_reducible apply ow_char (k)); exact rfl; exact Tryz.underlying9; exact rfl; exact rfl; (focus (exact rfl)); (focus omega)) | ((with_reducible apply ow_eval); (go_simp <;> (try simp (disch := omega) only [wrap_id, sub_left, zac]) <;> rfl); ((with_reducible apply up_value)))); refine WL.next hK (by simp only [Act.put, zpt, zsz, zss]; exact rfl) ?_; clear hK K))); (try refine WL.nil ?_))
          go_ret2
          exact ⟨NO.out hx.out, st.below⟩
        have hst := Lib.hid (L.take_step hj.out (hdj.out hj.out) (by omega))
        have hd2 := Lib.hid (L.dig_step hj.out (hdj.out hj.out) hd.out (by omega) (by omega))
        have hw := HW8.out (x : Int) (by omega) (by omega)
        go_wp2_with (refine WL.out ?_; (repeat ((refine WL.op ?_ ?_; (first | exact rfl | (simp [Region.wanted, yielded] <;> omega)); intro K hK; (first | ((first | ((with_reducible apply ow_move); exact rfl) | ((with_reducible apply ow_assign); exact rfl)); (go_simp <;> (try simp (disch := omega) only [wrap_id, sub_left, zac]) <;> rfl)) | ((with_reducible apply ow_char (k)); exact rfl; exact Tryz.underlying9; exact rfl; exact rfl; (focus (exact rfl)); (focus omega)) | ((with_reducible apply ow_eval); (go_simp <;> (try simp (disch := omega) only [wrap_id, sub_left, zac]) <;> rfl); ((with_reducible apply up_value)))); refine WL.next hK (by simp only [Act.put, zpt, zsz, zss]; exact rfl) ?_; clear hK K))); (try refine WL.nil ?_))
        exact ⟨⟨j + 1, by have := HKJ.out; omega, by rw [HKJ.out]; go_num, by rw [hst.out, ← HV.out], hd2, st⟩, by simp [intOf]; omega⟩
      · have hle : Hid ((s.drop 1).take j = s.drop 1) := Lib.hid (List.take_of_length_le (by rw [HDL.out]; have := HKJ.out; omega))
        have hneg : Hid (L.rNum s = (-((L.val ((s.drop 1).take j) : Nat) : Int), true)) := Lib.hid (by
          rw [hle.out]
          refine L.rNum_neg hn5.out (by rw [L.head_at h0]; congr 1; exact UInt8.toNat_inj.1 (by rw [HX0.out]; rfl)) ((L.q5_iff _).2 ⟨?_, ?_, ?_, ?_⟩)
          · have h1 := hd.out
            rw [hle.out] at h1
            exact h1
          · rw [HDL.out]; omega
          · rw [HDL.out]; omega
          · rw [L.head_drop h2]
            intro e
            have e2 : Ck.at_ 0 s 1 = 48 := Option.some.inj e
            exact H48.out (by rw [← HX1.out, e2]; rfl))
        obtain ⟨V, hV⟩ : ∃ V, V = L.val ((s.drop 1).take j) := ⟨_, rfl⟩
        rw [← hV] at hv hneg ⊢
        clear hV
        go_wp2_with (refine WL.out ?_; (repeat ((refine WL.op ?_ ?_; (exact rfl); intro K hK; (first | ((((with_reducible apply ow_assign); exact rfl)); (go_simp <;> (try simp (disch := omega) only [wrap_id, sub_left, zac]) <;> rfl)) | ((with_reducible apply ow_eval); (go_simp <;> (try simp (disch := omega) only [wrap_id, sub_left, zac]) <;> rfl); ((with_reducible apply up_value)))); refine WL.next hK (by simp only [Act.put, zpt, zsz, zss]; exact rfl) ?_; clear hK K))); (try refine WL.nil ?_))
        go_ret2
        exact ⟨by rw [hneg.out]; rfl, st.below⟩
  · have i2 : ((x0 : Int) == 45) = false := by rw [beq_eq_false_iff_ne]; omega
    have hno : Hid (L.n5 s = false → L.rNum s = (0, false)) := Lib.hid fun h => L.rNum_no h fun e => by
      rw [L.head_at h0] at e
      have e2 : Ck.at_ 0 s 0 = 45 := Option.some.inj e
      exact absurd (hx0.symm.trans (by rw [e2]; rfl)) h45
    clear h45
    by_cases h5 : 5 < s.length
    · have hx := Lib.hid (hno.out (L.n5_long (.inr (.inl h5))))
      have h5' : (5 : Int) < (s.length : Int) := by omega
      clear h5
      go_enter Tryz.func87, Tryz.ntmps87
      go_wp2_with (refine WL.out ?_; (repeat (first | (refine WL.op ?_ ?_; (exact rfl); intro K hK; (first | ((((with_reducible apply ow_move); exact rfl)); (go_simp <;> (try simp (disch := omega) only [wrap_id, sub_left, zac]) <;> rfl)) | ((with_reducible apply ow_char (0)); exact rfl; exact Tryz.underlying9; exact rfl; exact rfl; (focus (exact rfl)); (focus omega)) | ((with_reducible apply ow_eval); (go_simp <;> (try simp (disch := omega) only [wrap_id, sub_left, zac]) <;> rfl); ((with_reducible apply up_value)))); refine WL.next hK (by simp only [Act.put, zpt, zsz, zss]; exact rfl) ?_; clear hK K) | (refine WL.skip ?_ (by simp only [Act.put, zpt, zsz, zss]; exact rfl) ?_; (exact rfl)))); (try refine WL.nil ?_))
      go_ret2
      exact ⟨NO.out hx.out, st.below⟩
    have h5' : ¬ (5 : Int) < (s.length : Int) := by omega
    by_cases hz : x0 = 48 ∧ 1 < s.length
    · obtain ⟨hz1, hz2⟩ := hz
      have hx := Lib.hid (hno.out (L.n5_long (.inr (.inr ⟨HX0.out.trans hz1, hz2⟩))))
      have i3 : ((x0 : Int) == 48) = true := by rw [hz1]; rfl
      have h1 : (1 : Int) < (s.length : Int) := by omega
      clear h5 hz2 hz1
      go_enter Tryz.func87, Tryz.ntmps87
      go_wp2_with (refine WL.out ?_; (repeat ((refine WL.op ?_ ?_; (exact rfl); intro K hK; (first | ((((with_reducible apply ow_move); exact rfl)); (go_simp <;> (try simp (disch := omega) only [wrap_id, sub_left, zac]) <;> rfl)) | ((with_reducible apply ow_char (0)); exact rfl; exact Tryz.underlying9; exact rfl; exact rfl; (focus (exact rfl)); (focus omega)) | ((with_reducible apply ow_eval); (go_simp <;> (try simp (disch := omega) only [wrap_id, sub_left, zac]) <;> rfl); ((with_reducible apply up_value)))); refine WL.next hK (by simp only [Act.put, zpt, zsz, zss]; exact rfl) ?_; clear hK K))); (try refine WL.nil ?_))
      go_ret2
      exact ⟨NO.out hx.out, st.below⟩
    have HZ : Hid (¬ ((Ck.at_ 0 s 0).toNat = 48 ∧ 1 < s.length)) := Lib.hid (by rw [HX0.out]; exact hz)
    have hcase : (x0 = 48 ∧ ¬ (1 : Int) < (s.length : Int)) ∨ ((x0 : Int) == 48) = false := by
      by_cases e : x0 = 48
      · exact .inl ⟨e, by have := fun q => hz ⟨e, q⟩; omega⟩
      · exact .inr (by rw [beq_eq_false_iff_ne]; omega)
    have H5 := Lib.hid h5
    clear hz h5
    rcases hcase with ⟨rfl, z2⟩ | z1
    all_goals
      go_enter Tryz.func87, Tryz.ntmps87
      go_wp2_with (refine WL.out ?_; (repeat (first | (refine WL.op ?_ ?_; (exact rfl); intro K hK; (first | ((((with_reducible apply ow_move); exact rfl)); (go_simp <;> (try simp (disch := omega) only [wrap_id, sub_left, zac]) <;> rfl)) | ((with_reducible apply ow_char (0)); exact rfl; exact Tryz.underlying9; exact rfl; exact rfl; (focus (exact rfl)); (focus omega)) | ((with_reducible apply ow_eval); (go_simp <;> (try simp (disch := omega) only [wrap_id, sub_left, zac]) <;> rfl); ((with_reducible apply up_value)))); refine WL.next hK (by simp only [Act.put, zpt, zsz, zss]; exact rfl) ?_; clear hK K) | (refine WL.skip ?_ (by simp only [Act.put, zpt, zsz, zss]; exact rfl) ?_; (exact rfl)))); (try refine WL.nil ?_))
      go_loopw [7, 8] (fun v i wr => ∃ k : Nat, k ≤ s.length ∧ i = .int .i64 (k : Int) ∧ v = .int .i64 (L.val (s.take k) : Nat) ∧ Hid (L.AllDig (s.take k)) ∧ St w wr []) (fun _ i _ => s.length - (intOf i).toNat)
      case atStart => exact ⟨0, by omega, rfl, rfl, Lib.hid (by intro c hc; simp at hc), st⟩
      case round =>
        clear st
        obtain ⟨k, hk, rfl, rfl, hd, st⟩ := hrel
        have hv := L.val_small hd.out (by have := H5.out; omega)
        by_cases hlt : k < s.length
        · obtain ⟨x, hxk⟩ : ∃ x, (Ck.at_ 0 s k).toNat = x := ⟨_, rfl⟩
          have HXK := Lib.hid hxk
          have hdj : Hid (s[k].toNat = x) := Lib.hid (by rw [← HXK.out, Ck.at_eq 0 s k hlt])
          have HLT := Lib.hid hlt
          obtain ⟨V, hV⟩ : ∃ V, V = L.val (s.take k) := ⟨_, rfl⟩
          rw [← hV] at hv ⊢
          have HV := Lib.hid hV
          clear hV
          by_cases c0 : x < 48
          · have hx := Lib.hid (hno.out (L.n5_no hlt (by rw [HXK.out]; omega)))
            go_wp2_with (refine WL.out ?_; (repeat (first | (refine WL.op ?_ ?_; (exact rfl); intro K hK; (first | ((((with_reducible apply ow_move); exact rfl)); (go_simp <;> (try simp (disch := omega) only [wrap_id, sub_left, zac]) <;> rfl)) | ((with_reducible apply ow_char (k)); exact rfl; exact Tryz.underlying9; exact rfl; exact rfl; (focus (exact rfl)); (focus omega)) | ((with_reducible apply ow_eval); (go_simp <;> (try simp (disch := omega) only [wrap_id, sub_left, zac]) <;> rfl); ((with_reducible apply up_value)))); refine WL.next hK (by simp only [Act.put, zpt, zsz, zss]; exact rfl) ?_; clear hK K) | (refine WL.skip ?_ (by simp only [Act.put, zpt, zsz, zss]; exact rfl) ?_; ((simp [Region.wanted, yielded] <;> omega))))); (try refine WL.nil ?_))
            go_ret2
            exact ⟨NO.out hx.out, st.below⟩
          by_cases c1 : 57 < x
          · have hx := Lib.hid (hno.out (L.n5_no hlt (by rw [HXK.out]; omega)))
            go_wp2_with (refine WL.out ?_; (repeat ((refine WL.op ?_ ?_; (first | exact rfl | (simp [Region.wanted, yielded] <;> omega)); intro K hK; (first | ((((with_reducible apply ow_move); exact rfl)); (go_simp <;> (try simp (disch := omega) only [wrap_id, sub_left, zac]) <;> rfl)) | ((with_reducible apply ow_char (k)); exact rfl; exact Tryz.underlying9; exact rfl; exact rfl; (focus (exact rfl)); (focus omega)) | ((with_reducible apply ow_eval); (go_simp <;> (try simp (disch := omega) only [wrap_id, sub_left, zac]) <;> rfl); ((with_reducible apply up_value)))); refine WL.next hK (by simp only [Act.put, zpt, zsz, zss]; exact rfl) ?_; clear hK K))); (try refine WL.nil ?_))
            go_ret2
            exact ⟨NO.out hx.out, st.below⟩
          have hst := Lib.hid (L.take_step HLT.out hdj.out (by omega))
          have hd2 := Lib.hid (L.dig_step HLT.out hdj.out hd.out (by omega) (by omega))
          have hw := HW8.out (x : Int) (by omega) (by omega)
          go_wp2_with (refine WL.out ?_; (repeat ((refine WL.op ?_ ?_; (first | exact rfl | (simp [Region.wanted, yielded] <;> omega)); intro K hK; (first | ((first | ((with_reducible apply ow_move); exact rfl) | ((with_reducible apply ow_assign); exact rfl)); (go_simp <;> (try simp (disch := omega) only [wrap_id, sub_left, zac]) <;> rfl)) | ((with_reducible apply ow_char (k)); exact rfl; exact Tryz.underlying9; exact rfl; exact rfl; (focus (exact rfl)); (focus omega)) | ((with_reducible apply ow_eval); (go_simp <;> (try simp (disch := omega) only [wrap_id, sub_left, zac]) <;> rfl); ((with_reducible apply up_value)))); refine WL.next hK (by simp only [Act.put, zpt, zsz, zss]; exact rfl) ?_; clear hK K))); (try refine WL.nil ?_))
          exact ⟨⟨k + 1, by omega, by go_num, by rw [hst.out, ← HV.out], hd2, st⟩, by simp [intOf]; omega⟩
        · have hle : s.take k = s := List.take_of_length_le (by omega)
          have hd2 := hd.out
          rw [hle] at hd2 ⊢
          have hx := Lib.hid (L.rNum_yes (L.n5_yes hd2 h0 (by have := H5.out; omega) HZ.out))
          clear hd hd2 hle
          go_wp2_with (refine WL.out ?_; (repeat ((refine WL.op ?_ ?_; (exact rfl); intro K hK; (((with_reducible apply ow_eval); (go_simp <;> (try simp (disch := omega) only [wrap_id, sub_left, zac]) <;> rfl); ((with_reducible apply up_value)))); refine WL.next hK (by simp only [Act.put, zpt, zsz, zss]; exact rfl) ?_; clear hK K))); (try refine WL.nil ?_))
          go_ret2
          exact ⟨by rw [hx.out]; rfl, st.below⟩
end Go.Proofs.YtgcjejajljhnaaaGreatDoor
namespace Go.Proofs.YtgcjejajljhnaaaGreatDoor
open Go.RowKit Go.Hp
namespace L
def fmtF (k r i : Int) : List UInt8 := Lib.itoa k ++ [32] ++ Lib.itoa r ++ [32] ++ Lib.itoa i
def parseF (s : List UInt8) : (Int × Int × Int) × Int :=
  match cutL 32 s with
  | [a, b, c] => if n5 a && (n5 b && n5 c) then (if (11 : Int) ≤ (val a : Nat) then ((0, 0, 0), 15) else (((val a : Nat), (val b : Nat), (val c : Nat)), 0)) else ((0, 0, 0), 7)
  | _ => ((0, 0, 0), 7)
theorem itoa_len {n : Int} (h0 : -9223372036854775808 ≤ n) (h1 : n ≤ 9223372036854775807) : (Lib.itoa n).length ≤ 21 := by
  by_cases hz : n = 0
  · subst hz
    rw [show ((0 : Int)) = ((0 : Nat) : Int) from rfl, itoa_nat, dd_small (by decide)]
    simp
  · have := ddz_len n.natAbs (by omega)
    by_cases hn : n < 0
    · rw [itoa_neg hn]; simp only [List.length_cons]; omega
    · rw [itoa_pos (by omega)]; omega
end L
theorem results_cell {fn : Func} {a u : Tmp} {t : TypeId} (h : fn.results = #[.cell a t, .tmp u]) (tmps : Array Value) (P : Program) (w : World) {b : Nat} {v : Value} (ha : tmps.getD a undef = .pointer (some ⟨b, 0, none⟩)) (hl : (loadVar t ⟨b, 0, none⟩).run P w = .ok v w) : (results fn tmps).run P w = .ok (.tuple #[v, tmps.getD u undef]) w := by
  rw [Array.getD_eq_getD_getElem?] at ha
  simp [results, h, ha, hl, asAddr]
theorem load_cells {P : Program} {t n : Nat} [hT : AggT P t n] {b : Nat} {vs : List Value} {w : World} (hn : vs.length = n) (hc : OldC w b 0 vs) : (loadVar t ⟨b, 0, none⟩).run P w = .ok (.agg vs.toArray) w := by
  have h := run_loadN (P := P) (t := t) (w := w) (b := b) (o := 0) (vs := vs) hn hc
  simpa [Instr.loadAt, Instr.sureAddr] using h
theorem Yphi.cat {P : Program} {ops : Array Oper} {o : Oper} {a : Act} {w : World} {t ty : TypeId} {x y : Operand} {l m : List UInt8} (hw : Region.wanted o (yielded ops a.tmps) = true) (ho : o.op = .binOp .add t x y ty) (hx : a.eval x = .string ⟨l.toArray⟩) (hy : a.eval y = .string ⟨m.toArray⟩) (hlen : (l ++ m).length ≤ 1000000000) :
    Yphi P ops o a w (isV (.string ⟨(l ++ m).toArray⟩)) :=
  .inl ⟨hw, (ow_cat ho hx hy hlen ⟨_, rfl, Below.refl _ _, rfl⟩).out⟩
set_option maxHeartbeats 1000000 in
theorem FormatFinding_any (k r i : Int) (w : World) (hE : Env w) (k0 : -9223372036854775808 ≤ k) (k1 : k ≤ 9223372036854775807) (r0 : -9223372036854775808 ≤ r) (r1 : r ≤ 9223372036854775807) (i0 : -9223372036854775808 ≤ i) (i1 : i ≤ 9223372036854775807) :
    Calls Tryz.prog 41 #[.agg #[.int .i64 k, .int .i64 r, .int .i64 i]] w fun e w' => e = .returned (.string ⟨(L.fmtF k r i).toArray⟩) ∧ Below w.heap.size w w' := by
  have HE := Lib.hid hE
  clear hE
  have lk := L.itoa_len k0 k1
  have lr := L.itoa_len r0 r1
  have li := L.itoa_len i0 i1
  have st := St.start w
  go_enter Tryz.func41, Tryz.ntmps41
  go_wp2_with (refine WL.out ?_; (repeat ((refine WL.op ?_ ?_; (exact rfl); intro K hK; (first | ((((with_reducible apply ow_assign); exact rfl)); (go_simp <;> (try simp (disch := omega) only [wrap_id, sub_left, zac]) <;> rfl)) | ((((with_reducible apply ow_box st); exact rfl; (go_simp <;> (try simp (disch := omega) only [wrap_id, sub_left, zac]) <;> rfl); (go_simp <;> (try simp (disch := omega) only [wrap_id, sub_left, zac]) <;> rfl))); (try clear st); intro b w' st)); refine WL.next hK (by simp only [Act.put, zpt, zsz, zss]; exact rfl) ?_; clear hK K))); (try refine WL.nil ?_))
  refine wp_region_plan 13 (by kernel_rfl) (by kernel_rfl) ?_; replace st := st.drew; generalize World.drew _ = W at st ⊢
  (apply Plan.val'; (focus (intro x0 x1 x2 x3 x4 x5 x6 x7 x8 x9 xa xb xc w1 hb; (try simp only [depF, fillA, Act.put, zta, ztz, zpt, zsz, zss, zl0, zls]); (repeat (fail)); have st := st.call hb; ((apply Yphi.run; (exact rfl); (go_simp <;> (try simp (disch := omega) only [wrap_id, sub_left, zac]) <;> rfl); exact rfl)))); (simp only [zca, zcn] <;> exact rfl))
  (apply Plan.val'; (focus (intro x0 x1 x2 x3 x4 x5 x6 x7 x8 x9 xa xb xc w1 hb; (try simp only [depF, fillA, Act.put, zta, ztz, zpt, zsz, zss, zl0, zls]); (repeat (rintro rfl)); have st := st.call hb; ((apply Yphi.load1 st; exact rfl; exact inferInstance; (exact rfl); exact rfl; (exact get0); exact rfl)))); (simp only [zca, zcn] <;> exact rfl))
  (apply Plan.val'; (focus (intro x0 x1 x2 x3 x4 x5 x6 x7 x8 x9 xa xb xc w1 hb; (try simp only [depF, fillA, Act.put, zta, ztz, zpt, zsz, zss, zl0, zls]); (repeat (rintro rfl)); have st := st.call hb; apply Yphi.call; (exact rfl); (go_simp <;> (try simp (disch := omega) only [wrap_id, sub_left, zac]) <;> rfl); exact rfl; refine (itoa_env (HE.out.later st.below) k k0 k1).mono ?_; rintro e w' ⟨rfl, hb'⟩; exact ⟨_, rfl, hb', rfl⟩)); (simp only [zca, zcn] <;> exact rfl))
  (apply Plan.val'; (focus (intro x0 x1 x2 x3 x4 x5 x6 x7 x8 x9 xa xb xc w1 hb; (try simp only [depF, fillA, Act.put, zta, ztz, zpt, zsz, zss, zl0, zls]); (repeat (rintro rfl)); have st := st.call hb; apply Yphi.cat; (exact rfl); exact rfl; exact rfl; exact rfl; (focus (simp only [List.length_append, List.length_cons, List.length_nil]; omega)))); (simp only [zca, zcn] <;> exact rfl))
  (apply Plan.val'; (focus (intro x0 x1 x2 x3 x4 x5 x6 x7 x8 x9 xa xb xc w1 hb; (try simp only [depF, fillA, Act.put, zta, ztz, zpt, zsz, zss, zl0, zls]); (repeat (fail)); have st := st.call hb; ((apply Yphi.run; (exact rfl); (go_simp <;> (try simp (disch := omega) only [wrap_id, sub_left, zac]) <;> rfl); exact rfl)))); (simp only [zca, zcn] <;> exact rfl))
  (apply Plan.val'; (focus (intro x0 x1 x2 x3 x4 x5 x6 x7 x8 x9 xa xb xc w1 hb; (try simp only [depF, fillA, Act.put, zta, ztz, zpt, zsz, zss, zl0, zls]); (repeat (rintro rfl)); have st := st.call hb; ((apply Yphi.load1 st; exact rfl; exact inferInstance; (exact rfl); exact rfl; (exact get0); exact rfl)))); (simp only [zca, zcn] <;> exact rfl))
  (apply Plan.val'; (focus (intro x0 x1 x2 x3 x4 x5 x6 x7 x8 x9 xa xb xc w1 hb; (try simp only [depF, fillA, Act.put, zta, ztz, zpt, zsz, zss, zl0, zls]); (repeat (rintro rfl)); have st := st.call hb; apply Yphi.call; (exact rfl); (go_simp <;> (try simp (disch := omega) only [wrap_id, sub_left, zac]) <;> rfl); exact rfl; refine (itoa_env (HE.out.later st.below) r r0 r1).mono ?_; rintro e w' ⟨rfl, hb'⟩; exact ⟨_, rfl, hb', rfl⟩)); (simp only [zca, zcn] <;> exact rfl))
  (apply Plan.val'; (focus (intro x0 x1 x2 x3 x4 x5 x6 x7 x8 x9 xa xb xc w1 hb; (try simp only [depF, fillA, Act.put, zta, ztz, zpt, zsz, zss, zl0, zls]); (repeat (rintro rfl)); have st := st.call hb; apply Yphi.cat; (exact rfl); exact rfl; exact rfl; exact rfl; (focus (simp only [List.length_append, List.length_cons, List.length_nil]; omega)))); (simp only [zca, zcn] <;> exact rfl))
  (apply Plan.val'; (focus (intro x0 x1 x2 x3 x4 x5 x6 x7 x8 x9 xa xb xc w1 hb; (try simp only [depF, fillA, Act.put, zta, ztz, zpt, zsz, zss, zl0, zls]); (repeat (rintro rfl)); have st := st.call hb; apply Yphi.cat; (exact rfl); exact rfl; exact rfl; exact rfl; (focus (simp only [List.length_append, List.length_cons, List.length_nil]; omega)))); (simp only [zca, zcn] <;> exact rfl))
  (apply Plan.val'; (focus (intro x0 x1 x2 x3 x4 x5 x6 x7 x8 x9 xa xb xc w1 hb; (try simp only [depF, fillA, Act.put, zta, ztz, zpt, zsz, zss, zl0, zls]); (repeat (fail)); have st := st.call hb; ((apply Yphi.run; (exact rfl); (go_simp <;> (try simp (disch := omega) only [wrap_id, sub_left, zac]) <;> rfl); exact rfl)))); (simp only [zca, zcn] <;> exact rfl))
  (apply Plan.val'; (focus (intro x0 x1 x2 x3 x4 x5 x6 x7 x8 x9 xa xb xc w1 hb; (try simp only [depF, fillA, Act.put, zta, ztz, zpt, zsz, zss, zl0, zls]); (repeat (rintro rfl)); have st := st.call hb; ((apply Yphi.load1 st; exact rfl; exact inferInstance; (exact rfl); exact rfl; (exact get0); exact rfl)))); (simp only [zca, zcn] <;> exact rfl))
  (apply Plan.val'; (focus (intro x0 x1 x2 x3 x4 x5 x6 x7 x8 x9 xa xb xc w1 hb; (try simp only [depF, fillA, Act.put, zta, ztz, zpt, zsz, zss, zl0, zls]); (repeat (rintro rfl)); have st := st.call hb; apply Yphi.call; (exact rfl); (go_simp <;> (try simp (disch := omega) only [wrap_id, sub_left, zac]) <;> rfl); exact rfl; refine (itoa_env (HE.out.later st.below) i i0 i1).mono ?_; rintro e w' ⟨rfl, hb'⟩; exact ⟨_, rfl, hb', rfl⟩)); (simp only [zca, zcn] <;> exact rfl))
  (apply Plan.val'; (focus (intro x0 x1 x2 x3 x4 x5 x6 x7 x8 x9 xa xb xc w1 hb; (try simp only [depF, fillA, Act.put, zta, ztz, zpt, zsz, zss, zl0, zls]); (repeat (rintro rfl)); have st := st.call hb; apply Yphi.cat; (exact rfl); exact rfl; exact rfl; exact rfl; (focus (simp only [List.length_append, List.length_cons, List.length_nil]; omega)))); (simp only [zca, zcn] <;> exact rfl))
  intro x0 x1 x2 x3 x4 x5 x6 x7 x8 x9 xa xb xc lo hi w1 hb hap
  rintro rfl rfl rfl rfl rfl rfl rfl rfl rfl rfl rfl rfl rfl
  simp only [allPhi, fillA, Act.put, zta, ztz, zpt, zsz, zss, zda, zdz]
  have st := st.call hb
  clear hap hb
  go_wp2_with (refine WL.out ?_; (repeat (fail)); (try refine WL.nil ?_))
  go_ret
  exact ⟨rfl, st.below⟩
set_option maxHeartbeats 1000000 in
theorem rFormat_any (k r i : Int) (w : World) (k0 : -9223372036854775808 ≤ k) (k1 : k ≤ 9223372036854775807) (r0 : -9223372036854775808 ≤ r) (r1 : r ≤ 9223372036854775807) (i0 : -9223372036854775808 ≤ i) (i1 : i ≤ 9223372036854775807) :
    Calls Tryz.prog 42 #[.agg #[.int .i64 k, .int .i64 r, .int .i64 i]] w fun e w' => e = .returned (.string ⟨(L.fmtF k r i).toArray⟩) ∧ Below w.heap.size w w' := by
  have lk := L.itoa_len k0 k1
  have lr := L.itoa_len r0 r1
  have li := L.itoa_len i0 i1
  have st := St.start w
  go_enter Tryz.func42, Tryz.ntmps42
  go_wp2_with (refine WL.out ?_; (repeat ((refine WL.op ?_ ?_; (exact rfl); intro K hK; (first | ((((with_reducible apply ow_assign); exact rfl)); (go_simp <;> (try simp (disch := omega) only [wrap_id, sub_left, zac]) <;> rfl)) | ((((with_reducible apply ow_box st); exact rfl; (go_simp <;> (try simp (disch := omega) only [wrap_id, sub_left, zac]) <;> rfl); (go_simp <;> (try simp (disch := omega) only [wrap_id, sub_left, zac]) <;> rfl))); (try clear st); intro b w' st)); refine WL.next hK (by simp only [Act.put, zpt, zsz, zss]; exact rfl) ?_; clear hK K))); (try refine WL.nil ?_))
  refine wp_region_plan 13 (by kernel_rfl) (by kernel_rfl) ?_; replace st := st.drew; generalize World.drew _ = W at st ⊢
  (apply Plan.val'; (focus (intro x0 x1 x2 x3 x4 x5 x6 x7 x8 x9 xa xb xc w1 hb; (try simp only [depF, fillA, Act.put, zta, ztz, zpt, zsz, zss, zl0, zls]); (repeat (fail)); have st := st.call hb; ((apply Yphi.run; (exact rfl); (go_simp <;> (try simp (disch := omega) only [wrap_id, sub_left, zac]) <;> rfl); exact rfl)))); (simp only [zca, zcn] <;> exact rfl))
  (apply Plan.val'; (focus (intro x0 x1 x2 x3 x4 x5 x6 x7 x8 x9 xa xb xc w1 hb; (try simp only [depF, fillA, Act.put, zta, ztz, zpt, zsz, zss, zl0, zls]); (repeat (rintro rfl)); have st := st.call hb; ((apply Yphi.load1 st; exact rfl; exact inferInstance; (exact rfl); exact rfl; (exact get0); exact rfl)))); (simp only [zca, zcn] <;> exact rfl))
  (apply Plan.val'; (focus (intro x0 x1 x2 x3 x4 x5 x6 x7 x8 x9 xa xb xc w1 hb; (try simp only [depF, fillA, Act.put, zta, ztz, zpt, zsz, zss, zl0, zls]); (repeat (rintro rfl)); have st := st.call hb; apply Yphi.call; (exact rfl); (go_simp <;> (try simp (disch := omega) only [wrap_id, sub_left, zac]) <;> rfl); exact rfl; refine (Decimal_any k _ k0 k1).mono ?_; rintro e w' ⟨rfl, hb'⟩; exact ⟨_, rfl, hb', rfl⟩)); (simp only [zca, zcn] <;> exact rfl))
  (apply Plan.val'; (focus (intro x0 x1 x2 x3 x4 x5 x6 x7 x8 x9 xa xb xc w1 hb; (try simp only [depF, fillA, Act.put, zta, ztz, zpt, zsz, zss, zl0, zls]); (repeat (rintro rfl)); have st := st.call hb; apply Yphi.cat; (exact rfl); exact rfl; exact rfl; exact rfl; (focus (simp only [List.length_append, List.length_cons, List.length_nil]; omega)))); (simp only [zca, zcn] <;> exact rfl))
  (apply Plan.val'; (focus (intro x0 x1 x2 x3 x4 x5 x6 x7 x8 x9 xa xb xc w1 hb; (try simp only [depF, fillA, Act.put, zta, ztz, zpt, zsz, zss, zl0, zls]); (repeat (fail)); have st := st.call hb; ((apply Yphi.run; (exact rfl); (go_simp <;> (try simp (disch := omega) only [wrap_id, sub_left, zac]) <;> rfl); exact rfl)))); (simp only [zca, zcn] <;> exact rfl))
  (apply Plan.val'; (focus (intro x0 x1 x2 x3 x4 x5 x6 x7 x8 x9 xa xb xc w1 hb; (try simp only [depF, fillA, Act.put, zta, ztz, zpt, zsz, zss, zl0, zls]); (repeat (rintro rfl)); have st := st.call hb; ((apply Yphi.load1 st; exact rfl; exact inferInstance; (exact rfl); exact rfl; (exact get0); exact rfl)))); (simp only [zca, zcn] <;> exact rfl))
  (apply Plan.val'; (focus (intro x0 x1 x2 x3 x4 x5 x6 x7 x8 x9 xa xb xc w1 hb; (try simp only [depF, fillA, Act.put, zta, ztz, zpt, zsz, zss, zl0, zls]); (repeat (rintro rfl)); have st := st.call hb; apply Yphi.call; (exact rfl); (go_simp <;> (try simp (disch := omega) only [wrap_id, sub_left, zac]) <;> rfl); exact rfl; refine (Decimal_any r _ r0 r1).mono ?_; rintro e w' ⟨rfl, hb'⟩; exact ⟨_, rfl, hb', rfl⟩)); (simp only [zca, zcn] <;> exact rfl))
  (apply Plan.val'; (focus (intro x0 x1 x2 x3 x4 x5 x6 x7 x8 x9 xa xb xc w1 hb; (try simp only [depF, fillA, Act.put, zta, ztz, zpt, zsz, zss, zl0, zls]); (repeat (rintro rfl)); have st := st.call hb; apply Yphi.cat; (exact rfl); exact rfl; exact rfl; exact rfl; (focus (simp only [List.length_append, List.length_cons, List.length_nil]; omega)))); (simp only [zca, zcn] <;> exact rfl))
  (apply Plan.val'; (focus (intro x0 x1 x2 x3 x4 x5 x6 x7 x8 x9 xa xb xc w1 hb; (try simp only [depF, fillA, Act.put, zta, ztz, zpt, zsz, zss, zl0, zls]); (repeat (rintro rfl)); have st := st.call hb; apply Yphi.cat; (exact rfl); exact rfl; exact rfl; exact rfl; (focus (simp only [List.length_append, List.length_cons, List.length_nil]; omega)))); (simp only [zca, zcn] <;> exact rfl))
  (apply Plan.val'; (focus (intro x0 x1 x2 x3 x4 x5 x6 x7 x8 x9 xa xb xc w1 hb; (try simp only [depF, fillA, Act.put, zta, ztz, zpt, zsz, zss, zl0, zls]); (repeat (fail)); have st := st.call hb; ((apply Yphi.run; (exact rfl); (go_simp <;> (try simp (disch := omega) only [wrap_id, sub_left, zac]) <;> rfl); exact rfl)))); (simp only [zca, zcn] <;> exact rfl))
  (apply Plan.val'; (focus (intro x0 x1 x2 x3 x4 x5 x6 x7 x8 x9 xa xb xc w1 hb; (try simp only [depF, fillA, Act.put, zta, ztz, zpt, zsz, zss, zl0, zls]); (repeat (rintro rfl)); have st := st.call hb; ((apply Yphi.load1 st; exact rfl; exact inferInstance; (exact rfl); exact rfl; (exact get0); exact rfl)))); (simp only [zca, zcn] <;> exact rfl))
  (apply Plan.val'; (focus (intro x0 x1 x2 x3 x4 x5 x6 x7 x8 x9 xa xb xc w1 hb; (try simp only [depF, fillA, Act.put, zta, ztz, zpt, zsz, zss, zl0, zls]); (repeat (rintro rfl)); have st := st.call hb; apply Yphi.call; (exact rfl); (go_simp <;> (try simp (disch := omega) only [wrap_id, sub_left, zac]) <;> rfl); exact rfl; refine (Decimal_any i _ i0 i1).mono ?_; rintro e w' ⟨rfl, hb'⟩; exact ⟨_, rfl, hb', rfl⟩)); (simp only [zca, zcn] <;> exact rfl))
  (apply Plan.val'; (focus (intro x0 x1 x2 x3 x4 x5 x6 x7 x8 x9 xa xb xc w1 hb; (try simp only [depF, fillA, Act.put, zta, ztz, zpt, zsz, zss, zl0, zls]); (repeat (rintro rfl)); have st := st.call hb; apply Yphi.cat; (exact rfl); exact rfl; exact rfl; exact rfl; (focus (simp only [List.length_append, List.length_cons, List.length_nil]; omega)))); (simp only [zca, zcn] <;> exact rfl))
  intro x0 x1 x2 x3 x4 x5 x6 x7 x8 x9 xa xb xc lo hi w1 hb hap
  rintro rfl rfl rfl rfl rfl rfl rfl rfl rfl rfl rfl rfl rfl
  simp only [allPhi, fillA, Act.put, zta, ztz, zpt, zsz, zss, zda, zdz]
  have st := st.call hb
  clear hap hb
  go_wp2_with (refine WL.out ?_; (repeat (fail)); (try refine WL.nil ?_))
  go_ret
  exact ⟨rfl, st.below⟩
end Go.Proofs.YtgcjejajljhnaaaGreatDoor
namespace Ck
open Go Go.RowKit Go.Hp
theorem VRc.Fit.of_p {x y : VRc} (h : x.p = y.p) (hy : y.Fit) : x.Fit := by
  have h1 : x.ns = y.ns := congrArg Rc.ns h
  have h2 : x.ss.map VSm.p = y.ss.map VSm.p := congrArg Rc.ss h
  have h3 : x.es = y.es := congrArg Rc.es h
  refine ⟨by rw [h1]; exact hy.ns, by have := congrArg List.length h2; rw [List.length_map, List.length_map] at this; rw [this]; exact hy.ss, by rw [h3]; exact hy.es, fun s hs => ?_, by rw [h1]; exact hy.nl, by rw [h3]; exact hy.el⟩
  have hm : s.p ∈ y.ss.map VSm.p := by rw [← h2]; exact List.mem_map_of_mem hs
  obtain ⟨s', hs', he⟩ := List.mem_map.1 hm
  have hr : s'.r = s.r := congrArg Sm.r he
  rw [← hr]; exact hy.rr s' hs'
theorem VPt.Fit.of_p {v v' : VPt} (h : v.p = v'.p) (hv : v'.Fit) : v.Fit := by
  have h1 : v.al = v'.al := congrArg Pt.al h
  have h2 : v.rs.map VRc.p = v'.rs.map VRc.p := congrArg Pt.rs h
  have h3 : v.ds = v'.ds := congrArg Pt.ds h
  refine ⟨by rw [h1]; exact hv.al, by have := congrArg List.length h2; rw [List.length_map, List.length_map] at this; rw [this]; exact hv.rs, fun x hx => ?_, by rw [h3]; exact hv.ds⟩
  have hm : x.p ∈ v'.rs.map VRc.p := by rw [← h2]; exact List.mem_map_of_mem hx
  obtain ⟨y, hy, he⟩ := List.mem_map.1 hm
  exact VRc.Fit.of_p he.symm (hv.rcs y hy)
def VPt.res (v : VPt) : List Res := rowRc v.Ar v.cr v.rs :: rowInt v.Ad v.cd v.ds :: rowRun v.Aa v.ca v.al :: deep v.rs
theorem VPt.at_own {w0 w : World} {rs : List Res} {v : VPt} (st : St w0 w rs) (h : ∀ r ∈ v.res, r ∈ rs) : v.At w w.heap.size :=
  VPt.at_of st (h _ (List.mem_cons_self ..)) (h _ (List.mem_cons_of_mem _ (List.mem_cons_of_mem _ (List.mem_cons_self ..)))) (h _ (List.mem_cons_of_mem _ (List.mem_cons_self ..)))
    fun r hr => h r (List.mem_cons_of_mem _ (List.mem_cons_of_mem _ (List.mem_cons_of_mem _ hr)))
end Ck
namespace Go.Proofs.YtgcjejajljhnaaaGreatDoor
open Go.RowKit Go.Hp
section
variable {w0 w : World}
theorem perm_in (a : Res) (X T D : List Res) : List.Perm (a :: (X ++ (T ++ D))) (X ++ ((T ++ [a]) ++ D)) := by
  have := (List.perm_middle (l₁ := X ++ T) (l₂ := D) (a := a)).symm
  simpa [List.append_assoc] using this
theorem St.record {x : Ck.VRc} {us : List Ck.VRc} {b5 : Res} {H : List Res}
    (st : St w0 w (.row 80 2 (.slice x.As x.ss.length x.cs) x.ss.length (El.all x.ss) :: .row 73 4 (.slice x.Ae x.es.length x.ce) x.es.length (El.all x.es) :: .row 71 3 (.slice x.An x.ns.length x.cn) x.ns.length (El.all x.ns) :: b5 :: (H ++ (x.ss.map Ck.VSm.res ++ Ck.deep us)))) :
    St w0 w (H ++ Ck.deep (us ++ [x])) := by
  have s1 := (St.own st).perm (List.Perm.swap _ _ _)
  have s2 := (St.own s1).perm (List.perm_middle (l₁ := [_, _]))
  have s3 := St.own s2
  have s4 := s3.perm (List.perm_middle (l₁ := [_, _, _])) |>.tail
  refine s4.perm ?_
  rw [Ck.deep_append, show Ck.deep [x] = x.res by unfold Ck.deep; simp]
  unfold Ck.VRc.res
  show List.Perm ([_, _, _] ++ (H ++ (x.ss.map Ck.VSm.res ++ Ck.deep us))) (H ++ (Ck.deep us ++ ([_, _, _] ++ x.ss.map Ck.VSm.res)))
  refine List.perm_append_comm.trans ?_
  rw [List.append_assoc]
  refine List.Perm.append_left H ?_
  rw [List.append_assoc]
  refine List.perm_append_comm.trans ?_
  rw [List.append_assoc]
end
theorem results_cell1 {fn : Func} {a : Tmp} {t : TypeId} (h : fn.results = #[.cell a t]) (tmps : Array Value) (P : Program) (w : World) {b : Nat} {v : Value} (ha : tmps.getD a undef = .pointer (some ⟨b, 0, none⟩)) (hl : (loadVar t ⟨b, 0, none⟩).run P w = .ok v w) : (results fn tmps).run P w = .ok v w := by
  rw [Array.getD_eq_getD_getElem?] at ha
  simp [results, h, ha, hl, asAddr]
def runSt (W : World) (l : List Ck.Run) : Phi := fun _ _ v w => ∃ A c, v = .slice A l.length c ∧ St W w [Ck.rowRun A c l]
theorem runSt_stable (W : World) (l : List Ck.Run) : (runSt W l).stable := by
  rintro lo hi v w1 w2 hb hh ⟨A, c, rfl, h⟩
  exact ⟨A, c, rfl, h.call hb⟩
def smSt (W : World) (l : List Ck.Run) (z : Int) : Phi := fun _ _ v w => ∃ A c, v = .agg #[.slice A l.length c, .int .i64 z] ∧ St W w [Ck.rowRun A c l]
theorem smSt_stable (W : World) (l : List Ck.Run) (z : Int) : (smSt W l z).stable := by
  rintro lo hi v w1 w2 hb hh ⟨A, c, rfl, h⟩
  exact ⟨A, c, rfl, h.call hb⟩
def smBox (W : World) (l : List Ck.Run) (z : Int) : Phi := fun _ _ v w => ∃ (b : Nat) (A : Option Addr) (c : Nat), v = .slice (some ⟨b, 0, none⟩) 1 1 ∧ St W w [.box b 80 [.slice A l.length c, .int .i64 z], Ck.rowRun A c l]
theorem smBox_stable (W : World) (l : List Ck.Run) (z : Int) : (smBox W l z).stable := by
  rintro lo hi v w1 w2 hb hh ⟨b, A, c, rfl, h⟩
  exact ⟨b, A, c, rfl, h.call hb⟩
section
variable {P : Program} {ops : Array Oper} {o : Oper} {a : Act} {w W : World} {rs : List Res}
theorem Yphi.sliceOver {φ : Phi} {t : TypeId} {m : Nat} {cs : List Value} {T : TypeId} {ps : Array (Nat × Operand)} {r : Result Next} (hst : St W w rs) (hw : Region.wanted o (yielded ops a.tmps) = true) (ho : o.op = .buildSlice T m ps) (hr : (execOp a.eval o).run P w = r) (hv : r = .ok (.value (.slice (some ⟨w.heap.size, 0, none⟩) m m)) (w.alloc (.cells cs.toArray t)))
    (hφ : ∀ b w', St W w' (.box b t cs :: rs) → φ w.heap.size w'.heap.size (.slice (some ⟨b, 0, none⟩) m m) w') : Yphi P ops o a w φ :=
  .inl ⟨hw, wp_newSlice (St.start w) ho hr hv fun b w' st' => ⟨_, rfl, st'.below, hφ b w' (hst.join st')⟩⟩
end
set_option maxRecDepth 8000 in
set_option maxHeartbeats 4000000 in
theorem Copy_any (v : Ck.VPt) (B : Nat) (w : World) (h : v.At w B) (hB : B ≤ w.heap.size) (hf : v.Fit) :
    Calls Tryz.prog 13 #[v.val] w fun e w' => ∃ v2 : Ck.VPt, e = .returned v2.val ∧ v2.p = v.p ∧ St w w' v2.res := by
  have H := Lib.hid h
  have HF := Lib.hid hf
  clear h hf
  obtain ⟨c, al, rs, ds, mp, Aa, ca, Ar, cr, Ad, cd⟩ := v
  unfold Ck.VPt.val
  simp only at *
  have HA : Hid (∀ W, Below w.heap.size w W → Calls Tryz.prog 48 #[.slice Aa al.length ca] W fun e w' => ∃ A' c', e = .returned (.slice A' al.length c') ∧ St W w' [Ck.rowRun A' c' al]) := Lib.hid fun W hb => CopyRuns_any Aa ca B al W (H.out.al.below hb hB) (Nat.le_trans hB hb.size) HF.out.al
  have HD : Hid (∀ W, Below w.heap.size w W → Calls Tryz.prog 49 #[.slice Ad ds.length cd] W fun e w' => ∃ A' c', e = .returned (.slice A' ds.length c') ∧ St W w' [Ck.rowInt A' c' ds]) := Lib.hid fun W hb => CopyInts_any Ad cd B ds W (H.out.ds.below hb hB) (Nat.le_trans hB hb.size) HF.out.ds
  obtain ⟨na, e1⟩ : ∃ n, n = al.length := ⟨_, rfl⟩
  obtain ⟨nr, e2⟩ : ∃ n, n = rs.length := ⟨_, rfl⟩
  obtain ⟨nd, e3⟩ : ∃ n, n = ds.length := ⟨_, rfl⟩
  have E1 := Lib.hid e1
  have E2 := Lib.hid e2
  have E3 := Lib.hid e3
  rw [← e1] at HA
  rw [← e3] at HD
  rw [← e1, ← e2, ← e3]
  clear e1 e2 e3
  have hn2 : nr ≤ 100000 := by rw [E2.out]; exact HF.out.rs
  have st := St.start w
  go_enter Tryz.func13, Tryz.ntmps13
  go_upto_region 1 with (refine WL.out ?_; (repeat ((refine WL.op ?_ ?_; (exact rfl); intro K hK; (((first | ((with_reducible apply ow_box st); exact rfl; (go_simp <;> (try simp (disch := omega) only [wrap_id, sub_left, zac]) <;> rfl); (go_simp <;> (try simp (disch := omega) only [wrap_id, sub_left, zac]) <;> rfl)) | ((with_reducible apply ow_alloc st); exact rfl; exact inferInstance; (go_simp <;> (try simp (disch := omega) only [wrap_id, sub_left, zac]) <;> rfl))); (try clear st); intro b w' st)); refine WL.next hK (by simp only [Act.put, zpt, zsz, zss]; exact rfl) ?_; clear hK K))); (try refine WL.nil ?_))
  obtain ⟨b2, rfl⟩ : ∃ x, x = b := ⟨_, rfl⟩
  obtain ⟨b1, rfl⟩ : ∃ x, x = b := ⟨_, rfl⟩
  go_wp2_with (refine WL.out ?_; (repeat ((refine WL.op ?_ ?_; (exact rfl); intro K hK; (first | ((first | ((with_reducible apply ow_load1 st); exact rfl; exact inferInstance; exact rfl; (first | exact get2 | exact get3)) | ((with_reducible apply ow_loadN st); exact rfl; exact inferInstance; exact rfl; (exact get1); ((try simp only [zta, ztz, zda, zdz, zca, zcn, zan, zsz, zss]) <;> exact rfl))); exact rfl) | ((((with_reducible apply ow_alloc st); exact rfl; exact inferInstance; (go_simp <;> (try simp (disch := omega) only [wrap_id, sub_left, zac]) <;> rfl))); (try clear st); intro b w' st) | ((first | ((with_reducible apply ow_store1' st); exact rfl; exact inferInstance; exact rfl; (first | exact get1 | exact get2); (go_simp <;> (try simp (disch := omega) only [wrap_id, sub_left, zac]) <;> rfl)) | ((with_reducible apply ow_storeN' st); exact rfl; exact inferInstance; exact rfl; (exact get0); exact rfl)); exact rfl; exact rfl; (simp <;> done); ((try simp only [zta, ztz, zda, zdz, zca, zcn, zan, zsz, zss]) <;> exact rfl); (try clear st); intro w' st) | ((with_reducible apply ow_eval); (go_simp <;> (try simp (disch := omega) only [wrap_id, sub_left, zac]) <;> rfl); first | (with_reducible apply up_value) | ((with_reducible apply up_enter); first | (go_at_call 48; refine (HA.out _ st.below).mono ?_; rintro e5 w' ⟨Aa', ca', rfl, st'⟩; replace st := st.join st'; clear st'; simp only [List.cons_append, List.nil_append] at st; refine ⟨_, rfl, ?_⟩) | (go_at_call 49; refine (HD.out _ st.below).mono ?_; rintro e5 w' ⟨Ad', cd', rfl, st'⟩; replace st := st.join st'; clear st'; simp only [List.cons_append, List.nil_append] at st; refine ⟨_, rfl, ?_⟩)))); refine WL.next hK (by simp only [Act.put, zpt, zsz, zss]; exact rfl) ?_; clear hK K))); (try refine WL.nil ?_))
  replace st := St.perm st (rs' := [_, _, _, _, _]) (List.perm_append_comm (l₁ := [_, _]) (l₂ := [_, _, _]))
  replace st := st.nilRow 66 10
  obtain ⟨b3, rfl⟩ : ∃ x, x = b := ⟨_, rfl⟩
  go_loopw [4] (fun i wr => ∃ (k : Nat) (Ar' : Option Addr) (cr' : Nat) (us : List Ck.VRc), k ≤ nr ∧ i = .int .i64 k ∧ Hid (us.map Ck.VRc.p = (rs.take k).map Ck.VRc.p ∧ us.length = k) ∧ St w wr (Res.row 66 10 (.slice Ar' k cr') k (El.all us) :: .box b3 26 [.int .i64 c, .slice Aa' na ca', .slice Ar' k cr', .slice Ad' nd cd', .string ⟨mp.toArray⟩] :: .box b2 26 [.int .i64 0, .slice none 0 0, .slice none 0 0, .slice none 0 0, .string ⟨#[]⟩] :: .box b1 26 [.int .i64 c, .slice Aa na ca, .slice Ar nr cr, .slice Ad nd cd, .string ⟨mp.toArray⟩] :: Ck.rowInt Ad' cd' ds :: Ck.rowRun Aa' ca' al :: Ck.deep us)) (fun i _ => nr - (intOf i).toNat)
  case atStart => exact ⟨0, none, 0, [], by omega, rfl, Lib.hid ⟨rfl, rfl⟩, st⟩
  case round =>
    clear st
    obtain ⟨k, Ar', cr', us, hk, rfl, HU, st⟩ := hrel
    by_cases hlt : k < nr
    rotate_left
    · obtain rfl : nr = k := by omega
      go_wp2_with (refine WL.out ?_; (repeat ((refine WL.op ?_ ?_; (exact rfl); intro K hK; (first | ((first | ((with_reducible apply ow_load1 st); exact rfl; exact inferInstance; exact rfl; (exact get3)) | ((with_reducible apply ow_loadN st); exact rfl; exact inferInstance; exact rfl; (exact get1); ((try simp only [zta, ztz, zda, zdz, zca, zcn, zan, zsz, zss]) <;> exact rfl))); exact rfl) | ((((with_reducible apply ow_storeN' st); exact rfl; exact inferInstance; exact rfl; (exact get2); exact rfl)); exact rfl; exact rfl; (simp <;> done); ((try simp only [zta, ztz, zda, zdz, zca, zcn, zan, zsz, zss]) <;> exact rfl); (try clear st); intro w' st) | ((with_reducible apply ow_eval); (go_simp <;> (try simp (disch := omega) only [wrap_id, sub_left, zac]) <;> rfl); ((with_reducible apply up_value)))); refine WL.next hK (by simp only [Act.put, zpt, zsz, zss]; exact rfl) ?_; clear hK K))); (try refine WL.nil ?_))
      refine bodyPost_ret (results_cell1 rfl _ _ _ rfl (load_cells rfl (st.boxC (i := 2) rfl))) rfl ?_
      refine ⟨⟨c, al, us, ds, mp, Aa', ca', Ar', cr', Ad', cd'⟩, ?_, ?_, ?_⟩
      · rw [E1.out, E3.out]; simp only [HU.out.2]
      · have := HU.out.1
        rw [List.take_of_length_le (by rw [← E2.out]; exact Nat.le_refl _)] at this
        unfold Ck.VPt.p
        rw [this]
      · have e := HU.out.2
        subst e
        have s1 := St.own st
        exact s1.sub (.cons_cons _ (.cons _ (.cons _ (.cons _ (List.Sublist.refl _)))))
    have hkl : Hid (k < rs.length) := Lib.hid (by rw [← E2.out]; exact hlt)
    obtain ⟨ba, oa, rfl, hba, hc⟩ := H.out.rs.at_ (Nat.lt_of_le_of_lt (Nat.zero_le _) hkl.out)
    have hba := Nat.lt_of_lt_of_le hba hB
    obtain ⟨y, hy⟩ : ∃ y, y = Ck.at_ Ck.VRc.o rs k := ⟨_, rfl⟩
    have hym : y ∈ rs := by rw [hy]; exact Ck.at_mem _ _ _ hkl.out
    have f1 : OldC w ba (oa + k * 10) [.bool y.u, .int .i64 y.q, .int .i64 y.k, .int .i64 y.b.r, .int .i64 y.b.q, .int .i64 y.ln, .int .i64 y.ds, .slice y.An y.ns.length y.cn, .slice y.As y.ss.length y.cs, .slice y.Ae y.es.length y.ce] := by rw [hy]; exact hc k hkl.out
    have HY := Lib.hid (H.out.rcs y hym)
    have HFY := Lib.hid (HF.out.rcs y hym)
    have HT : Hid ((rs.take (k + 1)).map Ck.VRc.p = us.map Ck.VRc.p ++ [y.p]) := Lib.hid (by rw [Ck.take_at Ck.VRc.o rs k hkl.out, List.map_append, HU.out.1, hy]; rfl)
    clear hc hy hym
    obtain ⟨u, q, kd, ⟨br, bq⟩, ln, dsx, ns, ss, es, An, cn, As, cs, Ae, ce⟩ := y
    simp only at *
    have hnn : ns.length ≤ 100000 := HFY.out.ns
    have hns : ss.length ≤ 100000 := HFY.out.ss
    have hne : es.length ≤ 100000 := HFY.out.es
    have h8 : w.cell? ⟨ba, oa + k * 10 + 8, none⟩ = some (.slice As ss.length cs) := f1 8 _ rfl
    have HLn := Lib.hid HY.out.ns
    have HLe := Lib.hid HY.out.es
    obtain ⟨nn, e4⟩ : ∃ n, n = ns.length := ⟨_, rfl⟩
    obtain ⟨nss, e5⟩ : ∃ n, n = ss.length := ⟨_, rfl⟩
    obtain ⟨ne, e6⟩ : ∃ n, n = es.length := ⟨_, rfl⟩
    have E4 := Lib.hid e4
    have E5 := Lib.hid e5
    have E6 := Lib.hid e6
    rw [← e4, ← e5, ← e6] at f1
    rw [← e5] at h8
    rw [← e4] at hnn
    rw [← e5] at hns
    rw [← e6] at hne
    have R1 : Hid (Rd w B 3 An nn (El.all ns)) := Lib.hid (by rw [e4]; exact HLn.out)
    have R2 : Hid (Rd w B 4 Ae ne (El.all es)) := Lib.hid (by rw [e6]; exact HLe.out)
    clear e4 e5 e6 HLn HLe
    go_wp2_with (refine WL.out ?_; (repeat ((refine WL.op ?_ ?_; (exact rfl); intro K hK; (first | ((((with_reducible apply ow_move); exact rfl)); (go_simp <;> (try simp (disch := omega) only [wrap_id, sub_left, zac]) <;> rfl)) | ((((with_reducible apply ow_load1 st); exact rfl; exact inferInstance; exact rfl; (first | exact get1 | exact get2 | exact get3))); exact rfl) | ((first | ((with_reducible apply ow_newSlice st); exact rfl; (go_simp <;> (try simp (disch := omega) only [wrap_id, sub_left, zac]) <;> rfl); exact rfl) | ((with_reducible apply ow_alloc st); exact rfl; exact inferInstance; (go_simp <;> (try simp (disch := omega) only [wrap_id, sub_left, zac]) <;> rfl))); (try clear st); intro b w' st) | ((first | ((with_reducible apply ow_store1' st); exact rfl; exact inferInstance; exact rfl; (first | exact get1 | exact get2); (go_simp <;> (try simp (disch := omega) only [wrap_id, sub_left, zac]) <;> rfl)) | ((with_reducible apply ow_storeN' st); exact rfl; exact inferInstance; exact rfl; (exact get0); exact rfl)); exact rfl; exact rfl; (simp <;> done); ((try simp only [zta, ztz, zda, zdz, zca, zcn, zan, zsz, zss]) <;> exact rfl); (try clear st); intro w' st) | ((with_reducible apply ow_oldC st); exact rfl; exact inferInstance; exact rfl; assumption; assumption; exact rfl) | (replace st := st.toRow (n := 0) (size := 3) rfl (by decide); ((with_reducible apply ow_append 0 st); exact rfl; exact inferInstance; exact rfl; exact rfl; exact rfl; exact (Rd.below R1.out st.below hB); (focus (exact El.all_one _)); (focus (unfold maxLen; omega)); (focus omega); (try clear st); intro A' c' w' st; (try simp only [List.set_cons_zero, List.set_cons_succ, Nat.zero_add, List.nil_append] at st))) | (replace st := st.toRow (n := 0) (size := 4) rfl (by decide); ((with_reducible apply ow_append 0 st); exact rfl; exact inferInstance; exact rfl; exact rfl; exact rfl; exact (Rd.below R2.out st.below hB); (focus (exact El.all_one _)); (focus (unfold maxLen; omega)); (focus omega); (try clear st); intro A' c' w' st; (try simp only [List.set_cons_zero, List.set_cons_succ, Nat.zero_add, List.nil_append] at st))) | ((with_reducible apply ow_eval); (go_simp <;> (try simp (disch := omega) only [wrap_id, sub_left, zac]) <;> rfl); ((with_reducible apply up_value)))); refine WL.next hK (by simp only [Act.put, zpt, zsz, zss]; exact rfl) ?_; clear hK K))); (try refine WL.nil ?_))
    clear f1
    rename_i b5 w51 w52 b6 w53 An' cn' w54 w55 w56 w57 w58 K5 hK5
    obtain ⟨Ae', rfl⟩ : ∃ x, x = A' := ⟨_, rfl⟩
    obtain ⟨ce', rfl⟩ : ∃ x, x = c' := ⟨_, rfl⟩
    replace st := st.nilRow 80 2
    go_loopw [6] (fun i wr => ∃ (m : Nat) (As' : Option Addr) (cs' : Nat) (ts : List Ck.VSm), m ≤ nss ∧ i = .int .i64 m ∧ Hid (ts.map Ck.VSm.p = (ss.take m).map Ck.VSm.p ∧ ts.length = m) ∧ St w wr (Res.row 80 2 (.slice As' m cs') m (El.all ts) :: .row 73 4 (.slice Ae' ne ce') ne (El.all es) :: .row 71 3 (.slice An' nn cn') nn (El.all ns) :: .box b5 66 [.bool u, .int .i64 q, .int .i64 kd, .int .i64 br, .int .i64 bq, .int .i64 ln, .int .i64 dsx, .slice An' nn cn', .slice As' m cs', .slice Ae' ne ce'] :: .row 66 10 (.slice Ar' k cr') k (El.all us) :: .box b3 26 [.int .i64 c, .slice Aa' na ca', .slice Ar' k cr', .slice Ad' nd cd', .string ⟨mp.toArray⟩] :: .box b2 26 [.int .i64 0, .slice none 0 0, .slice none 0 0, .slice none 0 0, .string ⟨#[]⟩] :: .box b1 26 [.int .i64 c, .slice Aa na ca, .slice (some ⟨ba, oa, none⟩) nr cr, .slice Ad nd cd, .string ⟨mp.toArray⟩] :: Ck.rowInt Ad' cd' ds :: Ck.rowRun Aa' ca' al :: (ts.map Ck.VSm.res ++ Ck.deep us))) (fun i _ => nss - (intOf i).toNat)
    case atStart => exact ⟨0, none, 0, [], by omega, rfl, Lib.hid ⟨rfl, rfl⟩, st⟩
    case round =>
      clear st
      obtain ⟨m, As', cs', ts, hm, rfl, HS, st⟩ := hrel
      by_cases hlt2 : m < nss
      · have hml : Hid (m < ss.length) := Lib.hid (by rw [← E5.out]; exact hlt2)
        obtain ⟨bs, os, rfl, hbs, hc⟩ := HY.out.ss.at_ (Nat.lt_of_le_of_lt (Nat.zero_le _) hml.out)
        have hbs := Nat.lt_of_lt_of_le hbs hB
        obtain ⟨s, hs⟩ : ∃ s, s = Ck.at_ Ck.VSm.o ss m := ⟨_, rfl⟩
        have hsm : s ∈ ss := by rw [hs]; exact Ck.at_mem _ _ _ hml.out
        have f3 : OldC w bs (os + m * 2) [.slice s.A s.r.length s.c, .int .i64 s.z] := by rw [hs]; exact hc m hml.out
        have HT2 : Hid ((ss.take (m + 1)).map Ck.VSm.p = ts.map Ck.VSm.p ++ [s.p]) := Lib.hid (by rw [Ck.take_at Ck.VSm.o ss m hml.out, List.map_append, HS.out.1, hs]; rfl)
        have HC : Hid (∀ W, Below w.heap.size w W → Calls Tryz.prog 48 #[.slice s.A s.r.length s.c] W fun e w' => ∃ A' c', e = .returned (.slice A' s.r.length c') ∧ St W w' [Ck.rowRun A' c' s.r]) := Lib.hid fun W hb => CopyRuns_any s.A s.c B s.r W ((HY.out.rr s hsm).below hb hB) (Nat.le_trans hB hb.size) (HFY.out.rr s hsm)
        clear hc hs hsm
        obtain ⟨sr, sz, sA, sc⟩ := s
        simp only at *
        go_wp2_with (refine WL.out ?_; (repeat ((refine WL.op ?_ ?_; (exact rfl); intro K hK; (first | ((((with_reducible apply ow_move); exact rfl)); (go_simp <;> (try simp (disch := omega) only [wrap_id, sub_left, zac]) <;> rfl)) | ((((with_reducible apply ow_load1 st); exact rfl; exact inferInstance; exact rfl; (exact get7))); exact rfl) | ((((with_reducible apply ow_alloc st); exact rfl; exact inferInstance; (go_simp <;> (try simp (disch := omega) only [wrap_id, sub_left, zac]) <;> rfl))); (try clear st); intro b w' st) | ((((with_reducible apply ow_storeN' st); exact rfl; exact inferInstance; exact rfl; (exact get0); exact rfl)); exact rfl; exact rfl; (simp <;> done); ((try simp only [zta, ztz, zda, zdz, zca, zcn, zan, zsz, zss]) <;> exact rfl); (try clear st); intro w' st) | ((with_reducible apply ow_old1 st); exact rfl; exact inferInstance; exact rfl; assumption; assumption) | ((with_reducible apply ow_oldC st); exact rfl; exact inferInstance; exact rfl; assumption; assumption; exact rfl) | ((with_reducible apply ow_eval); (go_simp <;> (try simp (disch := omega) only [wrap_id, sub_left, zac]) <;> rfl); ((with_reducible apply up_value)))); refine WL.next hK (by simp only [Act.put, zpt, zsz, zss]; exact rfl) ?_; clear hK K))); (try refine WL.nil ?_))
        clear f3 h8 hbs
        obtain ⟨b7, rfl⟩ : ∃ x, x = b := ⟨_, rfl⟩
        refine wp_region_plan 9 (by kernel_rfl) (by kernel_rfl) ?_; replace st := st.drew; generalize World.drew _ = W at st ⊢
        iterate 4 (apply Plan.val'; (focus (intro x0 x1 x2 x3 x4 x5 x6 x7 x8 w1 hb; (try simp only [depF, fillA, Act.put, zta, ztz, zpt, zsz, zss, zl0, zls]); (repeat (rintro rfl)); have st := st.call hb; (first | (apply Yphi.run; (exact rfl); (go_simp <;> (try simp (disch := omega) only [wrap_id, sub_left, zac]) <;> rfl); exact rfl) | (apply Yphi.load1 st; exact rfl; exact inferInstance; (exact rfl); exact rfl; (first | exact get0 | exact get4); exact rfl)))); (simp only [zca, zcn] <;> exact rfl))
        (apply Plan.fact' (runSt W sr) (runSt_stable _ _); (focus (intro x0 x1 x2 x3 x4 x5 x6 x7 x8 w1 hb; (try simp only [depF, fillA, Act.put, zta, ztz, zpt, zsz, zss, zl0, zls]); (repeat (rintro rfl)); have st := st.call hb; apply Yphi.call; (exact rfl); (go_simp <;> (try simp (disch := omega) only [wrap_id, sub_left, zac]) <;> rfl); exact rfl; refine (HC.out _ st.below).mono ?_; rintro e w' ⟨A5, c5, rfl, st'⟩; exact ⟨_, rfl, st'.below, A5, c5, rfl, ((St.start W).call hb).join st'⟩)); (simp only [zca, zcn] <;> exact rfl))
        iterate 2 (apply Plan.val'; (focus (intro x0 x1 x2 x3 x4 x5 x6 x7 x8 w1 hb; (try simp only [depF, fillA, Act.put, zta, ztz, zpt, zsz, zss, zl0, zls]); (repeat (rintro rfl)); have st := st.call hb; (first | (apply Yphi.run; (exact rfl); (go_simp <;> (try simp (disch := omega) only [wrap_id, sub_left, zac]) <;> rfl); exact rfl) | (apply Yphi.load1 st; exact rfl; exact inferInstance; (exact rfl); exact rfl; (exact get0); exact rfl)))); (simp only [zca, zcn] <;> exact rfl))
        (apply Plan.fact' (smSt W sr sz) (smSt_stable _ _ _); (focus (intro x0 x1 x2 x3 x4 x5 x6 x7 x8 w1 hb; (try simp only [depF, fillA, Act.put, zta, ztz, zpt, zsz, zss, zl0, zls]); (repeat (first | rintro rfl | intro lo hi hlo hhi hphi)); have st := st.call hb; obtain ⟨A5, c5, rfl, hp⟩ := hphi; apply Yphi.known; (exact rfl); (go_simp <;> (try simp (disch := omega) only [wrap_id, sub_left, zac]) <;> rfl); exact rfl; exact ⟨A5, c5, rfl, hp⟩)); (simp only [zca, zcn] <;> exact rfl))
        (apply Plan.fact' (smBox W sr sz) (smBox_stable _ _ _); (focus (intro x0 x1 x2 x3 x4 x5 x6 x7 x8 w1 hb; (try simp only [depF, fillA, Act.put, zta, ztz, zpt, zsz, zss, zl0, zls]); (repeat (intro lo hi hlo hhi hphi)); have st := st.call hb; obtain ⟨A5, c5, rfl, hp⟩ := hphi; apply Yphi.sliceOver hp; (exact rfl); exact rfl; (go_simp <;> (try simp (disch := omega) only [wrap_id, sub_left, zac]) <;> rfl); exact rfl; intro b9 w9 st9; exact ⟨b9, A5, c5, rfl, st9⟩)); (simp only [zca, zcn] <;> exact rfl))
        intro x0 x1 x2 x3 x4 x5 x6 x7 x8 lo hi w1 hb hap
        rintro rfl rfl rfl rfl - - - rfl rfl - - - - - ⟨b9, A5, c5, rfl, st9⟩
        simp only [allPhi, fillA, Act.put, zta, ztz, zpt, zsz, zss, zda, zdz]
        replace st := st.join st9
        clear st9 hap hb
        simp only [List.cons_append, List.nil_append] at st
        go_wp2_with (refine WL.out ?_; (repeat ((refine WL.op ?_ ?_; (exact rfl); intro K hK; (first | ((((with_reducible apply ow_assign); exact rfl)); (go_simp <;> (try simp (disch := omega) only [wrap_id, sub_left, zac]) <;> rfl)) | ((((with_reducible apply ow_store1' st); exact rfl; exact inferInstance; exact rfl; (exact get6); (go_simp <;> (try simp (disch := omega) only [wrap_id, sub_left, zac]) <;> rfl))); exact rfl; exact rfl; (simp <;> done); ((try simp only [zta, ztz, zda, zdz, zca, zcn, zan, zsz, zss]) <;> exact rfl); (try clear st); intro w' st) | ((with_reducible apply ow_append 3 st); exact rfl; exact inferInstance; exact rfl; exact rfl; exact rfl; exact st.rdBox (i := 0) (n := 1) (size := 2) rfl rfl; (focus ((simp [Value.oneCell']; done))); (focus (unfold maxLen; omega)); (focus omega); (try clear st); intro A' c' w' st; (try simp only [List.set_cons_zero, List.set_cons_succ, Nat.zero_add, List.nil_append] at st)) | ((with_reducible apply ow_eval); (go_simp <;> (try simp (disch := omega) only [wrap_id, sub_left, zac]) <;> rfl); ((with_reducible apply up_value)))); refine WL.next hK (by simp only [Act.put, zpt, zsz, zss]; exact rfl) ?_; clear hK K))); (try refine WL.nil ?_))
        have s2 := ((st.tail).perm (List.Perm.swap _ _ _)).tail
        refine ⟨⟨m + 1, A', c', ts ++ [⟨sr, sz, A5, c5⟩], by omega, by go_num, Lib.hid ⟨by rw [HT2.out, List.map_append]; rfl, by rw [List.length_append, HS.out.2]; rfl⟩, ?_⟩, by simp [intOf]; omega⟩
        rw [El.all_append, List.map_append]
        exact s2.perm (perm_in _ [_, _, _, _, _, _, _, _, _, _] _ _)
      · obtain rfl : nss = m := by omega
        have hts : Hid (ts.map Ck.VSm.p = ss.map Ck.VSm.p) := Lib.hid (by
          have := HS.out.1
          rwa [List.take_of_length_le (by rw [← E5.out]; exact Nat.le_refl _)] at this)
        clear hlt2
        go_wp2_with (refine WL.out ?_; (repeat ((refine WL.op ?_ ?_; (exact rfl); intro K hK; (first | ((first | ((with_reducible apply ow_move); exact rfl) | ((with_reducible apply ow_assign); exact rfl)); (go_simp <;> (try simp (disch := omega) only [wrap_id, sub_left, zac]) <;> rfl)) | ((first | ((with_reducible apply ow_load1 st); exact rfl; exact inferInstance; exact rfl; (first | exact get5 | exact get7)) | ((with_reducible apply ow_loadN st); exact rfl; exact inferInstance; exact rfl; (exact get3); ((try simp only [zta, ztz, zda, zdz, zca, zcn, zan, zsz, zss]) <;> exact rfl))); exact rfl) | ((((with_reducible apply ow_newSlice st); exact rfl; (go_simp <;> (try simp (disch := omega) only [wrap_id, sub_left, zac]) <;> rfl); exact rfl)); (try clear st); intro b w' st) | ((((with_reducible apply ow_store1' st); exact rfl; exact inferInstance; exact rfl; (exact get6); (go_simp <;> (try simp (disch := omega) only [wrap_id, sub_left, zac]) <;> rfl))); exact rfl; exact rfl; (simp <;> done); ((try simp only [zta, ztz, zda, zdz, zca, zcn, zan, zsz, zss]) <;> exact rfl); (try clear st); intro w' st) | ((with_reducible apply ow_old1 st); exact rfl; exact inferInstance; exact rfl; assumption; assumption) | ((with_reducible apply ow_append 5 st); exact rfl; exact inferInstance; exact rfl; exact rfl; exact rfl; exact st.rdBox (i := 0) (n := 1) (size := 10) rfl rfl; (focus ((simp [Value.oneCell']; done))); (focus (unfold maxLen; omega)); (focus omega); (try clear st); intro A' c' w' st; (try simp only [List.set_cons_zero, List.set_cons_succ, Nat.zero_add, List.nil_append] at st)) | ((with_reducible apply ow_eval); (go_simp <;> (try simp (disch := omega) only [wrap_id, sub_left, zac]) <;> rfl); ((with_reducible apply up_value)))); refine WL.next hK (by simp only [Act.put, zpt, zsz, zss]; exact rfl) ?_; clear hK K))); (try refine WL.nil ?_))
        refine ⟨⟨k + 1, A', c', us ++ [⟨u, q, kd, ⟨br, bq⟩, ln, dsx, ns, ts, es, An', cn', As', cs', Ae', ce'⟩], by omega, by go_num, Lib.hid ⟨by rw [HT.out, List.map_append]; unfold Ck.VRc.p; simp only [List.map_cons, List.map_nil, hts.out], by rw [List.length_append, HU.out.2]; rfl⟩, ?_⟩, by simp [intOf]; omega⟩
        rw [El.all_append]
        have s2 := st.tail
        have e1 := HS.out.2
        have e2 := E4.out
        have e3 := E6.out
        subst e1 e2 e3
        exact St.record (x := ⟨u, q, kd, ⟨br, bq⟩, ln, dsx, ns, ts, es, An', cn', As', cs', Ae', ce'⟩) (H := [_, _, _, _, _, _]) s2
end Go.Proofs.YtgcjejajljhnaaaGreatDoor
namespace Ck
theorem few_fit {v : VPt} (h : few v = true) : v.Fit ∧ v.mp.length ≤ 100000 := by
  unfold few at h
  simp only [Bool.and_eq_true, decide_eq_true_eq] at h
  refine ⟨⟨by omega, by omega, fun x hx => ?_, by omega⟩, by omega⟩
  have hx := List.all_eq_true.1 h.2 x hx
  unfold rcFew at hx
  simp only [Bool.and_eq_true, decide_eq_true_eq] at hx
  refine ⟨by omega, by omega, by omega, fun s hs => ?_, fun s hs => ?_, fun s hs => ?_⟩
  · have := List.all_eq_true.1 hx.2.2.2 s hs
    simp only [smFew, decide_eq_true_eq] at this
    omega
  · have := List.all_eq_true.1 hx.2.1 s hs
    simp only [nmFew, decide_eq_true_eq] at this
    omega
  · have := List.all_eq_true.1 hx.2.2.1 s hs
    simp only [enFew, decide_eq_true_eq] at this
    omega
end Ck
namespace Ck
theorem str_size (l : List UInt8) : (ByteArray.mk l.toArray).size = l.length := by show l.toArray.size = _; simp
def butL : List UInt8 := [34, 42, 47, 58, 60, 62, 63, 92, 124]
theorem legalB_no {c : UInt8} (h : ¬ (32 ≤ c.toNat ∧ c.toNat ≤ 126)) : legalB c = false := by
  unfold legalB
  by_cases h1 : 32 ≤ c.toNat
  · rw [decide_eq_false (p := c.toNat ≤ 126) (fun q => h ⟨h1, q⟩)]; simp
  · rw [decide_eq_false h1]; rfl
theorem legalB_in {c : UInt8} (h : 32 ≤ c.toNat ∧ c.toNat ≤ 126) : legalB c = !(butL.contains c) := by
  unfold legalB butL
  rw [decide_eq_true h.1, decide_eq_true h.2]
  simp
theorem but_hit {c : UInt8} {k : Nat} (hk : k < butL.length) (h : (at_ 0 butL k).toNat = c.toNat) : butL.contains c = true := by
  have e : at_ 0 butL k = c := UInt8.toNat_inj.1 h
  rw [← e]
  simpa using at_mem 0 butL k hk
theorem but_miss {c : UInt8} (h : ∀ k, k < butL.length → (at_ 0 butL k).toNat ≠ c.toNat) : butL.contains c = false := by
  cases hb : butL.contains c with
  | false => rfl
  | true =>
    have hm : c ∈ butL := by simpa using hb
    obtain ⟨k, hk, e⟩ := List.getElem_of_mem hm
    exact absurd (by rw [at_eq 0 butL k hk, e]) (h k hk)
theorem nameErr_last {s : List UInt8} (h : s.length ≤ 32) (h0 : s ≠ []) {m : Nat} (hm : s.length = m + 1) (h2 : s ≠ [46, 46]) (h32 : (at_ 0 s m).toNat ≠ 32) (h46 : (at_ 0 s m).toNat ≠ 46) : nameErr s = if s.all legalB then 0 else 4 := by
  have hl : s.getLast? = some (at_ 0 s m) := by
    rw [List.getLast?_eq_some_getLast h0, at_eq 0 s m (by omega), List.getLast_eq_getElem]
    simp [hm]
  have e1 : (s.getLast? != some 32) = true := by
    rw [hl, bne_iff_ne]
    intro e
    exact h32 (by rw [Option.some.inj e]; rfl)
  have e2 : (s.getLast? != some 46) = true := by
    rw [hl, bne_iff_ne]
    intro e
    exact h46 (by rw [Option.some.inj e]; rfl)
  have e3 : (s != []) = true := by rw [bne_iff_ne]; exact h0
  have e4 : (s != [46, 46]) = true := by rw [bne_iff_ne]; exact h2
  unfold nameErr legal
  rw [if_neg (by omega), e1, e2, e3, e4, decide_eq_true h]
  cases s.all legalB <;> rfl
theorem nameErr_bad {s : List UInt8} (h : s.length ≤ 32) (h0 : s = [] ∨ s = [46, 46] ∨ s.getLast? = some 32 ∨ s.getLast? = some 46) : nameErr s = 4 := by
  unfold nameErr
  rw [if_neg (by omega), if_neg]
  intro e
  unfold legal at e
  simp only [Bool.and_eq_true, bne_iff_ne] at e
  obtain ⟨⟨⟨⟨⟨e1, _⟩, _⟩, e2⟩, e3⟩, e4⟩ := e
  rcases h0 with h | h | h | h
  · exact e1 h
  · exact e2 h
  · exact e3 h
  · exact e4 h
theorem last_at {s : List UInt8} {m : Nat} (hm : s.length = m + 1) : s.getLast? = some (at_ 0 s m) := by
  have h0 : s ≠ [] := by intro e; rw [e] at hm; simp at hm
  rw [List.getLast?_eq_some_getLast h0, at_eq 0 s m (by omega), List.getLast_eq_getElem]
  simp [hm]
theorem all_no {s : List UInt8} {k : Nat} (hk : k < s.length) (h : legalB (at_ 0 s k) = false) : s.all legalB = false := by
  cases ha : s.all legalB with
  | false => rfl
  | true =>
    have := List.all_eq_true.1 ha _ (at_mem 0 s k hk)
    rw [h] at this
    cases this
end Ck
namespace Go.Proofs.YtgcjejajljhnaaaGreatDoor
open Go.RowKit Go.Hp
set_option maxHeartbeats 2000000 in
theorem rlegal_any (c : UInt8) (w : World) : Calls Tryz.prog 138 #[.int .u8 (c.toNat : Int)] w fun e w' => e = .returned (.bool (Ck.legalB c)) ∧ Below w.heap.size w w' := by
  have hsz := Ck.str_size
  have st := St.start w
  obtain ⟨n, hn⟩ : ∃ n, c.toNat = n := ⟨_, rfl⟩
  have HN := Lib.hid hn
  rw [hn]
  clear hn
  by_cases h1 : n < 32
  · have HR := Lib.hid (Ck.legalB_no (c := c) (by rw [HN.out]; omega))
    go_enter Tryz.func138, Tryz.ntmps138
    go_wp2_with (refine WL.out ?_; (repeat (first | (refine WL.op ?_ ?_; (exact rfl); intro K hK; (first | ((((with_reducible apply ow_move); exact rfl)); (go_simp <;> (try simp (disch := omega) only [wrap_id, sub_left, zac]) <;> rfl)) | ((with_reducible apply ow_eval); (go_simp <;> (try simp (disch := omega) only [wrap_id, sub_left, zac]) <;> rfl); ((with_reducible apply up_value)))); refine WL.next hK (by simp only [Act.put, zpt, zsz, zss]; exact rfl) ?_; clear hK K) | (refine WL.skip ?_ (by simp only [Act.put, zpt, zsz, zss]; exact rfl) ?_; ((simp [Region.wanted, yielded] <;> omega))))); (try refine WL.nil ?_))
    go_ret
    exact ⟨by rw [HR.out]; rfl, st.below⟩
  by_cases h2 : 126 < n
  · have HR := Lib.hid (Ck.legalB_no (c := c) (by rw [HN.out]; omega))
    go_enter Tryz.func138, Tryz.ntmps138
    go_wp2_with (refine WL.out ?_; (repeat ((refine WL.op ?_ ?_; (first | exact rfl | (simp [Region.wanted, yielded] <;> omega)); intro K hK; (first | ((((with_reducible apply ow_move); exact rfl)); (go_simp <;> (try simp (disch := omega) only [wrap_id, sub_left, zac]) <;> rfl)) | ((with_reducible apply ow_eval); (go_simp <;> (try simp (disch := omega) only [wrap_id, sub_left, zac]) <;> rfl); ((with_reducible apply up_value)))); refine WL.next hK (by simp only [Act.put, zpt, zsz, zss]; exact rfl) ?_; clear hK K))); (try refine WL.nil ?_))
    go_ret
    exact ⟨by rw [HR.out]; rfl, st.below⟩
  have HR := Lib.hid (Ck.legalB_in (c := c) (by rw [HN.out]; omega))
  go_enter Tryz.func138, Tryz.ntmps138
  go_wp2_with (refine WL.out ?_; (repeat ((refine WL.op ?_ ?_; (first | exact rfl | (simp [Region.wanted, yielded] <;> omega)); intro K hK; (first | ((((with_reducible apply ow_move); exact rfl)); (go_simp <;> (try simp (disch := omega) only [wrap_id, sub_left, zac]) <;> rfl)) | ((with_reducible apply ow_eval); (go_simp <;> (try simp (disch := omega) only [wrap_id, sub_left, zac]) <;> rfl); ((with_reducible apply up_value)))); refine WL.next hK (by simp only [Act.put, zpt, zsz, zss]; exact rfl) ?_; clear hK K))); (try refine WL.nil ?_))
  go_loopw [3] (fun i wr => ∃ k : Nat, k ≤ 9 ∧ i = .int .i64 (k : Int) ∧ Hid (∀ j, j < k → (Ck.at_ 0 Ck.butL j).toNat ≠ n) ∧ St w wr []) (fun i _ => 9 - (intOf i).toNat)
  case atStart => exact ⟨0, by omega, rfl, Lib.hid (fun j h => absurd h (by omega)), st⟩
  case round =>
    clear st
    obtain ⟨k, hk, rfl, hs, st⟩ := hrel
    by_cases hlt : k < 9
    · obtain ⟨x, hx⟩ : ∃ x, (Ck.at_ (0 : UInt8) [34, 42, 47, 58, 60, 62, 63, 92, 124] k).toNat = x := ⟨_, rfl⟩
      have HX : Hid ((Ck.at_ 0 Ck.butL k).toNat = x) := Lib.hid hx
      by_cases he : x = n
      · have hb := Lib.hid (Ck.but_hit (c := c) (k := k) (by show k < 9; exact hlt) (by rw [HX.out, HN.out, he]))
        have he' : ((x : Int) == (n : Int)) = true := by rw [he]; simp
        clear he
        go_wp2_with (refine WL.out ?_; (repeat ((refine WL.op ?_ ?_; (exact rfl); intro K hK; (first | ((((with_reducible apply ow_move); exact rfl)); (go_simp <;> (try simp (disch := omega) only [wrap_id, sub_left, zac]) <;> rfl)) | ((with_reducible apply ow_char (l := [34, 42, 47, 58, 60, 62, 63, 92, 124]) k); exact rfl; exact Tryz.underlying9; exact rfl; exact rfl; exact rfl; exact hlt) | ((with_reducible apply ow_eval); (go_simp <;> (try simp (disch := omega) only [wrap_id, sub_left, zac]) <;> rfl); ((with_reducible apply up_value)))); refine WL.next hK (by simp only [Act.put, zpt, zsz, zss]; exact rfl) ?_; clear hK K))); (try refine WL.nil ?_))
        go_ret
        exact ⟨by rw [HR.out, hb.out]; rfl, st.below⟩
      · have he' : ((x : Int) == (n : Int)) = false := by rw [beq_eq_false_iff_ne]; omega
        have hs' : Hid (∀ j, j < k + 1 → (Ck.at_ 0 Ck.butL j).toNat ≠ n) := Lib.hid fun j hj => by
          by_cases e : j = k
          · rw [e, HX.out]; exact he
          · exact hs.out j (by omega)
        clear he
        go_wp2_with (refine WL.out ?_; (repeat ((refine WL.op ?_ ?_; (exact rfl); intro K hK; (first | ((first | ((with_reducible apply ow_move); exact rfl) | ((with_reducible apply ow_assign); exact rfl)); (go_simp <;> (try simp (disch := omega) only [wrap_id, sub_left, zac]) <;> rfl)) | ((with_reducible apply ow_char (l := [34, 42, 47, 58, 60, 62, 63, 92, 124]) k); exact rfl; exact Tryz.underlying9; exact rfl; exact rfl; exact rfl; exact hlt) | ((with_reducible apply ow_eval); (go_simp <;> (try simp (disch := omega) only [wrap_id, sub_left, zac]) <;> rfl); ((with_reducible apply up_value)))); refine WL.next hK (by simp only [Act.put, zpt, zsz, zss]; exact rfl) ?_; clear hK K))); (try refine WL.nil ?_))
        exact ⟨⟨k + 1, by omega, by go_num, hs', st⟩, by simp [intOf]; omega⟩
    · have hb := Lib.hid (Ck.but_miss (c := c) (fun j hj => by rw [HN.out]; exact hs.out j (by have : j < 9 := hj; omega)))
      go_wp2_with (refine WL.out ?_; (repeat ((refine WL.op ?_ ?_; (exact rfl); intro K hK; (((with_reducible apply ow_eval); (go_simp <;> (try simp (disch := omega) only [wrap_id, sub_left, zac]) <;> rfl); ((with_reducible apply up_value)))); refine WL.next hK (by simp only [Act.put, zpt, zsz, zss]; exact rfl) ?_; clear hK K))); (try refine WL.nil ?_))
      go_ret
      exact ⟨by rw [HR.out, hb.out]; rfl, st.below⟩
set_option maxRecDepth 8000 in
set_option maxHeartbeats 4000000 in
theorem rNameErr_any (s : List UInt8) (w : World) (hl : s.length ≤ 100000) : Calls Tryz.prog 99 #[.string ⟨s.toArray⟩] w fun e w' => e = .returned (.int .i64 (Ck.nameErr s)) ∧ Below w.heap.size w w' := by
  have hsz := Ck.str_size
  have st := St.start w
  by_cases h32 : (32 : Int) < (s.length : Int)
  · have HR : Hid (Ck.nameErr s = 8) := Lib.hid (by unfold Ck.nameErr; rw [if_pos (by omega)])
    go_enter Tryz.func99, Tryz.ntmps99
    go_wp2_with (refine WL.out ?_; (repeat ((refine WL.op ?_ ?_; (exact rfl); intro K hK; (((with_reducible apply ow_eval); (go_simp <;> (try simp (disch := omega) only [wrap_id, sub_left, zac]) <;> rfl); ((with_reducible apply up_value)))); refine WL.next hK (by simp only [Act.put, zpt, zsz, zss]; exact rfl) ?_; clear hK K))); (try refine WL.nil ?_))
    go_ret
    exact ⟨by rw [HR.out]; rfl, st.below⟩
  have h32' : s.length ≤ 32 := by omega
  by_cases h0 : s = []
  · have HR := Lib.hid (Ck.nameErr_bad h32' (.inl h0))
    subst h0
    go_enter Tryz.func99, Tryz.ntmps99
    go_wp2_with (refine WL.out ?_; (repeat (first | (refine WL.op ?_ ?_; (exact rfl); intro K hK; (first | ((((with_reducible apply ow_move); exact rfl)); (go_simp <;> (try simp (disch := omega) only [wrap_id, sub_left, zac]) <;> rfl)) | ((with_reducible apply ow_eval); (go_simp <;> (try simp (disch := omega) only [wrap_id, sub_left, zac]) <;> rfl); ((with_reducible apply up_value)))); refine WL.next hK (by simp only [Act.put, zpt, zsz, zss]; exact rfl) ?_; clear hK K) | (refine WL.skip ?_ (by simp only [Act.put, zpt, zsz, zss]; exact rfl) ?_; (exact rfl)))); (try refine WL.nil ?_))
    go_ret
    exact ⟨by rw [HR.out]; rfl, st.below⟩
  by_cases h1 : s = [46]
  · have HR := Lib.hid (Ck.nameErr_bad h32' (.inr (.inr (.inr (by rw [h1]; rfl)))))
    subst h1
    go_enter Tryz.func99, Tryz.ntmps99
    go_wp2_with (refine WL.out ?_; (repeat (first | (refine WL.op ?_ ?_; (exact rfl); intro K hK; (first | ((((with_reducible apply ow_move); exact rfl)); (go_simp <;> (try simp (disch := omega) only [wrap_id, sub_left, zac]) <;> rfl)) | ((with_reducible apply ow_eval); (go_simp <;> (try simp (disch := omega) only [wrap_id, sub_left, zac]) <;> rfl); ((with_reducible apply up_value)))); refine WL.next hK (by simp only [Act.put, zpt, zsz, zss]; exact rfl) ?_; clear hK K) | (refine WL.skip ?_ (by simp only [Act.put, zpt, zsz, zss]; exact rfl) ?_; (exact rfl)))); (try refine WL.nil ?_))
    go_ret
    exact ⟨by rw [HR.out]; rfl, st.below⟩
  by_cases h2 : s = [46, 46]
  · have HR := Lib.hid (Ck.nameErr_bad h32' (.inr (.inl h2)))
    subst h2
    go_enter Tryz.func99, Tryz.ntmps99
    go_wp2_with (refine WL.out ?_; (repeat (first | (refine WL.op ?_ ?_; (exact rfl); intro K hK; (first | ((((with_reducible apply ow_move); exact rfl)); (go_simp <;> (try simp (disch := omega) only [wrap_id, sub_left, zac]) <;> rfl)) | ((with_reducible apply ow_eval); (go_simp <;> (try simp (disch := omega) only [wrap_id, sub_left, zac]) <;> rfl); ((with_reducible apply up_value)))); refine WL.next hK (by simp only [Act.put, zpt, zsz, zss]; exact rfl) ?_; clear hK K) | (refine WL.skip ?_ (by simp only [Act.put, zpt, zsz, zss]; exact rfl) ?_; (exact rfl)))); (try refine WL.nil ?_))
    go_ret
    exact ⟨by rw [HR.out]; rfl, st.below⟩
  have e0 : (s == []) = false := by rw [beq_eq_false_iff_ne]; exact h0
  have e1 : (s == [46]) = false := by rw [beq_eq_false_iff_ne]; exact h1
  have e2 : (s == [46, 46]) = false := by rw [beq_eq_false_iff_ne]; exact h2
  obtain ⟨m, hm⟩ : ∃ m, s.length = m + 1 := ⟨s.length - 1, by have : 0 < s.length := List.length_pos_iff.2 h0; omega⟩
  have HM := Lib.hid hm
  have hml : (s.length : Int) - 1 = (m : Int) := by omega
  have hmlt : m < s.length := by omega
  obtain ⟨x, hx⟩ : ∃ x, (Ck.at_ 0 s m).toNat = x := ⟨_, rfl⟩
  have HX := Lib.hid hx
  have H0 := Lib.hid h0
  have H2 := Lib.hid h2
  clear h0 h1 h2 hm
  by_cases hx32 : x = 32
  · have HR := Lib.hid (Ck.nameErr_bad h32' (.inr (.inr (.inl (by rw [Ck.last_at HM.out]; congr 1; exact UInt8.toNat_inj.1 (by rw [HX.out, hx32]; rfl))))))
    have i3 : ((x : Int) == 32) = true := by rw [hx32]; rfl
    clear hx32
    go_enter Tryz.func99, Tryz.ntmps99
    go_wp2_with (refine WL.out ?_; (repeat (first | (refine WL.op ?_ ?_; (exact rfl); intro K hK; (first | ((((with_reducible apply ow_move); exact rfl)); (go_simp <;> (try simp (disch := omega) only [wrap_id, sub_left, zac]) <;> rfl)) | ((with_reducible apply ow_char (m)); exact rfl; exact Tryz.underlying9; exact rfl; exact rfl; (focus (exact rfl)); (focus omega)) | ((with_reducible apply ow_eval); (go_simp <;> (try simp (disch := omega) only [wrap_id, sub_left, zac]) <;> rfl); ((with_reducible apply up_value)))); refine WL.next hK (by simp only [Act.put, zpt, zsz, zss]; exact rfl) ?_; clear hK K) | (refine WL.skip ?_ (by simp only [Act.put, zpt, zsz, zss]; exact rfl) ?_; (exact rfl)))); (try refine WL.nil ?_))
    go_ret
    exact ⟨by rw [HR.out]; rfl, st.below⟩
  have i3 : ((x : Int) == 32) = false := by rw [beq_eq_false_iff_ne]; omega
  by_cases hx46 : x = 46
  · have HR := Lib.hid (Ck.nameErr_bad h32' (.inr (.inr (.inr (by rw [Ck.last_at HM.out]; congr 1; exact UInt8.toNat_inj.1 (by rw [HX.out, hx46]; rfl))))))
    have i4 : ((x : Int) == 46) = true := by rw [hx46]; rfl
    clear hx46 hx32
    go_enter Tryz.func99, Tryz.ntmps99
    go_wp2_with (refine WL.out ?_; (repeat ((refine WL.op ?_ ?_; (exact rfl); intro K hK; (first | ((((with_reducible apply ow_move); exact rfl)); (go_simp <;> (try simp (disch := omega) only [wrap_id, sub_left, zac]) <;> rfl)) | ((with_reducible apply ow_char (m)); exact rfl; exact Tryz.underlying9; exact rfl; exact rfl; (focus (exact rfl)); (focus omega)) | ((with_reducible apply ow_eval); (go_simp <;> (try simp (disch := omega) only [wrap_id, sub_left, zac]) <;> rfl); ((with_reducible apply up_value)))); refine WL.next hK (by simp only [Act.put, zpt, zsz, zss]; exact rfl) ?_; clear hK K))); (try refine WL.nil ?_))
    go_ret
    exact ⟨by rw [HR.out]; rfl, st.below⟩
  have i4 : ((x : Int) == 46) = false := by rw [beq_eq_false_iff_ne]; omega
  have HR := Lib.hid (Ck.nameErr_last h32' H0.out HM.out H2.out (by rw [HX.out]; exact hx32) (by rw [HX.out]; exact hx46))
  clear hx32 hx46
  go_enter Tryz.func99, Tryz.ntmps99
  go_wp2_with (refine WL.out ?_; (repeat ((refine WL.op ?_ ?_; (exact rfl); intro K hK; (first | ((((with_reducible apply ow_move); exact rfl)); (go_simp <;> (try simp (disch := omega) only [wrap_id, sub_left, zac]) <;> rfl)) | ((with_reducible apply ow_char (m)); exact rfl; exact Tryz.underlying9; exact rfl; exact rfl; (focus (exact rfl)); (focus omega)) | ((with_reducible apply ow_eval); (go_simp <;> (try simp (disch := omega) only [wrap_id, sub_left, zac]) <;> rfl); ((with_reducible apply up_value)))); refine WL.next hK (by simp only [Act.put, zpt, zsz, zss]; exact rfl) ?_; clear hK K))); (try refine WL.nil ?_))
  go_loopw [3] (fun i wr => ∃ k : Nat, k ≤ s.length ∧ i = .int .i64 (k : Int) ∧ Hid (∀ j, j < k → Ck.legalB (Ck.at_ 0 s j) = true) ∧ St w wr []) (fun i _ => s.length - (intOf i).toNat)
  case atStart => exact ⟨0, by omega, rfl, Lib.hid (fun j h => absurd h (by omega)), st⟩
  case round =>
    clear st
    obtain ⟨k, hk, rfl, hs, st⟩ := hrel
    by_cases hlt : k < s.length
    · obtain ⟨y, hy⟩ : ∃ y, y = Ck.at_ 0 s k := ⟨_, rfl⟩
      have hyy : Ck.at_ 0 s k = y := hy.symm
      have HY := Lib.hid hy
      have HL := Lib.hid (fun W => rlegal_any y W)
      clear hy
      cases q : Ck.legalB y
      · have hb : Hid (s.all Ck.legalB = false) := Lib.hid (Ck.all_no hlt (by rw [← HY.out]; exact q))
        rw [q] at HL
        clear q
        go_wp2_with (refine WL.out ?_; (repeat ((refine WL.op ?_ ?_; (exact rfl); intro K hK; (first | ((with_reducible apply ow_char (k)); exact rfl; exact Tryz.underlying9; exact rfl; exact rfl; (focus (exact rfl)); (focus omega)) | ((with_reducible apply ow_eval); (go_simp <;> (try simp (disch := omega) only [wrap_id, sub_left, zac]) <;> rfl); first | (with_reducible apply up_value) | ((with_reducible apply up_enter); ((go_at_call 138; ((with_reducible refine (HL.out _).mono ?_)); rintro e w' ⟨rfl, hb⟩; replace st := st.call hb; clear hb; refine ⟨_, rfl, ?_⟩))))); refine WL.next hK (by simp only [Act.put, zpt, zsz, zss]; exact rfl) ?_; clear hK K))); (try refine WL.nil ?_))
        go_ret
        exact ⟨by rw [HR.out, hb.out]; rfl, st.below⟩
      · have hs' : Hid (∀ j, j < k + 1 → Ck.legalB (Ck.at_ 0 s j) = true) := Lib.hid fun j hj => by
          by_cases e : j = k
          · rw [e, ← HY.out]; exact q
          · exact hs.out j (by omega)
        rw [q] at HL
        clear q
        go_wp2_with (refine WL.out ?_; (repeat ((refine WL.op ?_ ?_; (exact rfl); intro K hK; (first | ((((with_reducible apply ow_assign); exact rfl)); (go_simp <;> (try simp (disch := omega) only [wrap_id, sub_left, zac]) <;> rfl)) | ((with_reducible apply ow_char (k)); exact rfl; exact Tryz.underlying9; exact rfl; exact rfl; (focus (exact rfl)); (focus omega)) | ((with_reducible apply ow_eval); (go_simp <;> (try simp (disch := omega) only [wrap_id, sub_left, zac]) <;> rfl); first | (with_reducible apply up_value) | ((with_reducible apply up_enter); ((go_at_call 138; ((with_reducible refine (HL.out _).mono ?_)); rintro e w' ⟨rfl, hb⟩; replace st := st.call hb; clear hb; refine ⟨_, rfl, ?_⟩))))); refine WL.next hK (by simp only [Act.put, zpt, zsz, zss]; exact rfl) ?_; clear hK K))); (try refine WL.nil ?_))
        exact ⟨⟨k + 1, by omega, by go_num, hs', st⟩, by simp [intOf]; omega⟩
    · have hall : Hid (s.all Ck.legalB = true) := Lib.hid (List.all_eq_true.2 fun c hc => by
        obtain ⟨j, hj, e⟩ := List.getElem_of_mem hc
        rw [← e, ← Ck.at_eq 0 s j hj]
        exact hs.out j (by omega))
      go_wp2_with (refine WL.out ?_; (repeat ((refine WL.op ?_ ?_; (exact rfl); intro K hK; (((with_reducible apply ow_eval); (go_simp <;> (try simp (disch := omega) only [wrap_id, sub_left, zac]) <;> rfl); ((with_reducible apply up_value)))); refine WL.next hK (by simp only [Act.put, zpt, zsz, zss]; exact rfl) ?_; clear hK K))); (try refine WL.nil ?_))
      go_ret
      exact ⟨by rw [HR.out, hall.out]; rfl, st.below⟩
end Go.Proofs.YtgcjejajljhnaaaGreatDoor
namespace Ck
theorem any_hit {l : List Run} {j : Nat} (hj : j < l.length) (h : badRun (at_ Run.o l j) = true) : l.any badRun = true := List.any_eq_true.2 ⟨_, at_mem _ l j hj, h⟩
theorem any_miss {l : List Run} (h : ∀ j, j < l.length → badRun (at_ Run.o l j) = false) : l.any badRun = false := by
  cases ha : l.any badRun with
  | false => rfl
  | true =>
    obtain ⟨x, hx, e⟩ := List.any_eq_true.1 ha
    obtain ⟨j, hj, rfl⟩ := List.getElem_of_mem hx
    have := h j hj
    rw [at_eq Run.o l j hj, e] at this
    cases this
end Ck
namespace Go.Proofs.YtgcjejajljhnaaaGreatDoor
open Go.RowKit Go.Hp
set_option maxHeartbeats 2000000 in
theorem rstreamErr_any (x : Ck.VSm) (B : Nat) (w : World) (h : x.At w B) (hB : B ≤ w.heap.size) (hr : x.r.length ≤ 100000) :
    Calls Tryz.prog 100 #[.agg #[.slice x.A x.r.length x.c, .int .i64 x.z]] w fun e w' => e = .returned (.int .i64 (Ck.smErr x.p)) ∧ Below w.heap.size w w' := by
  have H := Lib.hid h
  clear h
  obtain ⟨r, z, A, c⟩ := x
  simp only at *
  obtain ⟨n, en⟩ : ∃ n, n = r.length := ⟨_, rfl⟩
  have E1 := Lib.hid en
  rw [← en] at hr ⊢
  clear en
  have st := St.start w
  by_cases h24 : (24 : Int) < (n : Int)
  · have HR : Hid (Ck.smErr (Ck.VSm.p ⟨r, z, A, c⟩) = 8) := Lib.hid (by unfold Ck.smErr; exact if_pos (by show 24 < r.length; rw [← E1.out]; omega))
    go_enter Tryz.func100, Tryz.ntmps100
    go_wp2_with (refine WL.out ?_; (repeat ((refine WL.op ?_ ?_; (exact rfl); intro K hK; (first | ((((with_reducible apply ow_assign); exact rfl)); (go_simp <;> (try simp (disch := omega) only [wrap_id, sub_left, zac]) <;> rfl)) | ((((with_reducible apply ow_load1 st); exact rfl; exact inferInstance; exact rfl; (exact get0))); exact rfl) | ((((with_reducible apply ow_box st); exact rfl; (go_simp <;> (try simp (disch := omega) only [wrap_id, sub_left, zac]) <;> rfl); (go_simp <;> (try simp (disch := omega) only [wrap_id, sub_left, zac]) <;> rfl))); (try clear st); intro b w' st) | ((with_reducible apply ow_eval); (go_simp <;> (try simp (disch := omega) only [wrap_id, sub_left, zac]) <;> rfl); ((with_reducible apply up_value)))); refine WL.next hK (by simp only [Act.put, zpt, zsz, zss]; exact rfl) ?_; clear hK K))); (try refine WL.nil ?_))
    go_ret
    exact ⟨Ck.ret_int HR.out.symm, st.below⟩
  have HR : Hid (Ck.smErr (Ck.VSm.p ⟨r, z, A, c⟩) = if !(r.any Ck.badRun) && Ck.num z then 0 else 2) := Lib.hid (by unfold Ck.smErr; exact if_neg (by show ¬ 24 < r.length; rw [← E1.out]; omega))
  go_enter Tryz.func100, Tryz.ntmps100
  go_wp2_with (refine WL.out ?_; (repeat ((refine WL.op ?_ ?_; (exact rfl); intro K hK; (first | ((((with_reducible apply ow_assign); exact rfl)); (go_simp <;> (try simp (disch := omega) only [wrap_id, sub_left, zac]) <;> rfl)) | ((((with_reducible apply ow_load1 st); exact rfl; exact inferInstance; exact rfl; (exact get0))); exact rfl) | ((((with_reducible apply ow_box st); exact rfl; (go_simp <;> (try simp (disch := omega) only [wrap_id, sub_left, zac]) <;> rfl); (go_simp <;> (try simp (disch := omega) only [wrap_id, sub_left, zac]) <;> rfl))); (try clear st); intro b w' st) | ((with_reducible apply ow_eval); (go_simp <;> (try simp (disch := omega) only [wrap_id, sub_left, zac]) <;> rfl); ((with_reducible apply up_value)))); refine WL.next hK (by simp only [Act.put, zpt, zsz, zss]; exact rfl) ?_; clear hK K))); (try refine WL.nil ?_))
  go_loopw [3] (fun i wr => ∃ j : Nat, j ≤ n ∧ i = .int .i64 j ∧ Hid (∀ k, k < j → Ck.badRun (Ck.at_ Ck.Run.o r k) = false) ∧ St w wr [.box b 80 [.slice A n c, .int .i64 z]]) (fun i _ => n - (intOf i).toNat)
  case atStart => exact ⟨0, by omega, rfl, Lib.hid (fun j h => absurd h (by omega)), st⟩
  case round =>
    clear st
    obtain ⟨j, hj, rfl, hs, st⟩ := hrel
    by_cases hlt : j < n
    · have hkl : Hid (j < r.length) := Lib.hid (by rw [← E1.out]; exact hlt)
      obtain ⟨b1, o1, rfl, hb1, hc⟩ := Lst.at_ H.out (Nat.lt_of_le_of_lt (Nat.zero_le _) hkl.out)
      have hb1 := Nat.lt_of_lt_of_le hb1 hB
      have f1 := hc j hkl.out
      clear hc
      obtain ⟨y, hy⟩ : ∃ y, y = Ck.at_ Ck.Run.o r j := ⟨_, rfl⟩
      have f0 : w.cell? ⟨b1, o1 + j * 2, none⟩ = some (.int .i64 y.s) := by rw [hy]; exact f1 0 _ rfl
      have f1 : w.cell? ⟨b1, o1 + j * 2 + 1, none⟩ = some (.int .i64 y.l) := by rw [hy]; exact f1 1 _ rfl
      have HY := Lib.hid hy
      clear hy
      obtain ⟨ys, yl⟩ := y
      simp only at f0 f1
      have bad : Hid (Ck.badRun ⟨ys, yl⟩ = true → Ck.smErr (Ck.VSm.p ⟨r, z, some ⟨b1, o1, none⟩, c⟩) = 2) := Lib.hid fun h => by
        rw [HR.out, Ck.any_hit hkl.out (by rw [← HY.out]; exact h)]
        rfl
      cases q1 : Ck.wi ys (-1) 2147483647
      · have hq := Lib.hid (bad.out (by unfold Ck.badRun; rw [q1]; rfl))
        go_wp2_with (refine WL.out ?_; (repeat (first | (refine WL.op ?_ ?_; (exact rfl); intro K hK; (first | ((((with_reducible apply ow_move); exact rfl)); (go_simp <;> (try simp (disch := omega) only [wrap_id, sub_left, zac]) <;> rfl)) | ((((with_reducible apply ow_load1 st); exact rfl; exact inferInstance; exact rfl; (exact get0))); exact rfl) | ((with_reducible apply ow_old1 st); exact rfl; exact inferInstance; exact rfl; assumption; assumption) | ((with_reducible apply ow_eval); (go_simp <;> (try simp (disch := omega) only [wrap_id, sub_left, zac]) <;> rfl); first | (with_reducible apply up_value) | ((with_reducible apply up_enter); ((go_at_call 29; refine (Within_any _ _ _ _).mono ?_; rintro e w' ⟨rfl, rfl⟩; refine ⟨_, rfl, ?_⟩))))); refine WL.next hK (by simp only [Act.put, zpt, zsz, zss]; exact rfl) ?_; clear hK K) | (refine WL.skip ?_ (by simp only [Act.put, zpt, zsz, zss]; exact rfl) ?_; (exact rfl)))); (try refine WL.nil ?_))
        go_ret
        exact ⟨Ck.ret_int hq.out.symm, st.below⟩
      cases q2 : Ck.wi yl 1 512
      · have hq := Lib.hid (bad.out (by unfold Ck.badRun; rw [q1, q2]; rfl))
        go_wp2_with (refine WL.out ?_; (repeat ((refine WL.op ?_ ?_; (exact rfl); intro K hK; (first | ((((with_reducible apply ow_move); exact rfl)); (go_simp <;> (try simp (disch := omega) only [wrap_id, sub_left, zac]) <;> rfl)) | ((((with_reducible apply ow_load1 st); exact rfl; exact inferInstance; exact rfl; (exact get0))); exact rfl) | ((with_reducible apply ow_old1 st); exact rfl; exact inferInstance; exact rfl; assumption; assumption) | ((with_reducible apply ow_eval); (go_simp <;> (try simp (disch := omega) only [wrap_id, sub_left, zac]) <;> rfl); first | (with_reducible apply up_value) | ((with_reducible apply up_enter); ((go_at_call 29; refine (Within_any _ _ _ _).mono ?_; rintro e w' ⟨rfl, rfl⟩; refine ⟨_, rfl, ?_⟩))))); refine WL.next hK (by simp only [Act.put, zpt, zsz, zss]; exact rfl) ?_; clear hK K))); (try refine WL.nil ?_))
        go_ret
        exact ⟨Ck.ret_int hq.out.symm, st.below⟩
      have hs' : Hid (∀ k, k < j + 1 → Ck.badRun (Ck.at_ Ck.Run.o r k) = false) := Lib.hid fun k hk => by
        by_cases e : k = j
        · rw [e, ← HY.out]; unfold Ck.badRun; rw [q1, q2]; rfl
        · exact hs.out k (by omega)
      go_wp2_with (refine WL.out ?_; (repeat ((refine WL.op ?_ ?_; (exact rfl); intro K hK; (first | ((first | ((with_reducible apply ow_move); exact rfl) | ((with_reducible apply ow_assign); exact rfl)); (go_simp <;> (try simp (disch := omega) only [wrap_id, sub_left, zac]) <;> rfl)) | ((((with_reducible apply ow_load1 st); exact rfl; exact inferInstance; exact rfl; (exact get0))); exact rfl) | ((with_reducible apply ow_old1 st); exact rfl; exact inferInstance; exact rfl; assumption; assumption) | ((with_reducible apply ow_eval); (go_simp <;> (try simp (disch := omega) only [wrap_id, sub_left, zac]) <;> rfl); first | (with_reducible apply up_value) | ((with_reducible apply up_enter); ((go_at_call 29; refine (Within_any _ _ _ _).mono ?_; rintro e w' ⟨rfl, rfl⟩; refine ⟨_, rfl, ?_⟩))))); refine WL.next hK (by simp only [Act.put, zpt, zsz, zss]; exact rfl) ?_; clear hK K))); (try refine WL.nil ?_))
      exact ⟨⟨j + 1, by omega, by go_num, hs', st⟩, by simp [intOf]; omega⟩
    · have hm := Lib.hid (Ck.any_miss (l := r) fun k hk => hs.out k (by have := E1.out; omega))
      cases q : Ck.num z
      · have hq : Hid (Ck.smErr (Ck.VSm.p ⟨r, z, A, c⟩) = 2) := Lib.hid (by rw [HR.out, hm.out, q]; rfl)
        go_wp2_with (refine WL.out ?_; (repeat ((refine WL.op ?_ ?_; (exact rfl); intro K hK; (first | ((((with_reducible apply ow_load1 st); exact rfl; exact inferInstance; exact rfl; (exact get0))); exact rfl) | ((with_reducible apply ow_eval); (go_simp <;> (try simp (disch := omega) only [wrap_id, sub_left, zac]) <;> rfl); first | (with_reducible apply up_value) | ((with_reducible apply up_enter); ((go_at_call 96; refine (IsNumber_any _ _).mono ?_; rintro e w' ⟨rfl, rfl⟩; refine ⟨_, rfl, ?_⟩))))); refine WL.next hK (by simp only [Act.put, zpt, zsz, zss]; exact rfl) ?_; clear hK K))); (try refine WL.nil ?_))
        go_ret
        exact ⟨Ck.ret_int hq.out.symm, st.below⟩
      · have hq : Hid (Ck.smErr (Ck.VSm.p ⟨r, z, A, c⟩) = 0) := Lib.hid (by rw [HR.out, hm.out, q]; rfl)
        go_wp2_with (refine WL.out ?_; (repeat ((refine WL.op ?_ ?_; (exact rfl); intro K hK; (first | ((((with_reducible apply ow_load1 st); exact rfl; exact inferInstance; exact rfl; (exact get0))); exact rfl) | ((with_reducible apply ow_eval); (go_simp <;> (try simp (disch := omega) only [wrap_id, sub_left, zac]) <;> rfl); first | (with_reducible apply up_value) | ((with_reducible apply up_enter); ((go_at_call 96; refine (IsNumber_any _ _).mono ?_; rintro e w' ⟨rfl, rfl⟩; refine ⟨_, rfl, ?_⟩))))); refine WL.next hK (by simp only [Act.put, zpt, zsz, zss]; exact rfl) ?_; clear hK K))); (try refine WL.nil ?_))
        go_ret
        exact ⟨Ck.ret_int hq.out.symm, st.below⟩
end Go.Proofs.YtgcjejajljhnaaaGreatDoor
namespace Ck
def bitN (s : List UInt8) (i : Nat) : Nat := (at_ 0 s (i / 8)).toNat / 2 ^ (i % 8) % 2
theorem byte_bits : ∀ b : Nat, b < 256 → ∀ r : Nat, r < 8 → ((∀ j : Nat, j < 8 → r ≤ j → b / 2 ^ j % 2 = 0) ↔ b / 2 ^ r = 0) := by decide +kernel
theorem mapErr_bits {s : List UInt8} {c : Nat} (hc : c ≤ 4096) (hl : s.length = (c + 7) / 8) : ((∀ i, c ≤ i → i < 8 * s.length → bitN s i = 0) → mapErr s c = 0) ∧ (¬ (∀ i, c ≤ i → i < 8 * s.length → bitN s i = 0) → mapErr s c = 3) := by
  have hw : wi (c : Int) 0 4096 = true := by simp [wi]; omega
  unfold mapErr
  rw [hw, if_pos rfl, if_pos (by rw [hl]; omega)]
  have hmod : (c : Int) % 8 = ((c % 8 : Nat) : Int) := by push_cast; rfl
  by_cases h8 : c % 8 = 0
  · rw [if_pos (.inl (by rw [hmod, h8]; rfl))]
    exact ⟨fun _ => rfl, fun h => absurd (fun i h1 h2 => by omega) h⟩
  · obtain ⟨m, hm⟩ : ∃ m, s.length = m + 1 := ⟨s.length - 1, by omega⟩
    have hc8 : c / 8 = m := by omega
    rw [last_at hm]
    have hb := byte_bits (at_ 0 s m).toNat (at_ 0 s m).toNat_lt (c % 8) (by omega)
    have hz : (∀ i, c ≤ i → i < 8 * s.length → bitN s i = 0) ↔ (at_ 0 s m).toNat / 2 ^ (c % 8) = 0 := by
      rw [← hb]
      constructor
      · intro h j hj hr
        have := h (8 * m + j) (by omega) (by omega)
        unfold bitN at this
        rw [show (8 * m + j) / 8 = m by omega, show (8 * m + j) % 8 = j by omega] at this
        exact this
      · intro h i h1 h2
        unfold bitN
        rw [show i / 8 = m by omega]
        exact h (i % 8) (by omega) (by omega)
    have e : ((c : Int) % 8).toNat = c % 8 := by omega
    simp only [Option.getD_some, e]
    by_cases hq : (at_ 0 s m).toNat / 2 ^ (c % 8) = 0
    · rw [if_pos (.inr hq)]
      exact ⟨fun _ => rfl, fun h => absurd (hz.2 hq) h⟩
    · rw [if_neg (by
        rintro (h | h)
        · omega
        · exact hq h)]
      exact ⟨fun h => absurd (hz.1 h) hq, fun _ => rfl⟩
end Ck
namespace Go.Proofs.YtgcjejajljhnaaaGreatDoor
open Go.RowKit Go.Hp
theorem floor8 (n : Int) : (if n.tmod 8 < 0 then n.tdiv 8 - 1 else n.tdiv 8) = n / 8 := by
  rcases Int.le_total 0 n with h | h
  · rw [Int.tmod_eq_emod_of_nonneg h, Int.tdiv_eq_ediv_of_nonneg h, if_neg (by omega)]
  · obtain ⟨m, rfl⟩ : ∃ m : Nat, n = -(m : Int) := ⟨n.natAbs, by omega⟩
    rw [Int.neg_tmod, Int.neg_tdiv, Int.tmod_eq_emod_of_nonneg (by omega), Int.tdiv_eq_ediv_of_nonneg (by omega)]
    split <;> omega
theorem Floor8_any (n : Int) (w : World) (h0 : -100000 ≤ n) (h1 : n ≤ 100000) :
    Calls Tryz.prog 126 #[.int .i64 n, .int .i64 8] w fun e w' => e = .returned (.int .i64 (n / 8)) ∧ w = w' := by
  have hf := floor8 n
  have hqb : -100000 ≤ n.tdiv 8 ∧ n.tdiv 8 ≤ 100000 := by
    have h := Int.natAbs_tdiv n 8
    have h2 : n.natAbs / (8 : Int).natAbs ≤ n.natAbs := Nat.div_le_self _ _
    omega
  obtain ⟨q, hq⟩ : ∃ q, n.tdiv 8 = q := ⟨_, rfl⟩
  obtain ⟨r, hr⟩ : ∃ r, n.tmod 8 = r := ⟨_, rfl⟩
  rw [hq, hr] at hf
  rw [hq] at hqb
  obtain ⟨q0, q1⟩ := hqb
  by_cases h : r < 0
  · rw [if_pos h] at hf
    have HF := Lib.hid hf
    clear hf
    go_enter Tryz.func126, Tryz.ntmps126
    go_wp2
    go_ret
    exact ⟨Ck.ret_int HF.out, rfl⟩
  · rw [if_neg h] at hf
    have HF := Lib.hid hf
    clear hf
    go_enter Tryz.func126, Tryz.ntmps126
    go_wp2
    go_ret
    exact ⟨Ck.ret_int HF.out, rfl⟩
theorem Ceil8_any (c : Nat) (w : World) (h : c ≤ 5000) :
    Calls Tryz.prog 80 #[.int .i64 (c : Int), .int .i64 8] w fun e w' => e = .returned (.int .i64 (((c + 7) / 8 : Nat) : Int)) ∧ w = w' := by
  obtain ⟨n, hn⟩ : ∃ n : Int, -(c : Int) = n := ⟨_, rfl⟩
  obtain ⟨q, hq⟩ : ∃ q : Int, q = n / 8 := ⟨_, rfl⟩
  have HC : Hid (∀ W, Calls Tryz.prog 126 #[.int .i64 n, .int .i64 8] W fun e w' => e = .returned (.int .i64 q) ∧ W = w') := Lib.hid fun W => by rw [hq]; exact Floor8_any n W (by omega) (by omega)
  have q0 : -100000 ≤ q := by omega
  have q1 : q ≤ 100000 := by omega
  have HR := Lib.hid (show -q = (((c + 7) / 8 : Nat) : Int) by omega)
  clear hq
  go_enter Tryz.func80, Tryz.ntmps80
  go_wp2_with (go_at_call 126; refine (HC.out _).mono ?_; rintro e w' ⟨rfl, rfl⟩)
  go_ret
  exact ⟨Ck.ret_int HR.out, rfl⟩
theorem pow_wrap8 : ∀ k : Nat, k < 8 → wrap64 ((2 : Int) ^ k) = (2 : Int) ^ k := by decide +kernel
theorem Power8_any (k : Nat) (w : World) (hk : k < 8) :
    Calls Tryz.prog 81 #[.int .i64 (k : Int)] w fun e w' => e = .returned (.int .i64 ((2 ^ k : Nat) : Int)) ∧ w = w' := by
  have HP := pow_wrap8 k hk
  go_enter Tryz.func81, Tryz.ntmps81
  go_wp2
  go_ret
  exact ⟨by show Ending.returned (.int .i64 (wrap64 ((2 : Int) ^ k))) = _; rw [HP]; push_cast; rfl, rfl⟩
set_option maxHeartbeats 2000000 in
theorem Bit_any (s : List UInt8) (i : Nat) (w : World) (hi : i < 8 * s.length) (hl : s.length ≤ 1000) :
    Calls Tryz.prog 114 #[.string ⟨s.toArray⟩, .int .i64 (i : Int)] w fun e w' => e = .returned (.int .i64 ((Ck.bitN s i : Nat) : Int)) ∧ Below w.heap.size w w' := by
  have hsz := Ck.str_size
  have HR := Lib.hid (Ck.bitN.eq_1 s i)
  have hq : (i : Int).tdiv 8 = ((i / 8 : Nat) : Int) := by rw [Int.tdiv_eq_ediv_of_nonneg (by omega)]; push_cast; rfl
  have hr : (i : Int).tmod 8 = ((i % 8 : Nat) : Int) := by rw [Int.tmod_eq_emod_of_nonneg (by omega)]; push_cast; rfl
  have hlt : i / 8 < s.length := by omega
  have hr8 : i % 8 < 8 := by omega
  obtain ⟨k, hk⟩ : ∃ k, k = i / 8 := ⟨_, rfl⟩
  obtain ⟨j, hj⟩ : ∃ j, j = i % 8 := ⟨_, rfl⟩
  rw [← hk] at hq hlt HR
  rw [← hj] at hr hr8 HR
  clear hk hj
  obtain ⟨p, hp⟩ : ∃ p : Nat, p = 2 ^ j := ⟨_, rfl⟩
  have HP : Hid (∀ W, Calls Tryz.prog 81 #[.int .i64 (j : Int)] W fun e w' => e = .returned (.int .i64 (p : Int)) ∧ W = w') := Lib.hid fun W => by rw [hp]; exact Power8_any j W hr8
  rw [← hp] at HR
  have hp0 : 0 < p := by rw [hp]; exact Nat.two_pow_pos j
  clear hp
  obtain ⟨x, hx⟩ : ∃ x, (Ck.at_ 0 s k).toNat = x := ⟨_, rfl⟩
  have hx256 : x < 256 := by rw [← hx]; exact (Ck.at_ 0 s k).toNat_lt
  rw [hx] at HR
  have hpz : ((p : Int) == 0) = false := by rw [beq_eq_false_iff_ne]; omega
  have hpn : ¬ p = 0 := by omega
  have hd : (x : Int).tdiv (p : Int) = ((x / p : Nat) : Int) := by rw [Int.tdiv_eq_ediv_of_nonneg (by omega)]; push_cast; rfl
  have hdl : x / p ≤ x := Nat.div_le_self _ _
  obtain ⟨y, hy⟩ : ∃ y, y = x / p := ⟨_, rfl⟩
  rw [← hy] at hd hdl HR
  clear hy
  have hm : (y : Int).tmod 2 = ((y % 2 : Nat) : Int) := by rw [Int.tmod_eq_emod_of_nonneg (by omega)]; push_cast; rfl
  have st := St.start w
  go_enter Tryz.func114, Tryz.ntmps114
  go_wp2_with (refine WL.out ?_; (repeat (fail)); (try refine WL.nil ?_))
  refine wp_region_plan 10 (by kernel_rfl) (by kernel_rfl) ?_; replace st := st.drew; generalize World.drew _ = W at st ⊢
  (apply Plan.val'; (focus (intro x0 x1 x2 x3 x4 x5 x6 x7 x8 x9 w1 hb; (try simp only [depF, fillA, Act.put, zta, ztz, zpt, zsz, zss, zl0, zls]); (repeat (fail)); have st := st.call hb; ((apply Yphi.run; (exact rfl); (go_simp <;> (try simp (disch := omega) only [wrap_id, sub_left, zac]) <;> rfl); exact rfl)))); (simp only [zca, zcn] <;> exact rfl))
  (apply Plan.val'; (focus (intro x0 x1 x2 x3 x4 x5 x6 x7 x8 x9 w1 hb; (try simp only [depF, fillA, Act.put, zta, ztz, zpt, zsz, zss, zl0, zls]); (repeat (fail)); have st := st.call hb; ((apply Yphi.run; (exact rfl); (go_simp <;> (try simp (disch := omega) only [wrap_id, sub_left, zac]) <;> rfl); exact rfl)))); (simp only [zca, zcn] <;> exact rfl))
  (apply Plan.val'; (focus (intro x0 x1 x2 x3 x4 x5 x6 x7 x8 x9 w1 hb; (try simp only [depF, fillA, Act.put, zta, ztz, zpt, zsz, zss, zl0, zls]); (repeat (rintro rfl)); have st := st.call hb; ((apply Yphi.run; (exact rfl); (go_simp <;> (try simp (disch := omega) only [wrap_id, sub_left, zac]) <;> rfl); exact rfl)))); (simp only [zca, zcn] <;> exact rfl))
  (apply Plan.val'; (focus (intro x0 x1 x2 x3 x4 x5 x6 x7 x8 x9 w1 hb; (try simp only [depF, fillA, Act.put, zta, ztz, zpt, zsz, zss, zl0, zls]); (repeat (rintro rfl)); have st := st.call hb; apply Yphi.chr (k); (exact rfl); exact rfl; exact Tryz.underlying9; exact rfl; exact rfl; (focus (exact rfl)); (focus omega))); (simp only [zca, zcn] <;> exact rfl))
  (apply Plan.val'; (focus (intro x0 x1 x2 x3 x4 x5 x6 x7 x8 x9 w1 hb; (try simp only [depF, fillA, Act.put, zta, ztz, zpt, zsz, zss, zl0, zls]); (repeat (rintro rfl)); have st := st.call hb; ((apply Yphi.run; (exact rfl); (go_simp <;> (try simp (disch := omega) only [wrap_id, sub_left, zac]) <;> rfl); exact rfl)))); (simp only [zca, zcn] <;> exact rfl))
  (apply Plan.val'; (focus (intro x0 x1 x2 x3 x4 x5 x6 x7 x8 x9 w1 hb; (try simp only [depF, fillA, Act.put, zta, ztz, zpt, zsz, zss, zl0, zls]); (repeat (fail)); have st := st.call hb; ((apply Yphi.run; (exact rfl); (go_simp <;> (try simp (disch := omega) only [wrap_id, sub_left, zac]) <;> rfl); exact rfl)))); (simp only [zca, zcn] <;> exact rfl))
  (apply Plan.val'; (focus (intro x0 x1 x2 x3 x4 x5 x6 x7 x8 x9 w1 hb; (try simp only [depF, fillA, Act.put, zta, ztz, zpt, zsz, zss, zl0, zls]); (repeat (rintro rfl)); have st := st.call hb; ((apply Yphi.run; (exact rfl); (go_simp <;> (try simp (disch := omega) only [wrap_id, sub_left, zac]) <;> rfl); exact rfl)))); (simp only [zca, zcn] <;> exact rfl))
  (apply Plan.val'; (focus (intro x0 x1 x2 x3 x4 x5 x6 x7 x8 x9 w1 hb; (try simp only [depF, fillA, Act.put, zta, ztz, zpt, zsz, zss, zl0, zls]); (repeat (rintro rfl)); have st := st.call hb; apply Yphi.call; (exact rfl); (go_simp <;> (try simp (disch := omega) only [wrap_id, sub_left, zac]) <;> rfl); exact rfl; refine (HP.out _).mono ?_; rintro e w' ⟨rfl, rfl⟩; exact ⟨_, rfl, Below.refl _ _, rfl⟩)); (simp only [zca, zcn] <;> exact rfl))
  (apply Plan.val'; (focus (intro x0 x1 x2 x3 x4 x5 x6 x7 x8 x9 w1 hb; (try simp only [depF, fillA, Act.put, zta, ztz, zpt, zsz, zss, zl0, zls]); (repeat (rintro rfl)); have st := st.call hb; ((apply Yphi.run; (exact rfl); (go_simp <;> (try simp (disch := omega) only [wrap_id, sub_left, zac]) <;> rfl); exact rfl)))); (simp only [zca, zcn] <;> exact rfl))
  (apply Plan.val'; (focus (intro x0 x1 x2 x3 x4 x5 x6 x7 x8 x9 w1 hb; (try simp only [depF, fillA, Act.put, zta, ztz, zpt, zsz, zss, zl0, zls]); (repeat (rintro rfl)); have st := st.call hb; ((apply Yphi.run; (exact rfl); (go_simp <;> (try simp (disch := omega) only [wrap_id, sub_left, zac]) <;> rfl); exact rfl)))); (simp only [zca, zcn] <;> exact rfl))
  intro x0 x1 x2 x3 x4 x5 x6 x7 x8 x9 lo hi w1 hb hap
  rintro rfl rfl rfl rfl rfl rfl rfl rfl rfl rfl
  simp only [allPhi, fillA, Act.put, zta, ztz, zpt, zsz, zss, zda, zdz]
  have st := st.call hb
  clear hap hb
  go_wp2_with (refine WL.out ?_; (repeat (fail)); (try refine WL.nil ?_))
  go_ret
  exact ⟨Ck.ret_int (by rw [HR.out]; push_cast; rfl), st.below⟩
set_option maxHeartbeats 2000000 in
theorem rmapErr_any (s : List UInt8) (c : Int) (w : World) (hs : s.length ≤ 100000) :
    Calls Tryz.prog 95 #[.string ⟨s.toArray⟩, .int .i64 c] w fun e w' => e = .returned (.int .i64 (Ck.mapErr s c)) ∧ Below w.heap.size w w' := by
  have hsz := Ck.str_size
  have st := St.start w
  have SZ : Hid (∀ W, Calls Tryz.prog 137 #[.int .i64 c] W fun e w' => e = .returned (.int .i64 (if Ck.wi c 0 4096 then 0 else 2)) ∧ W = w') := Lib.hid fun W => by
    cases q : Ck.wi c 0 4096
    · go_enter Tryz.func137, Tryz.ntmps137
      go_wp2_with (go_at_call 29; refine (Within_any _ _ _ _).mono ?_; rintro e w' ⟨rfl, rfl⟩)
      go_ret
      exact ⟨rfl, rfl⟩
    · go_enter Tryz.func137, Tryz.ntmps137
      go_wp2_with (go_at_call 29; refine (Within_any _ _ _ _).mono ?_; rintro e w' ⟨rfl, rfl⟩)
      go_ret
      exact ⟨rfl, rfl⟩
  cases q : Ck.wi c 0 4096
  · rw [q] at SZ
    have HR : Hid (Ck.mapErr s c = 2) := Lib.hid (by unfold Ck.mapErr; rw [q]; rfl)
    go_enter Tryz.func95, Tryz.ntmps95
    go_wp2_with (refine WL.out ?_; (repeat ((refine WL.op ?_ ?_; (exact rfl); intro K hK; (first | ((((with_reducible apply ow_assign); exact rfl)); (go_simp <;> (try simp (disch := omega) only [wrap_id, sub_left, zac]) <;> rfl)) | ((with_reducible apply ow_eval); (go_simp <;> (try simp (disch := omega) only [wrap_id, sub_left, zac]) <;> rfl); first | (with_reducible apply up_value) | ((with_reducible apply up_enter); ((go_at_call 137; refine (SZ.out _).mono ?_; rintro e w' ⟨rfl, rfl⟩; refine ⟨_, rfl, ?_⟩))))); refine WL.next hK (by simp only [Act.put, zpt, zsz, zss]; exact rfl) ?_; clear hK K))); (try refine WL.nil ?_))
    go_ret
    exact ⟨Ck.ret_int HR.out.symm, st.below⟩
  rw [q] at SZ
  have hc : 0 ≤ c ∧ c ≤ 4096 := by simp [Ck.wi] at q; omega
  obtain ⟨n, rfl⟩ := Int.eq_ofNat_of_zero_le hc.1
  have hn : n ≤ 4096 := by omega
  obtain ⟨d, hd⟩ : ∃ d, d = (n + 7) / 8 := ⟨_, rfl⟩
  have CE : Hid (∀ W, Calls Tryz.prog 80 #[.int .i64 (n : Int), .int .i64 8] W fun e w' => e = .returned (.int .i64 (d : Int)) ∧ W = w') := Lib.hid fun W => by rw [hd]; exact Ceil8_any n W (by omega)
  by_cases hl : s.length = d
  rotate_left
  · have hne : ((s.length : Int) != (d : Int)) = true := by rw [bne_iff_ne]; omega
    have HR : Hid (Ck.mapErr s (n : Int) = 10) := Lib.hid (by unfold Ck.mapErr; rw [q, if_pos rfl, if_neg (by omega)])
    clear hl hd
    go_enter Tryz.func95, Tryz.ntmps95
    go_wp2_with (refine WL.out ?_; (repeat ((refine WL.op ?_ ?_; (exact rfl); intro K hK; (first | ((first | ((with_reducible apply ow_move); exact rfl) | ((with_reducible apply ow_assign); exact rfl)); (go_simp <;> (try simp (disch := omega) only [wrap_id, sub_left, zac]) <;> rfl)) | ((with_reducible apply ow_eval); (go_simp <;> (try simp (disch := omega) only [wrap_id, sub_left, zac]) <;> rfl); first | (with_reducible apply up_value) | ((with_reducible apply up_enter); first | (go_at_call 137; refine (SZ.out _).mono ?_; rintro e w' ⟨rfl, rfl⟩; refine ⟨_, rfl, ?_⟩) | (go_at_call 80; refine (CE.out _).mono ?_; rintro e w' ⟨rfl, rfl⟩; refine ⟨_, rfl, ?_⟩)))); refine WL.next hK (by simp only [Act.put, zpt, zsz, zss]; exact rfl) ?_; clear hK K))); (try refine WL.nil ?_))
    go_ret
    exact ⟨Ck.ret_int HR.out.symm, st.below⟩
  have HR := Lib.hid (Ck.mapErr_bits (s := s) hn (by rw [hl, hd]))
  have hne : ((s.length : Int) != (d : Int)) = false := by rw [bne_eq_false_iff_eq]; omega
  have hsl : s.length ≤ 513 := by omega
  have hn8 : n ≤ 8 * s.length := by omega
  clear hl hd
  go_enter Tryz.func95, Tryz.ntmps95
  go_wp2_with (refine WL.out ?_; (repeat ((refine WL.op ?_ ?_; (exact rfl); intro K hK; (first | ((first | ((with_reducible apply ow_move); exact rfl) | ((with_reducible apply ow_assign); exact rfl)); (go_simp <;> (try simp (disch := omega) only [wrap_id, sub_left, zac]) <;> rfl)) | ((with_reducible apply ow_eval); (go_simp <;> (try simp (disch := omega) only [wrap_id, sub_left, zac]) <;> rfl); first | (with_reducible apply up_value) | ((with_reducible apply up_enter); first | (go_at_call 137; refine (SZ.out _).mono ?_; rintro e w' ⟨rfl, rfl⟩; refine ⟨_, rfl, ?_⟩) | (go_at_call 80; refine (CE.out _).mono ?_; rintro e w' ⟨rfl, rfl⟩; refine ⟨_, rfl, ?_⟩)))); refine WL.next hK (by simp only [Act.put, zpt, zsz, zss]; exact rfl) ?_; clear hK K))); (try refine WL.nil ?_))
  go_loopw [6] (fun i wr => ∃ k : Nat, n ≤ k ∧ k ≤ 8 * s.length ∧ i = .int .i64 (k : Int) ∧ Hid (∀ j, n ≤ j → j < k → Ck.bitN s j = 0) ∧ St w wr []) (fun i _ => 8 * s.length - (intOf i).toNat)
  case atStart => exact ⟨n, Nat.le_refl _, hn8, rfl, Lib.hid (fun j h1 h2 => absurd h1 (by omega)), st⟩
  case round =>
    clear st
    obtain ⟨k, hk0, hk, rfl, hs2, st⟩ := hrel
    by_cases hlt : k < 8 * s.length
    · have hlt' : (k : Int) < 8 * (s.length : Int) := by omega
      obtain ⟨v, hv⟩ : ∃ v, v = Ck.bitN s k := ⟨_, rfl⟩
      have HV := Lib.hid hv
      have HB : Hid (∀ W, Calls Tryz.prog 114 #[.string ⟨s.toArray⟩, .int .i64 (k : Int)] W fun e w' => e = .returned (.int .i64 (v : Int)) ∧ Below W.heap.size W w') := Lib.hid fun W => by rw [hv]; exact Bit_any s k W hlt (by omega)
      clear hv
      by_cases h0 : v = 0
      · have hs' : Hid (∀ j, n ≤ j → j < k + 1 → Ck.bitN s j = 0) := Lib.hid fun j h1 h2 => by
          by_cases e : j = k
          · rw [e, ← HV.out]; exact h0
          · exact hs2.out j h1 (by omega)
        subst h0
        go_wp2_with (refine WL.out ?_; (repeat ((refine WL.op ?_ ?_; (exact rfl); intro K hK; (first | ((((with_reducible apply ow_assign); exact rfl)); (go_simp <;> (try simp (disch := omega) only [wrap_id, sub_left, zac]) <;> rfl)) | ((with_reducible apply ow_eval); (go_simp <;> (try simp (disch := omega) only [wrap_id, sub_left, zac]) <;> rfl); first | (with_reducible apply up_value) | ((with_reducible apply up_enter); ((go_at_call 114; ((with_reducible refine (HB.out _).mono ?_)); rintro e w' ⟨rfl, hb⟩; replace st := st.call hb; clear hb; refine ⟨_, rfl, ?_⟩))))); refine WL.next hK (by simp only [Act.put, zpt, zsz, zss]; exact rfl) ?_; clear hK K))); (try refine WL.nil ?_))
        exact ⟨⟨k + 1, by omega, by omega, by go_num, hs', st⟩, by simp [intOf]; omega⟩
      · have hbad : Hid (Ck.mapErr s (n : Int) = 3) := Lib.hid (by
          refine HR.out.2 fun h => ?_
          exact h0 (by rw [HV.out]; exact h k hk0 hlt))
        have hv0 : ((v : Int) != 0) = true := by rw [bne_iff_ne]; omega
        clear h0
        go_wp2_with (refine WL.out ?_; (repeat ((refine WL.op ?_ ?_; (exact rfl); intro K hK; (((with_reducible apply ow_eval); (go_simp <;> (try simp (disch := omega) only [wrap_id, sub_left, zac]) <;> rfl); first | (with_reducible apply up_value) | ((with_reducible apply up_enter); ((go_at_call 114; ((with_reducible refine (HB.out _).mono ?_)); rintro e w' ⟨rfl, hb⟩; replace st := st.call hb; clear hb; refine ⟨_, rfl, ?_⟩))))); refine WL.next hK (by simp only [Act.put, zpt, zsz, zss]; exact rfl) ?_; clear hK K))); (try refine WL.nil ?_))
        go_ret
        exact ⟨Ck.ret_int hbad.out.symm, st.below⟩
    · have hlt' : ¬ (k : Int) < 8 * (s.length : Int) := by omega
      have hok : Hid (Ck.mapErr s (n : Int) = 0) := Lib.hid (HR.out.1 (fun i h1 h2 => hs2.out i h1 (by omega)))
      clear hlt
      go_wp2_with (refine WL.out ?_; (repeat ((refine WL.op ?_ ?_; (exact rfl); intro K hK; (((with_reducible apply ow_eval); (go_simp <;> (try simp (disch := omega) only [wrap_id, sub_left, zac]) <;> rfl); ((with_reducible apply up_value)))); refine WL.next hK (by simp only [Act.put, zpt, zsz, zss]; exact rfl) ?_; clear hK K))); (try refine WL.nil ?_))
      go_ret
      exact ⟨Ck.ret_int hok.out.symm, st.below⟩
end Go.Proofs.YtgcjejajljhnaaaGreatDoor
namespace Go.Proofs.YtgcjejajljhnaaaGreatDoor
open Go.RowKit Go.Hp
set_option maxRecDepth 8000 in
set_option maxHeartbeats 4000000 in
theorem ralwaysErr_any (v : Ck.VPt) (B : Nat) (w : World) (h : v.At w B) (hB : B ≤ w.heap.size) (hf : v.Fit) (hm : v.mp.length ≤ 100000) (hc0 : 64 ≤ v.c) (hc1 : v.c ≤ 512) :
    Calls Tryz.prog 50 #[v.val] w fun e w' => e = .returned (.int .i64 (Ck.first [Ck.goE (fun i => Ck.alErr v.c (Ck.at_ Ck.Run.o v.al i)) v.al.length, Ck.goE (Ck.dsErr v.ds) v.ds.length, if v.ds.length = 0 then 17 else 0, Ck.mapErr v.mp v.c])) ∧ Below w.heap.size w w' := by
  have H := Lib.hid h
  have HF := Lib.hid hf
  have HMP := Lib.hid hm
  clear h hf hm
  obtain ⟨c, al, rs, ds, mp, Aa, ca, Ar, cr, Ad, cd⟩ := v
  unfold Ck.VPt.val
  simp only at *
  obtain ⟨na, e1⟩ : ∃ n, n = al.length := ⟨_, rfl⟩
  obtain ⟨nr, e2⟩ : ∃ n, n = rs.length := ⟨_, rfl⟩
  obtain ⟨nd, e3⟩ : ∃ n, n = ds.length := ⟨_, rfl⟩
  have E1 := Lib.hid e1
  have E3 := Lib.hid e3
  rw [← e1, ← e2, ← e3]
  clear e1 e2 e3
  have hn1 : na ≤ 100000 := by rw [E1.out]; exact HF.out.al
  have hn3 : nd ≤ 100000 := by rw [E3.out]; exact HF.out.ds
  obtain ⟨R, eR⟩ : ∃ R, R = Ck.first [Ck.goE (fun i => Ck.alErr c (Ck.at_ Ck.Run.o al i)) na, Ck.goE (Ck.dsErr ds) nd, if nd = 0 then 17 else 0, Ck.mapErr mp c] := ⟨_, rfl⟩
  rw [← eR]
  have HR2 := Lib.hid eR
  clear eR
  have st := St.start w
  go_enter Tryz.func50, Tryz.ntmps50
  go_wp2_with (refine WL.out ?_; (repeat ((refine WL.op ?_ ?_; (exact rfl); intro K hK; (first | ((((with_reducible apply ow_assign); exact rfl)); (go_simp <;> (try simp (disch := omega) only [wrap_id, sub_left, zac]) <;> rfl)) | ((((with_reducible apply ow_box st); exact rfl; (go_simp <;> (try simp (disch := omega) only [wrap_id, sub_left, zac]) <;> rfl); (go_simp <;> (try simp (disch := omega) only [wrap_id, sub_left, zac]) <;> rfl))); (try clear st); intro b w' st)); refine WL.next hK (by simp only [Act.put, zpt, zsz, zss]; exact rfl) ?_; clear hK K))); (try refine WL.nil ?_))
  go_loopw [3] (fun i wr => ∃ j : Nat, j ≤ na ∧ i = .int .i64 j ∧ St w wr [.box b 26 [.int .i64 c, .slice Aa na ca, .slice Ar nr cr, .slice Ad nd cd, .string ⟨mp.toArray⟩]] ∧ Hid (Ck.goE (fun i => Ck.alErr c (Ck.at_ Ck.Run.o al i)) j = 0)) (fun i _ => na - (intOf i).toNat)
  case atStart => exact ⟨0, by omega, rfl, st, rfl⟩
  case round =>
    clear st
    obtain ⟨j, hj, rfl, st, hs⟩ := hrel
    by_cases hlt : j < na
    · have hkl : Hid (j < al.length) := Lib.hid (by rw [← E1.out]; exact hlt)
      obtain ⟨b1, o1, rfl, hb1, hc⟩ := H.out.al.at_ (Nat.lt_of_le_of_lt (Nat.zero_le _) hkl.out)
      have hb1 := Nat.lt_of_lt_of_le hb1 hB
      have f1 := hc j hkl.out
      clear hc
      obtain ⟨y, hy⟩ : ∃ y, y = Ck.at_ Ck.Run.o al j := ⟨_, rfl⟩
      have g0 : wr.cell? ⟨b1, o1 + j * 2, none⟩ = some (.int .i64 y.s) := (st.old hb1).trans (by rw [hy]; exact f1 0 _ rfl)
      have g1 : wr.cell? ⟨b1, o1 + j * 2 + 1, none⟩ = some (.int .i64 y.l) := (st.old hb1).trans (by rw [hy]; exact f1 1 _ rfl)
      have HY := Lib.hid hy
      clear hy f1
      obtain ⟨ys, yl⟩ := y
      simp only at g0 g1
      have k0 := st.cell (i := 0) rfl 0
      have k1 := st.cell (i := 0) rfl 1
      simp only [List.getElem?_cons_succ, List.getElem?_cons_zero] at k0 k1
      have bad : Hid (Ck.alErr c ⟨ys, yl⟩ ≠ 0 → R = Ck.alErr c ⟨ys, yl⟩) := Lib.hid fun h0 => by
        have := (Ck.goE_stop (fun i => Ck.alErr c (Ck.at_ Ck.Run.o al i)) hs.out (by show Ck.alErr c (Ck.at_ Ck.Run.o al j) ≠ 0; rw [← HY.out]; exact h0) na hlt)
        rw [HR2.out, this]
        show Ck.first (Ck.alErr c (Ck.at_ Ck.Run.o al j) :: _) = _
        rw [← HY.out]
        exact if_neg h0
      cases z2 : Ck.wi ys 0 (c - 1)
      · have Z2 := Lib.hid z2
        go_wp2_with (refine WL.out ?_; (repeat ((refine WL.op ?_ ?_; (exact rfl); intro K hK; (first | ((((with_reducible apply ow_load1 st); exact rfl; exact inferInstance; exact rfl; (exact get0))); exact rfl) | ((with_reducible apply ow_eval); (go_simp <;> (try simp (disch := omega) only [wrap_id, sub_left, zac]) <;> rfl); ((with_reducible apply up_value)))); refine WL.next hK (by simp only [Act.put, zpt, zsz, zss]; exact rfl) ?_; clear hK K))); (try refine WL.nil ?_))
        go_quiet ((go_at_call 29; refine Calls.quiet_of_same ((Within_any _ _ _ _).mono fun _ _ h => ⟨h.1, h.2.symm⟩)))
        replace st := st.drewN nq
        clear g0 g1 k0 k1
        go_wp2_with (refine WL.out ?_; (repeat (fail)); (try refine WL.nil ?_))
        go_ret
        have e2 : Ck.alErr c ⟨ys, yl⟩ = 2 := by unfold Ck.alErr; rw [Z2.out]; rfl
        exact ⟨Ck.ret_int (by rw [bad.out (by rw [e2]; decide), e2]), st.below⟩
      obtain ⟨hy0, hy1⟩ : 0 ≤ ys ∧ ys ≤ c - 1 := by simp [Ck.wi] at z2; omega
      cases z3 : Ck.wi yl 1 (c - ys)
      · have Z3 := Lib.hid (And.intro z2 z3)
        go_wp2_with (refine WL.out ?_; (repeat ((refine WL.op ?_ ?_; (exact rfl); intro K hK; (first | ((((with_reducible apply ow_load1 st); exact rfl; exact inferInstance; exact rfl; (exact get0))); exact rfl) | ((with_reducible apply ow_eval); (go_simp <;> (try simp (disch := omega) only [wrap_id, sub_left, zac]) <;> rfl); ((with_reducible apply up_value)))); refine WL.next hK (by simp only [Act.put, zpt, zsz, zss]; exact rfl) ?_; clear hK K))); (try refine WL.nil ?_))
        go_quiet ((go_at_call 29; refine Calls.quiet_of_same ((Within_any _ _ _ _).mono fun _ _ h => ⟨h.1, h.2.symm⟩)))
        replace st := st.drewN nq
        clear g0 g1 k0 k1
        go_wp2_with (refine WL.out ?_; (repeat (fail)); (try refine WL.nil ?_))
        go_ret
        have e2 : Ck.alErr c ⟨ys, yl⟩ = 2 := by unfold Ck.alErr; rw [Z3.out.1, Z3.out.2]; rfl
        exact ⟨Ck.ret_int (by rw [bad.out (by rw [e2]; decide), e2]), st.below⟩
      have hs' : Hid (Ck.goE (fun i => Ck.alErr c (Ck.at_ Ck.Run.o al i)) (j + 1) = 0) := Lib.hid (by rw [Ck.goE_next _ hs.out, ← HY.out]; unfold Ck.alErr; rw [z2, z3]; rfl)
      go_wp2_with (refine WL.out ?_; (repeat ((refine WL.op ?_ ?_; (exact rfl); intro K hK; (first | ((((with_reducible apply ow_load1 st); exact rfl; exact inferInstance; exact rfl; (exact get0))); exact rfl) | ((with_reducible apply ow_eval); (go_simp <;> (try simp (disch := omega) only [wrap_id, sub_left, zac]) <;> rfl); ((with_reducible apply up_value)))); refine WL.next hK (by simp only [Act.put, zpt, zsz, zss]; exact rfl) ?_; clear hK K))); (try refine WL.nil ?_))
      go_quiet ((go_at_call 29; refine Calls.quiet_of_same ((Within_any _ _ _ _).mono fun _ _ h => ⟨h.1, h.2.symm⟩)))
      replace st := st.drewN nq
      clear g0 g1 k0 k1
      go_wp2_with (refine WL.out ?_; (repeat ((refine WL.op ?_ ?_; (exact rfl); intro K hK; (first | ((((with_reducible apply ow_assign); exact rfl)); (go_simp <;> (try simp (disch := omega) only [wrap_id, sub_left, zac]) <;> rfl)) | ((with_reducible apply ow_eval); (go_simp <;> (try simp (disch := omega) only [wrap_id, sub_left, zac]) <;> rfl); ((with_reducible apply up_value)))); refine WL.next hK (by simp only [Act.put, zpt, zsz, zss]; exact rfl) ?_; clear hK K))); (try refine WL.nil ?_))
      exact ⟨⟨j + 1, by omega, by go_num, st, hs'⟩, by simp [intOf]; omega⟩
    · obtain rfl : na = j := by omega
      have HR3 : Hid (R = Ck.first [Ck.goE (Ck.dsErr ds) nd, if nd = 0 then 17 else 0, Ck.mapErr mp c]) := Lib.hid (by rw [HR2.out, hs.out]; rfl)
      clear hs HR2
      go_wp2_with (refine WL.out ?_; (repeat ((refine WL.op ?_ ?_; (exact rfl); intro K hK; (first | ((((with_reducible apply ow_load1 st); exact rfl; exact inferInstance; exact rfl; (exact get0))); exact rfl) | ((with_reducible apply ow_eval); (go_simp <;> (try simp (disch := omega) only [wrap_id, sub_left, zac]) <;> rfl); ((with_reducible apply up_value)))); refine WL.next hK (by simp only [Act.put, zpt, zsz, zss]; exact rfl) ?_; clear hK K))); (try refine WL.nil ?_))
      go_loopw [4] (fun i wr => ∃ j : Nat, j ≤ nd ∧ i = .int .i64 j ∧ St w wr [.box b 26 [.int .i64 c, .slice Aa na ca, .slice Ar nr cr, .slice Ad nd cd, .string ⟨mp.toArray⟩]] ∧ Hid (Ck.goE (Ck.dsErr ds) j = 0)) (fun i _ => nd - (intOf i).toNat)
      case atStart => exact ⟨0, by omega, rfl, st, rfl⟩
      case round =>
        clear st
        obtain ⟨j, hj, rfl, st, hs⟩ := hrel
        by_cases hlt : j < nd
        · have hkl : Hid (j < ds.length) := Lib.hid (by rw [← E3.out]; exact hlt)
          obtain ⟨b1, o1, rfl, hb1, hc⟩ := H.out.ds.at_ (Nat.lt_of_le_of_lt (Nat.zero_le _) hkl.out)
          have hb1 := Nat.lt_of_lt_of_le hb1 hB
          have f1 := oldI (hc j hkl.out)
          have f2 := fun i (hi : i < ds.length) => oldI (hc i hi)
          clear hc
          obtain ⟨y, hy⟩ : ∃ y, y = Ck.at_ 0 ds j := ⟨_, rfl⟩
          have f1 : w.cell? ⟨b1, o1 + j, none⟩ = some (.int .i64 y) := by rw [hy]; exact f1
          have HY := Lib.hid hy
          clear hy
          have bad : Hid (Ck.dsErr ds j ≠ 0 → R = Ck.dsErr ds j) := Lib.hid fun h0 => by
            have := Ck.goE_stop (Ck.dsErr ds) hs.out h0 nd hlt
            rw [HR3.out, this]
            exact if_neg h0
          cases z2 : Ck.wi y 1 2147483647
          · have Z2 := Lib.hid z2
            clear f2
            go_wp2_with (refine WL.out ?_; (repeat ((refine WL.op ?_ ?_; (exact rfl); intro K hK; (first | ((((with_reducible apply ow_move); exact rfl)); (go_simp <;> (try simp (disch := omega) only [wrap_id, sub_left, zac]) <;> rfl)) | ((((with_reducible apply ow_load1 st); exact rfl; exact inferInstance; exact rfl; (exact get0))); exact rfl) | ((with_reducible apply ow_old1 st); exact rfl; exact inferInstance; exact rfl; assumption; assumption) | ((with_reducible apply ow_eval); (go_simp <;> (try simp (disch := omega) only [wrap_id, sub_left, zac]) <;> rfl); first | (with_reducible apply up_value) | ((with_reducible apply up_enter); ((go_at_call 29; refine (Within_any _ _ _ _).mono ?_; rintro e w' ⟨rfl, rfl⟩; refine ⟨_, rfl, ?_⟩))))); refine WL.next hK (by simp only [Act.put, zpt, zsz, zss]; exact rfl) ?_; clear hK K))); (try refine WL.nil ?_))
            go_ret
            have e2 : Ck.dsErr ds j = 2 := by unfold Ck.dsErr; rw [← HY.out, Z2.out]; rfl
            exact ⟨Ck.ret_int (by rw [bad.out (by rw [e2]; decide), e2]), st.below⟩
          have k3 := st.cell (i := 0) rfl 3
          simp only [List.getElem?_cons_succ, List.getElem?_cons_zero] at k3
          have g1 : wr.cell? ⟨b1, o1 + j, none⟩ = some (.int .i64 y) := (st.old hb1).trans f1
          rcases Nat.eq_zero_or_pos j with hj0 | hj0
          · have hs' : Hid (Ck.goE (Ck.dsErr ds) (j + 1) = 0) := Lib.hid (by rw [Ck.goE_next _ hs.out]; unfold Ck.dsErr; rw [← HY.out, z2, if_pos rfl, if_neg (by omega)])
            clear f2
            have hj1 : ¬ (0 < j) := by omega
            have hj2 : decide (0 < (j : Int)) = false := decide_eq_false (by omega)
            clear hj0
            go_upto_region 11 with (refine WL.out ?_; (repeat ((refine WL.op ?_ ?_; (exact rfl); intro K hK; (first | ((((with_reducible apply ow_move); exact rfl)); (go_simp <;> (try simp (disch := omega) only [wrap_id, sub_left, zac]) <;> rfl)) | ((((with_reducible apply ow_load1 st); exact rfl; exact inferInstance; exact rfl; (exact get0))); exact rfl) | ((with_reducible apply ow_old1 st); exact rfl; exact inferInstance; exact rfl; assumption; assumption) | ((with_reducible apply ow_eval); (go_simp <;> (try simp (disch := omega) only [wrap_id, sub_left, zac]) <;> rfl); first | (with_reducible apply up_value) | ((with_reducible apply up_enter); ((go_at_call 29; refine (Within_any _ _ _ _).mono ?_; rintro e w' ⟨rfl, rfl⟩; refine ⟨_, rfl, ?_⟩))))); refine WL.next hK (by simp only [Act.put, zpt, zsz, zss]; exact rfl) ?_; clear hK K))); (try refine WL.nil ?_))
            go_quiet (fail)
            replace st := st.drewN nq
            clear k3 g1 hj2
            go_wp2_with (refine WL.out ?_; (repeat ((refine WL.op ?_ ?_; (exact rfl); intro K hK; (first | ((((with_reducible apply ow_assign); exact rfl)); (go_simp <;> (try simp (disch := omega) only [wrap_id, sub_left, zac]) <;> rfl)) | ((with_reducible apply ow_eval); (go_simp <;> (try simp (disch := omega) only [wrap_id, sub_left, zac]) <;> rfl); ((with_reducible apply up_value)))); refine WL.next hK (by simp only [Act.put, zpt, zsz, zss]; exact rfl) ?_; clear hK K))); (try refine WL.nil ?_))
            exact ⟨⟨j + 1, by omega, by go_num, st, hs'⟩, by simp [intOf]; omega⟩
          · obtain ⟨i, hi⟩ : ∃ i, j = i + 1 := ⟨j - 1, by omega⟩
            have HI := Lib.hid hi
            have hji : (j : Int) - 1 = (i : Int) := by omega
            have hin : i < nd := by omega
            have f2 := f2 i (Nat.lt_trans (by omega) hkl.out)
            have hj2 : decide (0 < (j : Int)) = true := decide_eq_true (by omega)
            clear hi
            obtain ⟨x, hx⟩ : ∃ x, x = Ck.at_ 0 ds i := ⟨_, rfl⟩
            have f2 : w.cell? ⟨b1, o1 + i, none⟩ = some (.int .i64 x) := by rw [hx]; exact f2
            have g2 : wr.cell? ⟨b1, o1 + i, none⟩ = some (.int .i64 x) := (st.old hb1).trans f2
            have HX := Lib.hid hx
            clear hx
            have hds : Hid (Ck.dsErr ds j = if y ≤ x then 9 else 0) := Lib.hid (by
              unfold Ck.dsErr
              rw [← HY.out, z2, HI.out, Nat.add_sub_cancel, ← HX.out, if_pos rfl]
              by_cases h : y ≤ x
              · rw [if_pos h, if_pos ⟨by omega, h⟩]
              · rw [if_neg h, if_neg (fun q => h q.2)])
            by_cases hyx : y ≤ x
            · go_upto_region 11 with (refine WL.out ?_; (repeat ((refine WL.op ?_ ?_; (exact rfl); intro K hK; (first | ((((with_reducible apply ow_move); exact rfl)); (go_simp <;> (try simp (disch := omega) only [wrap_id, sub_left, zac]) <;> rfl)) | ((((with_reducible apply ow_load1 st); exact rfl; exact inferInstance; exact rfl; (exact get0))); exact rfl) | ((with_reducible apply ow_old1 st); exact rfl; exact inferInstance; exact rfl; assumption; assumption) | ((with_reducible apply ow_eval); (go_simp <;> (try simp (disch := omega) only [wrap_id, sub_left, zac]) <;> rfl); first | (with_reducible apply up_value) | ((with_reducible apply up_enter); ((go_at_call 29; refine (Within_any _ _ _ _).mono ?_; rintro e w' ⟨rfl, rfl⟩; refine ⟨_, rfl, ?_⟩))))); refine WL.next hK (by simp only [Act.put, zpt, zsz, zss]; exact rfl) ?_; clear hK K))); (try refine WL.nil ?_))
              go_quiet (fail)
              replace st := st.drewN nq
              clear k3 g1 g2 hj2
              go_wp2_with (refine WL.out ?_; (repeat (fail)); (try refine WL.nil ?_))
              go_ret
              have e2 : Ck.dsErr ds j = 9 := by rw [hds.out, if_pos hyx]
              exact ⟨Ck.ret_int (by rw [bad.out (by rw [e2]; decide), e2]), st.below⟩
            · have hs' : Hid (Ck.goE (Ck.dsErr ds) (j + 1) = 0) := Lib.hid (by rw [Ck.goE_next _ hs.out, hds.out, if_neg hyx])
              go_upto_region 11 with (refine WL.out ?_; (repeat ((refine WL.op ?_ ?_; (exact rfl); intro K hK; (first | ((((with_reducible apply ow_move); exact rfl)); (go_simp <;> (try simp (disch := omega) only [wrap_id, sub_left, zac]) <;> rfl)) | ((((with_reducible apply ow_load1 st); exact rfl; exact inferInstance; exact rfl; (exact get0))); exact rfl) | ((with_reducible apply ow_old1 st); exact rfl; exact inferInstance; exact rfl; assumption; assumption) | ((with_reducible apply ow_eval); (go_simp <;> (try simp (disch := omega) only [wrap_id, sub_left, zac]) <;> rfl); first | (with_reducible apply up_value) | ((with_reducible apply up_enter); ((go_at_call 29; refine (Within_any _ _ _ _).mono ?_; rintro e w' ⟨rfl, rfl⟩; refine ⟨_, rfl, ?_⟩))))); refine WL.next hK (by simp only [Act.put, zpt, zsz, zss]; exact rfl) ?_; clear hK K))); (try refine WL.nil ?_))
              go_quiet (fail)
              replace st := st.drewN nq
              clear k3 g1 g2 hj2
              go_wp2_with (refine WL.out ?_; (repeat ((refine WL.op ?_ ?_; (exact rfl); intro K hK; (first | ((((with_reducible apply ow_assign); exact rfl)); (go_simp <;> (try simp (disch := omega) only [wrap_id, sub_left, zac]) <;> rfl)) | ((with_reducible apply ow_eval); (go_simp <;> (try simp (disch := omega) only [wrap_id, sub_left, zac]) <;> rfl); ((with_reducible apply up_value)))); refine WL.next hK (by simp only [Act.put, zpt, zsz, zss]; exact rfl) ?_; clear hK K))); (try refine WL.nil ?_))
              exact ⟨⟨j + 1, by omega, by go_num, st, hs'⟩, by simp [intOf]; omega⟩
        · obtain rfl : nd = j := by omega
          have HR4 : Hid (R = Ck.first [if nd = 0 then 17 else 0, Ck.mapErr mp c]) := Lib.hid (by rw [HR3.out, hs.out]; rfl)
          clear hs HR3
          by_cases h0 : nd = 0
          · have h0' : ((nd : Int) == 0) = true := by rw [h0]; rfl
            have HQ : Hid (R = 17) := Lib.hid (by rw [HR4.out, if_pos h0]; rfl)
            clear h0
            go_wp2_with (refine WL.out ?_; (repeat ((refine WL.op ?_ ?_; (exact rfl); intro K hK; (first | ((((with_reducible apply ow_load1 st); exact rfl; exact inferInstance; exact rfl; (exact get0))); exact rfl) | ((with_reducible apply ow_eval); (go_simp <;> (try simp (disch := omega) only [wrap_id, sub_left, zac]) <;> rfl); ((with_reducible apply up_value)))); refine WL.next hK (by simp only [Act.put, zpt, zsz, zss]; exact rfl) ?_; clear hK K))); (try refine WL.nil ?_))
            go_ret
            exact ⟨Ck.ret_int HQ.out.symm, st.below⟩
          · have h0' : ((nd : Int) == 0) = false := by rw [beq_eq_false_iff_ne]; omega
            have HQ : Hid (R = Ck.mapErr mp c) := Lib.hid (by
              rw [HR4.out, if_neg h0]
              show (if (0 : Int) = 0 then (if Ck.mapErr mp c = 0 then 0 else Ck.mapErr mp c) else 0) = _
              rw [if_pos rfl]
              split <;> simp_all)
            clear h0
            go_wp2_with (refine WL.out ?_; (repeat ((refine WL.op ?_ ?_; (exact rfl); intro K hK; (first | ((((with_reducible apply ow_assign); exact rfl)); (go_simp <;> (try simp (disch := omega) only [wrap_id, sub_left, zac]) <;> rfl)) | ((((with_reducible apply ow_load1 st); exact rfl; exact inferInstance; exact rfl; (exact get0))); exact rfl) | ((with_reducible apply ow_eval); (go_simp <;> (try simp (disch := omega) only [wrap_id, sub_left, zac]) <;> rfl); first | (with_reducible apply up_value) | ((with_reducible apply up_enter); ((go_at_call 95; ((with_reducible refine (rmapErr_any mp c _ HMP.out).mono ?_)); rintro e w' ⟨rfl, hb⟩; replace st := st.call hb; clear hb; refine ⟨_, rfl, ?_⟩))))); refine WL.next hK (by simp only [Act.put, zpt, zsz, zss]; exact rfl) ?_; clear hK K))); (try refine WL.nil ?_))
            go_ret
            exact ⟨Ck.ret_int HQ.out.symm, st.below⟩
end Go.Proofs.YtgcjejajljhnaaaGreatDoor
