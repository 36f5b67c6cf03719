/- Own text, part Err 1: walks of the package acl and of its reference, and the plain laws that they lean on; no statement of the seat is here. -/
import Derived.Test.YtgcjejajljhnaaaGreatDoorBase3
import Derived.Test.YtgcjejajljhnaaaGreatDoorBase2
import Derived.Shelf.Small.Strs
import Derived.Shelf.Strconv.Atoi
import Derived.Shelf.Strconv.Itoa0
import Derived.Shelf.Strconv.Itoa1
import Derived.Shelf.LaysM
import Derived.Shelf.Strconv.Itoa2
import Derived.Shelf.Strconv.Itoa3
import Derived.Shelf.Strconv.AtoiErrFast
import Derived.Shelf.Strconv.ParseIntEmpty
import Derived.Shelf.Strconv.AtoiFail
import Derived.Shelf.Strconv.Clone
import Derived.Shelf.Strconv.SyntaxError
import Derived.Shelf.LaysC
import Derived.Shelf.Strconv.ToError
import Derived.Shelf.Strconv.Lower
import Derived.Shelf.Strconv.ParseUint10
import Derived.Shelf.Strconv.ParseUint10Empty
import Derived.Shelf.Strconv.ParseUint10Any
import Derived.Shelf.Strconv.ParseInt10
import Derived.Shelf.Strconv.AtoiLong
import Derived.Shelf.Strconv.AtoiInnerAll
import Derived.Shelf.Strconv.RangeError
import Derived.Shelf.Strconv.ToErrorRange
import Derived.Shelf.Strconv.AtoiAll
import Derived.Shelf.Strings.Search1
import Derived.Shelf.Strings.Search2
import Derived.Shelf.Strings.Search3
import Derived.Shelf.Strings.Count
import Derived.Shelf.Strings.Shaped
import Derived.Shelf.Strings.Prefix
import Derived.Shelf.Strings.Split
import Derived.Shelf.Strings.SplitShaped
import Derived.Shelf.Unicode.DecodeSlow
import Derived.Shelf.Unicode.DecodeAny
import Derived.Test.YtgcjejajljhnaaaGreatDoorProg
import Derived.Laws.IdiomStrings
import Derived.Lib.AtoiErrMem
import Derived.Lib.AppendIntMem
import Derived.Lib.SmallJoins
set_option linter.all false
namespace Go.Proofs.YtgcjejajljhnaaaGreatDoor
open Go.RowKit Go.Hp
theorem bsize_any (c : Int) (w : World) (h0 : 0 ≤ c) (h1 : c ≤ 4096) :
    Calls Tryz.prog 132 #[.int .i64 c] w fun e w' => e = .returned (.int .i64 ((c + 7) / 8)) ∧ w = w' := by
  have HR := Lib.hid (show (c + 8 - 1) / 8 = (c + 7) / 8 by congr 1; omega)
  go_enter Tryz.func132, Tryz.ntmps132
  go_wp2
  go_ret
  exact ⟨Ck.ret_int HR.out, rfl⟩
set_option maxHeartbeats 1000000 in
theorem CheckBitmap_any (s : List UInt8) (c : Int) (w : World) (hs : s.length ≤ 100000) :
    Calls Tryz.prog 88 #[.string ⟨s.toArray⟩, .int .i64 c] w fun e w' => e = .returned (.int .i64 (Ck.mapErr s c)) ∧ w = w' := by
  have HR := Lib.hid (Ck.mapErr.eq_1 s c)
  rcases Bool.eq_false_or_eq_true (Ck.wi c 0 4096) with hwi | hwi
  · have hb : 0 ≤ c ∧ c ≤ 4096 := by simpa [Ck.wi] using hwi
    obtain ⟨h0, h1⟩ := hb
    obtain ⟨q, hq⟩ : ∃ q : Nat, (q : Int) = (c + 7) / 8 := ⟨((c + 7) / 8).toNat, by omega⟩
    have hsz : ∀ W, Calls Tryz.prog 132 #[.int .i64 c] W fun e w' => e = .returned (.int .i64 (q : Int)) ∧ W = w' := fun W => by rw [hq]; exact bsize_any c W h0 h1
    have HQ := Lib.hid hq
    clear hq
    by_cases hl : s.length = q
    · obtain ⟨r, hr⟩ : ∃ r : Nat, c.tmod 8 = (r : Int) := ⟨(c % 8).toNat, by rw [Int.tmod_eq_emod_of_nonneg h0]; omega⟩
      have HRR := Lib.hid (show c % 8 = (r : Int) by rw [← Int.tmod_eq_emod_of_nonneg h0]; exact hr)
      have hr8 : r < 8 := by have := HRR.out; omega
      rcases Nat.eq_zero_or_pos r with hz | hz
      · subst hz
        have st := St.start w
        go_enter Tryz.func88, Tryz.ntmps88
        go_wp2_with (refine WL.out ?_; (repeat (first | (refine WL.op ?_ ?_; (exact rfl); intro K hK; (first | ((first | ((with_reducible apply ow_move); exact rfl) | ((with_reducible apply ow_assign); exact rfl)); (go_simp <;> (try simp (disch := omega) only [wrap_id, sub_left, zac]) <;> rfl)) | ((with_reducible apply ow_eval); (go_simp <;> (try simp (disch := omega) only [wrap_id, sub_left, zac]) <;> rfl); first | (with_reducible apply up_value) | ((with_reducible apply up_enter); first | (go_at_call 131; refine (bwithin_any _ _ _ _).mono ?_; rintro e w' ⟨rfl, rfl⟩; refine ⟨_, rfl, ?_⟩) | (go_at_call 132; refine (hsz _).mono ?_; rintro e w' ⟨rfl, rfl⟩; refine ⟨_, rfl, ?_⟩) | (go_at_call 133; refine (bunless_any _ _ _).mono ?_; rintro e w' ⟨rfl, rfl⟩; refine ⟨_, rfl, ?_⟩)))); refine WL.next hK (by simp only [Act.put, zpt, zsz, zss]; exact rfl) ?_; clear hK K) | (refine WL.skip ?_ (by simp only [Act.put, zpt, zsz, zss]; exact rfl) ?_; (exact rfl)))); (try refine WL.nil ?_))
        go_ret
        exact ⟨Ck.ret_int (by rw [HR.out, if_pos hwi, if_pos (by rw [hl]; have := HQ.out; omega), if_pos (.inl HRR.out)]; rfl), rfl⟩
      · obtain ⟨m, rfl⟩ : ∃ m, q = m + 1 := ⟨q - 1, by have := HQ.out; have := HRR.out; omega⟩
        have hr0 : ((r : Int) == 0) = false := by rw [beq_eq_false_iff_ne]; omega
        have hwm : IntKind.i64.wrap (m : Int) = (m : Int) := by rw [IntKind.wrap_i64]; have := HQ.out; omega
        have hm : s.length = m + 1 := hl
        have HL := Lib.hid hl
        clear hl
        have HLast := Lib.hid (show s.getLast?.getD 0 = Ck.at_ 0 s m by
          have : s ≠ [] := by intro e; rw [e] at hm; simp at hm
          rw [List.getLast?_eq_some_getLast this, Ck.at_eq 0 s m (by omega), List.getLast_eq_getElem]
          simp [hm])
        have st := St.start w
        go_enter Tryz.func88, Tryz.ntmps88
        go_wp2_with (refine WL.out ?_; (repeat ((refine WL.op ?_ ?_; (exact rfl); intro K hK; (first | ((first | ((with_reducible apply ow_move); exact rfl) | ((with_reducible apply ow_assign); exact rfl)); (go_simp <;> (try simp (disch := omega) only [wrap_id, sub_left, zac]) <;> rfl)) | ((with_reducible apply ow_char (m)); exact rfl; exact Tryz.underlying9; exact rfl; exact rfl; (focus (exact rfl)); (focus omega)) | ((with_reducible apply ow_eval); (go_simp <;> (try simp (disch := omega) only [wrap_id, sub_left, zac]) <;> rfl); first | (with_reducible apply up_value) | ((with_reducible apply up_enter); first | (go_at_call 131; refine (bwithin_any _ _ _ _).mono ?_; rintro e w' ⟨rfl, rfl⟩; refine ⟨_, rfl, ?_⟩) | (go_at_call 132; refine (hsz _).mono ?_; rintro e w' ⟨rfl, rfl⟩; refine ⟨_, rfl, ?_⟩) | (go_at_call 133; refine (bunless_any _ _ _).mono ?_; rintro e w' ⟨rfl, rfl⟩; refine ⟨_, rfl, ?_⟩)))); refine WL.next hK (by simp only [Act.put, zpt, zsz, zss]; exact rfl) ?_; clear hK K))); (try refine WL.nil ?_))
        go_ret
        refine ⟨Ck.ret_int ?_, rfl⟩
        rw [HR.out, if_pos hwi, if_pos (by rw [hm]; have := HQ.out; omega), HLast.out, HRR.out]
        unfold Ck.unl
        have e1 : (((Ck.at_ 0 s m).toNat : Int) / 2 ^ r == 0) = decide ((Ck.at_ 0 s m).toNat / 2 ^ r = 0) := by
          rw [show (((Ck.at_ 0 s m).toNat : Int) / 2 ^ r) = (((Ck.at_ 0 s m).toNat / 2 ^ r : Nat) : Int) by push_cast; rfl]
          by_cases h : (Ck.at_ 0 s m).toNat / 2 ^ r = 0
          · rw [h]; rfl
          · rw [decide_eq_false h, beq_eq_false_iff_ne]; omega
        rw [e1, Int.toNat_natCast]
        by_cases h : (Ck.at_ 0 s m).toNat / 2 ^ r = 0
        · rw [decide_eq_true h, if_pos (show (r : Int) = 0 ∨ _ from .inr h)]; rfl
        · rw [decide_eq_false h, if_neg (show ¬ ((r : Int) = 0 ∨ (Ck.at_ 0 s m).toNat / 2 ^ r = 0) from fun h' => h'.elim (fun e => by omega) h)]; rfl
    · have hne : ((s.length : Int) != (q : Int)) = true := by rw [bne_iff_ne]; omega
      have hne' : ((s.length : Int) == (q : Int)) = false := by rw [beq_eq_false_iff_ne]; omega
      have HL := Lib.hid hl
      clear hl
      have st := St.start w
      go_enter Tryz.func88, Tryz.ntmps88
      go_wp2_with (refine WL.out ?_; (repeat ((refine WL.op ?_ ?_; (exact rfl); intro K hK; (first | ((((with_reducible apply ow_move); exact rfl)); (go_simp <;> (try simp (disch := omega) only [wrap_id, sub_left, zac]) <;> rfl)) | ((with_reducible apply ow_eval); (go_simp <;> (try simp (disch := omega) only [wrap_id, sub_left, zac]) <;> rfl); first | (with_reducible apply up_value) | ((with_reducible apply up_enter); first | (go_at_call 131; refine (bwithin_any _ _ _ _).mono ?_; rintro e w' ⟨rfl, rfl⟩; refine ⟨_, rfl, ?_⟩) | (go_at_call 132; refine (hsz _).mono ?_; rintro e w' ⟨rfl, rfl⟩; refine ⟨_, rfl, ?_⟩)))); refine WL.next hK (by simp only [Act.put, zpt, zsz, zss]; exact rfl) ?_; clear hK K))); (try refine WL.nil ?_))
      go_ret
      exact ⟨Ck.ret_int (by rw [HR.out, if_pos hwi, if_neg (by have := HQ.out; have := HL.out; omega)]), rfl⟩
  · have st := St.start w
    go_enter Tryz.func88, Tryz.ntmps88
    go_wp2_with (refine WL.out ?_; (repeat ((refine WL.op ?_ ?_; (exact rfl); intro K hK; (((with_reducible apply ow_eval); (go_simp <;> (try simp (disch := omega) only [wrap_id, sub_left, zac]) <;> rfl); first | (with_reducible apply up_value) | ((with_reducible apply up_enter); ((go_at_call 131; refine (bwithin_any _ _ _ _).mono ?_; rintro e w' ⟨rfl, rfl⟩; refine ⟨_, rfl, ?_⟩))))); refine WL.next hK (by simp only [Act.put, zpt, zsz, zss]; exact rfl) ?_; clear hK K))); (try refine WL.nil ?_))
    go_ret
    exact ⟨Ck.ret_int (by rw [HR.out, if_neg (by rw [hwi]; exact Bool.false_ne_true)]), rfl⟩
end Go.Proofs.YtgcjejajljhnaaaGreatDoor
namespace Go.Proofs.YtgcjejajljhnaaaGreatDoor
open Go.RowKit Go.Hp
theorem oldI {w : World} {b o j : Nat} {x : Int} (h : OldC w b (o + j * 1) [.int .i64 x]) : w.cell? ⟨b, o + j, none⟩ = some (.int .i64 x) := by
  have := h 0 _ rfl
  rwa [Nat.mul_one, Nat.add_zero] at this
set_option maxRecDepth 8000 in
set_option maxHeartbeats 4000000 in
theorem wholeErr_any (v : Ck.VPt) (B : Nat) (w : World) (h : v.At w B) (hB : B ≤ w.heap.size) (hf : v.Fit) (hm : v.mp.length ≤ 100000) :
    Calls Tryz.prog 46 #[v.val] w fun e w' => e = .returned (.int .i64 (Ck.wholeErr v.p)) ∧ Below w.heap.size w w' := by
  have H := Lib.hid h
  have HF := Lib.hid hf
  have HMP := Lib.hid hm
  clear h hf hm
  obtain ⟨c, al, rs, ds, mp, Aa, ca, Ar, cr, Ad, cd⟩ := v
  unfold Ck.VPt.val
  simp only at *
  obtain ⟨na, e1⟩ : ∃ n, n = al.length := ⟨_, rfl⟩
  obtain ⟨nr, e2⟩ : ∃ n, n = rs.length := ⟨_, rfl⟩
  obtain ⟨nd, e3⟩ : ∃ n, n = ds.length := ⟨_, rfl⟩
  have E1 := Lib.hid e1
  have E2 := Lib.hid e2
  have E3 := Lib.hid e3
  rw [← e1, ← e2, ← e3]
  clear e1 e2 e3
  have hn1 : na ≤ 100000 := by rw [E1.out]; exact HF.out.al
  have hn2 : nr ≤ 100000 := by rw [E2.out]; exact HF.out.rs
  have hn3 : nd ≤ 100000 := by rw [E3.out]; exact HF.out.ds
  obtain ⟨R, eR⟩ : ∃ R, R = Ck.wholeErr (Ck.VPt.p ⟨c, al, rs, ds, mp, Aa, ca, Ar, cr, Ad, cd⟩) := ⟨_, rfl⟩
  rw [← eR]
  have HR : Hid (R = Ck.first [if Ck.wi c 64 512 then 0 else 2, if 24 < na ∨ 96 < nr ∨ 64 < nd then 8 else 0, Ck.goE (fun i => Ck.alErr c (Ck.at_ Ck.Run.o al i)) na, Ck.goE (Ck.dsErr ds) nd, if nd = 0 then 17 else 0, Ck.mapErr mp c]) := Lib.hid (by
    rw [eR, E1.out, E2.out, E3.out]
    show Ck.first [_, if 24 < al.length ∨ 96 < (rs.map Ck.VRc.p).length ∨ 64 < ds.length then 8 else 0, _, _, _, _] = _
    rw [List.length_map]
    rfl)
  clear eR
  have st := St.start w
  go_enter Tryz.func46, Tryz.ntmps46
  cases z1 : Ck.wi c 64 512
  · go_wp2_with (refine WL.out ?_; (repeat ((refine WL.op ?_ ?_; (exact rfl); intro K hK; (first | ((((with_reducible apply ow_assign); exact rfl)); (go_simp <;> (try simp (disch := omega) only [wrap_id, sub_left, zac]) <;> rfl)) | ((((with_reducible apply ow_load1 st); exact rfl; exact inferInstance; exact rfl; (exact get0))); exact rfl) | ((((with_reducible apply ow_box st); exact rfl; (go_simp <;> (try simp (disch := omega) only [wrap_id, sub_left, zac]) <;> rfl); (go_simp <;> (try simp (disch := omega) only [wrap_id, sub_left, zac]) <;> rfl))); (try clear st); intro b w' st) | ((with_reducible apply ow_eval); (go_simp <;> (try simp (disch := omega) only [wrap_id, sub_left, zac]) <;> rfl); first | (with_reducible apply up_value) | ((with_reducible apply up_enter); first | (go_at_call 59; refine (within_any _ _ _ _).mono ?_; rintro e w' ⟨rfl, rfl⟩; refine ⟨_, rfl, ?_⟩) | (go_at_call 58; refine (unless_any _ _ _).mono ?_; rintro e w' ⟨rfl, rfl⟩; refine ⟨_, rfl, ?_⟩)))); refine WL.next hK (by simp only [Act.put, zpt, zsz, zss]; exact rfl) ?_; clear hK K))); (try refine WL.nil ?_))
    go_ret
    exact ⟨Ck.ret_int (by rw [HR.out, z1]; rfl), st.below⟩
  obtain ⟨hc0, hc1⟩ : 64 ≤ c ∧ c ≤ 512 := by simp [Ck.wi] at z1; omega
  have Z1 := Lib.hid z1
  by_cases hg1 : (24 : Int) < (na : Int)
  · have Z2 := Lib.hid (show 24 < na ∨ 96 < nr ∨ 64 < nd by omega)
    go_wp2_with (refine WL.out ?_; (repeat (first | (refine WL.op ?_ ?_; (exact rfl); intro K hK; (first | ((first | ((with_reducible apply ow_move); exact rfl) | ((with_reducible apply ow_assign); exact rfl)); (go_simp <;> (try simp (disch := omega) only [wrap_id, sub_left, zac]) <;> rfl)) | ((((with_reducible apply ow_load1 st); exact rfl; exact inferInstance; exact rfl; (exact get0))); exact rfl) | ((((with_reducible apply ow_box st); exact rfl; (go_simp <;> (try simp (disch := omega) only [wrap_id, sub_left, zac]) <;> rfl); (go_simp <;> (try simp (disch := omega) only [wrap_id, sub_left, zac]) <;> rfl))); (try clear st); intro b w' st) | ((with_reducible apply ow_eval); (go_simp <;> (try simp (disch := omega) only [wrap_id, sub_left, zac]) <;> rfl); first | (with_reducible apply up_value) | ((with_reducible apply up_enter); first | (go_at_call 59; refine (within_any _ _ _ _).mono ?_; rintro e w' ⟨rfl, rfl⟩; refine ⟨_, rfl, ?_⟩) | (go_at_call 58; refine (unless_any _ _ _).mono ?_; rintro e w' ⟨rfl, rfl⟩; refine ⟨_, rfl, ?_⟩)))); refine WL.next hK (by simp only [Act.put, zpt, zsz, zss]; exact rfl) ?_; clear hK K) | (refine WL.skip ?_ (by simp only [Act.put, zpt, zsz, zss]; exact rfl) ?_; (exact rfl)))); (try refine WL.nil ?_))
    go_ret
    exact ⟨Ck.ret_int (by rw [HR.out, Z1.out, if_pos Z2.out]; rfl), st.below⟩
  by_cases hg2 : (96 : Int) < (nr : Int)
  · have Z2 := Lib.hid (show 24 < na ∨ 96 < nr ∨ 64 < nd by omega)
    go_wp2_with (refine WL.out ?_; (repeat (first | (refine WL.op ?_ ?_; (exact rfl); intro K hK; (first | ((first | ((with_reducible apply ow_move); exact rfl) | ((with_reducible apply ow_assign); exact rfl)); (go_simp <;> (try simp (disch := omega) only [wrap_id, sub_left, zac]) <;> rfl)) | ((((with_reducible apply ow_load1 st); exact rfl; exact inferInstance; exact rfl; (exact get0))); exact rfl) | ((((with_reducible apply ow_box st); exact rfl; (go_simp <;> (try simp (disch := omega) only [wrap_id, sub_left, zac]) <;> rfl); (go_simp <;> (try simp (disch := omega) only [wrap_id, sub_left, zac]) <;> rfl))); (try clear st); intro b w' st) | ((with_reducible apply ow_eval); (go_simp <;> (try simp (disch := omega) only [wrap_id, sub_left, zac]) <;> rfl); first | (with_reducible apply up_value) | ((with_reducible apply up_enter); first | (go_at_call 59; refine (within_any _ _ _ _).mono ?_; rintro e w' ⟨rfl, rfl⟩; refine ⟨_, rfl, ?_⟩) | (go_at_call 58; refine (unless_any _ _ _).mono ?_; rintro e w' ⟨rfl, rfl⟩; refine ⟨_, rfl, ?_⟩)))); refine WL.next hK (by simp only [Act.put, zpt, zsz, zss]; exact rfl) ?_; clear hK K) | (refine WL.skip ?_ (by simp only [Act.put, zpt, zsz, zss]; exact rfl) ?_; (exact rfl)))); (try refine WL.nil ?_))
    go_ret
    exact ⟨Ck.ret_int (by rw [HR.out, Z1.out, if_pos Z2.out]; rfl), st.below⟩
  by_cases hg3 : (64 : Int) < (nd : Int)
  · have Z2 := Lib.hid (show 24 < na ∨ 96 < nr ∨ 64 < nd by omega)
    go_wp2_with (refine WL.out ?_; (repeat ((refine WL.op ?_ ?_; (exact rfl); intro K hK; (first | ((first | ((with_reducible apply ow_move); exact rfl) | ((with_reducible apply ow_assign); exact rfl)); (go_simp <;> (try simp (disch := omega) only [wrap_id, sub_left, zac]) <;> rfl)) | ((((with_reducible apply ow_load1 st); exact rfl; exact inferInstance; exact rfl; (exact get0))); exact rfl) | ((((with_reducible apply ow_box st); exact rfl; (go_simp <;> (try simp (disch := omega) only [wrap_id, sub_left, zac]) <;> rfl); (go_simp <;> (try simp (disch := omega) only [wrap_id, sub_left, zac]) <;> rfl))); (try clear st); intro b w' st) | ((with_reducible apply ow_eval); (go_simp <;> (try simp (disch := omega) only [wrap_id, sub_left, zac]) <;> rfl); first | (with_reducible apply up_value) | ((with_reducible apply up_enter); first | (go_at_call 59; refine (within_any _ _ _ _).mono ?_; rintro e w' ⟨rfl, rfl⟩; refine ⟨_, rfl, ?_⟩) | (go_at_call 58; refine (unless_any _ _ _).mono ?_; rintro e w' ⟨rfl, rfl⟩; refine ⟨_, rfl, ?_⟩)))); refine WL.next hK (by simp only [Act.put, zpt, zsz, zss]; exact rfl) ?_; clear hK K))); (try refine WL.nil ?_))
    go_ret
    exact ⟨Ck.ret_int (by rw [HR.out, Z1.out, if_pos Z2.out]; rfl), st.below⟩
  have HR2 : Hid (R = Ck.first [Ck.goE (fun i => Ck.alErr c (Ck.at_ Ck.Run.o al i)) na, Ck.goE (Ck.dsErr ds) nd, if nd = 0 then 17 else 0, Ck.mapErr mp c]) := Lib.hid (by
    rw [HR.out, Z1.out, if_neg (show ¬ (24 < na ∨ 96 < nr ∨ 64 < nd) by omega)]
    rfl)
  clear HR Z1
  go_wp2_with (refine WL.out ?_; (repeat ((refine WL.op ?_ ?_; (exact rfl); intro K hK; (first | ((first | ((with_reducible apply ow_move); exact rfl) | ((with_reducible apply ow_assign); exact rfl)); (go_simp <;> (try simp (disch := omega) only [wrap_id, sub_left, zac]) <;> rfl)) | ((((with_reducible apply ow_load1 st); exact rfl; exact inferInstance; exact rfl; (exact get0))); exact rfl) | ((((with_reducible apply ow_box st); exact rfl; (go_simp <;> (try simp (disch := omega) only [wrap_id, sub_left, zac]) <;> rfl); (go_simp <;> (try simp (disch := omega) only [wrap_id, sub_left, zac]) <;> rfl))); (try clear st); intro b w' st) | ((with_reducible apply ow_eval); (go_simp <;> (try simp (disch := omega) only [wrap_id, sub_left, zac]) <;> rfl); first | (with_reducible apply up_value) | ((with_reducible apply up_enter); first | (go_at_call 59; refine (within_any _ _ _ _).mono ?_; rintro e w' ⟨rfl, rfl⟩; refine ⟨_, rfl, ?_⟩) | (go_at_call 58; refine (unless_any _ _ _).mono ?_; rintro e w' ⟨rfl, rfl⟩; refine ⟨_, rfl, ?_⟩)))); refine WL.next hK (by simp only [Act.put, zpt, zsz, zss]; exact rfl) ?_; clear hK K))); (try refine WL.nil ?_))
  clear z1
  go_loopw [34] (fun i wr => ∃ j : Nat, j ≤ na ∧ i = .int .i64 j ∧ St w wr [.box b 26 [.int .i64 c, .slice Aa na ca, .slice Ar nr cr, .slice Ad nd cd, .string ⟨mp.toArray⟩]] ∧ Hid (Ck.goE (fun i => Ck.alErr c (Ck.at_ Ck.Run.o al i)) j = 0)) (fun i _ => na - (intOf i).toNat)
  case atStart => exact ⟨0, by omega, rfl, st, rfl⟩
  case round =>
    clear st
    obtain ⟨j, hj, rfl, st, hs⟩ := hrel
    by_cases hlt : j < na
    · have hkl : Hid (j < al.length) := Lib.hid (by rw [← E1.out]; exact hlt)
      obtain ⟨b1, o1, rfl, hb1, hc⟩ := H.out.al.at_ (Nat.lt_of_le_of_lt (Nat.zero_le _) hkl.out)
      have hb1 := Nat.lt_of_lt_of_le hb1 hB
      have f1 := hc j hkl.out
      clear hc
      obtain ⟨y, hy⟩ : ∃ y, y = Ck.at_ Ck.Run.o al j := ⟨_, rfl⟩
      have f1 : OldC w b1 (o1 + j * 2) [.int .i64 y.s, .int .i64 y.l] := by rw [hy]; exact f1
      have HY := Lib.hid hy
      clear hy
      obtain ⟨ys, yl⟩ := y
      simp only at f1
      have bad : Hid (Ck.alErr c ⟨ys, yl⟩ ≠ 0 → R = Ck.alErr c ⟨ys, yl⟩) := Lib.hid fun h0 => by
        have := (Ck.goE_stop (fun i => Ck.alErr c (Ck.at_ Ck.Run.o al i)) hs.out (by show Ck.alErr c (Ck.at_ Ck.Run.o al j) ≠ 0; rw [← HY.out]; exact h0) na hlt)
        rw [HR2.out, this]
        show Ck.first (Ck.alErr c (Ck.at_ Ck.Run.o al j) :: _) = _
        rw [← HY.out]
        exact if_neg h0
      cases z2 : Ck.wi ys 0 (c - 1)
      · have Z2 := Lib.hid z2
        go_wp2_with (refine WL.out ?_; (repeat (first | (refine WL.op ?_ ?_; (exact rfl); intro K hK; (first | ((((with_reducible apply ow_move); exact rfl)); (go_simp <;> (try simp (disch := omega) only [wrap_id, sub_left, zac]) <;> rfl)) | ((((with_reducible apply ow_load1 st); exact rfl; exact inferInstance; exact rfl; (first | exact get0 | exact get1))); exact rfl) | ((((with_reducible apply ow_alloc st); exact rfl; exact inferInstance; (go_simp <;> (try simp (disch := omega) only [wrap_id, sub_left, zac]) <;> rfl))); (try clear st); intro b w' st) | ((((with_reducible apply ow_storeN' st); exact rfl; exact inferInstance; exact rfl; (exact get0); exact rfl)); exact rfl; exact rfl; (simp <;> done); ((try simp only [zta, ztz, zda, zdz, zca, zcn, zan, zsz, zss]) <;> exact rfl); (try clear st); intro w' st) | ((with_reducible apply ow_oldC st); exact rfl; exact inferInstance; exact rfl; assumption; assumption; exact rfl) | ((with_reducible apply ow_eval); (go_simp <;> (try simp (disch := omega) only [wrap_id, sub_left, zac]) <;> rfl); first | (with_reducible apply up_value) | ((with_reducible apply up_enter); ((go_at_call 59; refine (within_any _ _ _ _).mono ?_; rintro e w' ⟨rfl, rfl⟩; refine ⟨_, rfl, ?_⟩))))); refine WL.next hK (by simp only [Act.put, zpt, zsz, zss]; exact rfl) ?_; clear hK K) | (refine WL.skip ?_ (by simp only [Act.put, zpt, zsz, zss]; exact rfl) ?_; (exact rfl)))); (try refine WL.nil ?_))
        go_ret
        have e2 : Ck.alErr c ⟨ys, yl⟩ = 2 := by unfold Ck.alErr; rw [Z2.out]; rfl
        exact ⟨Ck.ret_int (by rw [bad.out (by rw [e2]; decide), e2]), st.below⟩
      obtain ⟨hy0, hy1⟩ : 0 ≤ ys ∧ ys ≤ c - 1 := by simp [Ck.wi] at z2; omega
      cases z3 : Ck.wi yl 1 (c - ys)
      · have Z3 := Lib.hid (And.intro z2 z3)
        go_wp2_with (refine WL.out ?_; (repeat ((refine WL.op ?_ ?_; (exact rfl); intro K hK; (first | ((((with_reducible apply ow_move); exact rfl)); (go_simp <;> (try simp (disch := omega) only [wrap_id, sub_left, zac]) <;> rfl)) | ((((with_reducible apply ow_load1 st); exact rfl; exact inferInstance; exact rfl; (first | exact get0 | exact get1))); exact rfl) | ((((with_reducible apply ow_alloc st); exact rfl; exact inferInstance; (go_simp <;> (try simp (disch := omega) only [wrap_id, sub_left, zac]) <;> rfl))); (try clear st); intro b w' st) | ((((with_reducible apply ow_storeN' st); exact rfl; exact inferInstance; exact rfl; (exact get0); exact rfl)); exact rfl; exact rfl; (simp <;> done); ((try simp only [zta, ztz, zda, zdz, zca, zcn, zan, zsz, zss]) <;> exact rfl); (try clear st); intro w' st) | ((with_reducible apply ow_oldC st); exact rfl; exact inferInstance; exact rfl; assumption; assumption; exact rfl) | ((with_reducible apply ow_eval); (go_simp <;> (try simp (disch := omega) only [wrap_id, sub_left, zac]) <;> rfl); first | (with_reducible apply up_value) | ((with_reducible apply up_enter); ((go_at_call 59; refine (within_any _ _ _ _).mono ?_; rintro e w' ⟨rfl, rfl⟩; refine ⟨_, rfl, ?_⟩))))); refine WL.next hK (by simp only [Act.put, zpt, zsz, zss]; exact rfl) ?_; clear hK K))); (try refine WL.nil ?_))
        go_ret
        have e2 : Ck.alErr c ⟨ys, yl⟩ = 2 := by unfold Ck.alErr; rw [Z3.out.1, Z3.out.2]; rfl
        exact ⟨Ck.ret_int (by rw [bad.out (by rw [e2]; decide), e2]), st.below⟩
      have hs' : Hid (Ck.goE (fun i => Ck.alErr c (Ck.at_ Ck.Run.o al i)) (j + 1) = 0) := Lib.hid (by rw [Ck.goE_next _ hs.out, ← HY.out]; unfold Ck.alErr; rw [z2, z3]; rfl)
      go_wp2_with (refine WL.out ?_; (repeat ((refine WL.op ?_ ?_; (exact rfl); intro K hK; (first | ((((with_reducible apply ow_move); exact rfl)); (go_simp <;> (try simp (disch := omega) only [wrap_id, sub_left, zac]) <;> rfl)) | ((((with_reducible apply ow_load1 st); exact rfl; exact inferInstance; exact rfl; (first | exact get0 | exact get1))); exact rfl) | ((((with_reducible apply ow_alloc st); exact rfl; exact inferInstance; (go_simp <;> (try simp (disch := omega) only [wrap_id, sub_left, zac]) <;> rfl))); (try clear st); intro b w' st) | ((((with_reducible apply ow_storeN' st); exact rfl; exact inferInstance; exact rfl; (exact get0); exact rfl)); exact rfl; exact rfl; (simp <;> done); ((try simp only [zta, ztz, zda, zdz, zca, zcn, zan, zsz, zss]) <;> exact rfl); (try clear st); intro w' st) | ((with_reducible apply ow_oldC st); exact rfl; exact inferInstance; exact rfl; assumption; assumption; exact rfl) | ((with_reducible apply ow_eval); (go_simp <;> (try simp (disch := omega) only [wrap_id, sub_left, zac]) <;> rfl); first | (with_reducible apply up_value) | ((with_reducible apply up_enter); ((go_at_call 59; refine (within_any _ _ _ _).mono ?_; rintro e w' ⟨rfl, rfl⟩; refine ⟨_, rfl, ?_⟩))))); refine WL.next hK (by simp only [Act.put, zpt, zsz, zss]; exact rfl) ?_; clear hK K))); (try refine WL.nil ?_))
      exact ⟨⟨j + 1, by omega, by go_num, st.tail, hs'⟩, by simp [intOf]; omega⟩
    · obtain rfl : na = j := by omega
      have HR3 : Hid (R = Ck.first [Ck.goE (Ck.dsErr ds) nd, if nd = 0 then 17 else 0, Ck.mapErr mp c]) := Lib.hid (by rw [HR2.out, hs.out]; rfl)
      clear hs HR2
      go_wp2_with (refine WL.out ?_; (repeat ((refine WL.op ?_ ?_; (exact rfl); intro K hK; (first | ((((with_reducible apply ow_move); exact rfl)); (go_simp <;> (try simp (disch := omega) only [wrap_id, sub_left, zac]) <;> rfl)) | ((((with_reducible apply ow_load1 st); exact rfl; exact inferInstance; exact rfl; (exact get0))); exact rfl) | ((with_reducible apply ow_eval); (go_simp <;> (try simp (disch := omega) only [wrap_id, sub_left, zac]) <;> rfl); ((with_reducible apply up_value)))); refine WL.next hK (by simp only [Act.put, zpt, zsz, zss]; exact rfl) ?_; clear hK K))); (try refine WL.nil ?_))
      go_loopw [60] (fun i wr => ∃ j : Nat, j ≤ nd ∧ i = .int .i64 j ∧ St w wr [.box b 26 [.int .i64 c, .slice Aa na ca, .slice Ar nr cr, .slice Ad nd cd, .string ⟨mp.toArray⟩]] ∧ Hid (Ck.goE (Ck.dsErr ds) j = 0)) (fun i _ => nd - (intOf i).toNat)
      case atStart => exact ⟨0, by omega, rfl, st, rfl⟩
      case round =>
        clear st
        obtain ⟨j, hj, rfl, st, hs⟩ := hrel
        by_cases hlt : j < nd
        · have hkl : Hid (j < ds.length) := Lib.hid (by rw [← E3.out]; exact hlt)
          obtain ⟨b1, o1, rfl, hb1, hc⟩ := H.out.ds.at_ (Nat.lt_of_le_of_lt (Nat.zero_le _) hkl.out)
          have hb1 := Nat.lt_of_lt_of_le hb1 hB
          have f1 := oldI (hc j hkl.out)
          have f2 := fun i (hi : i < ds.length) => oldI (hc i hi)
          clear hc
          obtain ⟨y, hy⟩ : ∃ y, y = Ck.at_ 0 ds j := ⟨_, rfl⟩
          have f1 : w.cell? ⟨b1, o1 + j, none⟩ = some (.int .i64 y) := by rw [hy]; exact f1
          have HY := Lib.hid hy
          clear hy
          have bad : Hid (Ck.dsErr ds j ≠ 0 → R = Ck.dsErr ds j) := Lib.hid fun h0 => by
            have := Ck.goE_stop (Ck.dsErr ds) hs.out h0 nd hlt
            rw [HR3.out, this]
            exact if_neg h0
          cases z2 : Ck.wi y 1 2147483647
          · have Z2 := Lib.hid z2
            clear f2
            go_wp2_with (refine WL.out ?_; (repeat ((refine WL.op ?_ ?_; (exact rfl); intro K hK; (first | ((((with_reducible apply ow_assign); exact rfl)); (go_simp <;> (try simp (disch := omega) only [wrap_id, sub_left, zac]) <;> rfl)) | ((with_reducible apply ow_old1 st); exact rfl; exact inferInstance; exact rfl; assumption; assumption) | ((with_reducible apply ow_eval); (go_simp <;> (try simp (disch := omega) only [wrap_id, sub_left, zac]) <;> rfl); first | (with_reducible apply up_value) | ((with_reducible apply up_enter); ((go_at_call 59; refine (within_any _ _ _ _).mono ?_; rintro e w' ⟨rfl, rfl⟩; refine ⟨_, rfl, ?_⟩))))); refine WL.next hK (by simp only [Act.put, zpt, zsz, zss]; exact rfl) ?_; clear hK K))); (try refine WL.nil ?_))
            go_ret
            have e2 : Ck.dsErr ds j = 2 := by unfold Ck.dsErr; rw [← HY.out, Z2.out]; rfl
            exact ⟨Ck.ret_int (by rw [bad.out (by rw [e2]; decide), e2]), st.below⟩
          obtain ⟨hy0, hy1⟩ : 1 ≤ y ∧ y ≤ 2147483647 := by simp [Ck.wi] at z2; omega
          rcases Nat.eq_zero_or_pos j with hj0 | hj0
          · have hs' : Hid (Ck.goE (Ck.dsErr ds) (j + 1) = 0) := Lib.hid (by rw [Ck.goE_next _ hs.out]; unfold Ck.dsErr; rw [← HY.out, z2, if_pos rfl, if_neg (by omega)])
            clear f2
            have hj1 : ¬ (0 < j) := by omega
            clear hj0
            go_wp2_with (refine WL.out ?_; (repeat (first | (refine WL.op ?_ ?_; (exact rfl); intro K hK; (first | ((first | ((with_reducible apply ow_move); exact rfl) | ((with_reducible apply ow_assign); exact rfl)); (go_simp <;> (try simp (disch := omega) only [wrap_id, sub_left, zac]) <;> rfl)) | ((with_reducible apply ow_old1 st); exact rfl; exact inferInstance; exact rfl; assumption; assumption) | ((with_reducible apply ow_eval); (go_simp <;> (try simp (disch := omega) only [wrap_id, sub_left, zac]) <;> rfl); first | (with_reducible apply up_value) | ((with_reducible apply up_enter); ((go_at_call 59; refine (within_any _ _ _ _).mono ?_; rintro e w' ⟨rfl, rfl⟩; refine ⟨_, rfl, ?_⟩))))); refine WL.next hK (by simp only [Act.put, zpt, zsz, zss]; exact rfl) ?_; clear hK K) | (refine WL.skip ?_ (by simp only [Act.put, zpt, zsz, zss]; exact rfl) ?_; (exact rfl)))); (try refine WL.nil ?_))
            exact ⟨⟨j + 1, by omega, by go_num, st, hs'⟩, by simp [intOf]; omega⟩
          · obtain ⟨i, hi⟩ : ∃ i, j = i + 1 := ⟨j - 1, by omega⟩
            have HI := Lib.hid hi
            have hji : (j : Int) - 1 = (i : Int) := by omega
            have hin : i < nd := by omega
            have f2 := f2 i (Nat.lt_trans (by omega) hkl.out)
            clear hi
            obtain ⟨x, hx⟩ : ∃ x, x = Ck.at_ 0 ds i := ⟨_, rfl⟩
            have f2 : w.cell? ⟨b1, o1 + i, none⟩ = some (.int .i64 x) := by rw [hx]; exact f2
            have HX := Lib.hid hx
            clear hx
            have hds : Hid (Ck.dsErr ds j = if y ≤ x then 9 else 0) := Lib.hid (by
              unfold Ck.dsErr
              rw [← HY.out, z2, HI.out, Nat.add_sub_cancel, ← HX.out, if_pos rfl]
              by_cases h : y ≤ x
              · rw [if_pos h, if_pos ⟨by omega, h⟩]
              · rw [if_neg h, if_neg (fun q => h q.2)])
            by_cases hyx : y ≤ x
            · go_wp2_with (refine WL.out ?_; (repeat ((refine WL.op ?_ ?_; (exact rfl); intro K hK; (first | ((first | ((with_reducible apply ow_move); exact rfl) | ((with_reducible apply ow_assign); exact rfl)); (go_simp <;> (try simp (disch := omega) only [wrap_id, sub_left, zac]) <;> rfl)) | ((((with_reducible apply ow_load1 st); exact rfl; exact inferInstance; exact rfl; (exact get0))); exact rfl) | ((with_reducible apply ow_old1 st); exact rfl; exact inferInstance; exact rfl; assumption; assumption) | ((with_reducible apply ow_eval); (go_simp <;> (try simp (disch := omega) only [wrap_id, sub_left, zac]) <;> rfl); first | (with_reducible apply up_value) | ((with_reducible apply up_enter); ((go_at_call 59; refine (within_any _ _ _ _).mono ?_; rintro e w' ⟨rfl, rfl⟩; refine ⟨_, rfl, ?_⟩))))); refine WL.next hK (by simp only [Act.put, zpt, zsz, zss]; exact rfl) ?_; clear hK K))); (try refine WL.nil ?_))
              go_ret
              have e2 : Ck.dsErr ds j = 9 := by rw [hds.out, if_pos hyx]
              exact ⟨Ck.ret_int (by rw [bad.out (by rw [e2]; decide), e2]), st.below⟩
            · have hs' : Hid (Ck.goE (Ck.dsErr ds) (j + 1) = 0) := Lib.hid (by rw [Ck.goE_next _ hs.out, hds.out, if_neg hyx])
              go_wp2_with (refine WL.out ?_; (repeat ((refine WL.op ?_ ?_; (exact rfl); intro K hK; (first | ((first | ((with_reducible apply ow_move); exact rfl) | ((with_reducible apply ow_assign); exact rfl)); (go_simp <;> (try simp (disch := omega) only [wrap_id, sub_left, zac]) <;> rfl)) | ((((with_reducible apply ow_load1 st); exact rfl; exact inferInstance; exact rfl; (exact get0))); exact rfl) | ((with_reducible apply ow_old1 st); exact rfl; exact inferInstance; exact rfl; assumption; assumption) | ((with_reducible apply ow_eval); (go_simp <;> (try simp (disch := omega) only [wrap_id, sub_left, zac]) <;> rfl); first | (with_reducible apply up_value) | ((with_reducible apply up_enter); ((go_at_call 59; refine (within_any _ _ _ _).mono ?_; rintro e w' ⟨rfl, rfl⟩; refine ⟨_, rfl, ?_⟩))))); refine WL.next hK (by simp only [Act.put, zpt, zsz, zss]; exact rfl) ?_; clear hK K))); (try refine WL.nil ?_))
              exact ⟨⟨j + 1, by omega, by go_num, st, hs'⟩, by simp [intOf]; omega⟩
        · obtain rfl : nd = j := by omega
          have HR4 : Hid (R = Ck.first [Ck.unl (decide (0 < nd)) 17, Ck.mapErr mp c]) := Lib.hid (by
            rw [HR3.out, hs.out]
            unfold Ck.unl
            by_cases h : nd = 0
            · subst h; rfl
            · rw [if_neg h, decide_eq_true (show 0 < nd by omega)]; rfl)
          clear hs HR3
          go_wp2_with (refine WL.out ?_; (repeat ((refine WL.op ?_ ?_; (exact rfl); intro K hK; (((with_reducible apply ow_eval); (go_simp <;> (try simp (disch := omega) only [wrap_id, sub_left, zac]) <;> rfl); ((with_reducible apply up_value)))); refine WL.next hK (by simp only [Act.put, zpt, zsz, zss]; exact rfl) ?_; clear hK K))); (try refine WL.nil ?_))
          refine wp_region_plan 10 (by kernel_rfl) (by kernel_rfl) ?_; replace st := st.drew; generalize World.drew _ = W at st ⊢
          (apply Plan.val'; (focus (intro x0 x1 x2 x3 x4 x5 x6 x7 x8 x9 w1 hb; (try simp only [depF, fillA, Act.put, zta, ztz, zpt, zsz, zss, zl0, zls]); (repeat (fail)); have st := st.call hb; ((apply Yphi.run; (exact rfl); (go_simp <;> (try simp (disch := omega) only [wrap_id, sub_left, zac]) <;> rfl); exact rfl)))); (simp only [zca, zcn] <;> exact rfl))
          (apply Plan.val'; (focus (intro x0 x1 x2 x3 x4 x5 x6 x7 x8 x9 w1 hb; (try simp only [depF, fillA, Act.put, zta, ztz, zpt, zsz, zss, zl0, zls]); (repeat (rintro rfl)); have st := st.call hb; ((apply Yphi.load1 st; exact rfl; exact inferInstance; (exact rfl); exact rfl; (exact get0); exact rfl)))); (simp only [zca, zcn] <;> exact rfl))
          (apply Plan.val'; (focus (intro x0 x1 x2 x3 x4 x5 x6 x7 x8 x9 w1 hb; (try simp only [depF, fillA, Act.put, zta, ztz, zpt, zsz, zss, zl0, zls]); (repeat (rintro rfl)); have st := st.call hb; ((apply Yphi.run; (exact rfl); (go_simp <;> (try simp (disch := omega) only [wrap_id, sub_left, zac]) <;> rfl); exact rfl)))); (simp only [zca, zcn] <;> exact rfl))
          (apply Plan.val'; (focus (intro x0 x1 x2 x3 x4 x5 x6 x7 x8 x9 w1 hb; (try simp only [depF, fillA, Act.put, zta, ztz, zpt, zsz, zss, zl0, zls]); (repeat (rintro rfl)); have st := st.call hb; ((apply Yphi.run; (exact rfl); (go_simp <;> (try simp (disch := omega) only [wrap_id, sub_left, zac]) <;> rfl); exact rfl)))); (simp only [zca, zcn] <;> exact rfl))
          (apply Plan.val'; (focus (intro x0 x1 x2 x3 x4 x5 x6 x7 x8 x9 w1 hb; (try simp only [depF, fillA, Act.put, zta, ztz, zpt, zsz, zss, zl0, zls]); (repeat (rintro rfl)); have st := st.call hb; apply Yphi.call; (exact rfl); (go_simp <;> (try simp (disch := omega) only [wrap_id, sub_left, zac]) <;> rfl); exact rfl; refine (unless_any _ _ _).mono ?_; rintro e w' ⟨rfl, rfl⟩; exact ⟨_, rfl, Below.refl _ _, rfl⟩)); (simp only [zca, zcn] <;> exact rfl))
          (apply Plan.val'; (focus (intro x0 x1 x2 x3 x4 x5 x6 x7 x8 x9 w1 hb; (try simp only [depF, fillA, Act.put, zta, ztz, zpt, zsz, zss, zl0, zls]); (repeat (fail)); have st := st.call hb; ((apply Yphi.run; (exact rfl); (go_simp <;> (try simp (disch := omega) only [wrap_id, sub_left, zac]) <;> rfl); exact rfl)))); (simp only [zca, zcn] <;> exact rfl))
          (apply Plan.val'; (focus (intro x0 x1 x2 x3 x4 x5 x6 x7 x8 x9 w1 hb; (try simp only [depF, fillA, Act.put, zta, ztz, zpt, zsz, zss, zl0, zls]); (repeat (rintro rfl)); have st := st.call hb; ((apply Yphi.load1 st; exact rfl; exact inferInstance; (exact rfl); exact rfl; (exact get0); exact rfl)))); (simp only [zca, zcn] <;> exact rfl))
          (apply Plan.val'; (focus (intro x0 x1 x2 x3 x4 x5 x6 x7 x8 x9 w1 hb; (try simp only [depF, fillA, Act.put, zta, ztz, zpt, zsz, zss, zl0, zls]); (repeat (fail)); have st := st.call hb; ((apply Yphi.run; (exact rfl); (go_simp <;> (try simp (disch := omega) only [wrap_id, sub_left, zac]) <;> rfl); exact rfl)))); (simp only [zca, zcn] <;> exact rfl))
          (apply Plan.val'; (focus (intro x0 x1 x2 x3 x4 x5 x6 x7 x8 x9 w1 hb; (try simp only [depF, fillA, Act.put, zta, ztz, zpt, zsz, zss, zl0, zls]); (repeat (rintro rfl)); have st := st.call hb; ((apply Yphi.load1 st; exact rfl; exact inferInstance; (exact rfl); exact rfl; (exact get0); exact rfl)))); (simp only [zca, zcn] <;> exact rfl))
          (apply Plan.val'; (focus (intro x0 x1 x2 x3 x4 x5 x6 x7 x8 x9 w1 hb; (try simp only [depF, fillA, Act.put, zta, ztz, zpt, zsz, zss, zl0, zls]); (repeat (rintro rfl)); have st := st.call hb; apply Yphi.call; (exact rfl); (go_simp <;> (try simp (disch := omega) only [wrap_id, sub_left, zac]) <;> rfl); exact rfl; refine (CheckBitmap_any mp c _ HMP.out).mono ?_; rintro e w' ⟨rfl, rfl⟩; exact ⟨_, rfl, Below.refl _ _, rfl⟩)); (simp only [zca, zcn] <;> exact rfl))
          intro x0 x1 x2 x3 x4 x5 x6 x7 x8 x9 lo hi w1 hb hap
          rintro rfl rfl rfl rfl rfl rfl rfl rfl rfl rfl
          simp only [allPhi, fillA, Act.put, zta, ztz, zpt, zsz, zss, zda, zdz]
          have st := st.call hb
          clear hap hb
          go_wp2_with (refine WL.out ?_; (repeat ((refine WL.op ?_ ?_; (exact rfl); intro K hK; (first | ((((with_reducible apply ow_assign); exact rfl)); (go_simp <;> (try simp (disch := omega) only [wrap_id, sub_left, zac]) <;> rfl)) | ((((with_reducible apply ow_newSlice st); exact rfl; (go_simp <;> (try simp (disch := omega) only [wrap_id, sub_left, zac]) <;> rfl); exact rfl)); (try clear st); intro b w' st) | ((with_reducible apply ow_eval); (go_simp <;> (try simp (disch := omega) only [wrap_id, sub_left, zac]) <;> rfl); (((with_reducible apply up_enter); ((go_at_call 57; refine (first2_any _ _ _ _ (st.boxC (i := 0) rfl)).mono ?_; rintro e w' ⟨rfl, rfl⟩; refine ⟨_, rfl, ?_⟩)))))); refine WL.next hK (by simp only [Act.put, zpt, zsz, zss]; exact rfl) ?_; clear hK K))); (try refine WL.nil ?_))
          go_ret
          exact ⟨Ck.ret_int HR4.out.symm, st.below⟩
end Go.Proofs.YtgcjejajljhnaaaGreatDoor
namespace Ck
theorem head1 {i : Int} {x : Rc} (h : (!(wi x.q 1 65535) || !(wi x.k 0 3) || !(num x.ln) || !(num x.ds)) = true) : recErr i x = 2 := by
  unfold recErr first
  rw [show headErr i x = 2 by unfold headErr; rw [if_pos h]]
  rfl
theorem head2 {i : Int} {x : Rc} (h : (!(wi x.q 1 65535) || !(wi x.k 0 3) || !(num x.ln) || !(num x.ds)) = false) (h2 : (!x.u && (x.b != Ref.o || decide (0 < x.ln + x.ds + x.parts + x.k))) = true) : recErr i x = 3 := by
  unfold recErr first
  rw [show headErr i x = 3 by unfold headErr; rw [if_neg (by rw [h]; exact Bool.false_ne_true), if_pos h2]]
  rfl
def baseErr (x : Rc) : Int := if x.k = 3 then refErr x.b else if x.b = Ref.o then 0 else 2
theorem baseErr_two {x : Rc} (h : baseErr x ≠ 0) : baseErr x = 2 := by
  unfold baseErr refErr at *
  (repeat' split) <;> simp_all
theorem head3 {i : Int} {x : Rc} (h : (!(wi x.q 1 65535) || !(wi x.k 0 3) || !(num x.ln) || !(num x.ds)) = false) (h2 : (!x.u && (x.b != Ref.o || decide (0 < x.ln + x.ds + x.parts + x.k))) = false) (h3 : baseErr x ≠ 0) : recErr i x = baseErr x := by
  unfold recErr first
  rw [show headErr i x = 2 by unfold headErr; rw [if_neg (by rw [h]; exact Bool.false_ne_true), if_neg (by rw [h2]; exact Bool.false_ne_true)]; exact if_pos h3, baseErr_two h3]
  rfl
theorem head4 {i : Int} {x : Rc} (h : (!(wi x.q 1 65535) || !(wi x.k 0 3) || !(num x.ln) || !(num x.ds)) = false) (h2 : (!x.u && (x.b != Ref.o || decide (0 < x.ln + x.ds + x.parts + x.k))) = false) (h3 : baseErr x = 0) (h4 : 8 < x.ns.length ∨ 8 < x.ss.length ∨ most i < x.es.length) : recErr i x = 8 := by
  unfold recErr first
  rw [show headErr i x = 8 by unfold headErr; rw [if_neg (by rw [h]; exact Bool.false_ne_true), if_neg (by rw [h2]; exact Bool.false_ne_true), if_neg (by show ¬ (baseErr x ≠ 0); simp [h3]), if_pos h4]]
  rfl
theorem head5 {i : Int} {x : Rc} (h : (!(wi x.q 1 65535) || !(wi x.k 0 3) || !(num x.ln) || !(num x.ds)) = false) (h2 : (!x.u && (x.b != Ref.o || decide (0 < x.ln + x.ds + x.parts + x.k))) = false) (h3 : baseErr x = 0) (h4 : ¬ (8 < x.ns.length ∨ 8 < x.ss.length ∨ most i < x.es.length))
    (h5 : (0 < x.es.length ∧ x.k ≠ 0) ∨ (0 < x.ns.length ∧ (x.k = 3 ∨ i < 16))) : recErr i x = 3 := by
  unfold recErr first
  rw [show headErr i x = 3 by unfold headErr; rw [if_neg (by rw [h]; exact Bool.false_ne_true), if_neg (by rw [h2]; exact Bool.false_ne_true), if_neg (by show ¬ (baseErr x ≠ 0); simp [h3]), if_neg h4, if_pos h5]]
  rfl
theorem head6 {i : Int} {x : Rc} (h : (!(wi x.q 1 65535) || !(wi x.k 0 3) || !(num x.ln) || !(num x.ds)) = false) (h2 : (!x.u && (x.b != Ref.o || decide (0 < x.ln + x.ds + x.parts + x.k))) = false) (h3 : baseErr x = 0) (h4 : ¬ (8 < x.ns.length ∨ 8 < x.ss.length ∨ most i < x.es.length))
    (h5 : ¬ ((0 < x.es.length ∧ x.k ≠ 0) ∨ (0 < x.ns.length ∧ (x.k = 3 ∨ i < 16)))) : recErr i x = first [nmsErr x, smsErr x, ensErr x] := by
  unfold recErr
  rw [show headErr i x = 0 by unfold headErr; rw [if_neg (by rw [h]; exact Bool.false_ne_true), if_neg (by rw [h2]; exact Bool.false_ne_true), if_neg (by show ¬ (baseErr x ≠ 0); simp [h3]), if_neg h4, if_neg h5]]
  rfl
theorem eight (p q r : Prop) (k : Int) : (p ∧ (k != 0) = true) ∨ (p ∧ k = 0 ∧ ¬ q) ∨ (p ∧ k = 0 ∧ q ∧ r) ∨ (p ∧ k = 0 ∧ q ∧ ¬ r) ∨ (¬ p ∧ ¬ q) ∨ (¬ p ∧ q ∧ (k == 3) = true) ∨ (¬ p ∧ q ∧ (k == 3) = false ∧ r) ∨ (¬ p ∧ q ∧ (k == 3) = false ∧ ¬ r) := by
  by_cases hp : p <;> by_cases hq : q <;> by_cases hr : r <;> by_cases hz : k = 0 <;> by_cases ht : k = 3 <;> simp [hp, hq, hr, hz, ht]
end Ck
namespace Go.Proofs.YtgcjejajljhnaaaGreatDoor
open Go.RowKit Go.Hp
set_option maxRecDepth 8000 in
set_option maxHeartbeats 4000000 in
theorem recordErr_any (i : Nat) (x : Ck.VRc) (B : Nat) (w : World) (h : x.At w B) (hB : B ≤ w.heap.size) (hf : x.Fit) (hi : i ≤ 100000) :
    Calls Tryz.prog 47 #[.int .i64 (i : Int), .agg #[.bool x.u, .int .i64 x.q, .int .i64 x.k, .int .i64 x.b.r, .int .i64 x.b.q, .int .i64 x.ln, .int .i64 x.ds, .slice x.An x.ns.length x.cn, .slice x.As x.ss.length x.cs, .slice x.Ae x.es.length x.ce]] w fun e w' => e = .returned (.int .i64 (Ck.recErr i x.p)) ∧ Below w.heap.size w w' := by
  have H := Lib.hid h
  have HF := Lib.hid hf
  clear h hf
  obtain ⟨u, q, k, ⟨br, bq⟩, ln, ds, ns, ss, es, An, cn, As, cs, Ae, ce⟩ := x
  simp only at *
  obtain ⟨nn, e1⟩ : ∃ n, n = ns.length := ⟨_, rfl⟩
  obtain ⟨nss, e2⟩ : ∃ n, n = ss.length := ⟨_, rfl⟩
  obtain ⟨ne, e3⟩ : ∃ n, n = es.length := ⟨_, rfl⟩
  have E1 := Lib.hid e1
  have E2 := Lib.hid e2
  have E3 := Lib.hid e3
  rw [← e1, ← e2, ← e3]
  clear e1 e2 e3
  have hn1 : nn ≤ 100000 := by rw [E1.out]; exact HF.out.ns
  have hn2 : nss ≤ 100000 := by rw [E2.out]; exact HF.out.ss
  have hn3 : ne ≤ 100000 := by rw [E3.out]; exact HF.out.es
  obtain ⟨R, eR⟩ : ∃ R, R = Ck.recErr (i : Int) (Ck.VRc.p ⟨u, q, k, ⟨br, bq⟩, ln, ds, ns, ss, es, An, cn, As, cs, Ae, ce⟩) := ⟨_, rfl⟩
  rw [← eR]
  have HR := Lib.hid eR
  clear eR
  have st := St.start w
  go_enter Tryz.func47, Tryz.ntmps47
  go_upto_region 1 with (refine WL.out ?_; (repeat ((refine WL.op ?_ ?_; (exact rfl); intro K hK; (first | ((((with_reducible apply ow_assign); exact rfl)); (go_simp <;> (try simp (disch := omega) only [wrap_id, sub_left, zac]) <;> rfl)) | ((((with_reducible apply ow_box st); exact rfl; (go_simp <;> (try simp (disch := omega) only [wrap_id, sub_left, zac]) <;> rfl); (go_simp <;> (try simp (disch := omega) only [wrap_id, sub_left, zac]) <;> rfl))); (try clear st); intro b w' st)); refine WL.next hK (by simp only [Act.put, zpt, zsz, zss]; exact rfl) ?_; clear hK K))); (try refine WL.nil ?_))
  cases z1 : Ck.wi q 1 65535
  · go_wp2_with (refine WL.out ?_; (repeat (first | (refine WL.op ?_ ?_; (exact rfl); intro K hK; (first | ((((with_reducible apply ow_move); exact rfl)); (go_simp <;> (try simp (disch := omega) only [wrap_id, sub_left, zac]) <;> rfl)) | ((((with_reducible apply ow_load1 st); exact rfl; exact inferInstance; exact rfl; (exact get0))); exact rfl) | ((with_reducible apply ow_eval); (go_simp <;> (try simp (disch := omega) only [wrap_id, sub_left, zac]) <;> rfl); first | (with_reducible apply up_value) | ((with_reducible apply up_enter); ((go_at_call 59; refine (within_any _ _ _ _).mono ?_; rintro e w' ⟨rfl, rfl⟩; refine ⟨_, rfl, ?_⟩))))); refine WL.next hK (by simp only [Act.put, zpt, zsz, zss]; exact rfl) ?_; clear hK K) | (refine WL.skip ?_ (by simp only [Act.put, zpt, zsz, zss]; exact rfl) ?_; (exact rfl)))); (try refine WL.nil ?_))
    go_ret
    exact ⟨Ck.ret_int (by rw [HR.out, Ck.head1 (by simp [Ck.VRc.p, z1])]), st.below⟩
  cases z2 : Ck.wi k 0 3
  · go_wp2_with (refine WL.out ?_; (repeat (first | (refine WL.op ?_ ?_; (exact rfl); intro K hK; (first | ((((with_reducible apply ow_move); exact rfl)); (go_simp <;> (try simp (disch := omega) only [wrap_id, sub_left, zac]) <;> rfl)) | ((((with_reducible apply ow_load1 st); exact rfl; exact inferInstance; exact rfl; (exact get0))); exact rfl) | ((with_reducible apply ow_eval); (go_simp <;> (try simp (disch := omega) only [wrap_id, sub_left, zac]) <;> rfl); first | (with_reducible apply up_value) | ((with_reducible apply up_enter); ((go_at_call 59; refine (within_any _ _ _ _).mono ?_; rintro e w' ⟨rfl, rfl⟩; refine ⟨_, rfl, ?_⟩))))); refine WL.next hK (by simp only [Act.put, zpt, zsz, zss]; exact rfl) ?_; clear hK K) | (refine WL.skip ?_ (by simp only [Act.put, zpt, zsz, zss]; exact rfl) ?_; (exact rfl)))); (try refine WL.nil ?_))
    go_ret
    exact ⟨Ck.ret_int (by rw [HR.out, Ck.head1 (by simp [Ck.VRc.p, z2])]), st.below⟩
  cases z3 : Ck.num ln
  · go_wp2_with (refine WL.out ?_; (repeat (first | (refine WL.op ?_ ?_; (exact rfl); intro K hK; (first | ((((with_reducible apply ow_move); exact rfl)); (go_simp <;> (try simp (disch := omega) only [wrap_id, sub_left, zac]) <;> rfl)) | ((((with_reducible apply ow_load1 st); exact rfl; exact inferInstance; exact rfl; (exact get0))); exact rfl) | ((with_reducible apply ow_eval); (go_simp <;> (try simp (disch := omega) only [wrap_id, sub_left, zac]) <;> rfl); first | (with_reducible apply up_value) | ((with_reducible apply up_enter); first | (go_at_call 59; refine (within_any _ _ _ _).mono ?_; rintro e w' ⟨rfl, rfl⟩; refine ⟨_, rfl, ?_⟩) | (go_at_call 89; refine (isNumber_any _ _).mono ?_; rintro e w' ⟨rfl, rfl⟩; refine ⟨_, rfl, ?_⟩)))); refine WL.next hK (by simp only [Act.put, zpt, zsz, zss]; exact rfl) ?_; clear hK K) | (refine WL.skip ?_ (by simp only [Act.put, zpt, zsz, zss]; exact rfl) ?_; (exact rfl)))); (try refine WL.nil ?_))
    go_ret
    exact ⟨Ck.ret_int (by rw [HR.out, Ck.head1 (by simp [Ck.VRc.p, z3])]), st.below⟩
  cases z4 : Ck.num ds
  · go_wp2_with (refine WL.out ?_; (repeat ((refine WL.op ?_ ?_; (exact rfl); intro K hK; (first | ((((with_reducible apply ow_move); exact rfl)); (go_simp <;> (try simp (disch := omega) only [wrap_id, sub_left, zac]) <;> rfl)) | ((((with_reducible apply ow_load1 st); exact rfl; exact inferInstance; exact rfl; (exact get0))); exact rfl) | ((with_reducible apply ow_eval); (go_simp <;> (try simp (disch := omega) only [wrap_id, sub_left, zac]) <;> rfl); first | (with_reducible apply up_value) | ((with_reducible apply up_enter); first | (go_at_call 59; refine (within_any _ _ _ _).mono ?_; rintro e w' ⟨rfl, rfl⟩; refine ⟨_, rfl, ?_⟩) | (go_at_call 89; refine (isNumber_any _ _).mono ?_; rintro e w' ⟨rfl, rfl⟩; refine ⟨_, rfl, ?_⟩)))); refine WL.next hK (by simp only [Act.put, zpt, zsz, zss]; exact rfl) ?_; clear hK K))); (try refine WL.nil ?_))
    go_ret
    exact ⟨Ck.ret_int (by rw [HR.out, Ck.head1 (by simp [Ck.VRc.p, z4])]), st.below⟩
  have Z1 := Lib.hid (show (!(Ck.wi q 1 65535) || !(Ck.wi k 0 3) || !(Ck.num ln) || !(Ck.num ds)) = false by rw [z1, z2, z3, z4]; rfl)
  have hb : 0 ≤ k ∧ k ≤ 3 ∧ 0 ≤ ln ∧ ln ≤ 2147483647 ∧ 0 ≤ ds ∧ ds ≤ 2147483647 := by simp [Ck.wi, Ck.num] at z2 z3 z4; omega
  obtain ⟨hk0, hk1, hl0, hl1, hd0, hd1⟩ := hb
  go_upto_region 4 with (refine WL.out ?_; (repeat ((refine WL.op ?_ ?_; (exact rfl); intro K hK; (first | ((first | ((with_reducible apply ow_move); exact rfl) | ((with_reducible apply ow_assign); exact rfl)); (go_simp <;> (try simp (disch := omega) only [wrap_id, sub_left, zac]) <;> rfl)) | ((((with_reducible apply ow_load1 st); exact rfl; exact inferInstance; exact rfl; (exact get0))); exact rfl) | ((with_reducible apply ow_eval); (go_simp <;> (try simp (disch := omega) only [wrap_id, sub_left, zac]) <;> rfl); first | (with_reducible apply up_value) | ((with_reducible apply up_enter); first | (go_at_call 59; refine (within_any _ _ _ _).mono ?_; rintro e w' ⟨rfl, rfl⟩; refine ⟨_, rfl, ?_⟩) | (go_at_call 89; refine (isNumber_any _ _).mono ?_; rintro e w' ⟨rfl, rfl⟩; refine ⟨_, rfl, ?_⟩)))); refine WL.next hK (by simp only [Act.put, zpt, zsz, zss]; exact rfl) ?_; clear hK K))); (try refine WL.nil ?_))
  clear z1 z2 z3 z4
  go_cut [71] from 50 to 71 (fun v wx => v = .bool (!u && (!decide ((⟨br, bq⟩ : Ck.Ref) = Ck.Ref.o) || decide (0 < ln + ds + ((nn : Int) + (nss : Int) + (ne : Int)) + k))) ∧ St w wx [.box b 66 [.bool u, .int .i64 q, .int .i64 k, .int .i64 br, .int .i64 bq, .int .i64 ln, .int .i64 ds, .slice An nn cn, .slice As nss cs, .slice Ae ne ce]])
  case first =>
    cases u
    · cases z5 : decide ((⟨br, bq⟩ : Ck.Ref) = Ck.Ref.o)
      · go_wp2_with (refine WL.out ?_; (repeat (first | (refine WL.op ?_ ?_; (exact rfl); intro K hK; (first | ((((with_reducible apply ow_move); exact rfl)); (go_simp <;> (try simp (disch := omega) only [wrap_id, sub_left, zac]) <;> rfl)) | ((first | ((with_reducible apply ow_load1 st); exact rfl; exact inferInstance; exact rfl; (exact get0)) | ((with_reducible apply ow_loadN st); exact rfl; exact inferInstance; exact rfl; (exact get0); ((try simp only [zta, ztz, zda, zdz, zca, zcn, zan, zsz, zss]) <;> exact rfl))); exact rfl) | ((with_reducible apply ow_bin); exact rfl; kernel_rfl; exact rfl; exact rfl; exact fun w => neq_ref ⟨br, bq⟩ Ck.Ref.o w) | ((with_reducible apply ow_eval); (go_simp <;> (try simp (disch := omega) only [wrap_id, sub_left, zac]) <;> rfl); ((with_reducible apply up_value)))); refine WL.next hK (by simp only [Act.put, zpt, zsz, zss]; exact rfl) ?_; clear hK K) | (refine WL.skip ?_ (by simp only [Act.put, zpt, zsz, zss]; exact rfl) ?_; (exact rfl)))); (try refine WL.nil ?_))
        go_meet
        case rel => exact ⟨by simp [z5], st⟩
      · go_wp2_with (refine WL.out ?_; (repeat ((refine WL.op ?_ ?_; (exact rfl); intro K hK; (first | ((((with_reducible apply ow_move); exact rfl)); (go_simp <;> (try simp (disch := omega) only [wrap_id, sub_left, zac]) <;> rfl)) | ((first | ((with_reducible apply ow_load1 st); exact rfl; exact inferInstance; exact rfl; (exact get0)) | ((with_reducible apply ow_loadN st); exact rfl; exact inferInstance; exact rfl; (exact get0); ((try simp only [zta, ztz, zda, zdz, zca, zcn, zan, zsz, zss]) <;> exact rfl))); exact rfl) | ((with_reducible apply ow_bin); exact rfl; kernel_rfl; exact rfl; exact rfl; exact fun w => neq_ref ⟨br, bq⟩ Ck.Ref.o w) | ((with_reducible apply ow_eval); (go_simp <;> (try simp (disch := omega) only [wrap_id, sub_left, zac]) <;> rfl); ((with_reducible apply up_value)))); refine WL.next hK (by simp only [Act.put, zpt, zsz, zss]; exact rfl) ?_; clear hK K))); (try refine WL.nil ?_))
        go_meet
        case rel => exact ⟨by simp [z5], st⟩
    · go_wp2_with (refine WL.out ?_; (repeat (first | (refine WL.op ?_ ?_; (exact rfl); intro K hK; (first | ((((with_reducible apply ow_move); exact rfl)); (go_simp <;> (try simp (disch := omega) only [wrap_id, sub_left, zac]) <;> rfl)) | ((((with_reducible apply ow_load1 st); exact rfl; exact inferInstance; exact rfl; (exact get0))); exact rfl) | ((with_reducible apply ow_eval); (go_simp <;> (try simp (disch := omega) only [wrap_id, sub_left, zac]) <;> rfl); ((with_reducible apply up_value)))); refine WL.next hK (by simp only [Act.put, zpt, zsz, zss]; exact rfl) ?_; clear hK K) | (refine WL.skip ?_ (by simp only [Act.put, zpt, zsz, zss]; exact rfl) ?_; (exact rfl)))); (try refine WL.nil ?_))
      go_meet
      case rel => exact ⟨by simp, st⟩
  case rest =>
    obtain ⟨rfl, st⟩ := hcut
    have ZP : Hid ((!u && ((⟨br, bq⟩ : Ck.Ref) != Ck.Ref.o || decide (0 < ln + ds + (Ck.Rc.parts (Ck.VRc.p ⟨u, q, k, ⟨br, bq⟩, ln, ds, ns, ss, es, An, cn, As, cs, Ae, ce⟩) : Nat) + k))) = (!u && (!decide ((⟨br, bq⟩ : Ck.Ref) = Ck.Ref.o) || decide (0 < ln + ds + ((nn : Int) + (nss : Int) + (ne : Int)) + k)))) := Lib.hid (by
      rw [show (((⟨br, bq⟩ : Ck.Ref) != Ck.Ref.o)) = !decide ((⟨br, bq⟩ : Ck.Ref) = Ck.Ref.o) from rfl]
      rw [show ((Ck.Rc.parts (Ck.VRc.p ⟨u, q, k, ⟨br, bq⟩, ln, ds, ns, ss, es, An, cn, As, cs, Ae, ce⟩) : Nat) : Int) = (nn : Int) + (nss : Int) + (ne : Int) by
        rw [E1.out, E2.out, E3.out]
        simp [Ck.Rc.parts, Ck.VRc.p]])
    cases z5 : (!u && (!decide ((⟨br, bq⟩ : Ck.Ref) = Ck.Ref.o) || decide (0 < ln + ds + ((nn : Int) + (nss : Int) + (ne : Int)) + k)))
    rotate_left
    · have z6 := Lib.hid z5
      clear z5
      go_wp2_with (refine WL.out ?_; (repeat (fail)); (try refine WL.nil ?_))
      go_ret
      exact ⟨Ck.ret_int (by rw [HR.out, Ck.head2 Z1.out (by rw [← z6.out]; exact ZP.out)]), st.below⟩
    have Z2 := Lib.hid (ZP.out.trans z5)
    clear z5 ZP
    go_upto_region 7 with (refine WL.out ?_; (repeat ((refine WL.op ?_ ?_; (exact rfl); intro K hK; (first | ((((with_reducible apply ow_assign); exact rfl)); (go_simp <;> (try simp (disch := omega) only [wrap_id, sub_left, zac]) <;> rfl)) | ((((with_reducible apply ow_load1 st); exact rfl; exact inferInstance; exact rfl; (exact get0))); exact rfl) | ((with_reducible apply ow_eval); (go_simp <;> (try simp (disch := omega) only [wrap_id, sub_left, zac]) <;> rfl); ((with_reducible apply up_value)))); refine WL.next hK (by simp only [Act.put, zpt, zsz, zss]; exact rfl) ?_; clear hK K))); (try refine WL.nil ?_))
    go_upto_if 80 with (refine WL.out ?_; (repeat ((refine WL.op ?_ ?_; (exact rfl); intro K hK; (first | ((first | ((with_reducible apply ow_move); exact rfl) | ((with_reducible apply ow_assign); exact rfl)); (go_simp <;> (try simp (disch := omega) only [wrap_id, sub_left, zac]) <;> rfl)) | ((((with_reducible apply ow_loadN st); exact rfl; exact inferInstance; exact rfl; (exact get0); ((try simp only [zta, ztz, zda, zdz, zca, zcn, zan, zsz, zss]) <;> exact rfl))); exact rfl) | ((with_reducible apply ow_bin); exact rfl; kernel_rfl; exact rfl; exact rfl; exact fun w => eql_ref ⟨br, bq⟩ Ck.Ref.o w) | ((with_reducible apply ow_eval); (go_simp <;> (try simp (disch := omega) only [wrap_id, sub_left, zac]) <;> rfl); first | (with_reducible apply up_value) | ((with_reducible apply up_enter); ((go_at_call 58; refine (unless_any _ _ _).mono ?_; rintro e w' ⟨rfl, rfl⟩; refine ⟨_, rfl, ?_⟩))))); refine WL.next hK (by simp only [Act.put, zpt, zsz, zss]; exact rfl) ?_; clear hK K))); (try refine WL.nil ?_))
    obtain ⟨be, ebe⟩ : ∃ x, x = Ck.baseErr (Ck.VRc.p ⟨u, q, k, ⟨br, bq⟩, ln, ds, ns, ss, es, An, cn, As, cs, Ae, ce⟩) := ⟨_, rfl⟩
    have EB := Lib.hid ebe
    clear ebe
    go_cut [6, 7, 74] from 80 to 83 (fun v6 v7 v74 wx => v6 = .bool (k == 3) ∧ v7 = .int .i64 be ∧ St w wx [.box b 66 [.bool u, .int .i64 q, .int .i64 k, .int .i64 br, .int .i64 bq, .int .i64 ln, .int .i64 ds, .slice An nn cn, .slice As nss cs, .slice Ae ne ce]])
    case first =>
      cases z6 : (k == 3)
      · have z7 : k ≠ 3 := by simpa using z6
        go_wp2_with (refine WL.out ?_; (repeat (fail)); (try refine WL.nil ?_))
        go_meet
        case rel => exact ⟨by rw [z6], by rw [EB.out]; by_cases hro : (⟨br, bq⟩ : Ck.Ref) = Ck.Ref.o <;> simp [Ck.baseErr, Ck.VRc.p, Ck.unl, z7, hro], st⟩
      · have z7 : k = 3 := by simpa using z6
        go_wp2_with (refine WL.out ?_; (repeat ((refine WL.op ?_ ?_; (exact rfl); intro K hK; (first | ((((with_reducible apply ow_assign); exact rfl)); (go_simp <;> (try simp (disch := omega) only [wrap_id, sub_left, zac]) <;> rfl)) | ((((with_reducible apply ow_loadN st); exact rfl; exact inferInstance; exact rfl; (exact get0); ((try simp only [zta, ztz, zda, zdz, zca, zcn, zan, zsz, zss]) <;> exact rfl))); exact rfl) | ((with_reducible apply ow_eval); (go_simp <;> (try simp (disch := omega) only [wrap_id, sub_left, zac]) <;> rfl); first | (with_reducible apply up_value) | ((with_reducible apply up_enter); ((go_at_call 90; refine (refErr_any _ _ _).mono ?_; rintro e w' ⟨rfl, hb⟩; replace st := st.call hb; clear hb; refine ⟨_, rfl, ?_⟩))))); refine WL.next hK (by simp only [Act.put, zpt, zsz, zss]; exact rfl) ?_; clear hK K))); (try refine WL.nil ?_))
        go_meet
        case rel => exact ⟨by rw [z6], by rw [EB.out]; simp [Ck.baseErr, Ck.VRc.p, z7], st⟩
    case rest =>
      obtain ⟨rfl, rfl, st⟩ := hcut
      cases z6 : (be == 0)
      · have z7 := Lib.hid (show be ≠ 0 by simpa using z6)
        have z8 : (be != 0) = true := by simpa using z7.out
        go_wp2_with (refine WL.out ?_; (repeat ((refine WL.op ?_ ?_; (exact rfl); intro K hK; (((with_reducible apply ow_eval); (go_simp <;> (try simp (disch := omega) only [wrap_id, sub_left, zac]) <;> rfl); ((with_reducible apply up_value)))); refine WL.next hK (by simp only [Act.put, zpt, zsz, zss]; exact rfl) ?_; clear hK K))); (try refine WL.nil ?_))
        go_ret
        exact ⟨Ck.ret_int (by rw [HR.out, Ck.head3 Z1.out Z2.out (by rw [← EB.out]; exact z7.out), EB.out]), st.below⟩
      have z7 : be = 0 := by simpa using z6
      have Z3 := Lib.hid (show Ck.baseErr (Ck.VRc.p ⟨u, q, k, ⟨br, bq⟩, ln, ds, ns, ss, es, An, cn, As, cs, Ae, ce⟩) = 0 by rw [← EB.out, z7])
      subst z7
      clear z6 EB
      go_upto_region 12 with (refine WL.out ?_; (repeat ((refine WL.op ?_ ?_; (exact rfl); intro K hK; (first | ((((with_reducible apply ow_move); exact rfl)); (go_simp <;> (try simp (disch := omega) only [wrap_id, sub_left, zac]) <;> rfl)) | ((with_reducible apply ow_eval); (go_simp <;> (try simp (disch := omega) only [wrap_id, sub_left, zac]) <;> rfl); ((with_reducible apply up_value)))); refine WL.next hK (by simp only [Act.put, zpt, zsz, zss]; exact rfl) ?_; clear hK K))); (try refine WL.nil ?_))
      have hc7 := st.cell (i := 0) rfl 7
      have hc8 := st.cell (i := 0) rfl 8
      have hc9 := st.cell (i := 0) rfl 9
      simp only [List.getElem?_cons_succ, List.getElem?_cons_zero] at hc7 hc8 hc9
      by_cases hg1 : (8 : Int) < (nn : Int)
      · have Z4 := Lib.hid (show 8 < ns.length by rw [← E1.out]; omega)
        go_quiet (fail)
        replace st := st.drewN nq
        clear hc7 hc8 hc9
        go_wp2_with (refine WL.out ?_; (repeat (fail)); (try refine WL.nil ?_))
        go_ret
        exact ⟨Ck.ret_int (by rw [HR.out, Ck.head4 Z1.out Z2.out Z3.out (.inl Z4.out)]), st.below⟩
      by_cases hg2 : (8 : Int) < (nss : Int)
      · have Z4 := Lib.hid (show 8 < (ss.map Ck.VSm.p).length by rw [List.length_map, ← E2.out]; omega)
        have hd1 : decide ((8 : Int) < (nn : Int)) = false := decide_eq_false hg1
        go_quiet (fail)
        replace st := st.drewN nq
        clear hc7 hc8 hc9
        go_wp2_with (refine WL.out ?_; (repeat (fail)); (try refine WL.nil ?_))
        go_ret
        exact ⟨Ck.ret_int (by rw [HR.out, Ck.head4 Z1.out Z2.out Z3.out (.inr (.inl Z4.out))]), st.below⟩
      have hd1 : decide ((8 : Int) < (nn : Int)) = false := decide_eq_false hg1
      have hd2 : decide ((8 : Int) < (nss : Int)) = false := decide_eq_false hg2
      by_cases hg3 : ((Ck.most i : Nat) : Int) < (ne : Int)
      · have Z4 := Lib.hid (show Ck.most i < es.length by rw [← E3.out]; omega)
        go_quiet ((go_at_call 91; refine Calls.quiet_of_same ((mostEntries_any _ _).mono fun _ _ h => ⟨h.1, h.2.symm⟩)))
        replace st := st.drewN nq
        clear hc7 hc8 hc9
        go_wp2_with (refine WL.out ?_; (repeat (fail)); (try refine WL.nil ?_))
        go_ret
        exact ⟨Ck.ret_int (by rw [HR.out, Ck.head4 Z1.out Z2.out Z3.out (.inr (.inr Z4.out))]), st.below⟩
      have hd3 : decide (((Ck.most i : Nat) : Int) < (ne : Int)) = false := decide_eq_false hg3
      have Z4 := Lib.hid (show ¬ (8 < (Ck.VRc.p ⟨u, q, k, ⟨br, bq⟩, ln, ds, ns, ss, es, An, cn, As, cs, Ae, ce⟩).ns.length ∨ 8 < (Ck.VRc.p ⟨u, q, k, ⟨br, bq⟩, ln, ds, ns, ss, es, An, cn, As, cs, Ae, ce⟩).ss.length ∨ Ck.most i < (Ck.VRc.p ⟨u, q, k, ⟨br, bq⟩, ln, ds, ns, ss, es, An, cn, As, cs, Ae, ce⟩).es.length) by
        show ¬ (8 < ns.length ∨ 8 < (ss.map Ck.VSm.p).length ∨ Ck.most i < es.length)
        rw [List.length_map, ← E1.out, ← E2.out, ← E3.out]; omega)
      go_quiet ((go_at_call 91; refine Calls.quiet_of_same ((mostEntries_any _ _).mono fun _ _ h => ⟨h.1, h.2.symm⟩)))
      replace st := st.drewN nq
      clear hc7 hc8 hc9 hd1 hd2 hd3
      go_upto_region 14 with (refine WL.out ?_; (repeat (fail)); (try refine WL.nil ?_))
      go_cut [6, 126] from 105 to 126 (fun v6 v wx => v = .bool ((decide (0 < (ne : Int)) && (k != 0)) || (decide (0 < (nn : Int)) && ((k == 3) || decide ((i : Int) < 16)))) ∧ St w wx [.box b 66 [.bool u, .int .i64 q, .int .i64 k, .int .i64 br, .int .i64 bq, .int .i64 ln, .int .i64 ds, .slice An nn cn, .slice As nss cs, .slice Ae ne ce]])
      case first =>
        have hc9 := Ck.eight (0 < (ne : Int)) (0 < (nn : Int)) ((i : Int) < 16) k
        rcases hc9 with ⟨y1, y2⟩ | ⟨y1, rfl, y3⟩ | ⟨y1, rfl, y3, y5⟩ | ⟨y1, rfl, y3, y5⟩ | ⟨y1, y3⟩ | ⟨y1, y3, y4⟩ | ⟨y1, y3, y4, y5⟩ | ⟨y1, y3, y4, y5⟩
        all_goals (
          go_wp2_with (refine WL.out ?_; (repeat (first | (refine WL.op ?_ ?_; (first | exact rfl | (simp [Region.wanted, yielded] <;> omega)); intro K hK; (first | ((((with_reducible apply ow_move); exact rfl)); (go_simp <;> (try simp (disch := omega) only [wrap_id, sub_left, zac]) <;> rfl)) | ((((with_reducible apply ow_load1 st); exact rfl; exact inferInstance; exact rfl; (exact get0))); exact rfl) | ((with_reducible apply ow_eval); (go_simp <;> (try simp (disch := omega) only [wrap_id, sub_left, zac]) <;> rfl); ((with_reducible apply up_value)))); refine WL.next hK (by simp only [Act.put, zpt, zsz, zss]; exact rfl) ?_; clear hK K) | (refine WL.skip ?_ (by simp only [Act.put, zpt, zsz, zss]; exact rfl) ?_; (first | exact rfl | (simp [Region.wanted, yielded] <;> omega))))); (try refine WL.nil ?_))
          (try (((repeat (first | (refine WL.op ?_ ?_; (first | exact rfl | (simp [Region.wanted, yielded] <;> omega)); intro K hK; (first | ((((with_reducible apply ow_move); exact rfl)); (go_simp <;> (try simp (disch := omega) only [wrap_id, sub_left, zac]) <;> rfl)) | ((((with_reducible apply ow_load1 st); exact rfl; exact inferInstance; exact rfl; (exact get0))); exact rfl) | ((with_reducible apply ow_eval); (go_simp <;> (try simp (disch := omega) only [wrap_id, sub_left, zac]) <;> rfl); ((with_reducible apply up_value)))); refine WL.next hK (by simp only [Act.put, zpt, zsz, zss]; exact rfl) ?_; clear hK K) | (refine WL.skip ?_ (by simp only [Act.put, zpt, zsz, zss]; exact rfl) ?_; (first | exact rfl | (simp [Region.wanted, yielded] <;> omega))))); (try refine WL.nil ?_)); go_wp2_with (refine WL.out ?_; (repeat (fail)); (try refine WL.nil ?_))))
          refine Met.intro ?_
          try go_step
          (repeat apply Exists.intro)
          refine ⟨?rel, rfl⟩
          case rel => exact ⟨by simp [*], st⟩)
      case rest =>
        obtain ⟨rfl, st⟩ := hcut
        have Z5 : Hid (((decide (0 < (ne : Int)) && (k != 0)) || (decide (0 < (nn : Int)) && ((k == 3) || decide ((i : Int) < 16)))) = true ↔ ((0 < (Ck.VRc.p ⟨u, q, k, ⟨br, bq⟩, ln, ds, ns, ss, es, An, cn, As, cs, Ae, ce⟩).es.length ∧ (Ck.VRc.p ⟨u, q, k, ⟨br, bq⟩, ln, ds, ns, ss, es, An, cn, As, cs, Ae, ce⟩).k ≠ 0) ∨ (0 < (Ck.VRc.p ⟨u, q, k, ⟨br, bq⟩, ln, ds, ns, ss, es, An, cn, As, cs, Ae, ce⟩).ns.length ∧ ((Ck.VRc.p ⟨u, q, k, ⟨br, bq⟩, ln, ds, ns, ss, es, An, cn, As, cs, Ae, ce⟩).k = 3 ∨ (i : Int) < 16)))) := Lib.hid (by
          show _ ↔ ((0 < es.length ∧ k ≠ 0) ∨ (0 < ns.length ∧ (k = 3 ∨ (i : Int) < 16)))
          rw [← E1.out, ← E3.out]
          simp)
        cases z5 : ((decide (0 < (ne : Int)) && (k != 0)) || (decide (0 < (nn : Int)) && ((k == 3) || decide ((i : Int) < 16))))
        rotate_left
        · have z6 := Lib.hid z5
          clear z5
          go_wp2_with (refine WL.out ?_; (repeat (fail)); (try refine WL.nil ?_))
          go_ret
          exact ⟨Ck.ret_int (by rw [HR.out, Ck.head5 Z1.out Z2.out Z3.out Z4.out (Z5.out.1 z6.out)]), st.below⟩
        have Z6 := Lib.hid (show R = Ck.first [Ck.nmsErr (Ck.VRc.p ⟨u, q, k, ⟨br, bq⟩, ln, ds, ns, ss, es, An, cn, As, cs, Ae, ce⟩), Ck.smsErr (Ck.VRc.p ⟨u, q, k, ⟨br, bq⟩, ln, ds, ns, ss, es, An, cn, As, cs, Ae, ce⟩), Ck.ensErr (Ck.VRc.p ⟨u, q, k, ⟨br, bq⟩, ln, ds, ns, ss, es, An, cn, As, cs, Ae, ce⟩)] by
          rw [HR.out, Ck.head6 Z1.out Z2.out Z3.out Z4.out (fun h => by have := Z5.out.2 h; rw [z5] at this; exact Bool.false_ne_true this)])
        clear z5 Z5 HR
        go_wp2_with (refine WL.out ?_; (repeat ((refine WL.op ?_ ?_; (exact rfl); intro K hK; (first | ((((with_reducible apply ow_move); exact rfl)); (go_simp <;> (try simp (disch := omega) only [wrap_id, sub_left, zac]) <;> rfl)) | ((((with_reducible apply ow_load1 st); exact rfl; exact inferInstance; exact rfl; (exact get0))); exact rfl) | ((with_reducible apply ow_eval); (go_simp <;> (try simp (disch := omega) only [wrap_id, sub_left, zac]) <;> rfl); ((with_reducible apply up_value)))); refine WL.next hK (by simp only [Act.put, zpt, zsz, zss]; exact rfl) ?_; clear hK K))); (try refine WL.nil ?_))
        go_loopw [130] (fun i wr => ∃ j : Nat, j ≤ nn ∧ i = .int .i64 j ∧ St w wr [.box b 66 [.bool u, .int .i64 q, .int .i64 k, .int .i64 br, .int .i64 bq, .int .i64 ln, .int .i64 ds, .slice An nn cn, .slice As nss cs, .slice Ae ne ce]] ∧ Hid (Ck.goE (fun i => Ck.nmErr (Ck.at_ Ck.Nm.o ns i)) j = 0)) (fun i _ => nn - (intOf i).toNat)
        case atStart => exact ⟨0, by omega, rfl, st, rfl⟩
        case round =>
          clear st
          obtain ⟨j, hj, rfl, st, hs⟩ := hrel
          by_cases hlt : j < nn
          · have hkl : Hid (j < ns.length) := Lib.hid (by rw [← E1.out]; exact hlt)
            obtain ⟨b1, o1, rfl, hb1, hc⟩ := H.out.ns.at_ (Nat.lt_of_le_of_lt (Nat.zero_le _) hkl.out)
            have hb1 := Nat.lt_of_lt_of_le hb1 hB
            have f1 := hc j hkl.out
            clear hc
            obtain ⟨y, hy⟩ : ∃ y, y = Ck.at_ Ck.Nm.o ns j := ⟨_, rfl⟩
            have hyl : y.n.length ≤ 100000 := by rw [hy]; exact HF.out.nl _ (Ck.at_mem _ _ _ hkl.out)
            have f1 : OldC w b1 (o1 + j * 3) [.int .i64 y.d.r, .int .i64 y.d.q, .string ⟨y.n.toArray⟩] := by rw [hy]; exact f1
            have HY := Lib.hid hy
            clear hy
            obtain ⟨v, hv⟩ : ∃ v, v = Ck.nmErr y := ⟨_, rfl⟩
            have HV := Lib.hid (show v = Ck.nmErr (Ck.at_ Ck.Nm.o ns j) by rw [hv, HY.out])
            have HC : Hid (∀ W, Calls Tryz.prog 92 #[.agg #[.int .i64 y.d.r, .int .i64 y.d.q, .string ⟨y.n.toArray⟩]] W fun e w' => e = .returned (.int .i64 v) ∧ Below W.heap.size W w') := Lib.hid fun W => by rw [hv]; exact nameErr_any y W hyl
            clear hv
            by_cases h0 : v = 0
            · have hs' : Hid (Ck.goE (fun i => Ck.nmErr (Ck.at_ Ck.Nm.o ns i)) (j + 1) = 0) := Lib.hid (by rw [Ck.goE_next _ hs.out, ← HV.out]; exact h0)
              subst h0
              go_wp2_with (refine WL.out ?_; (repeat ((refine WL.op ?_ ?_; (exact rfl); intro K hK; (first | ((first | ((with_reducible apply ow_move); exact rfl) | ((with_reducible apply ow_assign); exact rfl)); (go_simp <;> (try simp (disch := omega) only [wrap_id, sub_left, zac]) <;> rfl)) | ((((with_reducible apply ow_loadN st); exact rfl; exact inferInstance; exact rfl; (exact get0); ((try simp only [zta, ztz, zda, zdz, zca, zcn, zan, zsz, zss]) <;> exact rfl))); exact rfl) | ((((with_reducible apply ow_alloc st); exact rfl; exact inferInstance; (go_simp <;> (try simp (disch := omega) only [wrap_id, sub_left, zac]) <;> rfl))); (try clear st); intro b w' st) | ((((with_reducible apply ow_storeN' st); exact rfl; exact inferInstance; exact rfl; (exact get0); exact rfl)); exact rfl; exact rfl; (simp <;> done); ((try simp only [zta, ztz, zda, zdz, zca, zcn, zan, zsz, zss]) <;> exact rfl); (try clear st); intro w' st) | ((with_reducible apply ow_oldC st); exact rfl; exact inferInstance; exact rfl; assumption; assumption; exact rfl) | ((with_reducible apply ow_eval); (go_simp <;> (try simp (disch := omega) only [wrap_id, sub_left, zac]) <;> rfl); first | (with_reducible apply up_value) | ((with_reducible apply up_enter); ((go_at_call 92; refine (HC.out _).mono ?_; rintro e w' ⟨rfl, hb⟩; replace st := st.call hb; clear hb; refine ⟨_, rfl, ?_⟩))))); refine WL.next hK (by simp only [Act.put, zpt, zsz, zss]; exact rfl) ?_; clear hK K))); (try refine WL.nil ?_))
              exact ⟨⟨j + 1, by omega, by go_num, st.tail, hs'⟩, by simp [intOf]; omega⟩
            · have hR : Hid (R = v) := Lib.hid (by
                rw [Z6.out, show Ck.nmsErr (Ck.VRc.p ⟨u, q, k, ⟨br, bq⟩, ln, ds, ns, ss, es, some ⟨b1, o1, none⟩, cn, As, cs, Ae, ce⟩) = v from (Ck.goE_stop _ hs.out (by rw [← HV.out]; exact h0) _ hkl.out).trans HV.out.symm]
                exact if_neg h0)
              have h0' : (v != 0) = true := by simpa using h0
              go_wp2_with (refine WL.out ?_; (repeat ((refine WL.op ?_ ?_; (exact rfl); intro K hK; (first | ((((with_reducible apply ow_assign); exact rfl)); (go_simp <;> (try simp (disch := omega) only [wrap_id, sub_left, zac]) <;> rfl)) | ((((with_reducible apply ow_loadN st); exact rfl; exact inferInstance; exact rfl; (exact get0); ((try simp only [zta, ztz, zda, zdz, zca, zcn, zan, zsz, zss]) <;> exact rfl))); exact rfl) | ((((with_reducible apply ow_alloc st); exact rfl; exact inferInstance; (go_simp <;> (try simp (disch := omega) only [wrap_id, sub_left, zac]) <;> rfl))); (try clear st); intro b w' st) | ((((with_reducible apply ow_storeN' st); exact rfl; exact inferInstance; exact rfl; (exact get0); exact rfl)); exact rfl; exact rfl; (simp <;> done); ((try simp only [zta, ztz, zda, zdz, zca, zcn, zan, zsz, zss]) <;> exact rfl); (try clear st); intro w' st) | ((with_reducible apply ow_oldC st); exact rfl; exact inferInstance; exact rfl; assumption; assumption; exact rfl) | ((with_reducible apply ow_eval); (go_simp <;> (try simp (disch := omega) only [wrap_id, sub_left, zac]) <;> rfl); first | (with_reducible apply up_value) | ((with_reducible apply up_enter); ((go_at_call 92; refine (HC.out _).mono ?_; rintro e w' ⟨rfl, hb⟩; replace st := st.call hb; clear hb; refine ⟨_, rfl, ?_⟩))))); refine WL.next hK (by simp only [Act.put, zpt, zsz, zss]; exact rfl) ?_; clear hK K))); (try refine WL.nil ?_))
              go_ret
              exact ⟨Ck.ret_int hR.out.symm, st.below⟩
          · obtain rfl : nn = j := by omega
            have hN : Hid (Ck.nmsErr (Ck.VRc.p ⟨u, q, k, ⟨br, bq⟩, ln, ds, ns, ss, es, An, cn, As, cs, Ae, ce⟩) = 0) := Lib.hid (by show Ck.goE _ ns.length = 0; rw [← E1.out]; exact hs.out)
            clear hs
            go_wp2_with (refine WL.out ?_; (repeat ((refine WL.op ?_ ?_; (exact rfl); intro K hK; (first | ((((with_reducible apply ow_move); exact rfl)); (go_simp <;> (try simp (disch := omega) only [wrap_id, sub_left, zac]) <;> rfl)) | ((((with_reducible apply ow_load1 st); exact rfl; exact inferInstance; exact rfl; (exact get0))); exact rfl) | ((with_reducible apply ow_eval); (go_simp <;> (try simp (disch := omega) only [wrap_id, sub_left, zac]) <;> rfl); ((with_reducible apply up_value)))); refine WL.next hK (by simp only [Act.put, zpt, zsz, zss]; exact rfl) ?_; clear hK K))); (try refine WL.nil ?_))
            go_loopw [143] (fun i wr => ∃ j : Nat, j ≤ nss ∧ i = .int .i64 j ∧ St w wr [.box b 66 [.bool u, .int .i64 q, .int .i64 k, .int .i64 br, .int .i64 bq, .int .i64 ln, .int .i64 ds, .slice An nn cn, .slice As nss cs, .slice Ae ne ce]] ∧ Hid (Ck.goE (fun i => Ck.smErr (Ck.at_ Ck.Sm.o (ss.map Ck.VSm.p) i)) j = 0)) (fun i _ => nss - (intOf i).toNat)
            case atStart => exact ⟨0, by omega, rfl, st, rfl⟩
            case round =>
              clear st
              obtain ⟨j, hj, rfl, st, hs⟩ := hrel
              by_cases hlt : j < nss
              · have hkl : Hid (j < ss.length) := Lib.hid (by rw [← E2.out]; exact hlt)
                obtain ⟨b1, o1, rfl, hb1, hc⟩ := H.out.ss.at_ (Nat.lt_of_le_of_lt (Nat.zero_le _) hkl.out)
                have hb1 := Nat.lt_of_lt_of_le hb1 hB
                have f1 := hc j hkl.out
                clear hc
                obtain ⟨y, hy⟩ : ∃ y, y = Ck.at_ Ck.VSm.o ss j := ⟨_, rfl⟩
                have hym : y ∈ ss := by rw [hy]; exact Ck.at_mem _ _ _ hkl.out
                have hyp : Hid (Ck.at_ Ck.Sm.o (ss.map Ck.VSm.p) j = y.p) := Lib.hid (by rw [hy]; exact Ck.at_map Ck.VSm.p Ck.VSm.o Ck.Sm.o ss j hkl.out)
                have f1 : OldC w b1 (o1 + j * 2) [.slice y.A y.r.length y.c, .int .i64 y.z] := by rw [hy]; exact f1
                clear hy
                obtain ⟨v, hv⟩ : ∃ v, v = Ck.smErr y.p := ⟨_, rfl⟩
                have HV := Lib.hid (show v = Ck.smErr (Ck.at_ Ck.Sm.o (ss.map Ck.VSm.p) j) by rw [hv, hyp.out])
                have HC : Hid (∀ W, Below w.heap.size w W → Calls Tryz.prog 93 #[.agg #[.slice y.A y.r.length y.c, .int .i64 y.z]] W fun e w' => e = .returned (.int .i64 v) ∧ Below W.heap.size W w') := Lib.hid fun W hb => by rw [hv]; exact streamErr_any y B W (Lst.below (H.out.rr y hym) hb hB) (Nat.le_trans hB hb.size) (HF.out.rr y hym)
                clear hv hym
                by_cases h0 : v = 0
                · have hs' : Hid (Ck.goE (fun i => Ck.smErr (Ck.at_ Ck.Sm.o (ss.map Ck.VSm.p) i)) (j + 1) = 0) := Lib.hid (by rw [Ck.goE_next _ hs.out, ← HV.out]; exact h0)
                  subst h0
                  go_wp2_with (refine WL.out ?_; (repeat ((refine WL.op ?_ ?_; (exact rfl); intro K hK; (first | ((first | ((with_reducible apply ow_move); exact rfl) | ((with_reducible apply ow_assign); exact rfl)); (go_simp <;> (try simp (disch := omega) only [wrap_id, sub_left, zac]) <;> rfl)) | ((((with_reducible apply ow_loadN st); exact rfl; exact inferInstance; exact rfl; (exact get0); ((try simp only [zta, ztz, zda, zdz, zca, zcn, zan, zsz, zss]) <;> exact rfl))); exact rfl) | ((((with_reducible apply ow_alloc st); exact rfl; exact inferInstance; (go_simp <;> (try simp (disch := omega) only [wrap_id, sub_left, zac]) <;> rfl))); (try clear st); intro b w' st) | ((((with_reducible apply ow_storeN' st); exact rfl; exact inferInstance; exact rfl; (exact get0); exact rfl)); exact rfl; exact rfl; (simp <;> done); ((try simp only [zta, ztz, zda, zdz, zca, zcn, zan, zsz, zss]) <;> exact rfl); (try clear st); intro w' st) | ((with_reducible apply ow_oldC st); exact rfl; exact inferInstance; exact rfl; assumption; assumption; exact rfl) | ((with_reducible apply ow_eval); (go_simp <;> (try simp (disch := omega) only [wrap_id, sub_left, zac]) <;> rfl); first | (with_reducible apply up_value) | ((with_reducible apply up_enter); ((go_at_call 93; refine (HC.out _ st.below).mono ?_; rintro e w' ⟨rfl, hb⟩; replace st := st.call hb; clear hb; refine ⟨_, rfl, ?_⟩))))); refine WL.next hK (by simp only [Act.put, zpt, zsz, zss]; exact rfl) ?_; clear hK K))); (try refine WL.nil ?_))
                  exact ⟨⟨j + 1, by omega, by go_num, st.tail, hs'⟩, by simp [intOf]; omega⟩
                · have hR : Hid (R = v) := Lib.hid (by
                    rw [Z6.out, show Ck.smsErr (Ck.VRc.p ⟨u, q, k, ⟨br, bq⟩, ln, ds, ns, ss, es, An, cn, some ⟨b1, o1, none⟩, cs, Ae, ce⟩) = v from (Ck.goE_stop _ hs.out (by rw [← HV.out]; exact h0) _ (by show j < (ss.map Ck.VSm.p).length; rw [List.length_map]; exact hkl.out)).trans HV.out.symm]
                    show (if _ = 0 then _ else _) = v
                    rw [if_pos hN.out]
                    exact if_neg h0)
                  have h0' : (v != 0) = true := by simpa using h0
                  go_wp2_with (refine WL.out ?_; (repeat ((refine WL.op ?_ ?_; (exact rfl); intro K hK; (first | ((((with_reducible apply ow_assign); exact rfl)); (go_simp <;> (try simp (disch := omega) only [wrap_id, sub_left, zac]) <;> rfl)) | ((((with_reducible apply ow_loadN st); exact rfl; exact inferInstance; exact rfl; (exact get0); ((try simp only [zta, ztz, zda, zdz, zca, zcn, zan, zsz, zss]) <;> exact rfl))); exact rfl) | ((((with_reducible apply ow_alloc st); exact rfl; exact inferInstance; (go_simp <;> (try simp (disch := omega) only [wrap_id, sub_left, zac]) <;> rfl))); (try clear st); intro b w' st) | ((((with_reducible apply ow_storeN' st); exact rfl; exact inferInstance; exact rfl; (exact get0); exact rfl)); exact rfl; exact rfl; (simp <;> done); ((try simp only [zta, ztz, zda, zdz, zca, zcn, zan, zsz, zss]) <;> exact rfl); (try clear st); intro w' st) | ((with_reducible apply ow_oldC st); exact rfl; exact inferInstance; exact rfl; assumption; assumption; exact rfl) | ((with_reducible apply ow_eval); (go_simp <;> (try simp (disch := omega) only [wrap_id, sub_left, zac]) <;> rfl); first | (with_reducible apply up_value) | ((with_reducible apply up_enter); ((go_at_call 93; refine (HC.out _ st.below).mono ?_; rintro e w' ⟨rfl, hb⟩; replace st := st.call hb; clear hb; refine ⟨_, rfl, ?_⟩))))); refine WL.next hK (by simp only [Act.put, zpt, zsz, zss]; exact rfl) ?_; clear hK K))); (try refine WL.nil ?_))
                  go_ret
                  exact ⟨Ck.ret_int hR.out.symm, st.below⟩
              · obtain rfl : nss = j := by omega
                have hM : Hid (Ck.smsErr (Ck.VRc.p ⟨u, q, k, ⟨br, bq⟩, ln, ds, ns, ss, es, An, cn, As, cs, Ae, ce⟩) = 0) := Lib.hid (by show Ck.goE _ (ss.map Ck.VSm.p).length = 0; rw [List.length_map, ← E2.out]; exact hs.out)
                clear hs
                go_wp2_with (refine WL.out ?_; (repeat ((refine WL.op ?_ ?_; (exact rfl); intro K hK; (first | ((((with_reducible apply ow_move); exact rfl)); (go_simp <;> (try simp (disch := omega) only [wrap_id, sub_left, zac]) <;> rfl)) | ((((with_reducible apply ow_load1 st); exact rfl; exact inferInstance; exact rfl; (exact get0))); exact rfl) | ((with_reducible apply ow_eval); (go_simp <;> (try simp (disch := omega) only [wrap_id, sub_left, zac]) <;> rfl); ((with_reducible apply up_value)))); refine WL.next hK (by simp only [Act.put, zpt, zsz, zss]; exact rfl) ?_; clear hK K))); (try refine WL.nil ?_))
                go_loopw [156] (fun i wr => ∃ j : Nat, j ≤ ne ∧ i = .int .i64 j ∧ St w wr [.box b 66 [.bool u, .int .i64 q, .int .i64 k, .int .i64 br, .int .i64 bq, .int .i64 ln, .int .i64 ds, .slice An nn cn, .slice As nss cs, .slice Ae ne ce]] ∧ Hid (Ck.goE (fun i => Ck.enErr (Ck.at_ Ck.En.o es i)) j = 0)) (fun i _ => ne - (intOf i).toNat)
                case atStart => exact ⟨0, by omega, rfl, st, rfl⟩
                case round =>
                  clear st
                  obtain ⟨j, hj, rfl, st, hs⟩ := hrel
                  by_cases hlt : j < ne
                  · have hkl : Hid (j < es.length) := Lib.hid (by rw [← E3.out]; exact hlt)
                    obtain ⟨b1, o1, rfl, hb1, hc⟩ := H.out.es.at_ (Nat.lt_of_le_of_lt (Nat.zero_le _) hkl.out)
                    have hb1 := Nat.lt_of_lt_of_le hb1 hB
                    have f1 := hc j hkl.out
                    clear hc
                    obtain ⟨y, hy⟩ : ∃ y, y = Ck.at_ Ck.En.o es j := ⟨_, rfl⟩
                    have hyl : y.n.length ≤ 100000 := by rw [hy]; exact HF.out.el _ (Ck.at_mem _ _ _ hkl.out)
                    have f1 : OldC w b1 (o1 + j * 4) [.string ⟨y.n.toArray⟩, .int .i64 y.f.r, .int .i64 y.f.q, .int .i64 y.z] := by rw [hy]; exact f1
                    have HY := Lib.hid hy
                    clear hy
                    obtain ⟨v, hv⟩ : ∃ v, v = Ck.enErr y := ⟨_, rfl⟩
                    have HV := Lib.hid (show v = Ck.enErr (Ck.at_ Ck.En.o es j) by rw [hv, HY.out])
                    have HC : Hid (∀ W, Calls Tryz.prog 94 #[.agg #[.string ⟨y.n.toArray⟩, .int .i64 y.f.r, .int .i64 y.f.q, .int .i64 y.z]] W fun e w' => e = .returned (.int .i64 v) ∧ Below W.heap.size W w') := Lib.hid fun W => by rw [hv]; exact entryErr_any y W hyl
                    clear hv
                    by_cases h0 : v = 0
                    · have hs' : Hid (Ck.goE (fun i => Ck.enErr (Ck.at_ Ck.En.o es i)) (j + 1) = 0) := Lib.hid (by rw [Ck.goE_next _ hs.out, ← HV.out]; exact h0)
                      subst h0
                      go_wp2_with (refine WL.out ?_; (repeat ((refine WL.op ?_ ?_; (exact rfl); intro K hK; (first | ((first | ((with_reducible apply ow_move); exact rfl) | ((with_reducible apply ow_assign); exact rfl)); (go_simp <;> (try simp (disch := omega) only [wrap_id, sub_left, zac]) <;> rfl)) | ((((with_reducible apply ow_loadN st); exact rfl; exact inferInstance; exact rfl; (exact get0); ((try simp only [zta, ztz, zda, zdz, zca, zcn, zan, zsz, zss]) <;> exact rfl))); exact rfl) | ((((with_reducible apply ow_alloc st); exact rfl; exact inferInstance; (go_simp <;> (try simp (disch := omega) only [wrap_id, sub_left, zac]) <;> rfl))); (try clear st); intro b w' st) | ((((with_reducible apply ow_storeN' st); exact rfl; exact inferInstance; exact rfl; (exact get0); exact rfl)); exact rfl; exact rfl; (simp <;> done); ((try simp only [zta, ztz, zda, zdz, zca, zcn, zan, zsz, zss]) <;> exact rfl); (try clear st); intro w' st) | ((with_reducible apply ow_oldC st); exact rfl; exact inferInstance; exact rfl; assumption; assumption; exact rfl) | ((with_reducible apply ow_eval); (go_simp <;> (try simp (disch := omega) only [wrap_id, sub_left, zac]) <;> rfl); first | (with_reducible apply up_value) | ((with_reducible apply up_enter); ((go_at_call 94; refine (HC.out _).mono ?_; rintro e w' ⟨rfl, hb⟩; replace st := st.call hb; clear hb; refine ⟨_, rfl, ?_⟩))))); refine WL.next hK (by simp only [Act.put, zpt, zsz, zss]; exact rfl) ?_; clear hK K))); (try refine WL.nil ?_))
                      exact ⟨⟨j + 1, by omega, by go_num, st.tail, hs'⟩, by simp [intOf]; omega⟩
                    · have hR : Hid (R = v) := Lib.hid (by
                        rw [Z6.out, show Ck.ensErr (Ck.VRc.p ⟨u, q, k, ⟨br, bq⟩, ln, ds, ns, ss, es, An, cn, As, cs, some ⟨b1, o1, none⟩, ce⟩) = v from (Ck.goE_stop _ hs.out (by rw [← HV.out]; exact h0) _ hkl.out).trans HV.out.symm]
                        show (if _ = 0 then (if _ = 0 then _ else _) else _) = v
                        rw [if_pos hN.out, if_pos hM.out]
                        exact if_neg h0)
                      have h0' : (v != 0) = true := by simpa using h0
                      go_wp2_with (refine WL.out ?_; (repeat ((refine WL.op ?_ ?_; (exact rfl); intro K hK; (first | ((((with_reducible apply ow_assign); exact rfl)); (go_simp <;> (try simp (disch := omega) only [wrap_id, sub_left, zac]) <;> rfl)) | ((((with_reducible apply ow_loadN st); exact rfl; exact inferInstance; exact rfl; (exact get0); ((try simp only [zta, ztz, zda, zdz, zca, zcn, zan, zsz, zss]) <;> exact rfl))); exact rfl) | ((((with_reducible apply ow_alloc st); exact rfl; exact inferInstance; (go_simp <;> (try simp (disch := omega) only [wrap_id, sub_left, zac]) <;> rfl))); (try clear st); intro b w' st) | ((((with_reducible apply ow_storeN' st); exact rfl; exact inferInstance; exact rfl; (exact get0); exact rfl)); exact rfl; exact rfl; (simp <;> done); ((try simp only [zta, ztz, zda, zdz, zca, zcn, zan, zsz, zss]) <;> exact rfl); (try clear st); intro w' st) | ((with_reducible apply ow_oldC st); exact rfl; exact inferInstance; exact rfl; assumption; assumption; exact rfl) | ((with_reducible apply ow_eval); (go_simp <;> (try simp (disch := omega) only [wrap_id, sub_left, zac]) <;> rfl); first | (with_reducible apply up_value) | ((with_reducible apply up_enter); ((go_at_call 94; refine (HC.out _).mono ?_; rintro e w' ⟨rfl, hb⟩; replace st := st.call hb; clear hb; refine ⟨_, rfl, ?_⟩))))); refine WL.next hK (by simp only [Act.put, zpt, zsz, zss]; exact rfl) ?_; clear hK K))); (try refine WL.nil ?_))
                      go_ret
                      exact ⟨Ck.ret_int hR.out.symm, st.below⟩
                  · obtain rfl : ne = j := by omega
                    have hR : Hid (R = 0) := Lib.hid (by
                      rw [Z6.out, show Ck.ensErr (Ck.VRc.p ⟨u, q, k, ⟨br, bq⟩, ln, ds, ns, ss, es, An, cn, As, cs, Ae, ce⟩) = 0 by show Ck.goE _ es.length = 0; rw [← E3.out]; exact hs.out]
                      show (if _ = 0 then (if _ = 0 then _ else _) else _) = (0 : Int)
                      rw [if_pos hN.out, if_pos hM.out]
                      rfl)
                    go_wp2_with (refine WL.out ?_; (repeat ((refine WL.op ?_ ?_; (exact rfl); intro K hK; (((with_reducible apply ow_eval); (go_simp <;> (try simp (disch := omega) only [wrap_id, sub_left, zac]) <;> rfl); ((with_reducible apply up_value)))); refine WL.next hK (by simp only [Act.put, zpt, zsz, zss]; exact rfl) ?_; clear hK K))); (try refine WL.nil ?_))
                    go_ret
                    exact ⟨Ck.ret_int hR.out.symm, st.below⟩
end Go.Proofs.YtgcjejajljhnaaaGreatDoor
namespace Go.Proofs.YtgcjejajljhnaaaGreatDoor
open Go.RowKit Go.Hp
theorem ret2 {a b c d : Int} (h1 : a = c) (h2 : b = d) : Ending.returned (.tuple #[.int .i64 a, .int .i64 b]) = Ending.returned (.tuple #[.int .i64 c, .int .i64 d]) := by rw [h1, h2]
set_option maxRecDepth 8000 in
set_option maxHeartbeats 4000000 in
theorem CheckParts_any (v : Ck.VPt) (B : Nat) (w : World) (h : v.At w B) (hB : B ≤ w.heap.size) (hf : v.Fit) (hm : v.mp.length ≤ 100000) :
    Calls Tryz.prog 12 #[v.val] w fun e w' => e = .returned (.tuple #[.int .i64 (Ck.partsIx v.p), .int .i64 (Ck.partsErr v.p)]) ∧ Below w.heap.size w w' := by
  have HW : Hid (∀ W, Below w.heap.size w W → Calls Tryz.prog 46 #[v.val] W fun e w' => e = .returned (.int .i64 (Ck.wholeErr v.p)) ∧ Below W.heap.size W w') := Lib.hid fun W hb => wholeErr_any v B W (h.below hb hB) (Nat.le_trans hB hb.size) hf hm
  have H := Lib.hid h
  have HF := Lib.hid hf
  clear h hf hm
  obtain ⟨c, al, rs, ds, mp, Aa, ca, Ar, cr, Ad, cd⟩ := v
  unfold Ck.VPt.val at *
  simp only at *
  obtain ⟨na, e1⟩ : ∃ n, n = al.length := ⟨_, rfl⟩
  obtain ⟨nr, e2⟩ : ∃ n, n = rs.length := ⟨_, rfl⟩
  obtain ⟨nd, e3⟩ : ∃ n, n = ds.length := ⟨_, rfl⟩
  have E2 := Lib.hid e2
  rw [← e1, ← e2, ← e3] at HW ⊢
  clear e1 e3 e2
  have hn2 : nr ≤ 100000 := by rw [E2.out]; exact HF.out.rs
  obtain ⟨p, ep⟩ : ∃ p, p = Ck.VPt.p ⟨c, al, rs, ds, mp, Aa, ca, Ar, cr, Ad, cd⟩ := ⟨_, rfl⟩
  rw [← ep] at HW ⊢
  have hpl : p.rs.length = nr := by rw [ep, E2.out]; exact List.length_map ..
  have hpr : ∀ j, j < nr → Ck.at_ Ck.Rc.o p.rs j = (Ck.at_ Ck.VRc.o rs j).p := fun j hj => by rw [ep]; exact Ck.at_map Ck.VRc.p Ck.VRc.o Ck.Rc.o rs j (by rw [← E2.out]; exact hj)
  have PL := Lib.hid hpl
  have PR := Lib.hid hpr
  clear hpl hpr ep
  obtain ⟨we, ewe⟩ : ∃ x, x = Ck.wholeErr p := ⟨_, rfl⟩
  rw [← ewe] at HW
  have WE := Lib.hid ewe
  clear ewe
  by_cases h0 : we = 0
  rotate_left
  · have hi : Hid (Ck.partsIx p = 0) := Lib.hid (by unfold Ck.partsIx; rw [if_pos (by rw [← WE.out]; exact h0)])
    have he : Hid (Ck.partsErr p = we) := Lib.hid (by rw [WE.out]; exact if_neg (by rw [← WE.out]; exact h0))
    have h0' : (we != 0) = true := by simpa using h0
    have st := St.start w
    go_enter Tryz.func12, Tryz.ntmps12
    go_wp2_with (refine WL.out ?_; (repeat ((refine WL.op ?_ ?_; (exact rfl); intro K hK; (first | ((((with_reducible apply ow_assign); exact rfl)); (go_simp <;> (try simp (disch := omega) only [wrap_id, sub_left, zac]) <;> rfl)) | ((((with_reducible apply ow_loadN st); exact rfl; exact inferInstance; exact rfl; (exact get0); ((try simp only [zta, ztz, zda, zdz, zca, zcn, zan, zsz, zss]) <;> exact rfl))); exact rfl) | ((((with_reducible apply ow_box st); exact rfl; (go_simp <;> (try simp (disch := omega) only [wrap_id, sub_left, zac]) <;> rfl); (go_simp <;> (try simp (disch := omega) only [wrap_id, sub_left, zac]) <;> rfl))); (try clear st); intro b w' st) | ((with_reducible apply ow_eval); (go_simp <;> (try simp (disch := omega) only [wrap_id, sub_left, zac]) <;> rfl); first | (with_reducible apply up_value) | ((with_reducible apply up_enter); ((go_at_call 46; refine (HW.out _ st.below).mono ?_; rintro e w' ⟨rfl, hb⟩; replace st := st.call hb; clear hb; refine ⟨_, rfl, ?_⟩))))); refine WL.next hK (by simp only [Act.put, zpt, zsz, zss]; exact rfl) ?_; clear hK K))); (try refine WL.nil ?_))
    go_ret2
    exact ⟨ret2 hi.out.symm he.out.symm, st.below⟩
  subst h0
  have miss : Hid (Ck.rootErr p = 6 → Ck.partsIx p = 5 ∧ Ck.partsErr p = 6) := Lib.hid fun h => by
    refine ⟨?_, ?_⟩
    · unfold Ck.partsIx
      rw [← WE.out, h]
      rfl
    · unfold Ck.partsErr
      rw [← WE.out, h]
      rfl
  have st := St.start w
  by_cases h5 : (nr : Int) ≤ 5
  · have hm := Lib.hid (miss.out (by unfold Ck.rootErr; rw [if_pos (.inl (by rw [PL.out]; omega))]))
    go_enter Tryz.func12, Tryz.ntmps12
    go_wp2_with (refine WL.out ?_; (repeat (first | (refine WL.op ?_ ?_; (exact rfl); intro K hK; (first | ((first | ((with_reducible apply ow_move); exact rfl) | ((with_reducible apply ow_assign); exact rfl)); (go_simp <;> (try simp (disch := omega) only [wrap_id, sub_left, zac]) <;> rfl)) | ((first | ((with_reducible apply ow_load1 st); exact rfl; exact inferInstance; exact rfl; (exact get0)) | ((with_reducible apply ow_loadN st); exact rfl; exact inferInstance; exact rfl; (exact get0); ((try simp only [zta, ztz, zda, zdz, zca, zcn, zan, zsz, zss]) <;> exact rfl))); exact rfl) | ((((with_reducible apply ow_box st); exact rfl; (go_simp <;> (try simp (disch := omega) only [wrap_id, sub_left, zac]) <;> rfl); (go_simp <;> (try simp (disch := omega) only [wrap_id, sub_left, zac]) <;> rfl))); (try clear st); intro b w' st) | ((with_reducible apply ow_eval); (go_simp <;> (try simp (disch := omega) only [wrap_id, sub_left, zac]) <;> rfl); first | (with_reducible apply up_value) | ((with_reducible apply up_enter); ((go_at_call 46; refine (HW.out _ st.below).mono ?_; rintro e w' ⟨rfl, hb⟩; replace st := st.call hb; clear hb; refine ⟨_, rfl, ?_⟩))))); refine WL.next hK (by simp only [Act.put, zpt, zsz, zss]; exact rfl) ?_; clear hK K) | (refine WL.skip ?_ (by simp only [Act.put, zpt, zsz, zss]; exact rfl) ?_; (exact rfl)))); (try refine WL.nil ?_))
    go_ret2
    exact ⟨ret2 hm.out.1.symm hm.out.2.symm, st.below⟩
  have h5n : 5 < nr := by omega
  have h5i : (5 : Int) < (nr : Int) := by omega
  obtain ⟨b1, o1, rfl, hb1, hc⟩ := H.out.rs.at_ (by rw [← E2.out]; omega)
  have hb1 := Nat.lt_of_lt_of_le hb1 hB
  obtain ⟨y5, hy5⟩ : ∃ y, y = Ck.at_ Ck.VRc.o rs 5 := ⟨_, rfl⟩
  have f5 := hc 5 (by rw [← E2.out]; exact h5n)
  have f50 : w.cell? ⟨b1, o1 + 50, none⟩ = some (.bool y5.u) := by rw [hy5]; exact f5 0 _ rfl
  have f52 : w.cell? ⟨b1, o1 + 50 + 2, none⟩ = some (.int .i64 y5.k) := by rw [hy5]; exact f5 2 _ rfl
  have f52' : w.cell? ⟨b1, o1 + 52, none⟩ = some (.int .i64 y5.k) := f52
  clear f5
  have P5 : Hid (Ck.at_ Ck.Rc.o p.rs 5 = y5.p) := Lib.hid (by rw [PR.out 5 h5n, hy5])
  clear hy5
  obtain ⟨u5, q5, k5, r5, l5, d5, n5, s5, e5, A5, c5, B5, g5, C5, i5⟩ := y5
  simp only at *
  have HC := Lib.hid hc
  clear hc
  cases u5
  · have hm := Lib.hid (miss.out (by unfold Ck.rootErr; rw [if_pos (.inr (.inl (by rw [P5.out]; rfl)))]))
    go_enter Tryz.func12, Tryz.ntmps12
    go_wp2_with (refine WL.out ?_; (repeat (first | (refine WL.op ?_ ?_; (exact rfl); intro K hK; (first | ((first | ((with_reducible apply ow_move); exact rfl) | ((with_reducible apply ow_assign); exact rfl)); (go_simp <;> (try simp (disch := omega) only [wrap_id, sub_left, zac]) <;> rfl)) | ((first | ((with_reducible apply ow_load1 st); exact rfl; exact inferInstance; exact rfl; (exact get0)) | ((with_reducible apply ow_loadN st); exact rfl; exact inferInstance; exact rfl; (exact get0); ((try simp only [zta, ztz, zda, zdz, zca, zcn, zan, zsz, zss]) <;> exact rfl))); exact rfl) | ((((with_reducible apply ow_box st); exact rfl; (go_simp <;> (try simp (disch := omega) only [wrap_id, sub_left, zac]) <;> rfl); (go_simp <;> (try simp (disch := omega) only [wrap_id, sub_left, zac]) <;> rfl))); (try clear st); intro b w' st) | ((with_reducible apply ow_old1 st); exact rfl; exact inferInstance; exact rfl; assumption; assumption) | ((with_reducible apply ow_eval); (go_simp <;> (try simp (disch := omega) only [wrap_id, sub_left, zac]) <;> rfl); first | (with_reducible apply up_value) | ((with_reducible apply up_enter); ((go_at_call 46; refine (HW.out _ st.below).mono ?_; rintro e w' ⟨rfl, hb⟩; replace st := st.call hb; clear hb; refine ⟨_, rfl, ?_⟩))))); refine WL.next hK (by simp only [Act.put, zpt, zsz, zss]; exact rfl) ?_; clear hK K) | (refine WL.skip ?_ (by simp only [Act.put, zpt, zsz, zss]; exact rfl) ?_; (exact rfl)))); (try refine WL.nil ?_))
    go_ret2
    exact ⟨ret2 hm.out.1.symm hm.out.2.symm, st.below⟩
  by_cases hk : k5 = 0
  rotate_left
  · have hm := Lib.hid (miss.out (by unfold Ck.rootErr; rw [if_pos (.inr (.inr (by rw [P5.out]; exact hk)))]))
    have hk' : (k5 != 0) = true := by simpa using hk
    go_enter Tryz.func12, Tryz.ntmps12
    go_wp2_with (refine WL.out ?_; (repeat ((refine WL.op ?_ ?_; (exact rfl); intro K hK; (first | ((first | ((with_reducible apply ow_move); exact rfl) | ((with_reducible apply ow_assign); exact rfl)); (go_simp <;> (try simp (disch := omega) only [wrap_id, sub_left, zac]) <;> rfl)) | ((first | ((with_reducible apply ow_load1 st); exact rfl; exact inferInstance; exact rfl; (exact get0)) | ((with_reducible apply ow_loadN st); exact rfl; exact inferInstance; exact rfl; (exact get0); ((try simp only [zta, ztz, zda, zdz, zca, zcn, zan, zsz, zss]) <;> exact rfl))); exact rfl) | ((((with_reducible apply ow_box st); exact rfl; (go_simp <;> (try simp (disch := omega) only [wrap_id, sub_left, zac]) <;> rfl); (go_simp <;> (try simp (disch := omega) only [wrap_id, sub_left, zac]) <;> rfl))); (try clear st); intro b w' st) | ((with_reducible apply ow_old1 st); exact rfl; exact inferInstance; exact rfl; assumption; assumption) | ((with_reducible apply ow_eval); (go_simp <;> (try simp (disch := omega) only [wrap_id, sub_left, zac]) <;> rfl); first | (with_reducible apply up_value) | ((with_reducible apply up_enter); ((go_at_call 46; refine (HW.out _ st.below).mono ?_; rintro e w' ⟨rfl, hb⟩; replace st := st.call hb; clear hb; refine ⟨_, rfl, ?_⟩))))); refine WL.next hK (by simp only [Act.put, zpt, zsz, zss]; exact rfl) ?_; clear hK K))); (try refine WL.nil ?_))
    go_ret2
    exact ⟨ret2 hm.out.1.symm hm.out.2.symm, st.below⟩
  subst hk
  have hroot : Hid (Ck.rootErr p = 0) := Lib.hid (by
    unfold Ck.rootErr
    rw [if_neg]
    rw [PL.out, P5.out]
    rintro (h | h | h)
    · omega
    · cases h
    · exact h rfl)
  have HI : Hid (Ck.partsIx p = Ck.goI (fun i => Ck.recErr i (Ck.at_ Ck.Rc.o p.rs i)) nr ∧ Ck.partsErr p = Ck.goE (fun i => Ck.recErr i (Ck.at_ Ck.Rc.o p.rs i)) nr) := Lib.hid (by
    refine ⟨?_, ?_⟩
    · unfold Ck.partsIx
      rw [← WE.out, hroot.out, if_neg (by simp), if_neg (by simp), PL.out]
    · unfold Ck.partsErr Ck.recsErr
      rw [← WE.out, hroot.out, PL.out]
      show (if (0 : Int) = 0 then (if (0 : Int) = 0 then (if Ck.goE _ nr = 0 then 0 else Ck.goE _ nr) else 0) else 0) = _
      rw [if_pos rfl, if_pos rfl]
      split <;> simp_all)
  clear miss P5 hroot
  go_enter Tryz.func12, Tryz.ntmps12
  go_wp2_with (refine WL.out ?_; (repeat ((refine WL.op ?_ ?_; (exact rfl); intro K hK; (first | ((first | ((with_reducible apply ow_move); exact rfl) | ((with_reducible apply ow_assign); exact rfl)); (go_simp <;> (try simp (disch := omega) only [wrap_id, sub_left, zac]) <;> rfl)) | ((first | ((with_reducible apply ow_load1 st); exact rfl; exact inferInstance; exact rfl; (exact get0)) | ((with_reducible apply ow_loadN st); exact rfl; exact inferInstance; exact rfl; (exact get0); ((try simp only [zta, ztz, zda, zdz, zca, zcn, zan, zsz, zss]) <;> exact rfl))); exact rfl) | ((((with_reducible apply ow_box st); exact rfl; (go_simp <;> (try simp (disch := omega) only [wrap_id, sub_left, zac]) <;> rfl); (go_simp <;> (try simp (disch := omega) only [wrap_id, sub_left, zac]) <;> rfl))); (try clear st); intro b w' st) | ((with_reducible apply ow_old1 st); exact rfl; exact inferInstance; exact rfl; assumption; assumption) | ((with_reducible apply ow_eval); (go_simp <;> (try simp (disch := omega) only [wrap_id, sub_left, zac]) <;> rfl); first | (with_reducible apply up_value) | ((with_reducible apply up_enter); ((go_at_call 46; refine (HW.out _ st.below).mono ?_; rintro e w' ⟨rfl, hb⟩; replace st := st.call hb; clear hb; refine ⟨_, rfl, ?_⟩))))); refine WL.next hK (by simp only [Act.put, zpt, zsz, zss]; exact rfl) ?_; clear hK K))); (try refine WL.nil ?_))
  clear f50 f52 f52'
  go_loopw [36] (fun i wr => ∃ j : Nat, j ≤ nr ∧ i = .int .i64 j ∧ St w wr [.box b 26 [.int .i64 c, .slice Aa na ca, .slice (some ⟨b1, o1, none⟩) nr cr, .slice Ad nd cd, .string ⟨mp.toArray⟩]] ∧ Hid (Ck.goE (fun i => Ck.recErr i (Ck.at_ Ck.Rc.o p.rs i)) j = 0)) (fun i _ => nr - (intOf i).toNat)
  case atStart => exact ⟨0, by omega, rfl, st, rfl⟩
  case round =>
    clear st
    obtain ⟨j, hj, rfl, st, hs⟩ := hrel
    by_cases hlt : j < nr
    · obtain ⟨y, hy⟩ : ∃ y, y = Ck.at_ Ck.VRc.o rs j := ⟨_, rfl⟩
      have hkl : j < rs.length := by rw [← E2.out]; exact hlt
      have hym : y ∈ rs := by rw [hy]; exact Ck.at_mem _ _ _ hkl
      have f1 : OldC w b1 (o1 + j * 10) [.bool y.u, .int .i64 y.q, .int .i64 y.k, .int .i64 y.b.r, .int .i64 y.b.q, .int .i64 y.ln, .int .i64 y.ds, .slice y.An y.ns.length y.cn, .slice y.As y.ss.length y.cs, .slice y.Ae y.es.length y.ce] := by rw [hy]; exact HC.out j hkl
      have hyp : Hid (Ck.at_ Ck.Rc.o p.rs j = y.p) := Lib.hid (by rw [PR.out j hlt, hy])
      clear hy hkl
      obtain ⟨x, hx⟩ : ∃ x, x = Ck.recErr j y.p := ⟨_, rfl⟩
      have HX : Hid (x = Ck.recErr j (Ck.at_ Ck.Rc.o p.rs j)) := Lib.hid (by rw [hyp.out, hx])
      have HC : Hid (∀ W, Below w.heap.size w W → Calls Tryz.prog 47 #[.int .i64 (j : Int), .agg #[.bool y.u, .int .i64 y.q, .int .i64 y.k, .int .i64 y.b.r, .int .i64 y.b.q, .int .i64 y.ln, .int .i64 y.ds, .slice y.An y.ns.length y.cn, .slice y.As y.ss.length y.cs, .slice y.Ae y.es.length y.ce]] W fun e w' => e = .returned (.int .i64 x) ∧ Below W.heap.size W w') := Lib.hid fun W hb => by
        rw [hx]
        exact recordErr_any j y B W ((H.out.rcs y hym).below hb hB) (Nat.le_trans hB hb.size) (HF.out.rcs y hym) (by omega)
      clear hx hym
      by_cases h0 : x = 0
      · have hs' : Hid (Ck.goE (fun i => Ck.recErr i (Ck.at_ Ck.Rc.o p.rs i)) (j + 1) = 0) := Lib.hid (by rw [Ck.goE_next _ hs.out, ← HX.out]; exact h0)
        subst h0
        go_wp2_with (refine WL.out ?_; (repeat ((refine WL.op ?_ ?_; (exact rfl); intro K hK; (first | ((first | ((with_reducible apply ow_move); exact rfl) | ((with_reducible apply ow_assign); exact rfl)); (go_simp <;> (try simp (disch := omega) only [wrap_id, sub_left, zac]) <;> rfl)) | ((((with_reducible apply ow_loadN st); exact rfl; exact inferInstance; exact rfl; (exact get0); ((try simp only [zta, ztz, zda, zdz, zca, zcn, zan, zsz, zss]) <;> exact rfl))); exact rfl) | ((((with_reducible apply ow_alloc st); exact rfl; exact inferInstance; (go_simp <;> (try simp (disch := omega) only [wrap_id, sub_left, zac]) <;> rfl))); (try clear st); intro b w' st) | ((((with_reducible apply ow_storeN' st); exact rfl; exact inferInstance; exact rfl; (exact get0); exact rfl)); exact rfl; exact rfl; (simp <;> done); ((try simp only [zta, ztz, zda, zdz, zca, zcn, zan, zsz, zss]) <;> exact rfl); (try clear st); intro w' st) | ((with_reducible apply ow_oldC st); exact rfl; exact inferInstance; exact rfl; assumption; assumption; exact rfl) | ((with_reducible apply ow_eval); (go_simp <;> (try simp (disch := omega) only [wrap_id, sub_left, zac]) <;> rfl); first | (with_reducible apply up_value) | ((with_reducible apply up_enter); ((go_at_call 47; refine (HC.out _ st.below).mono ?_; rintro e w' ⟨rfl, hb⟩; replace st := st.call hb; clear hb; refine ⟨_, rfl, ?_⟩))))); refine WL.next hK (by simp only [Act.put, zpt, zsz, zss]; exact rfl) ?_; clear hK K))); (try refine WL.nil ?_))
        exact ⟨⟨j + 1, by omega, by go_num, st.tail, hs'⟩, by simp [intOf]; omega⟩
      · have hE : Hid (Ck.partsErr p = x) := Lib.hid (by
          rw [HI.out.2, HX.out]
          exact Ck.goE_stop _ hs.out (by rw [← HX.out]; exact h0) nr hlt)
        have hI : Hid (Ck.partsIx p = j) := Lib.hid (by
          rw [HI.out.1]
          exact Ck.goI_stop _ hs.out (by rw [← HX.out]; exact h0) nr hlt)
        have h0' : (x != 0) = true := by simpa using h0
        go_wp2_with (refine WL.out ?_; (repeat ((refine WL.op ?_ ?_; (exact rfl); intro K hK; (first | ((((with_reducible apply ow_assign); exact rfl)); (go_simp <;> (try simp (disch := omega) only [wrap_id, sub_left, zac]) <;> rfl)) | ((((with_reducible apply ow_loadN st); exact rfl; exact inferInstance; exact rfl; (exact get0); ((try simp only [zta, ztz, zda, zdz, zca, zcn, zan, zsz, zss]) <;> exact rfl))); exact rfl) | ((((with_reducible apply ow_alloc st); exact rfl; exact inferInstance; (go_simp <;> (try simp (disch := omega) only [wrap_id, sub_left, zac]) <;> rfl))); (try clear st); intro b w' st) | ((((with_reducible apply ow_storeN' st); exact rfl; exact inferInstance; exact rfl; (exact get0); exact rfl)); exact rfl; exact rfl; (simp <;> done); ((try simp only [zta, ztz, zda, zdz, zca, zcn, zan, zsz, zss]) <;> exact rfl); (try clear st); intro w' st) | ((with_reducible apply ow_oldC st); exact rfl; exact inferInstance; exact rfl; assumption; assumption; exact rfl) | ((with_reducible apply ow_eval); (go_simp <;> (try simp (disch := omega) only [wrap_id, sub_left, zac]) <;> rfl); first | (with_reducible apply up_value) | ((with_reducible apply up_enter); ((go_at_call 47; refine (HC.out _ st.below).mono ?_; rintro e w' ⟨rfl, hb⟩; replace st := st.call hb; clear hb; refine ⟨_, rfl, ?_⟩))))); refine WL.next hK (by simp only [Act.put, zpt, zsz, zss]; exact rfl) ?_; clear hK K))); (try refine WL.nil ?_))
        go_ret2
        exact ⟨ret2 hI.out.symm hE.out.symm, st.below⟩
    · obtain rfl : nr = j := by omega
      have hE : Hid (Ck.partsErr p = 0) := Lib.hid (by rw [HI.out.2, hs.out])
      have hI : Hid (Ck.partsIx p = 0) := Lib.hid (by rw [HI.out.1]; exact Ck.goI_zero _ _ hs.out)
      go_wp2_with (refine WL.out ?_; (repeat ((refine WL.op ?_ ?_; (exact rfl); intro K hK; (((with_reducible apply ow_eval); (go_simp <;> (try simp (disch := omega) only [wrap_id, sub_left, zac]) <;> rfl); ((with_reducible apply up_value)))); refine WL.next hK (by simp only [Act.put, zpt, zsz, zss]; exact rfl) ?_; clear hK K))); (try refine WL.nil ?_))
      go_ret2
      exact ⟨ret2 hI.out.symm hE.out.symm, st.below⟩
end Go.Proofs.YtgcjejajljhnaaaGreatDoor
namespace Ck
def nmFew (x : Nm) : Bool := decide (x.n.length ≤ 40)
def enFew (x : En) : Bool := decide (x.n.length ≤ 40)
def smFew (x : VSm) : Bool := decide (x.r.length ≤ 30)
def rcFew (x : VRc) : Bool := (decide (x.ns.length ≤ 10) && (decide (x.ss.length ≤ 10) && decide (x.es.length ≤ 60))) && (x.ns.all nmFew && (x.es.all enFew && x.ss.all smFew))
def few (v : VPt) : Bool := (decide (v.al.length ≤ 30) && (decide (v.rs.length ≤ 99) && (decide (v.ds.length ≤ 70) && decide (v.mp.length ≤ 600)))) && v.rs.all rcFew
theorem all_at {α : Type} {o : α} {f : α → Bool} {l : List α} (h : ∀ k, k < l.length → f (at_ o l k) = true) : l.all f = true := List.all_eq_true.2 fun x hx => by
  obtain ⟨k, hk, e⟩ := List.getElem_of_mem hx
  rw [← e, ← at_eq o l k hk]
  exact h k hk
theorem all_not {α : Type} {o : α} {f : α → Bool} {l : List α} {k : Nat} (hk : k < l.length) (h : f (at_ o l k) = false) : l.all f = false := by
  cases ha : l.all f with
  | false => rfl
  | true =>
    have := List.all_eq_true.1 ha _ (at_mem o l k hk)
    rw [h] at this
    cases this
theorem few_head {v : VPt} (h : ¬ (v.al.length ≤ 30 ∧ v.rs.length ≤ 99 ∧ v.ds.length ≤ 70 ∧ v.mp.length ≤ 600)) : few v = false := by
  cases hf : few v with
  | false => rfl
  | true =>
    unfold few at hf
    simp only [Bool.and_eq_true, decide_eq_true_eq] at hf
    exact absurd ⟨hf.1.1, hf.1.2.1, hf.1.2.2.1, hf.1.2.2.2⟩ h
theorem rcFew_head {x : VRc} (h : ¬ (x.ns.length ≤ 10 ∧ x.ss.length ≤ 10 ∧ x.es.length ≤ 60)) : rcFew x = false := by
  cases hf : rcFew x with
  | false => rfl
  | true =>
    unfold rcFew at hf
    simp only [Bool.and_eq_true, decide_eq_true_eq] at hf
    exact absurd ⟨hf.1.1, hf.1.2.1, hf.1.2.2⟩ h
theorem rcFew_n {x : VRc} (h : x.ns.all nmFew = false) : rcFew x = false := by unfold rcFew; rw [h]; simp
theorem rcFew_e {x : VRc} (h : x.es.all enFew = false) : rcFew x = false := by unfold rcFew; rw [h]; simp
theorem rcFew_s {x : VRc} (h : x.ss.all smFew = false) : rcFew x = false := by unfold rcFew; rw [h]; simp
theorem rcFew_yes {x : VRc} (h : x.ns.length ≤ 10 ∧ x.ss.length ≤ 10 ∧ x.es.length ≤ 60) (h1 : x.ns.all nmFew = true) (h2 : x.es.all enFew = true) (h3 : x.ss.all smFew = true) : rcFew x = true := by
  unfold rcFew
  rw [h1, h2, h3, decide_eq_true h.1, decide_eq_true h.2.1, decide_eq_true h.2.2]
  rfl
theorem few_rec {v : VPt} {j : Nat} (hj : j < v.rs.length) (h : rcFew (at_ VRc.o v.rs j) = false) : few v = false := by
  unfold few
  rw [all_not hj h]
  simp
theorem few_all {v : VPt} (h : v.al.length ≤ 30 ∧ v.rs.length ≤ 99 ∧ v.ds.length ≤ 70 ∧ v.mp.length ≤ 600) (hr : ∀ k, k < v.rs.length → rcFew (at_ VRc.o v.rs k) = true) : few v = true := by
  unfold few
  rw [all_at hr, decide_eq_true h.1, decide_eq_true h.2.1, decide_eq_true h.2.2.1, decide_eq_true h.2.2.2]
  rfl
end Ck
namespace Go.Proofs.YtgcjejajljhnaaaGreatDoor
open Go.RowKit Go.Hp
set_option maxRecDepth 8000 in
set_option maxHeartbeats 4000000 in
theorem few_any (v : Ck.VPt) (B : Nat) (w : World) (h : v.At w B) (hB : B ≤ w.heap.size) :
    Calls Tryz.prog 11 #[v.val] w fun e w' => e = .returned (.bool (Ck.few v)) ∧ Below w.heap.size w w' := by
  have hsz : ∀ l : List UInt8, (ByteArray.mk l.toArray).size = l.length := fun l => by show l.toArray.size = _; simp
  have H := Lib.hid h
  clear h
  obtain ⟨R, eR⟩ : ∃ R, R = Ck.few v := ⟨_, rfl⟩
  rw [← eR]
  have HR := Lib.hid eR
  clear eR
  obtain ⟨c, al, rs, ds, mp, Aa, ca, Ar, cr, Ad, cd⟩ := v
  unfold Ck.VPt.val
  simp only at *
  obtain ⟨na, e1⟩ : ∃ n, n = al.length := ⟨_, rfl⟩
  obtain ⟨nr, e2⟩ : ∃ n, n = rs.length := ⟨_, rfl⟩
  obtain ⟨nd, e3⟩ : ∃ n, n = ds.length := ⟨_, rfl⟩
  have E1 := Lib.hid e1
  have E2 := Lib.hid e2
  have E3 := Lib.hid e3
  rw [← e1, ← e2, ← e3]
  clear e1 e2 e3
  have st := St.start w
  by_cases hg : na ≤ 30 ∧ nr ≤ 99 ∧ nd ≤ 70 ∧ mp.length ≤ 600
  rotate_left
  · have hq : Hid (R = false) := Lib.hid (by
      rw [HR.out]
      refine Ck.few_head fun hh => hg ?_
      rw [E1.out, E2.out, E3.out]
      exact hh)
    have hc : (30 : Int) < (na : Int) ∨ (¬ (30 : Int) < (na : Int) ∧ (99 : Int) < (nr : Int)) ∨ (¬ (30 : Int) < (na : Int) ∧ ¬ (99 : Int) < (nr : Int) ∧ (70 : Int) < (nd : Int)) ∨ (¬ (30 : Int) < (na : Int) ∧ ¬ (99 : Int) < (nr : Int) ∧ ¬ (70 : Int) < (nd : Int) ∧ (600 : Int) < (mp.length : Int)) := by omega
    clear hg
    rcases hc with h1 | ⟨h1, h2⟩ | ⟨h1, h2, h3⟩ | ⟨h1, h2, h3, h4⟩
    all_goals
      go_enter Tryz.func11, Tryz.ntmps11
      go_wp2_with (refine WL.out ?_; (repeat (first | (refine WL.op ?_ ?_; (exact rfl); intro K hK; (first | ((first | ((with_reducible apply ow_move); exact rfl) | ((with_reducible apply ow_assign); exact rfl)); (go_simp <;> (try simp (disch := omega) only [wrap_id, sub_left, zac]) <;> rfl)) | ((((with_reducible apply ow_load1 st); exact rfl; exact inferInstance; exact rfl; (exact get0))); exact rfl) | ((((with_reducible apply ow_box st); exact rfl; (go_simp <;> (try simp (disch := omega) only [wrap_id, sub_left, zac]) <;> rfl); (go_simp <;> (try simp (disch := omega) only [wrap_id, sub_left, zac]) <;> rfl))); (try clear st); intro b w' st) | ((with_reducible apply ow_eval); (go_simp <;> (try simp (disch := omega) only [wrap_id, sub_left, zac]) <;> rfl); ((with_reducible apply up_value)))); refine WL.next hK (by simp only [Act.put, zpt, zsz, zss]; exact rfl) ?_; clear hK K) | (refine WL.skip ?_ (by simp only [Act.put, zpt, zsz, zss]; exact rfl) ?_; (exact rfl)))); (try refine WL.nil ?_))
      go_ret
      exact ⟨by rw [hq.out]; rfl, st.below⟩
  have HG := Lib.hid hg
  have h1 : ¬ (30 : Int) < (na : Int) := by omega
  have h2 : ¬ (99 : Int) < (nr : Int) := by omega
  have h3 : ¬ (70 : Int) < (nd : Int) := by omega
  have h4 : ¬ (600 : Int) < (mp.length : Int) := by omega
  clear hg
  go_enter Tryz.func11, Tryz.ntmps11
  go_wp2_with (refine WL.out ?_; (repeat ((refine WL.op ?_ ?_; (exact rfl); intro K hK; (first | ((first | ((with_reducible apply ow_move); exact rfl) | ((with_reducible apply ow_assign); exact rfl)); (go_simp <;> (try simp (disch := omega) only [wrap_id, sub_left, zac]) <;> rfl)) | ((((with_reducible apply ow_load1 st); exact rfl; exact inferInstance; exact rfl; (exact get0))); exact rfl) | ((((with_reducible apply ow_box st); exact rfl; (go_simp <;> (try simp (disch := omega) only [wrap_id, sub_left, zac]) <;> rfl); (go_simp <;> (try simp (disch := omega) only [wrap_id, sub_left, zac]) <;> rfl))); (try clear st); intro b w' st) | ((with_reducible apply ow_eval); (go_simp <;> (try simp (disch := omega) only [wrap_id, sub_left, zac]) <;> rfl); ((with_reducible apply up_value)))); refine WL.next hK (by simp only [Act.put, zpt, zsz, zss]; exact rfl) ?_; clear hK K))); (try refine WL.nil ?_))
  clear h1 h2 h3 h4
  go_loopw [3] (fun i wr => ∃ j : Nat, j ≤ nr ∧ i = .int .i64 j ∧ St w wr [.box b 26 [.int .i64 c, .slice Aa na ca, .slice Ar nr cr, .slice Ad nd cd, .string ⟨mp.toArray⟩]] ∧ Hid (∀ k, k < j → Ck.rcFew (Ck.at_ Ck.VRc.o rs k) = true)) (fun i _ => nr - (intOf i).toNat)
  case atStart => exact ⟨0, by omega, rfl, st, Lib.hid (fun k hk => absurd hk (by omega))⟩
  case round =>
    clear st
    obtain ⟨j, hj, rfl, st, hs⟩ := hrel
    by_cases hlt : j < nr
    rotate_left
    · obtain rfl : nr = j := by omega
      have hq : Hid (R = true) := Lib.hid (by
        rw [HR.out]
        refine Ck.few_all ?_ (fun k hk => hs.out k (by rw [E2.out]; exact hk))
        have := HG.out
        rw [E1.out, E2.out, E3.out] at this
        exact this)
      go_wp2_with (refine WL.out ?_; (repeat ((refine WL.op ?_ ?_; (exact rfl); intro K hK; (first | ((((with_reducible apply ow_load1 st); exact rfl; exact inferInstance; exact rfl; (exact get0))); exact rfl) | ((with_reducible apply ow_eval); (go_simp <;> (try simp (disch := omega) only [wrap_id, sub_left, zac]) <;> rfl); ((with_reducible apply up_value)))); refine WL.next hK (by simp only [Act.put, zpt, zsz, zss]; exact rfl) ?_; clear hK K))); (try refine WL.nil ?_))
      go_ret
      exact ⟨by rw [hq.out]; rfl, st.below⟩
    have hkl : Hid (j < rs.length) := Lib.hid (by rw [← E2.out]; exact hlt)
    obtain ⟨b1, o1, rfl, hb1, hc⟩ := H.out.rs.at_ (Nat.lt_of_le_of_lt (Nat.zero_le _) hkl.out)
    have hb1 := Nat.lt_of_lt_of_le hb1 hB
    obtain ⟨y, hy⟩ : ∃ y, y = Ck.at_ Ck.VRc.o rs j := ⟨_, rfl⟩
    have hym : y ∈ rs := by rw [hy]; exact Ck.at_mem _ _ _ hkl.out
    have f1 : OldC w b1 (o1 + j * 10) [.bool y.u, .int .i64 y.q, .int .i64 y.k, .int .i64 y.b.r, .int .i64 y.b.q, .int .i64 y.ln, .int .i64 y.ds, .slice y.An y.ns.length y.cn, .slice y.As y.ss.length y.cs, .slice y.Ae y.es.length y.ce] := by rw [hy]; exact hc j hkl.out
    have bad : Hid (Ck.rcFew y = false → R = false) := Lib.hid fun hh => by
      rw [HR.out]
      exact Ck.few_rec hkl.out (by show Ck.rcFew (Ck.at_ Ck.VRc.o rs j) = false; rw [← hy]; exact hh)
    have HA := Lib.hid (H.out.rcs y hym)
    have good : Hid (Ck.rcFew y = true → ∀ k, k < j + 1 → Ck.rcFew (Ck.at_ Ck.VRc.o rs k) = true) := Lib.hid fun hh k hk => by
      by_cases e : k = j
      · rw [e, ← hy]; exact hh
      · exact hs.out k (by omega)
    clear hc hy hym hs
    obtain ⟨u, q, kd, ⟨br, bq⟩, ln, dsx, ns, ss, es, An, cn, As, cs, Ae, ce⟩ := y
    simp only at *
    obtain ⟨nn, e4⟩ : ∃ n, n = ns.length := ⟨_, rfl⟩
    obtain ⟨nss, e5⟩ : ∃ n, n = ss.length := ⟨_, rfl⟩
    obtain ⟨ne, e6⟩ : ∃ n, n = es.length := ⟨_, rfl⟩
    have E4 := Lib.hid e4
    have E5 := Lib.hid e5
    have E6 := Lib.hid e6
    rw [← e4, ← e5, ← e6] at f1
    clear e4 e5 e6
    obtain ⟨bp, rfl⟩ : ∃ x, x = b := ⟨_, rfl⟩
    by_cases hg : nn ≤ 10 ∧ nss ≤ 10 ∧ ne ≤ 60
    rotate_left
    · have hq : Hid (R = false) := Lib.hid (bad.out (Ck.rcFew_head fun hh => hg (by rw [E4.out, E5.out, E6.out]; exact hh)))
      have hc : (10 : Int) < (nn : Int) ∨ (¬ (10 : Int) < (nn : Int) ∧ (10 : Int) < (nss : Int)) ∨ (¬ (10 : Int) < (nn : Int) ∧ ¬ (10 : Int) < (nss : Int) ∧ (60 : Int) < (ne : Int)) := by omega
      clear hg
      rcases hc with h1 | ⟨h1, h2⟩ | ⟨h1, h2, h3⟩
      all_goals
        go_wp2_with (refine WL.out ?_; (repeat (first | (refine WL.op ?_ ?_; (exact rfl); intro K hK; (first | ((((with_reducible apply ow_move); exact rfl)); (go_simp <;> (try simp (disch := omega) only [wrap_id, sub_left, zac]) <;> rfl)) | ((((with_reducible apply ow_load1 st); exact rfl; exact inferInstance; exact rfl; (exact get0))); exact rfl) | ((((with_reducible apply ow_alloc st); exact rfl; exact inferInstance; (go_simp <;> (try simp (disch := omega) only [wrap_id, sub_left, zac]) <;> rfl))); (try clear st); intro b w' st) | ((((with_reducible apply ow_storeN' st); exact rfl; exact inferInstance; exact rfl; (exact get0); exact rfl)); exact rfl; exact rfl; (simp <;> done); ((try simp only [zta, ztz, zda, zdz, zca, zcn, zan, zsz, zss]) <;> exact rfl); (try clear st); intro w' st) | ((with_reducible apply ow_oldC st); exact rfl; exact inferInstance; exact rfl; assumption; assumption; exact rfl) | ((with_reducible apply ow_eval); (go_simp <;> (try simp (disch := omega) only [wrap_id, sub_left, zac]) <;> rfl); ((with_reducible apply up_value)))); refine WL.next hK (by simp only [Act.put, zpt, zsz, zss]; exact rfl) ?_; clear hK K) | (refine WL.skip ?_ (by simp only [Act.put, zpt, zsz, zss]; exact rfl) ?_; (exact rfl)))); (try refine WL.nil ?_))
        go_ret
        exact ⟨by rw [hq.out]; rfl, st.below⟩
    have HG2 := Lib.hid hg
    have hb10 : nn ≤ 10 := hg.1
    have hb11 : nss ≤ 10 := hg.2.1
    have hb12 : ne ≤ 60 := hg.2.2
    have hb13 : nr ≤ 99 := HG.out.2.1
    have h1 : ¬ (10 : Int) < (nn : Int) := by omega
    have h2 : ¬ (10 : Int) < (nss : Int) := by omega
    have h3 : ¬ (60 : Int) < (ne : Int) := by omega
    clear hg
    go_wp2_with (refine WL.out ?_; (repeat ((refine WL.op ?_ ?_; (exact rfl); intro K hK; (first | ((((with_reducible apply ow_move); exact rfl)); (go_simp <;> (try simp (disch := omega) only [wrap_id, sub_left, zac]) <;> rfl)) | ((((with_reducible apply ow_load1 st); exact rfl; exact inferInstance; exact rfl; (exact get0))); exact rfl) | ((((with_reducible apply ow_alloc st); exact rfl; exact inferInstance; (go_simp <;> (try simp (disch := omega) only [wrap_id, sub_left, zac]) <;> rfl))); (try clear st); intro b w' st) | ((((with_reducible apply ow_storeN' st); exact rfl; exact inferInstance; exact rfl; (exact get0); exact rfl)); exact rfl; exact rfl; (simp <;> done); ((try simp only [zta, ztz, zda, zdz, zca, zcn, zan, zsz, zss]) <;> exact rfl); (try clear st); intro w' st) | ((with_reducible apply ow_oldC st); exact rfl; exact inferInstance; exact rfl; assumption; assumption; exact rfl) | ((with_reducible apply ow_eval); (go_simp <;> (try simp (disch := omega) only [wrap_id, sub_left, zac]) <;> rfl); ((with_reducible apply up_value)))); refine WL.next hK (by simp only [Act.put, zpt, zsz, zss]; exact rfl) ?_; clear hK K))); (try refine WL.nil ?_))
    clear h1 h2 h3 f1 hb1
    go_loopw [5] (fun i wr => ∃ m : Nat, m ≤ nn ∧ i = .int .i64 m ∧ St w wr [.box b 66 [.bool u, .int .i64 q, .int .i64 kd, .int .i64 br, .int .i64 bq, .int .i64 ln, .int .i64 dsx, .slice An nn cn, .slice As nss cs, .slice Ae ne ce], .box bp 26 [.int .i64 c, .slice Aa na ca, .slice (some ⟨b1, o1, none⟩) nr cr, .slice Ad nd cd, .string ⟨mp.toArray⟩]] ∧ Hid (∀ k, k < m → Ck.nmFew (Ck.at_ Ck.Nm.o ns k) = true)) (fun i _ => nn - (intOf i).toNat)
    case atStart => exact ⟨0, by omega, rfl, st, Lib.hid (fun k hk => absurd hk (by omega))⟩
    case round =>
      clear st
      obtain ⟨m, hm, rfl, st, hs⟩ := hrel
      by_cases hlt2 : m < nn
      · have hml : Hid (m < ns.length) := Lib.hid (by rw [← E4.out]; exact hlt2)
        obtain ⟨b2, o2, rfl, hb2, hc⟩ := HA.out.ns.at_ (Nat.lt_of_le_of_lt (Nat.zero_le _) hml.out)
        have hb2 := Nat.lt_of_lt_of_le hb2 hB
        obtain ⟨y, hy⟩ : ∃ y, y = Ck.at_ Ck.Nm.o ns m := ⟨_, rfl⟩
        have f3 : w.cell? ⟨b2, o2 + m * 3 + 1 + 1, none⟩ = some (.string ⟨y.n.toArray⟩) := by rw [hy]; exact hc m hml.out 2 _ rfl
        have f3' : w.cell? ⟨b2, o2 + m * 3 + 2, none⟩ = some (.string ⟨y.n.toArray⟩) := f3
        have HY := Lib.hid hy
        clear hc hy
        by_cases hy40 : (40 : Int) < (y.n.length : Int)
        · have hq : Hid (R = false) := Lib.hid (bad.out (Ck.rcFew_n (Ck.all_not hml.out (by rw [← HY.out]; exact decide_eq_false (by omega)))))
          go_wp2_with (refine WL.out ?_; (repeat ((refine WL.op ?_ ?_; (exact rfl); intro K hK; (first | ((((with_reducible apply ow_move); exact rfl)); (go_simp <;> (try simp (disch := omega) only [wrap_id, sub_left, zac]) <;> rfl)) | ((((with_reducible apply ow_load1 st); exact rfl; exact inferInstance; exact rfl; (exact get0))); exact rfl) | ((with_reducible apply ow_old1 st); exact rfl; exact inferInstance; exact rfl; assumption; assumption) | ((with_reducible apply ow_eval); (go_simp <;> (try simp (disch := omega) only [wrap_id, sub_left, zac]) <;> rfl); ((with_reducible apply up_value)))); refine WL.next hK (by simp only [Act.put, zpt, zsz, zss]; exact rfl) ?_; clear hK K))); (try refine WL.nil ?_))
          go_ret
          exact ⟨by rw [hq.out]; rfl, st.below⟩
        · have hs' : Hid (∀ k, k < m + 1 → Ck.nmFew (Ck.at_ Ck.Nm.o ns k) = true) := Lib.hid fun k hk => by
            by_cases e : k = m
            · rw [e, ← HY.out]; exact decide_eq_true (by omega)
            · exact hs.out k (by omega)
          go_wp2_with (refine WL.out ?_; (repeat ((refine WL.op ?_ ?_; (exact rfl); intro K hK; (first | ((first | ((with_reducible apply ow_move); exact rfl) | ((with_reducible apply ow_assign); exact rfl)); (go_simp <;> (try simp (disch := omega) only [wrap_id, sub_left, zac]) <;> rfl)) | ((((with_reducible apply ow_load1 st); exact rfl; exact inferInstance; exact rfl; (exact get0))); exact rfl) | ((with_reducible apply ow_old1 st); exact rfl; exact inferInstance; exact rfl; assumption; assumption) | ((with_reducible apply ow_eval); (go_simp <;> (try simp (disch := omega) only [wrap_id, sub_left, zac]) <;> rfl); ((with_reducible apply up_value)))); refine WL.next hK (by simp only [Act.put, zpt, zsz, zss]; exact rfl) ?_; clear hK K))); (try refine WL.nil ?_))
          exact ⟨⟨m + 1, by omega, by go_num, st, hs'⟩, by simp [intOf]; omega⟩
      obtain rfl : nn = m := by omega
      have hN := Lib.hid (Ck.all_at (f := Ck.nmFew) (l := ns) (fun k hk => hs.out k (by rw [E4.out]; exact hk)))
      clear hs hlt2
      go_wp2_with (refine WL.out ?_; (repeat ((refine WL.op ?_ ?_; (exact rfl); intro K hK; (first | ((((with_reducible apply ow_load1 st); exact rfl; exact inferInstance; exact rfl; (exact get0))); exact rfl) | ((with_reducible apply ow_eval); (go_simp <;> (try simp (disch := omega) only [wrap_id, sub_left, zac]) <;> rfl); ((with_reducible apply up_value)))); refine WL.next hK (by simp only [Act.put, zpt, zsz, zss]; exact rfl) ?_; clear hK K))); (try refine WL.nil ?_))
      go_loopw [6] (fun i wr => ∃ m : Nat, m ≤ ne ∧ i = .int .i64 m ∧ St w wr [.box b 66 [.bool u, .int .i64 q, .int .i64 kd, .int .i64 br, .int .i64 bq, .int .i64 ln, .int .i64 dsx, .slice An nn cn, .slice As nss cs, .slice Ae ne ce], .box bp 26 [.int .i64 c, .slice Aa na ca, .slice (some ⟨b1, o1, none⟩) nr cr, .slice Ad nd cd, .string ⟨mp.toArray⟩]] ∧ Hid (∀ k, k < m → Ck.enFew (Ck.at_ Ck.En.o es k) = true)) (fun i _ => ne - (intOf i).toNat)
      case atStart => exact ⟨0, by omega, rfl, st, Lib.hid (fun k hk => absurd hk (by omega))⟩
      case round =>
        clear st
        obtain ⟨m, hm, rfl, st, hs⟩ := hrel
        by_cases hlt2 : m < ne
        · have hml : Hid (m < es.length) := Lib.hid (by rw [← E6.out]; exact hlt2)
          obtain ⟨b2, o2, rfl, hb2, hc⟩ := HA.out.es.at_ (Nat.lt_of_le_of_lt (Nat.zero_le _) hml.out)
          have hb2 := Nat.lt_of_lt_of_le hb2 hB
          obtain ⟨y, hy⟩ : ∃ y, y = Ck.at_ Ck.En.o es m := ⟨_, rfl⟩
          have f3 : w.cell? ⟨b2, o2 + m * 4, none⟩ = some (.string ⟨y.n.toArray⟩) := by rw [hy]; exact hc m hml.out 0 _ rfl
          have HY := Lib.hid hy
          clear hc hy
          by_cases hy40 : (40 : Int) < (y.n.length : Int)
          · have hq : Hid (R = false) := Lib.hid (bad.out (Ck.rcFew_e (Ck.all_not hml.out (by rw [← HY.out]; exact decide_eq_false (by omega)))))
            go_wp2_with (refine WL.out ?_; (repeat ((refine WL.op ?_ ?_; (exact rfl); intro K hK; (first | ((((with_reducible apply ow_move); exact rfl)); (go_simp <;> (try simp (disch := omega) only [wrap_id, sub_left, zac]) <;> rfl)) | ((((with_reducible apply ow_load1 st); exact rfl; exact inferInstance; exact rfl; (exact get0))); exact rfl) | ((with_reducible apply ow_old1 st); exact rfl; exact inferInstance; exact rfl; assumption; assumption) | ((with_reducible apply ow_eval); (go_simp <;> (try simp (disch := omega) only [wrap_id, sub_left, zac]) <;> rfl); ((with_reducible apply up_value)))); refine WL.next hK (by simp only [Act.put, zpt, zsz, zss]; exact rfl) ?_; clear hK K))); (try refine WL.nil ?_))
            go_ret
            exact ⟨by rw [hq.out]; rfl, st.below⟩
          · have hs' : Hid (∀ k, k < m + 1 → Ck.enFew (Ck.at_ Ck.En.o es k) = true) := Lib.hid fun k hk => by
              by_cases e : k = m
              · rw [e, ← HY.out]; exact decide_eq_true (by omega)
              · exact hs.out k (by omega)
            go_wp2_with (refine WL.out ?_; (repeat ((refine WL.op ?_ ?_; (exact rfl); intro K hK; (first | ((first | ((with_reducible apply ow_move); exact rfl) | ((with_reducible apply ow_assign); exact rfl)); (go_simp <;> (try simp (disch := omega) only [wrap_id, sub_left, zac]) <;> rfl)) | ((((with_reducible apply ow_load1 st); exact rfl; exact inferInstance; exact rfl; (exact get0))); exact rfl) | ((with_reducible apply ow_old1 st); exact rfl; exact inferInstance; exact rfl; assumption; assumption) | ((with_reducible apply ow_eval); (go_simp <;> (try simp (disch := omega) only [wrap_id, sub_left, zac]) <;> rfl); ((with_reducible apply up_value)))); refine WL.next hK (by simp only [Act.put, zpt, zsz, zss]; exact rfl) ?_; clear hK K))); (try refine WL.nil ?_))
            exact ⟨⟨m + 1, by omega, by go_num, st, hs'⟩, by simp [intOf]; omega⟩
        obtain rfl : ne = m := by omega
        have hE := Lib.hid (Ck.all_at (f := Ck.enFew) (l := es) (fun k hk => hs.out k (by rw [E6.out]; exact hk)))
        clear hs hlt2
        go_wp2_with (refine WL.out ?_; (repeat ((refine WL.op ?_ ?_; (exact rfl); intro K hK; (first | ((((with_reducible apply ow_load1 st); exact rfl; exact inferInstance; exact rfl; (exact get0))); exact rfl) | ((with_reducible apply ow_eval); (go_simp <;> (try simp (disch := omega) only [wrap_id, sub_left, zac]) <;> rfl); ((with_reducible apply up_value)))); refine WL.next hK (by simp only [Act.put, zpt, zsz, zss]; exact rfl) ?_; clear hK K))); (try refine WL.nil ?_))
        go_loopw [7] (fun i wr => ∃ m : Nat, m ≤ nss ∧ i = .int .i64 m ∧ St w wr [.box b 66 [.bool u, .int .i64 q, .int .i64 kd, .int .i64 br, .int .i64 bq, .int .i64 ln, .int .i64 dsx, .slice An nn cn, .slice As nss cs, .slice Ae ne ce], .box bp 26 [.int .i64 c, .slice Aa na ca, .slice (some ⟨b1, o1, none⟩) nr cr, .slice Ad nd cd, .string ⟨mp.toArray⟩]] ∧ Hid (∀ k, k < m → Ck.smFew (Ck.at_ Ck.VSm.o ss k) = true)) (fun i _ => nss - (intOf i).toNat)
        case atStart => exact ⟨0, by omega, rfl, st, Lib.hid (fun k hk => absurd hk (by omega))⟩
        case round =>
          clear st
          obtain ⟨m, hm, rfl, st, hs⟩ := hrel
          by_cases hlt2 : m < nss
          · have hml : Hid (m < ss.length) := Lib.hid (by rw [← E5.out]; exact hlt2)
            obtain ⟨b2, o2, rfl, hb2, hc⟩ := HA.out.ss.at_ (Nat.lt_of_le_of_lt (Nat.zero_le _) hml.out)
            have hb2 := Nat.lt_of_lt_of_le hb2 hB
            obtain ⟨y, hy⟩ : ∃ y, y = Ck.at_ Ck.VSm.o ss m := ⟨_, rfl⟩
            have f3 : w.cell? ⟨b2, o2 + m * 2, none⟩ = some (.slice y.A y.r.length y.c) := by rw [hy]; exact hc m hml.out 0 _ rfl
            have HY := Lib.hid hy
            clear hc hy
            obtain ⟨nq, hnq⟩ : ∃ n, n = y.r.length := ⟨_, rfl⟩
            rw [← hnq] at f3
            have HNQ := Lib.hid hnq
            clear hnq
            by_cases hy30 : (30 : Int) < (nq : Int)
            · have hq : Hid (R = false) := Lib.hid (bad.out (Ck.rcFew_s (Ck.all_not hml.out (by rw [← HY.out]; exact decide_eq_false (by have := HNQ.out; omega)))))
              go_wp2_with (refine WL.out ?_; (repeat ((refine WL.op ?_ ?_; (exact rfl); intro K hK; (first | ((((with_reducible apply ow_move); exact rfl)); (go_simp <;> (try simp (disch := omega) only [wrap_id, sub_left, zac]) <;> rfl)) | ((((with_reducible apply ow_load1 st); exact rfl; exact inferInstance; exact rfl; (exact get0))); exact rfl) | ((with_reducible apply ow_old1 st); exact rfl; exact inferInstance; exact rfl; assumption; assumption) | ((with_reducible apply ow_eval); (go_simp <;> (try simp (disch := omega) only [wrap_id, sub_left, zac]) <;> rfl); ((with_reducible apply up_value)))); refine WL.next hK (by simp only [Act.put, zpt, zsz, zss]; exact rfl) ?_; clear hK K))); (try refine WL.nil ?_))
              go_ret
              exact ⟨by rw [hq.out]; rfl, st.below⟩
            · have hs' : Hid (∀ k, k < m + 1 → Ck.smFew (Ck.at_ Ck.VSm.o ss k) = true) := Lib.hid fun k hk => by
                by_cases e : k = m
                · rw [e, ← HY.out]; exact decide_eq_true (by have := HNQ.out; omega)
                · exact hs.out k (by omega)
              go_wp2_with (refine WL.out ?_; (repeat ((refine WL.op ?_ ?_; (exact rfl); intro K hK; (first | ((first | ((with_reducible apply ow_move); exact rfl) | ((with_reducible apply ow_assign); exact rfl)); (go_simp <;> (try simp (disch := omega) only [wrap_id, sub_left, zac]) <;> rfl)) | ((((with_reducible apply ow_load1 st); exact rfl; exact inferInstance; exact rfl; (exact get0))); exact rfl) | ((with_reducible apply ow_old1 st); exact rfl; exact inferInstance; exact rfl; assumption; assumption) | ((with_reducible apply ow_eval); (go_simp <;> (try simp (disch := omega) only [wrap_id, sub_left, zac]) <;> rfl); ((with_reducible apply up_value)))); refine WL.next hK (by simp only [Act.put, zpt, zsz, zss]; exact rfl) ?_; clear hK K))); (try refine WL.nil ?_))
              exact ⟨⟨m + 1, by omega, by go_num, st, hs'⟩, by simp [intOf]; omega⟩
          obtain rfl : nss = m := by omega
          have hS := Lib.hid (Ck.all_at (f := Ck.smFew) (l := ss) (fun k hk => hs.out k (by rw [E5.out]; exact hk)))
          have hgood := Lib.hid (good.out (Ck.rcFew_yes (by
            have := HG2.out
            rw [E4.out, E5.out, E6.out] at this
            exact this) hN.out hE.out hS.out))
          clear hs hlt2
          go_wp2_with (refine WL.out ?_; (repeat ((refine WL.op ?_ ?_; (exact rfl); intro K hK; (first | ((((with_reducible apply ow_assign); exact rfl)); (go_simp <;> (try simp (disch := omega) only [wrap_id, sub_left, zac]) <;> rfl)) | ((((with_reducible apply ow_load1 st); exact rfl; exact inferInstance; exact rfl; (exact get0))); exact rfl) | ((with_reducible apply ow_eval); (go_simp <;> (try simp (disch := omega) only [wrap_id, sub_left, zac]) <;> rfl); ((with_reducible apply up_value)))); refine WL.next hK (by simp only [Act.put, zpt, zsz, zss]; exact rfl) ?_; clear hK K))); (try refine WL.nil ?_))
          exact ⟨⟨j + 1, by omega, by go_num, st.tail, hgood⟩, by simp [intOf]; omega⟩
end Go.Proofs.YtgcjejajljhnaaaGreatDoor
namespace Go.Proofs.YtgcjejajljhnaaaGreatDoor
open Go.RowKit Go.Hp
theorem CopyRuns_any (A : Option Addr) (c B : Nat) (l : List Ck.Run) (w : World) (h1 : Lst w B A l) (hB1 : B ≤ w.heap.size) (hn : l.length ≤ 100000) :
    Calls Tryz.prog 48 #[.slice A l.length c] w fun e w' => ∃ A' c', e = .returned (.slice A' l.length c') ∧ St w w' [Ck.rowRun A' c' l] := by
  have H1 := Lib.hid h1
  clear h1
  have st := St.start w
  go_enter Tryz.func48, Tryz.ntmps48
  go_wp2_with (refine WL.out ?_; (repeat ((refine WL.op ?_ ?_; (exact rfl); intro K hK; (first | ((first | ((with_reducible apply ow_move); exact rfl) | ((with_reducible apply ow_assign); exact rfl)); (go_simp <;> (try simp (disch := omega) only [wrap_id, sub_left, zac]) <;> rfl)) | ((((with_reducible apply ow_newSlice st); exact rfl; (go_simp <;> (try simp (disch := omega) only [wrap_id, sub_left, zac]) <;> rfl); exact rfl)); (try clear st); intro b w' st) | (replace st := st.toRow (n := 0) (size := 2) rfl (by decide); ((with_reducible apply ow_append 0 st); exact rfl; exact inferInstance; exact rfl; exact rfl; exact rfl; exact (Lst.st H1.out st hB1); (focus (exact El.all_one _)); (focus (unfold maxLen; omega)); (focus omega); (try clear st); intro A' c' w' st; (try simp only [List.set_cons_zero, List.set_cons_succ, Nat.zero_add, List.nil_append] at st)))); refine WL.next hK (by simp only [Act.put, zpt, zsz, zss]; exact rfl) ?_; clear hK K))); (try refine WL.nil ?_))
  go_ret
  exact ⟨_, _, rfl, st.own⟩
theorem CopyInts_any (A : Option Addr) (c B : Nat) (l : List Int) (w : World) (h1 : Lst w B A l) (hB1 : B ≤ w.heap.size) (hn : l.length ≤ 100000) :
    Calls Tryz.prog 49 #[.slice A l.length c] w fun e w' => ∃ A' c', e = .returned (.slice A' l.length c') ∧ St w w' [Ck.rowInt A' c' l] := by
  have H1 := Lib.hid h1
  clear h1
  have st := St.start w
  go_enter Tryz.func49, Tryz.ntmps49
  go_wp2_with (refine WL.out ?_; (repeat ((refine WL.op ?_ ?_; (exact rfl); intro K hK; (first | ((first | ((with_reducible apply ow_move); exact rfl) | ((with_reducible apply ow_assign); exact rfl)); (go_simp <;> (try simp (disch := omega) only [wrap_id, sub_left, zac]) <;> rfl)) | ((((with_reducible apply ow_newSlice st); exact rfl; (go_simp <;> (try simp (disch := omega) only [wrap_id, sub_left, zac]) <;> rfl); exact rfl)); (try clear st); intro b w' st) | (replace st := st.toRow (n := 0) (size := 1) rfl (by decide); ((with_reducible apply ow_append 0 st); exact rfl; exact inferInstance; exact rfl; exact rfl; exact rfl; exact (Lst.st H1.out st hB1); (focus (exact El.all_one _)); (focus (unfold maxLen; omega)); (focus omega); (try clear st); intro A' c' w' st; (try simp only [List.set_cons_zero, List.set_cons_succ, Nat.zero_add, List.nil_append] at st)))); refine WL.next hK (by simp only [Act.put, zpt, zsz, zss]; exact rfl) ?_; clear hK K))); (try refine WL.nil ?_))
  go_ret
  exact ⟨_, _, rfl, st.own⟩
end Go.Proofs.YtgcjejajljhnaaaGreatDoor
namespace Go.Proofs
open Go.Shelf
def Tryz.laysM171_ren : Go.Shelf.Ren := ⟨fun | 171 => 82 | 243 => 127 | 246 => 160 | 283 => 186 | 284 => 187 | 285 => 188 | 286 => 189 | 129 => 206 | 317 => 205 | 318 => 207 | 319 => 208 | 320 => 209 | 337 => 223 | 338 => 224 | n => n, fun | 3 => 3 | 9 => 9 | 2 => 2 | 4 => 4 | 171 => 195 | 0 => 0 | 53 => 196 | 37 => 117 | 5 => 5 | 173 => 199 | 212 => 214 | 51 => 215 | 20 => 20 | 213 => 216 | 46 => 217 | 232 => 240 | 233 => 241 | n => n, fun | 17 => 0 | 18 => 6 | 19 => 7 | n => n⟩
theorem Tryz.laysM171 : Go.Proofs.LaysM.n171 Tryz.prog Tryz.laysM171_ren := {
  mixed := by kernel_rfl
  f129 := Tryz.func206.trans (congrArg some (by kernel_rfl))
  f171 := Tryz.func82.trans (congrArg some (by kernel_rfl))
  f243 := Tryz.func127.trans (congrArg some (by kernel_rfl))
  f246 := Tryz.func160.trans (congrArg some (by kernel_rfl))
  f283 := Tryz.func186.trans (congrArg some (by kernel_rfl))
  f284 := Tryz.func187.trans (congrArg some (by kernel_rfl))
  f285 := Tryz.func188.trans (congrArg some (by kernel_rfl))
  f286 := Tryz.func189.trans (congrArg some (by kernel_rfl))
  f317 := Tryz.func205.trans (congrArg some (by kernel_rfl))
  f318 := Tryz.func207.trans (congrArg some (by kernel_rfl))
  f319 := Tryz.func208.trans (congrArg some (by kernel_rfl))
  f320 := Tryz.func209.trans (congrArg some (by kernel_rfl))
  f337 := Tryz.func223.trans (congrArg some (by kernel_rfl))
  f338 := Tryz.func224.trans (congrArg some (by kernel_rfl))
  t0 := Tryz.underlying0
  a0 := Tryz.isAgg0
  z0 := Tryz.sizeOf0
  v0 := Tryz.zeroValue0
  t2 := Tryz.underlying2
  a2 := Tryz.isAgg2
  z2 := Tryz.sizeOf2
  v2 := Tryz.zeroValue2
  t3 := Tryz.underlying3
  a3 := Tryz.isAgg3
  z3 := Tryz.sizeOf3
  v3 := Tryz.zeroValue3
  t4 := Tryz.underlying4
  a4 := Tryz.isAgg4
  z4 := Tryz.sizeOf4
  v4 := Tryz.zeroValue4
  t5 := Tryz.underlying5
  a5 := Tryz.isAgg5
  z5 := Tryz.sizeOf5
  v5 := Tryz.zeroValue5
  t9 := Tryz.underlying9
  a9 := Tryz.isAgg9
  z9 := Tryz.sizeOf9
  v9 := Tryz.zeroValue9
  t20 := Tryz.underlying20
  a20 := Tryz.isAgg20
  z20 := Tryz.sizeOf20
  v20 := Tryz.zeroValue20
  t37 := Tryz.underlying117
  a37 := Tryz.isAgg117
  z37 := Tryz.sizeOf117
  v37 := Tryz.zeroValue117
  t46 := Tryz.underlying217
  a46 := Tryz.isAgg217
  z46 := Tryz.sizeOf217
  v46 := Tryz.zeroValue217
  t51 := Tryz.underlying215
  a51 := Tryz.isAgg215
  z51 := Tryz.sizeOf215
  v51 := Tryz.zeroValue215
  t53 := Tryz.underlying196
  a53 := Tryz.isAgg196
  z53 := Tryz.sizeOf196
  v53 := Tryz.zeroValue196
  t171 := Tryz.underlying195
  a171 := Tryz.isAgg195
  z171 := Tryz.sizeOf195
  v171 := Tryz.zeroValue195
  t173 := Tryz.underlying199
  a173 := Tryz.isAgg199
  z173 := Tryz.sizeOf199
  v173 := Tryz.zeroValue199
  t212 := Tryz.underlying214
  a212 := Tryz.isAgg214
  z212 := Tryz.sizeOf214
  v212 := Tryz.zeroValue214
  t213 := Tryz.underlying216
  a213 := Tryz.isAgg216
  z213 := Tryz.sizeOf216
  t232 := Tryz.underlying240
  a232 := Tryz.isAgg240
  z232 := Tryz.sizeOf240
  v232 := Tryz.zeroValue240
  t233 := Tryz.underlying241
  a233 := Tryz.isAgg241
  z233 := Tryz.sizeOf241
  v233 := Tryz.zeroValue241
  g17 := by kernel_rfl
  g18 := by kernel_rfl
  g19 := by kernel_rfl
  i0 := by kernel_rfl
  i2 := by kernel_rfl
  i3 := by kernel_rfl
  i4 := by kernel_rfl
  i5 := by kernel_rfl
  i9 := by kernel_rfl
  i20 := by kernel_rfl
  i37 := by kernel_rfl
  i46 := by kernel_rfl
  i51 := by kernel_rfl
  i53 := by kernel_rfl
  i171 := by kernel_rfl
  i173 := by kernel_rfl
  i212 := by kernel_rfl
  i232 := by kernel_rfl
  i233 := by kernel_rfl
  m17 := by kernel_rfl
  m18 := by kernel_rfl
  m19 := by kernel_rfl }
open Go.RowKit Go.Sort Go.Lib in
theorem Tryz.strconv_Itoa (n : Int) (h0 : -9223372036854775808 ≤ n) (h1 : n ≤ 9223372036854775807) (w : World) (htab : Lib.TabIs Tryz.prog w "internal/strconv.uint64pow10" .u64 Lib.pow10Tab) :
    Calls Tryz.prog 82 #[.int .i64 n] w fun e w' => e = .returned (.string ⟨(Lib.itoa n).toArray⟩) ∧ ∃ k os, w' = grow (w.drewN k) os := Any.strconv_Itoa Tryz.laysM171 n h0 h1 w htab
def Tryz.laysC172_ren : Go.Shelf.Ren := ⟨fun | 172 => 130 | 244 => 164 | 245 => 165 | 247 => 194 | 279 => 195 | 280 => 196 | 281 => 197 | 282 => 198 | 287 => 215 | 316 => 216 | 171 => 82 | 205 => 217 | 321 => 227 | 322 => 228 | 243 => 127 | 246 => 160 | 283 => 186 | 284 => 187 | 285 => 188 | 286 => 189 | 129 => 206 | 317 => 205 | 318 => 207 | 319 => 208 | 320 => 209 | 337 => 223 | 338 => 224 | n => n, fun | 9 => 9 | 3 => 3 | 75 => 152 | 76 => 153 | 4 => 4 | 5 => 5 | 167 => 204 | 37 => 117 | 0 => 0 | 85 => 205 | 2 => 2 | 168 => 207 | 53 => 196 | 175 => 219 | 46 => 217 | 210 => 222 | 127 => 234 | 145 => 237 | 143 => 235 | 21 => 21 | 171 => 195 | 173 => 199 | 212 => 214 | 51 => 215 | 20 => 20 | 213 => 216 | 232 => 240 | 233 => 241 | 80 => 194 | n => n, fun | 15 => 2 | 16 => 3 | 17 => 0 | 18 => 6 | 19 => 7 | n => n⟩
theorem Tryz.laysC172 : Go.Proofs.LaysC.n172 Tryz.prog Tryz.laysC172_ren := {
  mixed := by kernel_rfl
  f129 := Tryz.func206.trans (congrArg some (by kernel_rfl))
  f171 := Tryz.func82.trans (congrArg some (by kernel_rfl))
  f172 := Tryz.func130.trans (congrArg some (by kernel_rfl))
  f205 := Tryz.func217.trans (congrArg some (by kernel_rfl))
  f243 := Tryz.func127.trans (congrArg some (by kernel_rfl))
  f244 := Tryz.func164.trans (congrArg some (by kernel_rfl))
  f245 := Tryz.func165.trans (congrArg some (by kernel_rfl))
  f246 := Tryz.func160.trans (congrArg some (by kernel_rfl))
  f247 := Tryz.func194.trans (congrArg some (by kernel_rfl))
  f279 := Tryz.func195.trans (congrArg some (by kernel_rfl))
  f280 := Tryz.func196.trans (congrArg some (by kernel_rfl))
  f281 := Tryz.func197.trans (congrArg some (by kernel_rfl))
  f282 := Tryz.func198.trans (congrArg some (by kernel_rfl))
  f283 := Tryz.func186.trans (congrArg some (by kernel_rfl))
  f284 := Tryz.func187.trans (congrArg some (by kernel_rfl))
  f285 := Tryz.func188.trans (congrArg some (by kernel_rfl))
  f286 := Tryz.func189.trans (congrArg some (by kernel_rfl))
  f287 := Tryz.func215.trans (congrArg some (by kernel_rfl))
  f316 := Tryz.func216.trans (congrArg some (by kernel_rfl))
  f317 := Tryz.func205.trans (congrArg some (by kernel_rfl))
  f318 := Tryz.func207.trans (congrArg some (by kernel_rfl))
  f319 := Tryz.func208.trans (congrArg some (by kernel_rfl))
  f320 := Tryz.func209.trans (congrArg some (by kernel_rfl))
  f321 := Tryz.func227.trans (congrArg some (by kernel_rfl))
  f322 := Tryz.func228.trans (congrArg some (by kernel_rfl))
  f337 := Tryz.func223.trans (congrArg some (by kernel_rfl))
  f338 := Tryz.func224.trans (congrArg some (by kernel_rfl))
  t0 := Tryz.underlying0
  a0 := Tryz.isAgg0
  z0 := Tryz.sizeOf0
  v0 := Tryz.zeroValue0
  t2 := Tryz.underlying2
  a2 := Tryz.isAgg2
  z2 := Tryz.sizeOf2
  v2 := Tryz.zeroValue2
  t3 := Tryz.underlying3
  a3 := Tryz.isAgg3
  z3 := Tryz.sizeOf3
  v3 := Tryz.zeroValue3
  t4 := Tryz.underlying4
  a4 := Tryz.isAgg4
  z4 := Tryz.sizeOf4
  v4 := Tryz.zeroValue4
  t5 := Tryz.underlying5
  a5 := Tryz.isAgg5
  z5 := Tryz.sizeOf5
  v5 := Tryz.zeroValue5
  t9 := Tryz.underlying9
  a9 := Tryz.isAgg9
  z9 := Tryz.sizeOf9
  v9 := Tryz.zeroValue9
  t20 := Tryz.underlying20
  a20 := Tryz.isAgg20
  z20 := Tryz.sizeOf20
  v20 := Tryz.zeroValue20
  t21 := Tryz.underlying21
  a21 := Tryz.isAgg21
  z21 := Tryz.sizeOf21
  v21 := Tryz.zeroValue21
  t37 := Tryz.underlying117
  a37 := Tryz.isAgg117
  z37 := Tryz.sizeOf117
  v37 := Tryz.zeroValue117
  t46 := Tryz.underlying217
  a46 := Tryz.isAgg217
  z46 := Tryz.sizeOf217
  v46 := Tryz.zeroValue217
  t51 := Tryz.underlying215
  a51 := Tryz.isAgg215
  z51 := Tryz.sizeOf215
  v51 := Tryz.zeroValue215
  t53 := Tryz.underlying196
  a53 := Tryz.isAgg196
  z53 := Tryz.sizeOf196
  v53 := Tryz.zeroValue196
  t75 := Tryz.underlying152
  a75 := Tryz.isAgg152
  z75 := Tryz.sizeOf152
  v75 := Tryz.zeroValue152
  t76 := Tryz.underlying153
  a76 := Tryz.isAgg153
  z76 := Tryz.sizeOf153
  v76 := Tryz.zeroValue153
  t85 := Tryz.underlying205
  a85 := Tryz.isAgg205
  z85 := Tryz.sizeOf205
  v85 := Tryz.zeroValue205
  t127 := Tryz.underlying234
  a127 := Tryz.isAgg234
  z127 := Tryz.sizeOf234
  v127 := Tryz.zeroValue234
  t143 := Tryz.underlying235
  a143 := Tryz.isAgg235
  z143 := Tryz.sizeOf235
  v143 := Tryz.zeroValue235
  t145 := Tryz.underlying237
  a145 := Tryz.isAgg237
  z145 := Tryz.sizeOf237
  v145 := Tryz.zeroValue237
  t167 := Tryz.underlying204
  a167 := Tryz.isAgg204
  z167 := Tryz.sizeOf204
  v167 := Tryz.zeroValue204
  t168 := Tryz.underlying207
  a168 := Tryz.isAgg207
  z168 := Tryz.sizeOf207
  v168 := Tryz.zeroValue207
  t171 := Tryz.underlying195
  a171 := Tryz.isAgg195
  z171 := Tryz.sizeOf195
  v171 := Tryz.zeroValue195
  t173 := Tryz.underlying199
  a173 := Tryz.isAgg199
  z173 := Tryz.sizeOf199
  v173 := Tryz.zeroValue199
  t175 := Tryz.underlying219
  a175 := Tryz.isAgg219
  z175 := Tryz.sizeOf219
  v175 := Tryz.zeroValue219
  t210 := Tryz.underlying222
  a210 := Tryz.isAgg222
  z210 := Tryz.sizeOf222
  v210 := Tryz.zeroValue222
  t212 := Tryz.underlying214
  a212 := Tryz.isAgg214
  z212 := Tryz.sizeOf214
  v212 := Tryz.zeroValue214
  t213 := Tryz.underlying216
  a213 := Tryz.isAgg216
  z213 := Tryz.sizeOf216
  t232 := Tryz.underlying240
  a232 := Tryz.isAgg240
  z232 := Tryz.sizeOf240
  v232 := Tryz.zeroValue240
  t233 := Tryz.underlying241
  a233 := Tryz.isAgg241
  z233 := Tryz.sizeOf241
  v233 := Tryz.zeroValue241
  g15 := by kernel_rfl
  g16 := by kernel_rfl
  g17 := by kernel_rfl
  g18 := by kernel_rfl
  g19 := by kernel_rfl
  t80 := Tryz.underlying194
  a80 := Tryz.isAgg194
  z80 := Tryz.sizeOf194
  v80 := Tryz.zeroValue194
  i0 := by kernel_rfl
  i2 := by kernel_rfl
  i3 := by kernel_rfl
  i4 := by kernel_rfl
  i5 := by kernel_rfl
  i9 := by kernel_rfl
  i20 := by kernel_rfl
  i21 := by kernel_rfl
  i37 := by kernel_rfl
  i46 := by kernel_rfl
  i51 := by kernel_rfl
  i53 := by kernel_rfl
  i75 := by kernel_rfl
  i76 := by kernel_rfl
  i80 := by kernel_rfl
  i85 := by kernel_rfl
  i127 := by kernel_rfl
  i143 := by kernel_rfl
  i145 := by kernel_rfl
  i167 := by kernel_rfl
  i168 := by kernel_rfl
  i171 := by kernel_rfl
  i173 := by kernel_rfl
  i175 := by kernel_rfl
  i210 := by kernel_rfl
  i212 := by kernel_rfl
  i232 := by kernel_rfl
  i233 := by kernel_rfl
  m15 := by kernel_rfl
  m16 := by kernel_rfl
  m17 := by kernel_rfl
  m18 := by kernel_rfl
  m19 := by kernel_rfl
  c0 := by kernel_rfl
  c2 := by kernel_rfl
  c3 := by kernel_rfl
  c4 := by kernel_rfl
  c5 := by kernel_rfl
  c9 := by kernel_rfl
  c20 := by kernel_rfl
  c21 := by kernel_rfl
  c37 := by kernel_rfl
  c46 := by kernel_rfl
  c51 := by kernel_rfl
  c53 := by kernel_rfl
  c75 := by kernel_rfl
  c76 := by kernel_rfl
  c80 := by kernel_rfl
  c85 := by kernel_rfl
  c127 := by kernel_rfl
  c143 := by kernel_rfl
  c145 := by kernel_rfl
  c167 := by kernel_rfl
  c168 := by kernel_rfl
  c171 := by kernel_rfl
  c173 := by kernel_rfl
  c175 := by kernel_rfl
  c210 := by kernel_rfl
  c212 := by kernel_rfl
  c213 := by kernel_rfl
  c232 := by kernel_rfl
  c233 := by kernel_rfl }
open Go.RowKit in
theorem Tryz.strconv_Atoi_ok (s : ByteArray) (hmax : s.size ≤ 9223372036854775806) (v : Int) (h : Lib.atoiAll s.data.toList = .ok v) (w : World) :
    Calls Tryz.prog 130 #[.string s] w fun e w' => e = .returned (.tuple #[.int .i64 v, .nilIface]) ∧ (w' = w ∨ ∃ t, w' = Lib.bytesWorld w 5 t) := Any.strconv_Atoi_ok Tryz.laysC172 s hmax v h w
open Go.RowKit in
theorem Tryz.strconv_Atoi_range (s : ByteArray) (hlim : s.size ≤ 281474976710656) (h : Lib.atoiAll s.data.toList = .range) (ev : Value) (w : World) (hv : w.cell? ⟨3, 0, none⟩ = some ev) (hev : ev = .nilIface ∨ ∃ te pe, ev = .iface te pe) :
    Calls Tryz.prog 130 #[.string s] w fun e w' => ∃ N, e = .returned (.tuple #[.int .i64 (Lib.atoiSat s.data.toList), .iface 207 (.pointer (some ⟨N, 0, none⟩))]) ∧ w.heap.size ≤ N ∧ w'.heap[N]? = some (.cells #[.string ⟨#[65, 116, 111, 105]⟩, .string s, ev] 222 (0, 0)) ∧ Below w.heap.size w w' := Any.strconv_Atoi_range Tryz.laysC172 s hlim h ev w hv hev
def Tryz.lays146_ren : Go.Shelf.Ren := ⟨fun | 146 => 84 | 221 => 129 | 268 => 161 | 138 => 162 | 143 => 163 | 195 => 190 | 197 => 191 | 218 => 192 | 219 => 193 | 260 => 210 | 217 => 211 | 225 => 212 | 224 => 213 | 267 => 214 | 266 => 225 | 314 => 226 | n => n, fun | 9 => 9 | 31 => 35 | 3 => 3 | 4 => 4 | 0 => 0 | 105 => 201 | 21 => 21 | 5 => 5 | 46 => 217 | 119 => 227 | 139 => 230 | 138 => 229 | 146 => 231 | 51 => 215 | n => n, fun | 1 => 1 | 3 => 4 | 4 => 5 | n => n⟩
theorem Tryz.lays146 : Go.Proofs.Lays.n146 Tryz.prog Tryz.lays146_ren := {
  mixed := by kernel_rfl
  f138 := Tryz.func162.trans (congrArg some (by kernel_rfl))
  f143 := Tryz.func163.trans (congrArg some (by kernel_rfl))
  f146 := Tryz.func84.trans (congrArg some (by kernel_rfl))
  f195 := Tryz.func190.trans (congrArg some (by kernel_rfl))
  f197 := Tryz.func191.trans (congrArg some (by kernel_rfl))
  f217 := Tryz.func211.trans (congrArg some (by kernel_rfl))
  f218 := Tryz.func192.trans (congrArg some (by kernel_rfl))
  f219 := Tryz.func193.trans (congrArg some (by kernel_rfl))
  f221 := Tryz.func129.trans (congrArg some (by kernel_rfl))
  f224 := Tryz.func213.trans (congrArg some (by kernel_rfl))
  f225 := Tryz.func212.trans (congrArg some (by kernel_rfl))
  f260 := Tryz.func210.trans (congrArg some (by kernel_rfl))
  f266 := Tryz.func225.trans (congrArg some (by kernel_rfl))
  f267 := Tryz.func214.trans (congrArg some (by kernel_rfl))
  f268 := Tryz.func161.trans (congrArg some (by kernel_rfl))
  f314 := Tryz.func226.trans (congrArg some (by kernel_rfl))
  t0 := Tryz.underlying0
  a0 := Tryz.isAgg0
  z0 := Tryz.sizeOf0
  v0 := Tryz.zeroValue0
  t3 := Tryz.underlying3
  a3 := Tryz.isAgg3
  z3 := Tryz.sizeOf3
  v3 := Tryz.zeroValue3
  t4 := Tryz.underlying4
  a4 := Tryz.isAgg4
  z4 := Tryz.sizeOf4
  v4 := Tryz.zeroValue4
  t5 := Tryz.underlying5
  a5 := Tryz.isAgg5
  z5 := Tryz.sizeOf5
  v5 := Tryz.zeroValue5
  t9 := Tryz.underlying9
  a9 := Tryz.isAgg9
  z9 := Tryz.sizeOf9
  v9 := Tryz.zeroValue9
  t21 := Tryz.underlying21
  a21 := Tryz.isAgg21
  z21 := Tryz.sizeOf21
  v21 := Tryz.zeroValue21
  t31 := Tryz.underlying35
  a31 := Tryz.isAgg35
  z31 := Tryz.sizeOf35
  v31 := Tryz.zeroValue35
  t46 := Tryz.underlying217
  a46 := Tryz.isAgg217
  z46 := Tryz.sizeOf217
  v46 := Tryz.zeroValue217
  t51 := Tryz.underlying215
  a51 := Tryz.isAgg215
  z51 := Tryz.sizeOf215
  v51 := Tryz.zeroValue215
  t105 := Tryz.underlying201
  a105 := Tryz.isAgg201
  z105 := Tryz.sizeOf201
  v105 := Tryz.zeroValue201
  t119 := Tryz.underlying227
  a119 := Tryz.isAgg227
  z119 := Tryz.sizeOf227
  t138 := Tryz.underlying229
  a138 := Tryz.isAgg229
  z138 := Tryz.sizeOf229
  v138 := Tryz.zeroValue229
  t139 := Tryz.underlying230
  a139 := Tryz.isAgg230
  z139 := Tryz.sizeOf230
  v139 := Tryz.zeroValue230
  t146 := Tryz.underlying231
  a146 := Tryz.isAgg231
  z146 := Tryz.sizeOf231
  v146 := Tryz.zeroValue231
  g1 := by kernel_rfl
  g3 := by kernel_rfl
  g4 := by kernel_rfl }
open Go.RowKit Go.Lib in
theorem Tryz.strings_Split (s sep : ByteArray) (m : Int) (w : World) (hs : s.size < 4294967281) (hm : w.cell? ⟨1, 0, none⟩ = some (.int .i64 m)) (h1 : 1 ≤ sep.size) :
    Calls Tryz.prog 84 #[.string s, .string sep] w fun e w' =>
      e = .returned (.slice (some ⟨w.heap.size, 0, none⟩) (Lib.countB s sep + 1) (Lib.countB s sep + 1)) ∧ w' = w.alloc (.cells ((Lib.splitB sep 0 (Lib.countB s sep) s).map Value.string).toArray 9) := Any.strings_Split Tryz.lays146 (by kernel_rfl) s sep m w hs hm h1
end Go.Proofs
namespace Go.Hp
open Go.RowKit
section
variable {P : Program} {o : Oper} {a : Act} {w0 w : World} {rs : List Res} {Q : Exit → Act → World → Prop} {K : Act → World → Prop}
theorem row_block {e size n c : Nat} {A : Option Addr} {xs : List Value} {B : Nat} (h : (Res.row e size (.slice A n c) n xs).holds B w) (hn : 0 < n) : ∃ g, A = some ⟨g, 0, none⟩ ∧ ∀ j u, xs[j]? = some u → w.cell? ⟨g, j, none⟩ = some u := by
  rcases h.2 with ⟨hv, h0⟩ | ⟨g, cap, cur, hv, hbase, hg, hnc, hcap, hsz, htake⟩
  · omega
  · injection hv with h1
    refine ⟨g, h1, fun j u hj => ?_⟩
    rw [cell_of_row w g j cur e (0, 0) hg]
    rw [← htake, List.getElem?_take] at hj
    split at hj
    · simpa using hj
    · cases hj
end
end Go.Hp
namespace Go.Proofs.YtgcjejajljhnaaaGreatDoor
open Go.RowKit Go.Hp
namespace L
def isDig (c : UInt8) : Bool := decide (48 ≤ c.toNat) && decide (c.toNat ≤ 57)
def val (w : List UInt8) : Nat := w.foldl (fun n c => 10 * n + (c.toNat - 48)) 0
def AllDig (w : List UInt8) : Prop := ∀ c ∈ w, isDig c = true
theorem val_snoc (w : List UInt8) (c : UInt8) : val (w ++ [c]) = 10 * val w + (c.toNat - 48) := by unfold val; rw [List.foldl_append]; rfl
theorem isDig_le {c : UInt8} (h : isDig c = true) : 48 ≤ c.toNat ∧ c.toNat ≤ 57 := by simpa [isDig] using h
theorem snocInd {p : List UInt8 → Prop} (h0 : p []) (h1 : ∀ w c, p w → p (w ++ [c])) : ∀ w, p w := by
  intro w
  rw [← List.reverse_reverse w]
  generalize w.reverse = l
  induction l with
  | nil => exact h0
  | cons c l ih => rw [List.reverse_cons]; exact h1 _ _ ih
theorem AllDig.left {w : List UInt8} {c : UInt8} (h : AllDig (w ++ [c])) : AllDig w := fun x hx => h x (List.mem_append_left _ hx)
theorem val_lt : ∀ w, AllDig w → val w < 10 ^ w.length := by
  refine snocInd (fun _ => by simp [val]) fun w c ih h => ?_
  have h1 := ih h.left
  have h2 := isDig_le (h c (by simp))
  rw [val_snoc, List.length_append, List.length_singleton, Nat.pow_succ]
  omega
theorem val_pos : ∀ w, AllDig w → w.head? ≠ some 48 → w ≠ [] → 1 ≤ val w := by
  refine snocInd (fun _ _ h => absurd rfl h) fun w c ih h hh _ => ?_
  rw [val_snoc]
  have h2 := isDig_le (h c (by simp))
  rcases w with _ | ⟨a, w⟩
  · simp only [List.nil_append, List.head?_cons, ne_eq, Option.some.injEq] at hh
    have : c.toNat ≠ 48 := fun e => hh (UInt8.toNat_inj.1 (by rw [e]; rfl))
    omega
  · have := ih h.left (by simpa using hh) (by simp)
    omega
theorem dig_of (d : Nat) (h : d < 10) : (UInt8.ofNat (48 + d)).toNat = 48 + d := by
  have : (UInt8.ofNat (48 + d)).toNat = (48 + d) % 256 := by simp
  omega
theorem isDig_of (d : Nat) (h : d < 10) : isDig (UInt8.ofNat (48 + d)) = true := by
  have := dig_of d h
  simp [isDig]; omega
theorem dd_small {u : Nat} (h : u < 10) : Lib.decDigits u = [UInt8.ofNat (48 + u)] := by rw [Lib.decDigits, dif_pos h]
theorem dd_big {u : Nat} (h : ¬ u < 10) : Lib.decDigits u = Lib.decDigits (u / 10) ++ [UInt8.ofNat (48 + u % 10)] := by rw [Lib.decDigits, dif_neg h]
theorem dd_all : ∀ u, AllDig (Lib.decDigits u) := by
  intro u
  induction u using Nat.strongRecOn with
  | _ u ih =>
    by_cases h : u < 10
    · rw [dd_small h]; intro c hc; obtain rfl := List.mem_singleton.1 hc; exact isDig_of u h
    · rw [dd_big h]; intro c hc
      rcases List.mem_append.1 hc with hc | hc
      · exact ih (u / 10) (by omega) c hc
      · obtain rfl := List.mem_singleton.1 hc; exact isDig_of (u % 10) (by omega)
theorem val_dd : ∀ u, val (Lib.decDigits u) = u := by
  intro u
  induction u using Nat.strongRecOn with
  | _ u ih =>
    by_cases h : u < 10
    · rw [dd_small h, ← List.nil_append [_], val_snoc, dig_of u h]; simp [val]
    · rw [dd_big h, val_snoc, ih (u / 10) (by omega), dig_of (u % 10) (by omega)]; omega
theorem dd_ne (u : Nat) : Lib.decDigits u ≠ [] := by
  by_cases h : u < 10
  · rw [dd_small h]; simp
  · rw [dd_big h]; simp
theorem dd_head : ∀ u, (Lib.decDigits u).head? = some 48 → u = 0 := by
  intro u
  induction u using Nat.strongRecOn with
  | _ u ih =>
    by_cases h : u < 10
    · rw [dd_small h]
      intro e
      have e1 : UInt8.ofNat (48 + u) = 48 := by simpa using e
      have := dig_of u h
      rw [e1] at this
      have : (48 : UInt8).toNat = 48 := rfl
      omega
    · rw [dd_big h]
      intro e
      have e1 : (Lib.decDigits (u / 10)).head? = some 48 := by
        rcases hd : Lib.decDigits (u / 10) with _ | ⟨a, l⟩
        · exact absurd hd (dd_ne _)
        · rw [hd] at e; simpa using e
      have := ih (u / 10) (by omega) e1
      omega
theorem dd_val : ∀ w, AllDig w → w ≠ [] → (w.head? = some 48 → w.length ≤ 1) → Lib.decDigits (val w) = w := by
  refine snocInd (fun _ h => absurd rfl h) fun w c ih h _ hz => ?_
  rw [val_snoc]
  have h2 := isDig_le (h c (by simp))
  have hc : UInt8.ofNat (48 + (c.toNat - 48)) = c := by
    apply UInt8.toNat_inj.1
    rw [dig_of _ (by omega)]; omega
  rcases w with _ | ⟨a, w⟩
  · have : val ([] : List UInt8) = 0 := rfl
    rw [this, Nat.mul_zero, Nat.zero_add, dd_small (by omega), hc]; rfl
  · have hh : ¬ a = 48 := by
      intro e
      have := hz (by rw [e]; rfl)
      simp at this
    have hp := val_pos (a :: w) h.left (by simpa using hh) (by simp)
    rw [dd_big (by omega), show (10 * val (a :: w) + (c.toNat - 48)) / 10 = val (a :: w) by omega, show (10 * val (a :: w) + (c.toNat - 48)) % 10 = c.toNat - 48 by omega, hc]
    rw [ih h.left (by simp) (fun e => absurd (by simpa using e) hh)]
theorem itoa_nat (n : Nat) : Lib.itoa (n : Int) = Lib.decDigits n := by unfold Lib.itoa; rw [if_neg (by omega), Int.toNat_natCast]
theorem dd_len {u k : Nat} (h : u < 10 ^ k) (h1 : 1 ≤ k) : (Lib.decDigits u).length ≤ k := by
  induction k generalizing u with
  | zero => omega
  | succ k ih =>
    by_cases hu : u < 10
    · rw [dd_small hu]; simp
    · rw [dd_big hu, List.length_append, List.length_singleton]
      have hk : 1 ≤ k := by
        rcases k with _ | k
        · simp at h; omega
        · omega
      have := ih (u := u / 10) (by rw [Nat.pow_succ] at h; omega) hk
      omega
def byt (l : List UInt8) : List Value := l.map fun b => .int .u8 ((b.toNat : Nat) : Int)
theorem byt_append (l m : List UInt8) : byt (l ++ m) = byt l ++ byt m := List.map_append ..
theorem byt_length (l : List UInt8) : (byt l).length = l.length := List.length_map ..
theorem parse_dig : ∀ (l : List UInt8) (acc u : Nat), AllDig l → Lib.parseUint10 acc l = .ok u → u = l.foldl (fun n c => 10 * n + (c.toNat - 48)) acc
  | [], acc, u, _, h => by
    simp only [Lib.parseUint10] at h
    injection h with h
    exact h.symm
  | c :: r, acc, u, hd, h => by
    have hc := isDig_le (hd c (List.mem_cons_self ..))
    simp only [Lib.parseUint10] at h
    rw [if_pos hc] at h
    split at h
    · cases h
    · split at h
      · cases h
      · rw [List.foldl_cons, parse_dig r _ u (fun x hx => hd x (List.mem_cons_of_mem _ hx)) h]
        congr 1
        omega
theorem parse_small : ∀ (l : List UInt8) (acc : Nat), AllDig l → (acc + 1) * 10 ^ l.length ≤ 1000000000000 → ∃ u, Lib.parseUint10 acc l = .ok u
  | [], acc, _, _ => ⟨acc, rfl⟩
  | c :: r, acc, hd, h => by
    have hc := isDig_le (hd c (List.mem_cons_self ..))
    have hp : 1 ≤ 10 ^ r.length := Nat.one_le_pow _ _ (by decide)
    rw [List.length_cons, Nat.pow_succ] at h
    have hb : acc * 10 + (c.toNat - 48) + 1 ≤ (acc + 1) * 10 := by omega
    have h2 : (acc * 10 + (c.toNat - 48) + 1) * 10 ^ r.length ≤ 1000000000000 := by
      refine Nat.le_trans (Nat.mul_le_mul_right _ hb) ?_
      rw [Nat.mul_assoc, Nat.mul_comm 10]
      exact h
    have h3 : acc * 10 + (c.toNat - 48) + 1 ≤ 1000000000000 := Nat.le_trans (Nat.le_mul_of_pos_right _ (by omega)) h2
    simp only [Lib.parseUint10]
    rw [if_pos hc, if_neg (by omega), if_neg (by omega)]
    exact parse_small r _ (fun x hx => hd x (List.mem_cons_of_mem _ hx)) h2
theorem parse_two : ∀ (l : List UInt8) (acc : Nat), AllDig l → (∃ u, Lib.parseUint10 acc l = .ok u) ∨ Lib.parseUint10 acc l = .range
  | [], acc, _ => .inl ⟨acc, rfl⟩
  | c :: r, acc, hd => by
    have hc := isDig_le (hd c (List.mem_cons_self ..))
    simp only [Lib.parseUint10]
    rw [if_pos hc]
    split
    · exact .inr rfl
    · split
      · exact .inr rfl
      · exact parse_two r _ fun x hx => hd x (List.mem_cons_of_mem _ hx)
theorem atoi_dig {w : List UInt8} (hd : AllDig w) (h0 : 0 < w.length) : (∃ u, u = val w ∧ Lib.atoiAll w = .ok (u : Int)) ∨ Lib.atoiAll w = .range ∧ 9 < w.length := by
  rcases w with _ | ⟨c, r⟩
  · simp at h0
  have hc := isDig_le (hd c (List.mem_cons_self ..))
  have e1 : ¬ (c.toNat = 43 ∨ c.toNat = 45) := by omega
  have e2 : ¬ c.toNat = 45 := by omega
  have hmag : Lib.parseMag (c :: r) = Lib.parseUint10 0 (c :: r) := by unfold Lib.parseMag; rw [if_neg (by simp)]
  rcases parse_two (c :: r) 0 hd with ⟨u, hp⟩ | hp
  · have hv := parse_dig _ 0 u hd hp
    have hat : Lib.atoiAll (c :: r) = if 9223372036854775808 ≤ u then .range else .ok (u : Int) := by
      unfold Lib.atoiAll
      simp only [if_neg e1, hmag, hp]
      simp only [e2, not_false_eq_true, true_and, false_and, if_false]
    by_cases hu : 9223372036854775808 ≤ u
    · rw [if_pos hu] at hat
      refine .inr ⟨hat, ?_⟩
      by_cases h9 : 9 < (c :: r).length
      · exact h9
      · have h1 := val_lt (c :: r) hd
        have h2 : 10 ^ (c :: r).length ≤ 10 ^ 9 := Nat.pow_le_pow_right (by decide) (by omega)
        have h3 : (10 : Nat) ^ 9 = 1000000000 := by decide
        have h4 : u = val (c :: r) := hv
        omega
    · rw [if_neg hu] at hat
      exact .inl ⟨u, hv, hat⟩
  · have hat : Lib.atoiAll (c :: r) = .range := by
      unfold Lib.atoiAll
      simp only [if_neg e1, hmag, hp]
    refine .inr ⟨hat, ?_⟩
    by_cases h9 : 9 < (c :: r).length
    · exact h9
    · obtain ⟨u, hu⟩ := parse_small (c :: r) 0 hd (by
        have h2 : 10 ^ (c :: r).length ≤ 10 ^ 9 := Nat.pow_le_pow_right (by decide) (by omega)
        have h3 : (10 : Nat) ^ 9 = 1000000000 := by decide
        omega)
      rw [hp] at hu; cases hu
theorem str_append (x y : List UInt8) : (⟨x.toArray⟩ : ByteArray) ++ ⟨y.toArray⟩ = ⟨(x ++ y).toArray⟩ := by
  apply ByteArray.ext
  simp
def ddz (n : Nat) : List UInt8 := if n = 0 then [] else Lib.decDigits n
theorem ddz_step (n : Nat) (h : 0 < n) (s : List UInt8) : ddz n ++ s = ddz (n / 10) ++ (UInt8.ofNat (48 + n % 10) :: s) := by
  unfold ddz
  rw [if_neg (by omega)]
  by_cases h1 : n < 10
  · rw [dd_small h1, if_pos (by omega), Nat.mod_eq_of_lt h1]; rfl
  · rw [dd_big h1, if_neg (by omega), List.append_assoc]; rfl
end L
instance : SliceT Tryz.prog 117 5 (.int .u8 0) 1 1 := ⟨by kernel_rfl, by kernel_rfl, rfl, by decide⟩
abbrev byteRow (v : Value) (n : Nat) (l : List UInt8) : Res := .row 5 1 v n (L.byt l)
theorem bytes_one (l : List UInt8) : ∀ u ∈ L.byt l, u.oneCell' = true := by
  intro u hu
  obtain ⟨b, _, rfl⟩ := List.mem_map.1 hu
  rfl
theorem byteRow_len {w w0 : World} {rs : List Res} {i n : Nat} {v : Value} {l : List UInt8} (st : St w0 w rs) (hi : rs[i]? = some (byteRow v n l)) : n = l.length := by
  have := (st.get hi).1
  rw [L.byt_length] at this
  omega
section
variable {o : Oper} {a : Act} {w0 w : World} {rs : List Res} {Q : Exit → Act → World → Prop} {K : Act → World → Prop}
theorem run_string {src e dst i n c : Nat} {P : Program} {A : Option Addr} {l : List UInt8} (hs : P.underlying src = some (.slice e)) (he : P.underlying e = some (.int .u8)) (hd : P.underlying dst = some .string) (st : St w0 w rs) (hi : rs[i]? = some (byteRow (.slice A n c) n l)) (hn : 0 < n) :
    (convert src dst (.slice A n c)).run P w = .ok (.string ⟨l.toArray⟩) w := by
  have hl := byteRow_len st hi
  obtain ⟨g, rfl, hc⟩ := row_block (st.get hi) hn
  subst hl
  refine run_convert_bytes_back w src dst e ⟨g, 0, none⟩ c l hs he hd fun j hj => ?_
  rw [add_lit, Nat.zero_add]
  exact hc j _ (by unfold L.byt; rw [List.getElem?_map, List.getElem?_eq_getElem hj]; rfl)
theorem ow_string {n c : Nat} {x : Operand} {A : Option Addr} {l : List UInt8} (i : Nat) (st : St w0 w rs) (ho : o.op = .convert 117 9 x) (hx : a.eval x = .slice A n c) (hi : rs[i]? = some (byteRow (.slice A n c) n l)) (hn : 0 < n)
    (h : K (a.put o.dst (.string ⟨l.toArray⟩)) w) : OW Tryz.prog o a w K Q := by
  refine OW.mk (wp_value ?_ h)
  have := run_string (P := Tryz.prog) (src := 117) (e := 5) (dst := 9) (by kernel_rfl) (by kernel_rfl) (by kernel_rfl) st hi hn
  simp [execOp, ho, hx, this]
end
section
variable {P : Program} {o : Oper} {a : Act} {w : World} {Q : Exit → Act → World → Prop} {K : Act → World → Prop}
theorem ow_cat {t ty : TypeId} {x y : Operand} {l m : List UInt8} (ho : o.op = .binOp .add t x y ty) (hx : a.eval x = .string ⟨l.toArray⟩) (hy : a.eval y = .string ⟨m.toArray⟩) (hlen : (l ++ m).length ≤ 1000000000)
    (h : K (a.put o.dst (.string ⟨(l ++ m).toArray⟩)) w) : OW P o a w K Q := by
  refine OW.mk (wp_value (w' := w) ?_ h)
  have h1 : ((⟨l.toArray⟩ : ByteArray).size + (⟨m.toArray⟩ : ByteArray).size : Nat) = (l ++ m).length := by
    show l.toArray.size + m.toArray.size = _
    simp
  have h2 : ¬ ((((⟨l.toArray⟩ : ByteArray).size + (⟨m.toArray⟩ : ByteArray).size : Nat) : Int) > IntKind.i64.max) := by
    rw [h1]
    have : IntKind.i64.max = 9223372036854775807 := by decide
    rw [this]
    omega
  have h3 : (Op.stringOp .add (⟨l.toArray⟩ : ByteArray) ⟨m.toArray⟩).run P w = .ok (.string ⟨(l ++ m).toArray⟩) w := by
    unfold Op.stringOp
    simp only [if_neg h2, L.str_append]
    rfl
  simp [execOp, ho, hx, hy, binOp_string_add, h3, eqGuard]
end
theorem st_oneByte {w0 w : World} {rs : List Res} {b : Nat} {x : Int} (c : UInt8) (hx : x = (c.toNat : Int)) (st : St w0 w (.box b 5 [.int .u8 x] :: rs)) : St w0 w (byteRow (.slice (some ⟨b, 0, none⟩) 1 1) 1 [c] :: rs) := by
  subst hx
  exact st.toRow (n := 1) (size := 1) rfl (by decide)
structure Env (w : World) : Prop where
  tab : Lib.TabIs Tryz.prog w "internal/strconv.uint64pow10" .u64 Lib.pow10Tab
  max : ∃ m, w.cell? ⟨1, 0, none⟩ = some (.int .i64 m)
  syn : ∃ ev, w.cell? ⟨2, 0, none⟩ = some ev ∧ (ev = .nilIface ∨ ∃ te pe, ev = .iface te pe)
  rng : ∃ ev, w.cell? ⟨3, 0, none⟩ = some ev ∧ (ev = .nilIface ∨ ∃ te pe, ev = .iface te pe)
theorem Env.later {w w' : World} (h : Env w) (hb : Below w.heap.size w w') : Env w' := by
  obtain ⟨h1, ⟨m, h2⟩, ⟨e3, h3, h3'⟩, ⟨e4, h4, h4'⟩⟩ := h
  exact ⟨Go.Joins.tab_stays (g := 0) (by kernel_rfl) h1 hb (Nat.le_refl _), ⟨m, (hb.cell (p := ⟨1, 0, none⟩) (Lib.lt_of_cell h2)).trans h2⟩, ⟨e3, (hb.cell (p := ⟨2, 0, none⟩) (Lib.lt_of_cell h3)).trans h3, h3'⟩, ⟨e4, (hb.cell (p := ⟨3, 0, none⟩) (Lib.lt_of_cell h4)).trans h4, h4'⟩⟩
theorem itoa_env {w : World} (h : Env w) (n : Int) (h0 : -9223372036854775808 ≤ n) (h1 : n ≤ 9223372036854775807) : Calls Tryz.prog 82 #[.int .i64 n] w fun e w' => e = .returned (.string ⟨(Lib.itoa n).toArray⟩) ∧ Below w.heap.size w w' :=
  (Tryz.strconv_Itoa n h0 h1 w h.tab).mono fun e w' ⟨he, k, os, hw⟩ => ⟨he, hw ▸ Lib.below_grow w.heap.size w (Nat.le_refl _) k os⟩
theorem bytes_size (l : List UInt8) : (ByteArray.mk l.toArray).size = l.length := by show l.toArray.size = _; simp
theorem atoi_ok (d : List UInt8) (v : Int) (w : World) (h : Lib.atoiAll d = .ok v) (hl : d.length ≤ 100000) : Calls Tryz.prog 130 #[.string ⟨d.toArray⟩] w fun e w' => e = .returned (.tuple #[.int .i64 v, .nilIface]) ∧ Below w.heap.size w w' := by
  have hz := bytes_size d
  exact (Tryz.strconv_Atoi_ok ⟨d.toArray⟩ (by omega) _ h w).mono fun e w' ⟨h1, h2⟩ => ⟨h1, by
    rcases h2 with rfl | ⟨t, rfl⟩
    · exact Below.refl _ _
    · exact Lib.bytesWorld_below _ _ _⟩
theorem atoi_err (d : List UInt8) (w : World) (h : ∀ v, Lib.atoiAll d ≠ .ok v) (hl : d.length ≤ 100000) (hE : Env w) : Calls Tryz.prog 130 #[.string ⟨d.toArray⟩] w fun e w' => ∃ (v : Int) (te : TypeId) (pe : Value), e = .returned (.tuple #[.int .i64 v, .iface te pe]) ∧ Below w.heap.size w w' := by
  have hz := bytes_size d
  obtain ⟨_, _, ⟨e2, s1, s2⟩, ⟨e3, r1, r2⟩⟩ := hE
  rcases hx : Lib.atoiAll d with v | _ | _
  · exact absurd hx (h v)
  · exact (Any.strconv_Atoi_syntax Tryz.laysC172 ⟨d.toArray⟩ (by omega) hx e2 w s1 s2).mono fun e w' ⟨N, h1, _, _, h4⟩ => ⟨_, _, _, h1, h4⟩
  · exact (Tryz.strconv_Atoi_range ⟨d.toArray⟩ (by omega) hx e3 w r1 r2).mono fun e w' ⟨N, h1, _, _, h4⟩ => ⟨_, _, _, h1, h4⟩
def strs (l : List (List UInt8)) : List Value := l.map fun x => .string ⟨x.toArray⟩
theorem split_any (l : List UInt8) (w : World) (hl : l.length ≤ 100000) (hE : Env w) : Calls Tryz.prog 84 #[.string ⟨l.toArray⟩, .string ⟨#[32]⟩] w fun e w' => ∃ b, e = .returned (.slice (some ⟨b, 0, none⟩) (Lib.split l [32]).length (Lib.split l [32]).length) ∧ St w w' [.box b 9 (strs (Lib.split l [32]))] := by
  obtain ⟨m, hm⟩ := hE.max
  have hlen : (Lib.split l [32]).length = Lib.countB ⟨l.toArray⟩ ⟨#[32]⟩ + 1 := by
    have h1 := Lib.splitB_data ⟨#[32]⟩ 0 (Lib.countB ⟨l.toArray⟩ ⟨#[32]⟩) ⟨l.toArray⟩
    have h2 := congrArg List.length h1
    rw [List.length_map, Lib.splitB_all ⟨#[32]⟩ (by decide) 0 _ _ rfl] at h2
    exact h2.symm
  have hcells : ((Lib.splitB ⟨#[32]⟩ 0 (Lib.countB ⟨l.toArray⟩ ⟨#[32]⟩) ⟨l.toArray⟩).map Value.string) = strs (Lib.split l [32]) := by
    have h1 := Lib.splitB_data ⟨#[32]⟩ 0 (Lib.countB ⟨l.toArray⟩ ⟨#[32]⟩) ⟨l.toArray⟩
    have h2 : Lib.split l [32] = (Lib.splitB ⟨#[32]⟩ 0 (Lib.countB ⟨l.toArray⟩ ⟨#[32]⟩) ⟨l.toArray⟩).map (·.data.toList) := h1.symm
    rw [h2]
    unfold strs
    rw [List.map_map]
    apply List.map_congr_left
    intro x _
    simp only [Function.comp]
  exact (Tryz.strings_Split ⟨l.toArray⟩ ⟨#[32]⟩ m w (by rw [bytes_size]; omega) hm (by decide)).mono fun e w' ⟨h1, h2⟩ => ⟨w.heap.size, by rw [h1, hlen], by
    subst h2
    rw [hcells]
    exact (St.start w).fresh ((Below.refl _ _).alloc (Nat.le_refl _) _) ⟨Nat.le_refl _, heap_alloc_new _ _⟩⟩
namespace L
def n5 (s : List UInt8) : Bool := s.all isDig && decide (0 < s.length) && decide (s.length ≤ 5) && !(s.head? == some 48 && decide (1 < s.length))
theorem n5_iff (s : List UInt8) : n5 s = true ↔ AllDig s ∧ 0 < s.length ∧ s.length ≤ 5 ∧ (s.head? = some 48 → s.length ≤ 1) := by
  unfold n5
  simp only [Bool.and_eq_true, List.all_eq_true, decide_eq_true_eq, Bool.not_eq_true', Bool.and_eq_false_iff, decide_eq_false_iff_not, and_assoc]
  refine and_congr Iff.rfl (and_congr Iff.rfl (and_congr Iff.rfl ?_))
  by_cases h : s.head? = some 48
  · simp [h]
  · simp [h]
theorem n5_itoa {s : List UInt8} (h : n5 s = true) : Lib.atoiAll s = .ok ((val s : Nat) : Int) ∧ Lib.itoa ((val s : Nat) : Int) = s ∧ val s ≤ 99999 := by
  obtain ⟨h1, h2, h3, h4⟩ := (n5_iff s).1 h
  have h5 := val_lt s h1
  have h6 : 10 ^ s.length ≤ 10 ^ 5 := Nat.pow_le_pow_right (by decide) h3
  have h7 : (10 : Nat) ^ 5 = 100000 := by decide
  refine ⟨?_, ?_, by omega⟩
  · rcases atoi_dig h1 h2 with ⟨u, hu, e⟩ | ⟨_, h9⟩
    · rw [e, hu]
    · omega
  · rw [itoa_nat]
    exact dd_val s h1 (by intro e; rw [e] at h2; simp at h2) h4
theorem n5_of {s : List UInt8} {v : Int} (h0 : 0 ≤ v) (h5 : s.length ≤ 5) (h : Lib.itoa v = s) : n5 s = true ∧ v = ((val s : Nat) : Int) := by
  obtain ⟨n, rfl⟩ := Int.eq_ofNat_of_zero_le h0
  rw [itoa_nat] at h
  subst h
  refine ⟨(n5_iff _).2 ⟨dd_all n, List.length_pos_iff.2 (dd_ne n), h5, fun e => ?_⟩, by rw [val_dd]⟩
  have := dd_head n e
  subst this
  rw [dd_small (by decide)]
  simp
theorem n5_cases (s : List UInt8) : (n5 s = true ∧ Lib.atoiAll s = .ok ((val s : Nat) : Int) ∧ Lib.itoa ((val s : Nat) : Int) = s ∧ s.length ≤ 5) ∨ (n5 s = false ∧ ∃ v, Lib.atoiAll s = .ok v ∧ -9223372036854775808 ≤ v ∧ v ≤ 9223372036854775807 ∧ (v < 0 ∨ (0 ≤ v ∧ 5 < s.length) ∨ (0 ≤ v ∧ s.length ≤ 5 ∧ (Lib.itoa v == s) = false))) ∨ (n5 s = false ∧ ∀ v, Lib.atoiAll s ≠ .ok v) := by
  cases hn : n5 s with
  | true =>
    obtain ⟨h1, h2, _⟩ := n5_itoa hn
    exact .inl ⟨rfl, h1, h2, ((n5_iff s).1 hn).2.2.1⟩
  | false =>
    by_cases hv : ∃ v, Lib.atoiAll s = .ok v
    · obtain ⟨v, hv⟩ := hv
      have hb : -9223372036854775808 ≤ v ∧ v ≤ 9223372036854775807 := by
        unfold Lib.atoiAll at hv
        split at hv
        · cases hv
        · simp only at hv
          split at hv
          · cases hv
          · cases hv
          · rename_i u hu
            split at hv
            · cases hv
            · split at hv
              · cases hv
              · rename_i q1 q2
                injection hv with hv
                subst hv
                split <;> omega
      refine .inr (.inl ⟨rfl, v, hv, hb.1, hb.2, ?_⟩)
      by_cases h0 : v < 0
      · exact .inl h0
      · by_cases h5 : 5 < s.length
        · exact .inr (.inl ⟨by omega, h5⟩)
        · refine .inr (.inr ⟨by omega, by omega, ?_⟩)
          rw [beq_eq_false_iff_ne]
          intro e
          rw [(n5_of (by omega) (by omega) e).1] at hn
          cases hn
    · exact .inr (.inr ⟨rfl, fun v e => hv ⟨v, e⟩⟩)
end L
end Go.Proofs.YtgcjejajljhnaaaGreatDoor
