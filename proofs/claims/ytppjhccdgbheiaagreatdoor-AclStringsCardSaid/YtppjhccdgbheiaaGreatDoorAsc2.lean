/- Own text, part Asc 2: walks of the package acl and of its reference, and the plain laws that they lean on; no statement of the seat is here. -/
import Derived.Test.YtppjhccdgbheiaaGreatDoorAsc1
import Derived.Test.YtppjhccdgbheiaaGreatDoorBase3
import Derived.Test.YtppjhccdgbheiaaGreatDoorBase2
set_option linter.all false
namespace Go.Proofs.YtppjhccdgbheiaaGreatDoor
open Go.RowKit Go.Hp
theorem or_pow (n i : Nat) (hn : n < 2 ^ i) (hi : i ≤ 40) : bits BinOp.or .i64 (n : Int) ((2 : Int) ^ i) = ((n + 2 ^ i : Nat) : Int) := by
  have hp : 2 ^ i ≤ 2 ^ 40 := Nat.pow_le_pow_right (by decide) hi
  have h40 : (2 : Nat) ^ 40 = 1099511627776 := by decide
  have hc : ((2 : Int) ^ i) = ((2 ^ i : Nat) : Int) := by push_cast; rfl
  have ho : n ||| 2 ^ i = n + 2 ^ i := by
    have := Nat.two_pow_add_eq_or_of_lt (i := i) hn 1
    rw [Nat.mul_one] at this
    rw [Nat.or_comm, ← this, Nat.add_comm]
  rw [hc]
  show IntKind.i64.wrap (((BitVec.ofInt 64 (n : Int) ||| BitVec.ofInt 64 ((2 ^ i : Nat) : Int)).toNat : Nat) : Int) = _
  rw [BitVec.toNat_or, BitVec.ofInt_natCast, BitVec.ofInt_natCast, BitVec.toNat_ofNat, BitVec.toNat_ofNat, Nat.mod_eq_of_lt (by omega), Nat.mod_eq_of_lt (by omega), ho]
  exact wrap_id (by omega) (by omega)
theorem indexByte_any (all : List UInt8) (c : UInt8) (w : World) : Calls Tryz.prog 148 #[.string ⟨all.toArray⟩, .int .u8 ((c.toNat : Nat) : Int)] w fun e w' => e = .returned (.int .i64 (Lib.indexByte all c)) ∧ w' = w := by
  have h := Tryz.strings_IndexByte ⟨all.toArray⟩ ((c.toNat : Nat) : Int) w
  rw [Int.toNat_natCast, show c.toNat.toUInt8 = c by simp] at h
  exact h
namespace L
theorem bts_some {all s : List UInt8} {k n : Nat} (hk : k < s.length) : btsN all n (s.drop k) = if Lib.indexByte all s[k] < 0 ∨ n / 2 ^ (Lib.indexByte all s[k]).toNat ≠ 0 then none else btsN all (n + 2 ^ (Lib.indexByte all s[k]).toNat) (s.drop (k + 1)) := by
  rw [List.drop_eq_getElem_cons hk]; rfl
theorem bx_get {s : List UInt8} {k : Nat} (hk : k < s.length) : bx s k = ((s[k].toNat : Nat) : Int) := by unfold bx; rw [List.getElem?_eq_getElem hk]; rfl
end L
set_option maxHeartbeats 2000000 in
theorem bitsOf_any (s all : List UInt8) (w : World) (hl : s.length ≤ 100000) (ha : all.length ≤ 20) : Calls Tryz.prog 129 #[.string ⟨s.toArray⟩, .string ⟨all.toArray⟩] w fun e w' => ∃ v : Int, (∀ m, L.btsN all 0 s = some m → v = (m : Int)) ∧ e = .returned (.tuple #[.int .i64 v, .bool (L.btsN all 0 s).isSome]) ∧ Below w.heap.size w w' := by
  have st := St.start w
  go_enter Tryz.func129, Tryz.ntmps129
  go_wp2_with (refine WL.out ?_; (repeat ((refine WL.op ?_ ?_; (exact rfl); intro K hK; (first | ((((with_reducible apply ow_move); exact rfl)); (go_simp <;> (try simp (disch := omega) only [wrap_id, sub_left, zac]) <;> rfl)) | ((with_reducible apply ow_bytes st); exact rfl; exact rfl; (try clear st); intro g c cs mk w' st hcs hlc) | ((with_reducible apply ow_eval); (go_simp <;> (try simp (disch := omega) only [wrap_id, sub_left, zac]) <;> rfl); ((with_reducible apply up_value)))); refine WL.next hK (by simp only [Act.put, zpt, zsz, zss]; exact rfl) ?_; clear hK K))); (try refine WL.nil ?_))
  have HC := Lib.hid hcs
  clear hcs
  go_loopw [6, 13] (fun x i wr => ∃ k n : Nat, k ≤ s.length ∧ i = .int .i64 k ∧ x = .int .i64 n ∧ n < 2 ^ all.length ∧ Hid (L.btsN all 0 s = L.btsN all n (s.drop k)) ∧ St w wr [.obj g (.cells cs 5 mk)]) (fun _ i _ => s.length - (intOf i).toNat)
  case atStart => exact ⟨0, 0, Nat.zero_le _, rfl, rfl, Nat.two_pow_pos _, Lib.hid rfl, st⟩
  case round =>
    clear st
    obtain ⟨k, n, hk, rfl, rfl, hn, hs, st⟩ := hrel
    by_cases hlt : k < s.length
    · have hst := Lib.hid (hs.out.trans (L.bts_some hlt))
      have hci := HC.out k hlt
      rw [L.bx_get hlt] at hci
      have hge := Lib.indexByte_ge all s[k]
      have hlti := fun h0 : 0 ≤ Lib.indexByte all (s[k]'hlt) => (L.indexByte_get all (s[k]'hlt) h0).2
      generalize s[k] = b at *
      by_cases h0 : Lib.indexByte all b < 0
      · have hno : Hid (L.btsN all 0 s = none) := Lib.hid (by rw [hst.out, if_pos (.inl h0)])
        obtain ⟨I, hI⟩ : ∃ I, Lib.indexByte all b = I := ⟨_, rfl⟩
        rw [hI] at h0
        have HI := Lib.hid hI
        clear hge hlti hI
        go_wp2_with (refine WL.out ?_; (repeat (first | (refine WL.op ?_ ?_; (exact rfl); intro K hK; (first | ((first | ((with_reducible apply ow_move); exact rfl) | ((with_reducible apply ow_assign); exact rfl)); (go_simp <;> (try simp (disch := omega) only [wrap_id, sub_left, zac]) <;> rfl)) | ((with_reducible apply ow_loadO st); exact rfl; exact inferInstance; exact rfl; (exact get0); exact hci) | ((with_reducible apply ow_eval); (go_simp <;> (try simp (disch := omega) only [wrap_id, sub_left, zac]) <;> rfl); first | (with_reducible apply up_value) | ((with_reducible apply up_enter); ((go_at_call 148; refine (indexByte_any all b _).mono ?_; rw [HI.out]; rintro e w' ⟨rfl, rfl⟩; refine ⟨_, rfl, ?_⟩))))); refine WL.next hK (by simp only [Act.put, zpt, zsz, zss]; exact rfl) ?_; clear hK K) | (refine WL.skip ?_ (by simp only [Act.put, zpt, zsz, zss]; exact rfl) ?_; (exact rfl)))); (try refine WL.nil ?_))
        go_ret2
        exact ⟨0, fun m h => absurd (hno.out.symm.trans h) (by simp), by rw [hno.out]; rfl, st.below⟩
      · obtain ⟨i, hI⟩ := Int.eq_ofNat_of_zero_le (show 0 ≤ Lib.indexByte all b by omega)
        have hil := hlti (by omega)
        rw [hI] at h0 hst hil
        rw [Int.toNat_natCast] at hst hil
        have HI := Lib.hid hI
        clear hge hlti hI
        have hq : ((n : Int) / 2 ^ i) = ((n / 2 ^ i : Nat) : Int) := by push_cast; rfl
        have hi40 : i ≤ 40 := by omega
        have hpw := Lib.hid (show IntKind.i64.wrap ((2 : Int) ^ i) = (2 : Int) ^ i by rw [IntWalk.i64_left]; exact pow_wrap i (by omega))
        have hpl : 2 ^ i ≤ 2 ^ 20 := Nat.pow_le_pow_right (by decide) (by omega)
        have h20 : (2 : Nat) ^ 20 = 1048576 := by decide
        have hal : 2 ^ all.length ≤ 2 ^ 20 := Nat.pow_le_pow_right (by decide) ha
        have hn20 : n < 1048576 := by omega
        have hp1 := Nat.two_pow_pos i
        by_cases hz : n / 2 ^ i = 0
        · have hlt2 : n < 2 ^ i := by
            rcases Nat.div_eq_zero_iff.1 hz with h | h
            · omega
            · exact h
          have hst2 : Hid (L.btsN all 0 s = L.btsN all (n + 2 ^ i) (s.drop (k + 1))) := Lib.hid (by rw [hst.out, if_neg (by rw [hz]; simp)])
          have hor := Lib.hid (or_pow n i hlt2 hi40)
          have hnn : Hid (n + 2 ^ i < 2 ^ all.length) := Lib.hid (by
            have h1 : 2 ^ (i + 1) ≤ 2 ^ all.length := Nat.pow_le_pow_right (by decide) hil
            rw [Nat.pow_succ] at h1
            omega)
          rw [hz] at hq
          clear hz hlt2 hal hpl h20 hp1
          go_wp2_with (refine WL.out ?_; (repeat ((refine WL.op ?_ ?_; (exact rfl); intro K hK; (first | ((first | ((with_reducible apply ow_move); exact rfl) | ((with_reducible apply ow_assign); exact rfl)); (go_simp <;> (try simp (disch := omega) only [wrap_id, sub_left, zac]) <;> rfl)) | ((with_reducible apply ow_loadO st); exact rfl; exact inferInstance; exact rfl; (exact get0); exact hci) | ((with_reducible apply ow_eval); (go_simp <;> (try simp (disch := omega) only [wrap_id, sub_left, zac]) <;> rfl); first | (with_reducible apply up_value) | ((with_reducible apply up_enter); ((go_at_call 148; refine (indexByte_any all b _).mono ?_; rw [HI.out]; rintro e w' ⟨rfl, rfl⟩; refine ⟨_, rfl, ?_⟩))))); refine WL.next hK (by simp only [Act.put, zpt, zsz, zss]; exact rfl) ?_; clear hK K))); (try refine WL.nil ?_))
          exact ⟨⟨k + 1, n + 2 ^ i, by omega, by go_num, by rw [hpw.out, hor.out], hnn.out, hst2, st⟩, by simp [intOf]; omega⟩
        · have hno : Hid (L.btsN all 0 s = none) := Lib.hid (by rw [hst.out, if_pos (.inr hz)])
          have hq1 : ((n : Int) / 2 ^ i != 0) = true := by rw [hq]; simp; omega
          clear hq hz hal hpl h20 hp1
          go_wp2_with (refine WL.out ?_; (repeat ((refine WL.op ?_ ?_; (exact rfl); intro K hK; (first | ((first | ((with_reducible apply ow_move); exact rfl) | ((with_reducible apply ow_assign); exact rfl)); (go_simp <;> (try simp (disch := omega) only [wrap_id, sub_left, zac]) <;> rfl)) | ((with_reducible apply ow_loadO st); exact rfl; exact inferInstance; exact rfl; (exact get0); exact hci) | ((with_reducible apply ow_eval); (go_simp <;> (try simp (disch := omega) only [wrap_id, sub_left, zac]) <;> rfl); first | (with_reducible apply up_value) | ((with_reducible apply up_enter); ((go_at_call 148; refine (indexByte_any all b _).mono ?_; rw [HI.out]; rintro e w' ⟨rfl, rfl⟩; refine ⟨_, rfl, ?_⟩))))); refine WL.next hK (by simp only [Act.put, zpt, zsz, zss]; exact rfl) ?_; clear hK K))); (try refine WL.nil ?_))
          go_ret2
          exact ⟨0, fun m h => absurd (hno.out.symm.trans h) (by simp), by rw [hno.out]; rfl, st.below⟩
    · have hs' : Hid (L.btsN all 0 s = some n) := Lib.hid (by rw [hs.out, List.drop_of_length_le (by omega)]; rfl)
      go_wp2_with (refine WL.out ?_; (repeat ((refine WL.op ?_ ?_; (exact rfl); intro K hK; (((with_reducible apply ow_eval); (go_simp <;> (try simp (disch := omega) only [wrap_id, sub_left, zac]) <;> rfl); ((with_reducible apply up_value)))); refine WL.next hK (by simp only [Act.put, zpt, zsz, zss]; exact rfl) ?_; clear hK K))); (try refine WL.nil ?_))
      go_ret2
      exact ⟨(n : Int), fun m h => (by rw [hs'.out] at h; rw [Option.some.inj h]), by rw [hs'.out]; rfl, st.below⟩
theorem index_any (c : UInt8) (w : World) : Calls Tryz.prog 128 #[.string ⟨#[65, 68, 85]⟩, .string ⟨#[c]⟩] w fun e w' => e = .returned (.int .i64 (Lib.indexByte L.KLl c)) ∧ w = w' :=
  (Tryz.strings_Index_one ⟨#[65, 68, 85]⟩ c w).mono fun e w' h => ⟨h.1, h.2.symm⟩
theorem cut_any (l : List UInt8) (w : World) (hl : l.length ≤ 100000) (hE : Env w) : Calls Tryz.prog 103 #[.string ⟨l.toArray⟩, .string ⟨#[41]⟩] w fun e w' => e = .returned (.tuple #[.string ⟨(Lib.cut l [41]).1.toArray⟩, .string ⟨(Lib.cut l [41]).2.1.toArray⟩, .bool (Lib.cut l [41]).2.2]) ∧ Below w.heap.size w w' := by
  obtain ⟨m, hm⟩ := hE.max
  exact (Tryz.strings_Cut ⟨l.toArray⟩ ⟨#[41]⟩ m w (by rw [bytes_size]; omega) hm).mono fun e w' ⟨h1, n, h2⟩ => ⟨h1, by subst h2; exact ⟨rfl, rfl, rfl, Nat.le_refl _, fun _ _ => rfl⟩⟩
theorem cutPrefix_any (l p : List UInt8) (w : World) : Calls Tryz.prog 66 #[.string ⟨l.toArray⟩, .string ⟨p.toArray⟩] w fun e w' => e = .returned (.tuple #[.string ⟨(Lib.trimPrefix l p).toArray⟩, .bool (Lib.hasPrefix l p)]) ∧ w = w' :=
  (Tryz.strings_CutPrefix ⟨l.toArray⟩ ⟨p.toArray⟩ w).mono fun e w' h => ⟨h.1, h.2.symm⟩
theorem hasPrefix_any (l p : List UInt8) (w : World) : Calls Tryz.prog 102 #[.string ⟨l.toArray⟩, .string ⟨p.toArray⟩] w fun e w' => e = .returned (.bool (Lib.hasPrefix l p)) ∧ w = w' :=
  (Tryz.strings_HasPrefix ⟨l.toArray⟩ ⟨p.toArray⟩ w).mono fun e w' h => ⟨h.1, h.2.symm⟩
def strs (l : List (List UInt8)) : List Value := l.map fun x => .string ⟨x.toArray⟩
theorem split_any (l : List UInt8) (w : World) (hl : l.length ≤ 100000) (hE : Env w) : Calls Tryz.prog 127 #[.string ⟨l.toArray⟩, .string ⟨#[59]⟩] w fun e w' => ∃ b, e = .returned (.slice (some ⟨b, 0, none⟩) (Lib.split l [59]).length (Lib.split l [59]).length) ∧ St w w' [.box b 9 (strs (Lib.split l [59]))] := by
  obtain ⟨m, hm⟩ := hE.max
  have hlen : (Lib.split l [59]).length = Lib.countB ⟨l.toArray⟩ ⟨#[59]⟩ + 1 := by
    have h1 := Lib.splitB_data ⟨#[59]⟩ 0 (Lib.countB ⟨l.toArray⟩ ⟨#[59]⟩) ⟨l.toArray⟩
    have h2 := congrArg List.length h1
    rw [List.length_map, Lib.splitB_all ⟨#[59]⟩ (by decide) 0 _ _ rfl] at h2
    exact h2.symm
  have hcells : ((Lib.splitB ⟨#[59]⟩ 0 (Lib.countB ⟨l.toArray⟩ ⟨#[59]⟩) ⟨l.toArray⟩).map Value.string) = strs (Lib.split l [59]) := by
    have h1 := Lib.splitB_data ⟨#[59]⟩ 0 (Lib.countB ⟨l.toArray⟩ ⟨#[59]⟩) ⟨l.toArray⟩
    have h2 : Lib.split l [59] = (Lib.splitB ⟨#[59]⟩ 0 (Lib.countB ⟨l.toArray⟩ ⟨#[59]⟩) ⟨l.toArray⟩).map (·.data.toList) := h1.symm
    rw [h2]
    unfold strs
    rw [List.map_map]
    apply List.map_congr_left
    intro x _
    simp only [Function.comp]
  exact (Tryz.strings_Split ⟨l.toArray⟩ ⟨#[59]⟩ m w (by rw [bytes_size]; omega) hm (by decide)).mono fun e w' ⟨h1, h2⟩ => ⟨w.heap.size, by rw [h1, hlen], by
    subst h2
    rw [hcells]
    exact (St.start w).fresh ((Below.refl _ _).alloc (Nat.le_refl _) _) ⟨Nat.le_refl _, heap_alloc_new _ _⟩⟩
end Go.Proofs.YtppjhccdgbheiaaGreatDoor
namespace Go.Proofs.YtppjhccdgbheiaaGreatDoor
open Go.RowKit Go.Hp
namespace L
theorem codeAce_other {own : List UInt8} (h : (Lib.split own [59]).length ≠ 4) : codeAce own = none := by
  unfold codeAce
  split
  · rename_i h2; rw [h2] at h; exact absurd rfl h
  · rfl
theorem codeAce_four {own p0 p1 p2 p3 : List UInt8} (h : Lib.split own [59] = [p0, p1, p2, p3]) : codeAce own = if p0.length = 1 ∧ 0 ≤ Lib.indexByte KLl (p0.headD 0) ∧ numOk (dW p3) = true ∧ dR p3 = [] then
      match btsN FLl 0 p1, btsN RLl 0 p2 with
      | some f, some m => some ⟨Lib.indexByte KLl (p0.headD 0), (f : Nat), (m : Nat), (val (dW p3) : Nat)⟩
      | _, _ => none
    else none := by
  unfold codeAce
  rw [h]
  rfl
theorem piece_le {c : UInt8} {s p0 p1 p2 p3 : List UInt8} (h : Lib.split s [c] = [p0, p1, p2, p3]) : p1.length ≤ s.length ∧ p2.length ≤ s.length ∧ p3.length ≤ s.length := by
  have := congrArg List.length (split4 h).1
  simp only [List.length_append, List.length_cons] at this
  omega
end L
theorem bitsF_any (s : List UInt8) (w : World) (hl : s.length ≤ 100000) : Calls Tryz.prog 129 #[.string ⟨s.toArray⟩, .string ⟨#[102, 100, 110, 111, 105]⟩] w fun e w' => ∃ v : Int, (∀ m, L.btsN L.FLl 0 s = some m → v = (m : Int)) ∧ e = .returned (.tuple #[.int .i64 v, .bool (L.btsN L.FLl 0 s).isSome]) ∧ Below w.heap.size w w' := bitsOf_any s L.FLl w hl (by decide)
theorem bitsR_any (s : List UInt8) (w : World) (hl : s.length ≤ 100000) : Calls Tryz.prog 129 #[.string ⟨s.toArray⟩, .string ⟨#[114, 119, 97, 108, 99, 120, 115, 116, 107]⟩] w fun e w' => ∃ v : Int, (∀ m, L.btsN L.RLl 0 s = some m → v = (m : Int)) ∧ e = .returned (.tuple #[.int .i64 v, .bool (L.btsN L.RLl 0 s).isSome]) ∧ Below w.heap.size w w' := bitsOf_any s L.RLl w hl (by decide)
def RetAceIn (w : World) (o : Option L.Ace) (e : Ending) (w' : World) : Prop := ∃ k f m v : Int, (∀ a, o = some a → a = ⟨k, f, m, v⟩) ∧ e = .returned (.tuple #[.agg #[.int .i64 k, .int .i64 f, .int .i64 m, .int .i64 v], .bool o.isSome]) ∧ Below w.heap.size w w'
set_option maxRecDepth 8000 in
set_option maxHeartbeats 4000000 in
theorem aceIn_any (own : List UInt8) (w : World) (hl : own.length ≤ 100000) (hE : Env w) : Calls Tryz.prog 104 #[.string ⟨own.toArray⟩] w (RetAceIn w (L.codeAce own)) := by
  have hsz := bytes_size
  have hta := bytes_list
  have HE := Lib.hid hE
  have st := St.start w
  clear hE
  by_cases h4 : (Lib.split own [59]).length = 4
  · obtain ⟨p0, p1, p2, p3, hsp⟩ : ∃ p0 p1 p2 p3, Lib.split own [59] = [p0, p1, p2, p3] := by
      rcases hx : Lib.split own [59] with _ | ⟨p0, _ | ⟨p1, _ | ⟨p2, _ | ⟨p3, _ | ⟨p4, r⟩⟩⟩⟩⟩
      · rw [hx] at h4; simp at h4
      · rw [hx] at h4; simp at h4
      · rw [hx] at h4; simp at h4
      · rw [hx] at h4; simp at h4
      · exact ⟨p0, p1, p2, p3, rfl⟩
      · rw [hx] at h4; simp at h4
    have hc := Lib.hid (L.codeAce_four hsp)
    obtain ⟨l1, l2, l3⟩ := L.piece_le hsp
    have HS := Lib.hid (split_any own)
    rw [hsp] at HS
    clear h4 hsp
    by_cases h1 : p0.length = 1
    · obtain ⟨x, rfl⟩ : ∃ x, p0 = [x] := by
        rcases p0 with _ | ⟨x, _ | ⟨y, t⟩⟩
        · simp at h1
        · exact ⟨x, rfl⟩
        · simp at h1
      clear h1
      go_enter Tryz.func104, Tryz.ntmps104
      go_wp2_with (refine WL.out ?_; (repeat ((refine WL.op ?_ ?_; (exact rfl); intro K hK; (first | ((first | ((with_reducible apply ow_move); exact rfl) | ((with_reducible apply ow_assign); exact rfl)); (go_simp <;> (try simp (disch := omega) only [wrap_id, sub_left, zac]) <;> rfl)) | ((((with_reducible apply ow_load1 st); exact rfl; exact inferInstance; exact rfl; (exact get0))); exact rfl) | ((((with_reducible apply ow_alloc st); exact rfl; exact inferInstance; (go_simp <;> (try simp (disch := omega) only [wrap_id, sub_left, zac]) <;> rfl))); (try clear st); intro b w' st) | ((with_reducible apply ow_eval); (go_simp <;> (try simp (disch := omega) only [wrap_id, sub_left, zac]) <;> rfl); first | (with_reducible apply up_value) | ((with_reducible apply up_enter); first | (go_at_call 127; ((with_reducible refine (HS.out _ ?_ (HE.out.later st.below)).mono ?_); (focus omega)); rintro e w' ⟨b5, rfl, st'⟩; replace st := st.join st'; clear st'; simp only [strs, List.map_cons, List.map_nil, List.cons_append, List.nil_append] at st; refine ⟨_, rfl, ?_⟩) | (go_at_call 128; refine (index_any x _).mono ?_; rintro e w' ⟨rfl, rfl⟩; refine ⟨_, rfl, ?_⟩) | (go_at_call 129; ((with_reducible refine (bitsF_any p1 _ ?_).mono ?_); (focus omega)); rintro e w' ⟨vf, hvf, rfl, hb⟩; replace st := st.call hb; clear hb; replace hvf := Lib.hid hvf; refine ⟨_, rfl, ?_⟩) | (go_at_call 129; ((with_reducible refine (bitsR_any p2 _ ?_).mono ?_); (focus omega)); rintro e w' ⟨vm, hvm, rfl, hb⟩; replace st := st.call hb; clear hb; replace hvm := Lib.hid hvm; refine ⟨_, rfl, ?_⟩) | (go_at_call 67; ((with_reducible refine (natural_any p3 _ ?_ (HE.out.later st.below)).mono ?_); (focus omega)); rintro e w' ⟨vn, hvn, rfl, hb⟩; replace st := st.call hb; clear hb; replace hvn := Lib.hid hvn; refine ⟨_, rfl, ?_⟩)))); refine WL.next hK (by simp only [Act.put, zpt, zsz, zss]; exact rfl) ?_; clear hK K))); (try refine WL.nil ?_))
      have HIx : Hid (Lib.indexByte L.KLl ([x].headD 0) = Lib.indexByte L.KLl x) := Lib.hid rfl
      rw [HIx.out] at hc
      obtain ⟨I, hI⟩ : ∃ I, Lib.indexByte L.KLl x = I := ⟨_, rfl⟩
      rw [hI] at hc ⊢
      clear hI HIx
      by_cases h0 : 0 ≤ I
      · rcases hf : L.btsN L.FLl 0 p1 with _ | f
        have hno : Hid (L.codeAce own = none) := Lib.hid (by rw [hc.out]; rw [hf]; split <;> rfl)
        ((repeat (first | (refine WL.op ?_ ?_; (first | exact rfl | (simp [Region.wanted, yielded, *] <;> done)); intro K hK; (first | ((first | ((with_reducible apply ow_move); exact rfl) | ((with_reducible apply ow_assign); exact rfl)); (go_simp <;> (try simp (disch := omega) only [wrap_id, sub_left, zac]) <;> rfl)) | ((((with_reducible apply ow_storeN' st); exact rfl; exact inferInstance; exact rfl; (exact get1); exact rfl)); exact rfl; exact rfl; (simp <;> done); ((try simp only [zta, ztz, zda, zdz, zca, zcn, zan, zsz, zss]) <;> exact rfl); (try clear st); intro w' st) | ((with_reducible apply ow_eval); (go_simp <;> (try simp (disch := omega) only [wrap_id, sub_left, zac]) <;> rfl); ((with_reducible apply up_value)))); refine WL.next hK (by simp only [Act.put, zpt, zsz, zss]; exact rfl) ?_; clear hK K) | (refine WL.skip ?_ (by simp only [Act.put, zpt, zsz, zss]; exact rfl) ?_; (exact rfl)))); (try refine WL.nil ?_))
        go_wp2_with (refine WL.out ?_; (repeat (fail)); (try refine WL.nil ?_))
        refine bodyPost_cell_tmp 1 st rfl inferInstance rfl rfl rfl rfl rfl ?_
        exact ⟨_, _, _, _, fun a h => absurd (hno.out.symm.trans h) (by simp), by rw [hno.out]; rfl, st.below⟩
        · rcases hm : L.btsN L.RLl 0 p2 with _ | m
          have hno : Hid (L.codeAce own = none) := Lib.hid (by rw [hc.out]; rw [hf, hm]; split <;> rfl)
          ((repeat (first | (refine WL.op ?_ ?_; (first | exact rfl | (simp [Region.wanted, yielded, *] <;> done)); intro K hK; (first | ((first | ((with_reducible apply ow_move); exact rfl) | ((with_reducible apply ow_assign); exact rfl)); (go_simp <;> (try simp (disch := omega) only [wrap_id, sub_left, zac]) <;> rfl)) | ((((with_reducible apply ow_storeN' st); exact rfl; exact inferInstance; exact rfl; (exact get1); exact rfl)); exact rfl; exact rfl; (simp <;> done); ((try simp only [zta, ztz, zda, zdz, zca, zcn, zan, zsz, zss]) <;> exact rfl); (try clear st); intro w' st) | ((with_reducible apply ow_eval); (go_simp <;> (try simp (disch := omega) only [wrap_id, sub_left, zac]) <;> rfl); ((with_reducible apply up_value)))); refine WL.next hK (by simp only [Act.put, zpt, zsz, zss]; exact rfl) ?_; clear hK K) | (refine WL.skip ?_ (by simp only [Act.put, zpt, zsz, zss]; exact rfl) ?_; (exact rfl)))); (try refine WL.nil ?_))
          go_wp2_with (refine WL.out ?_; (repeat (fail)); (try refine WL.nil ?_))
          refine bodyPost_cell_tmp 1 st rfl inferInstance rfl rfl rfl rfl rfl ?_
          exact ⟨_, _, _, _, fun a h => absurd (hno.out.symm.trans h) (by simp), by rw [hno.out]; rfl, st.below⟩
          · cases hn : L.numOk (L.dW p3)
            have hno : Hid (L.codeAce own = none) := Lib.hid (by rw [hc.out]; rw [if_neg (by rw [hn]; simp)])
            ((repeat (first | (refine WL.op ?_ ?_; (first | exact rfl | (simp [Region.wanted, yielded, *] <;> done)); intro K hK; (first | ((first | ((with_reducible apply ow_move); exact rfl) | ((with_reducible apply ow_assign); exact rfl)); (go_simp <;> (try simp (disch := omega) only [wrap_id, sub_left, zac]) <;> rfl)) | ((((with_reducible apply ow_storeN' st); exact rfl; exact inferInstance; exact rfl; (exact get1); exact rfl)); exact rfl; exact rfl; (simp <;> done); ((try simp only [zta, ztz, zda, zdz, zca, zcn, zan, zsz, zss]) <;> exact rfl); (try clear st); intro w' st) | ((with_reducible apply ow_eval); (go_simp <;> (try simp (disch := omega) only [wrap_id, sub_left, zac]) <;> rfl); ((with_reducible apply up_value)))); refine WL.next hK (by simp only [Act.put, zpt, zsz, zss]; exact rfl) ?_; clear hK K) | (refine WL.skip ?_ (by simp only [Act.put, zpt, zsz, zss]; exact rfl) ?_; (exact rfl)))); (try refine WL.nil ?_))
            go_wp2_with (refine WL.out ?_; (repeat (fail)); (try refine WL.nil ?_))
            refine bodyPost_cell_tmp 1 st rfl inferInstance rfl rfl rfl rfl rfl ?_
            exact ⟨_, _, _, _, fun a h => absurd (hno.out.symm.trans h) (by simp), by rw [hno.out]; rfl, st.below⟩
            · have hz : L.dR p3 = [] ∨ (L.dR p3 == []) = false := by
                rcases L.dR p3 with _ | ⟨y, t⟩
                · exact .inl rfl
                · exact .inr rfl
              rcases hz with hz | hz
              · have hyes : Hid (L.codeAce own = some ⟨I, (f : Nat), (m : Nat), (L.val (L.dW p3) : Nat)⟩) := Lib.hid (by rw [hc.out, if_pos ⟨rfl, h0, hn, hz⟩, hf, hm])
                have hv1 := Lib.hid (hvf.out f hf)
                have hv2 := Lib.hid (hvm.out m hm)
                have hv3 : Hid (vn = ((L.val (L.dW p3) : Nat) : Int)) := Lib.hid (by rw [hvn.out hn]; unfold L.numV; rw [if_pos hn])
                ((repeat ((refine WL.op ?_ ?_; (first | exact rfl | (simp [Region.wanted, yielded, *] <;> done)); intro K hK; (first | ((first | ((with_reducible apply ow_move); exact rfl) | ((with_reducible apply ow_assign); exact rfl)); (go_simp <;> (try simp (disch := omega) only [wrap_id, sub_left, zac]) <;> rfl)) | ((((with_reducible apply ow_storeN' st); exact rfl; exact inferInstance; exact rfl; (exact get1); exact rfl)); exact rfl; exact rfl; (simp <;> done); ((try simp only [zta, ztz, zda, zdz, zca, zcn, zan, zsz, zss]) <;> exact rfl); (try clear st); intro w' st) | ((with_reducible apply ow_eval); (go_simp <;> (try simp (disch := omega) only [wrap_id, sub_left, zac]) <;> rfl); ((with_reducible apply up_value)))); refine WL.next hK (by simp only [Act.put, zpt, zsz, zss]; exact rfl) ?_; clear hK K))); (try refine WL.nil ?_))
                go_wp2_with (refine WL.out ?_; (repeat (fail)); (try refine WL.nil ?_))
                refine bodyPost_cell_tmp 1 st rfl inferInstance rfl rfl rfl rfl rfl ?_
                exact ⟨I, vf, vm, vn, fun a h => (by rw [hyes.out] at h; rw [← Option.some.inj h, hv1.out, hv2.out, hv3.out]), by rw [hyes.out]; rfl, st.below⟩
              · have hze : L.dR p3 ≠ [] := by intro e; rw [e] at hz; cases hz
                have hno : Hid (L.codeAce own = none) := Lib.hid (by rw [hc.out]; rw [if_neg (fun h => hze h.2.2.2)])
                ((repeat ((refine WL.op ?_ ?_; (first | exact rfl | (simp [Region.wanted, yielded, *] <;> done)); intro K hK; (first | ((first | ((with_reducible apply ow_move); exact rfl) | ((with_reducible apply ow_assign); exact rfl)); (go_simp <;> (try simp (disch := omega) only [wrap_id, sub_left, zac]) <;> rfl)) | ((((with_reducible apply ow_storeN' st); exact rfl; exact inferInstance; exact rfl; (exact get1); exact rfl)); exact rfl; exact rfl; (simp <;> done); ((try simp only [zta, ztz, zda, zdz, zca, zcn, zan, zsz, zss]) <;> exact rfl); (try clear st); intro w' st) | ((with_reducible apply ow_eval); (go_simp <;> (try simp (disch := omega) only [wrap_id, sub_left, zac]) <;> rfl); ((with_reducible apply up_value)))); refine WL.next hK (by simp only [Act.put, zpt, zsz, zss]; exact rfl) ?_; clear hK K))); (try refine WL.nil ?_))
                go_wp2_with (refine WL.out ?_; (repeat (fail)); (try refine WL.nil ?_))
                refine bodyPost_cell_tmp 1 st rfl inferInstance rfl rfl rfl rfl rfl ?_
                exact ⟨_, _, _, _, fun a h => absurd (hno.out.symm.trans h) (by simp), by rw [hno.out]; rfl, st.below⟩
      · have hno : Hid (L.codeAce own = none) := Lib.hid (by rw [hc.out]; rw [if_neg (fun h => h0 h.2.1)])
        ((repeat (first | (refine WL.op ?_ ?_; (exact rfl); intro K hK; (first | ((first | ((with_reducible apply ow_move); exact rfl) | ((with_reducible apply ow_assign); exact rfl)); (go_simp <;> (try simp (disch := omega) only [wrap_id, sub_left, zac]) <;> rfl)) | ((((with_reducible apply ow_storeN' st); exact rfl; exact inferInstance; exact rfl; (exact get1); exact rfl)); exact rfl; exact rfl; (simp <;> done); ((try simp only [zta, ztz, zda, zdz, zca, zcn, zan, zsz, zss]) <;> exact rfl); (try clear st); intro w' st) | ((with_reducible apply ow_eval); (go_simp <;> (try simp (disch := omega) only [wrap_id, sub_left, zac]) <;> rfl); ((with_reducible apply up_value)))); refine WL.next hK (by simp only [Act.put, zpt, zsz, zss]; exact rfl) ?_; clear hK K) | (refine WL.skip ?_ (by simp only [Act.put, zpt, zsz, zss]; exact rfl) ?_; (first | exact rfl | (simp [Region.wanted, yielded, *] <;> done))))); (try refine WL.nil ?_))
        go_wp2_with (refine WL.out ?_; (repeat (fail)); (try refine WL.nil ?_))
        refine bodyPost_cell_tmp 1 st rfl inferInstance rfl rfl rfl rfl rfl ?_
        exact ⟨_, _, _, _, fun a h => absurd (hno.out.symm.trans h) (by simp), by rw [hno.out]; rfl, st.below⟩
    · have hno : Hid (L.codeAce own = none) := Lib.hid (by rw [hc.out, if_neg (fun h => h1 h.1)])
      have h1' : ((p0.length : Int) != 1) = true := by simp; omega
      clear h1
      go_enter Tryz.func104, Tryz.ntmps104
      go_wp2_with (refine WL.out ?_; (repeat ((refine WL.op ?_ ?_; (exact rfl); intro K hK; (first | ((first | ((with_reducible apply ow_move); exact rfl) | ((with_reducible apply ow_assign); exact rfl)); (go_simp <;> (try simp (disch := omega) only [wrap_id, sub_left, zac]) <;> rfl)) | ((((with_reducible apply ow_load1 st); exact rfl; exact inferInstance; exact rfl; (exact get0))); exact rfl) | ((((with_reducible apply ow_alloc st); exact rfl; exact inferInstance; (go_simp <;> (try simp (disch := omega) only [wrap_id, sub_left, zac]) <;> rfl))); (try clear st); intro b w' st) | ((((with_reducible apply ow_storeN' st); exact rfl; exact inferInstance; exact rfl; (exact get1); exact rfl)); exact rfl; exact rfl; (simp <;> done); ((try simp only [zta, ztz, zda, zdz, zca, zcn, zan, zsz, zss]) <;> exact rfl); (try clear st); intro w' st) | ((with_reducible apply ow_eval); (go_simp <;> (try simp (disch := omega) only [wrap_id, sub_left, zac]) <;> rfl); first | (with_reducible apply up_value) | ((with_reducible apply up_enter); ((go_at_call 127; ((with_reducible refine (HS.out _ ?_ (HE.out.later st.below)).mono ?_); (focus omega)); rintro e w' ⟨b5, rfl, st'⟩; replace st := st.join st'; clear st'; simp only [strs, List.map_cons, List.map_nil, List.cons_append, List.nil_append] at st; refine ⟨_, rfl, ?_⟩))))); refine WL.next hK (by simp only [Act.put, zpt, zsz, zss]; exact rfl) ?_; clear hK K))); (try refine WL.nil ?_))
      refine bodyPost_cell_tmp 1 st rfl inferInstance rfl rfl rfl rfl rfl ?_
      exact ⟨0, 0, 0, 0, fun a h => absurd (hno.out.symm.trans h) (by simp), by rw [hno.out]; rfl, st.below⟩
  · have hno := Lib.hid (L.codeAce_other h4)
    have HS := Lib.hid (split_any own)
    obtain ⟨N, hN⟩ : ∃ N, (Lib.split own [59]).length = N := ⟨_, rfl⟩
    rw [hN] at HS h4
    have h4' : ((N : Int) != 4) = true := by simp; omega
    clear h4 hN
    go_enter Tryz.func104, Tryz.ntmps104
    go_wp2_with (refine WL.out ?_; (repeat (first | (refine WL.op ?_ ?_; (exact rfl); intro K hK; (first | ((first | ((with_reducible apply ow_move); exact rfl) | ((with_reducible apply ow_assign); exact rfl)); (go_simp <;> (try simp (disch := omega) only [wrap_id, sub_left, zac]) <;> rfl)) | ((((with_reducible apply ow_alloc st); exact rfl; exact inferInstance; (go_simp <;> (try simp (disch := omega) only [wrap_id, sub_left, zac]) <;> rfl))); (try clear st); intro b w' st) | ((((with_reducible apply ow_storeN' st); exact rfl; exact inferInstance; exact rfl; (exact get1); exact rfl)); exact rfl; exact rfl; (simp <;> done); ((try simp only [zta, ztz, zda, zdz, zca, zcn, zan, zsz, zss]) <;> exact rfl); (try clear st); intro w' st) | ((with_reducible apply ow_eval); (go_simp <;> (try simp (disch := omega) only [wrap_id, sub_left, zac]) <;> rfl); first | (with_reducible apply up_value) | ((with_reducible apply up_enter); ((go_at_call 127; ((with_reducible refine (HS.out _ ?_ (HE.out.later st.below)).mono ?_); (focus omega)); rintro e w' ⟨b5, rfl, st'⟩; replace st := st.join st'; clear st'; simp only [strs, List.map_cons, List.map_nil, List.cons_append, List.nil_append] at st; refine ⟨_, rfl, ?_⟩))))); refine WL.next hK (by simp only [Act.put, zpt, zsz, zss]; exact rfl) ?_; clear hK K) | (refine WL.skip ?_ (by simp only [Act.put, zpt, zsz, zss]; exact rfl) ?_; (exact rfl)))); (try refine WL.nil ?_))
    refine bodyPost_cell_tmp 1 st rfl inferInstance rfl rfl rfl rfl rfl ?_
    exact ⟨0, 0, 0, 0, fun a h => absurd (hno.out.symm.trans h) (by simp), by rw [hno.out]; rfl, st.below⟩
end Go.Proofs.YtppjhccdgbheiaaGreatDoor
namespace Go.Proofs.YtppjhccdgbheiaaGreatDoor
open Go.RowKit Go.Hp
namespace L
theorem KLl_take (k : Nat) (h : k ≤ 2) : (KLl.drop k).take 1 = kindL (k : Int) := by
  rcases (show k = 0 ∨ k = 1 ∨ k = 2 by omega) with rfl | rfl | rfl <;> rfl
theorem fmtAce_cat {a : Ace} {k f m v : Nat} (hk : a.k = (k : Int)) (hf : a.f = (f : Int)) (hm : a.m = (m : Int)) (hv : a.w = (v : Int)) (hk2 : k ≤ 2) (hf2 : f < 1000) (hm2 : m < 1000) (S : List UInt8) :
    (((((((((S ++ [40]) ++ (KLl.drop k).take 1) ++ [59]) ++ letsN f FLl) ++ [59]) ++ letsN m RLl) ++ [59]) ++ Lib.itoa (v : Int)) ++ [41]) = S ++ fmtAce a := by
  have h := fmtAce_app a []
  rw [List.append_nil] at h
  rw [h, hk, hf, hm, hv, letters_FL _ (by omega), letters_RL _ (by omega), KLl_take k hk2]
  simp
theorem itoa_len3 {n : Nat} (h : n ≤ 999) : (Lib.itoa (n : Int)).length ≤ 3 := by
  rw [itoa_nat]; exact dd_len (k := 3) (by omega) (by decide)
end L
set_option maxRecDepth 8000 in
set_option maxHeartbeats 4000000 in
theorem list_any (A : Option Addr) (n c B : Nat) (l : List L.Ace) (w : World) (h1 : Aces w B A n l) (hB1 : B ≤ w.heap.size) (hn : n ≤ 100) (hg : L.Good l) :
    Calls Tryz.prog 43 #[.slice A n c] w fun e w' => e = .returned (.string ⟨(L.fmtAces l).toArray⟩) ∧ Below w.heap.size w w' := by
  have e1 := Lib.hid h1.len
  have H1 := Lib.hid h1
  have HG := Lib.hid hg
  clear h1 hg
  have st := St.start w
  go_enter Tryz.func43, Tryz.ntmps43
  go_wp2_with (refine WL.out ?_; (repeat (fail)); (try refine WL.nil ?_))
  go_loopw [3, 4] (fun v i wr => ∃ k : Nat, k ≤ n ∧ i = .int .i64 k ∧ v = .string ⟨(L.fmtAces (l.take k)).toArray⟩ ∧ St w wr []) (fun _ i _ => n - (intOf i).toNat)
  case atStart => exact ⟨0, Nat.zero_le _, rfl, rfl, st⟩
  case round =>
    clear st
    obtain ⟨k, hk, rfl, rfl, st⟩ := hrel
    by_cases hlt : k < n
    · have hst := Lib.hid (L.fmtAces_step l k (by rw [← e1.out]; omega))
      have hgk := HG.out.ax (k := k) (by rw [← e1.out]; omega)
      obtain ⟨kn, hkn⟩ := Int.eq_ofNat_of_zero_le hgk.k0
      obtain ⟨fn, hfn⟩ := Int.eq_ofNat_of_zero_le hgk.f0
      obtain ⟨mn, hmn⟩ := Int.eq_ofNat_of_zero_le (show 0 ≤ (L.ax l k).m by have := hgk.m0; omega)
      obtain ⟨vn, hvn⟩ := Int.eq_ofNat_of_zero_le (show 0 ≤ (L.ax l k).w by have := hgk.w0; omega)
      have hk2 : kn ≤ 2 := by have := hgk.k1; omega
      have hf2 : fn < 1000 := by have := hgk.f1; omega
      have hm2 : mn < 1000 := by have := hgk.m1; omega
      have hv2 : vn ≤ 999 := by have := hgk.w1; omega
      have hcat := Lib.hid ((L.fmtAce_cat hkn hfn hmn hvn hk2 hf2 hm2 (L.fmtAces (l.take k))).trans hst.out.symm)
      have hpl : (L.fmtAces (l.take k)).length ≤ 1000000 := by
        have h1 := L.fmtAces_len (l := l.take k) fun x hx => HG.out x (List.mem_of_mem_take hx)
        have h2 := List.length_take_le k l
        omega
      have l1 : ((L.KLl.drop kn).take 1).length ≤ 1 := by rw [List.length_take]; omega
      have l1' : ((([65, 68, 85] : List UInt8).drop kn).take 1).length ≤ 1 := l1
      have l2 : (L.letsN fn L.FLl).length ≤ 5 := L.letsN_len _ _
      have l3 : (L.letsN mn L.RLl).length ≤ 9 := L.letsN_len _ _
      have l4 := L.itoa_len3 hv2
      obtain ⟨b1, o1, rfl, hb1, hc⟩ := H1.out.at_ (by omega)
      have hb1 := Nat.lt_of_lt_of_le hb1 hB1
      obtain ⟨f1, f2, f3, f4⟩ := hc k hlt
      rw [hkn] at f1
      rw [hfn] at f2
      rw [hmn] at f3
      rw [hvn] at f4
      clear hc hgk hkn hfn hmn hvn
      go_wp2_with (refine WL.out ?_; (repeat ((refine WL.op ?_ ?_; (exact rfl); intro K hK; (first | ((((with_reducible apply ow_alloc st); exact rfl; exact inferInstance; (go_simp <;> (try simp (disch := omega) only [wrap_id, sub_left, zac]) <;> rfl))); (try clear st); intro b w' st) | ((((with_reducible apply ow_storeN' st); exact rfl; exact inferInstance; exact rfl; (exact get0); exact rfl)); exact rfl; exact rfl; (simp <;> done); ((try simp only [zta, ztz, zda, zdz, zca, zcn, zan, zsz, zss]) <;> exact rfl); (try clear st); intro w' st) | ((with_reducible apply ow_old4 st); exact rfl; exact inferInstance; exact rfl; assumption; assumption; assumption; assumption; assumption) | ((with_reducible apply ow_eval); (go_simp <;> (try simp (disch := omega) only [wrap_id, sub_left, zac]) <;> rfl); ((with_reducible apply up_value)))); refine WL.next hK (by simp only [Act.put, zpt, zsz, zss]; exact rfl) ?_; clear hK K))); (try refine WL.nil ?_))
      refine wp_region_plan 24 (by kernel_rfl) (by kernel_rfl) ?_; replace st := st.drew; generalize World.drew _ = W at st ⊢
      (apply Plan.val'; (focus (intro x0 x1 x2 x3 x4 x5 x6 x7 x8 x9 x10 x11 x12 x13 x14 x15 x16 x17 x18 x19 x20 x21 x22 x23 w1 hb; (try simp only [depF, fillA, Act.put, zta, ztz, zpt, zsz, zss, zl0, zls]); (repeat (fail)); have st := st.call hb; ((apply Yphi.run; (exact rfl); (go_simp <;> (try simp (disch := omega) only [wrap_id, sub_left, zac]) <;> rfl); exact rfl)))); (simp only [zca, zcn] <;> exact rfl))
      (apply Plan.val'; (focus (intro x0 x1 x2 x3 x4 x5 x6 x7 x8 x9 x10 x11 x12 x13 x14 x15 x16 x17 x18 x19 x20 x21 x22 x23 w1 hb; (try simp only [depF, fillA, Act.put, zta, ztz, zpt, zsz, zss, zl0, zls]); (repeat (rintro rfl)); have st := st.call hb; apply Yphi.cat; (exact rfl); exact rfl; exact rfl; exact rfl; (focus (simp only [List.length_append, List.length_cons, List.length_nil]; omega)))); (simp only [zca, zcn] <;> exact rfl))
      iterate 5 (apply Plan.val'; (focus (intro x0 x1 x2 x3 x4 x5 x6 x7 x8 x9 x10 x11 x12 x13 x14 x15 x16 x17 x18 x19 x20 x21 x22 x23 w1 hb; (try simp only [depF, fillA, Act.put, zta, ztz, zpt, zsz, zss, zl0, zls]); (repeat (rintro rfl)); have st := st.call hb; (first | (apply Yphi.run; (exact rfl); (go_simp <;> (try simp (disch := omega) only [wrap_id, sub_left, zac]) <;> rfl); exact rfl) | (apply Yphi.load1 st; exact rfl; exact inferInstance; (exact rfl); exact rfl; (exact get0); exact rfl)))); (simp only [zca, zcn] <;> exact rfl))
      (apply Plan.val'; (focus (intro x0 x1 x2 x3 x4 x5 x6 x7 x8 x9 x10 x11 x12 x13 x14 x15 x16 x17 x18 x19 x20 x21 x22 x23 w1 hb; (try simp only [depF, fillA, Act.put, zta, ztz, zpt, zsz, zss, zl0, zls]); (repeat (rintro rfl)); have st := st.call hb; apply Yphi.sub1 (kn); (exact rfl); exact rfl; exact Tryz.underlying9; exact rfl; exact rfl; exact rfl; (focus (exact rfl)); (focus (exact rfl)); (focus ((show _ < 3; omega))))); (simp only [zca, zcn] <;> exact rfl))
      iterate 2 (apply Plan.val'; (focus (intro x0 x1 x2 x3 x4 x5 x6 x7 x8 x9 x10 x11 x12 x13 x14 x15 x16 x17 x18 x19 x20 x21 x22 x23 w1 hb; (try simp only [depF, fillA, Act.put, zta, ztz, zpt, zsz, zss, zl0, zls]); (repeat (rintro rfl)); have st := st.call hb; apply Yphi.cat; (exact rfl); exact rfl; exact rfl; exact rfl; (focus (simp only [List.length_append, List.length_cons, List.length_nil]; omega)))); (simp only [zca, zcn] <;> exact rfl))
      iterate 2 (apply Plan.val'; (focus (intro x0 x1 x2 x3 x4 x5 x6 x7 x8 x9 x10 x11 x12 x13 x14 x15 x16 x17 x18 x19 x20 x21 x22 x23 w1 hb; (try simp only [depF, fillA, Act.put, zta, ztz, zpt, zsz, zss, zl0, zls]); (repeat (rintro rfl)); have st := st.call hb; (first | (apply Yphi.run; (exact rfl); (go_simp <;> (try simp (disch := omega) only [wrap_id, sub_left, zac]) <;> rfl); exact rfl) | (apply Yphi.load1 st; exact rfl; exact inferInstance; (exact rfl); exact rfl; (exact get0); exact rfl)))); (simp only [zca, zcn] <;> exact rfl))
      (apply Plan.val'; (focus (intro x0 x1 x2 x3 x4 x5 x6 x7 x8 x9 x10 x11 x12 x13 x14 x15 x16 x17 x18 x19 x20 x21 x22 x23 w1 hb; (try simp only [depF, fillA, Act.put, zta, ztz, zpt, zsz, zss, zl0, zls]); (repeat (rintro rfl)); have st := st.call hb; apply Yphi.call; (exact rfl); (go_simp <;> (try simp (disch := omega) only [wrap_id, sub_left, zac]) <;> rfl); exact rfl; refine (bits_any fn L.FLl _ (by omega) (by decide)).mono ?_; rintro e w' ⟨rfl, hb'⟩; exact ⟨_, rfl, hb', rfl⟩)); (simp only [zca, zcn] <;> exact rfl))
      iterate 2 (apply Plan.val'; (focus (intro x0 x1 x2 x3 x4 x5 x6 x7 x8 x9 x10 x11 x12 x13 x14 x15 x16 x17 x18 x19 x20 x21 x22 x23 w1 hb; (try simp only [depF, fillA, Act.put, zta, ztz, zpt, zsz, zss, zl0, zls]); (repeat (rintro rfl)); have st := st.call hb; apply Yphi.cat; (exact rfl); exact rfl; exact rfl; exact rfl; (focus (simp only [List.length_append, List.length_cons, List.length_nil]; omega)))); (simp only [zca, zcn] <;> exact rfl))
      iterate 2 (apply Plan.val'; (focus (intro x0 x1 x2 x3 x4 x5 x6 x7 x8 x9 x10 x11 x12 x13 x14 x15 x16 x17 x18 x19 x20 x21 x22 x23 w1 hb; (try simp only [depF, fillA, Act.put, zta, ztz, zpt, zsz, zss, zl0, zls]); (repeat (rintro rfl)); have st := st.call hb; (first | (apply Yphi.run; (exact rfl); (go_simp <;> (try simp (disch := omega) only [wrap_id, sub_left, zac]) <;> rfl); exact rfl) | (apply Yphi.load1 st; exact rfl; exact inferInstance; (exact rfl); exact rfl; (exact get0); exact rfl)))); (simp only [zca, zcn] <;> exact rfl))
      (apply Plan.val'; (focus (intro x0 x1 x2 x3 x4 x5 x6 x7 x8 x9 x10 x11 x12 x13 x14 x15 x16 x17 x18 x19 x20 x21 x22 x23 w1 hb; (try simp only [depF, fillA, Act.put, zta, ztz, zpt, zsz, zss, zl0, zls]); (repeat (rintro rfl)); have st := st.call hb; apply Yphi.call; (exact rfl); (go_simp <;> (try simp (disch := omega) only [wrap_id, sub_left, zac]) <;> rfl); exact rfl; refine (bits_any mn L.RLl _ (by omega) (by decide)).mono ?_; rintro e w' ⟨rfl, hb'⟩; exact ⟨_, rfl, hb', rfl⟩)); (simp only [zca, zcn] <;> exact rfl))
      iterate 2 (apply Plan.val'; (focus (intro x0 x1 x2 x3 x4 x5 x6 x7 x8 x9 x10 x11 x12 x13 x14 x15 x16 x17 x18 x19 x20 x21 x22 x23 w1 hb; (try simp only [depF, fillA, Act.put, zta, ztz, zpt, zsz, zss, zl0, zls]); (repeat (rintro rfl)); have st := st.call hb; apply Yphi.cat; (exact rfl); exact rfl; exact rfl; exact rfl; (focus (simp only [List.length_append, List.length_cons, List.length_nil]; omega)))); (simp only [zca, zcn] <;> exact rfl))
      iterate 2 (apply Plan.val'; (focus (intro x0 x1 x2 x3 x4 x5 x6 x7 x8 x9 x10 x11 x12 x13 x14 x15 x16 x17 x18 x19 x20 x21 x22 x23 w1 hb; (try simp only [depF, fillA, Act.put, zta, ztz, zpt, zsz, zss, zl0, zls]); (repeat (rintro rfl)); have st := st.call hb; (first | (apply Yphi.run; (exact rfl); (go_simp <;> (try simp (disch := omega) only [wrap_id, sub_left, zac]) <;> rfl); exact rfl) | (apply Yphi.load1 st; exact rfl; exact inferInstance; (exact rfl); exact rfl; (exact get0); exact rfl)))); (simp only [zca, zcn] <;> exact rfl))
      (apply Plan.val'; (focus (intro x0 x1 x2 x3 x4 x5 x6 x7 x8 x9 x10 x11 x12 x13 x14 x15 x16 x17 x18 x19 x20 x21 x22 x23 w1 hb; (try simp only [depF, fillA, Act.put, zta, ztz, zpt, zsz, zss, zl0, zls]); (repeat (rintro rfl)); have st := st.call hb; apply Yphi.call; (exact rfl); (go_simp <;> (try simp (disch := omega) only [wrap_id, sub_left, zac]) <;> rfl); exact rfl; refine (Decimal_any vn _ (by omega)).mono ?_; rintro e w' ⟨rfl, hb'⟩; exact ⟨_, rfl, hb', rfl⟩)); (simp only [zca, zcn] <;> exact rfl))
      (apply Plan.val'; (focus (intro x0 x1 x2 x3 x4 x5 x6 x7 x8 x9 x10 x11 x12 x13 x14 x15 x16 x17 x18 x19 x20 x21 x22 x23 w1 hb; (try simp only [depF, fillA, Act.put, zta, ztz, zpt, zsz, zss, zl0, zls]); (repeat (rintro rfl)); have st := st.call hb; apply Yphi.cat; (exact rfl); exact rfl; exact rfl; exact rfl; (focus (simp only [List.length_append, List.length_cons, List.length_nil]; omega)))); (simp only [zca, zcn] <;> exact rfl))
      intro x0 x1 x2 x3 x4 x5 x6 x7 x8 x9 x10 x11 x12 x13 x14 x15 x16 x17 x18 x19 x20 x21 x22 x23 lo hi w1 hb hap
      rintro rfl rfl rfl rfl rfl rfl rfl rfl rfl rfl rfl rfl rfl rfl rfl rfl rfl rfl rfl rfl rfl rfl rfl rfl
      simp only [allPhi, fillA, Act.put, zta, ztz, zpt, zsz, zss, zda, zdz]
      have st := st.call hb
      clear hap hb
      go_wp2_with (refine WL.out ?_; (repeat ((refine WL.op ?_ ?_; (exact rfl); intro K hK; (first | ((((with_reducible apply ow_assign); exact rfl)); (go_simp <;> (try simp (disch := omega) only [wrap_id, sub_left, zac]) <;> rfl)) | ((with_reducible apply ow_cat); exact rfl; exact rfl; exact rfl; (focus (simp only [List.length_append, List.length_cons, List.length_nil]; omega))) | ((with_reducible apply ow_eval); (go_simp <;> (try simp (disch := omega) only [wrap_id, sub_left, zac]) <;> rfl); ((with_reducible apply up_value)))); refine WL.next hK (by simp only [Act.put, zpt, zsz, zss]; exact rfl) ?_; clear hK K))); (try refine WL.nil ?_))
      exact ⟨⟨k + 1, by omega, by go_num, by rw [← hcat.out]; simp [L.KLl], st.sub (List.nil_sublist _)⟩, by simp [intOf]; omega⟩
    · have hs' : Hid (l.take k = l) := Lib.hid (List.take_of_length_le (by rw [← e1.out]; omega))
      go_wp2_with (refine WL.out ?_; (repeat ((refine WL.op ?_ ?_; (exact rfl); intro K hK; (((with_reducible apply ow_eval); (go_simp <;> (try simp (disch := omega) only [wrap_id, sub_left, zac]) <;> rfl); ((with_reducible apply up_value)))); refine WL.next hK (by simp only [Act.put, zpt, zsz, zss]; exact rfl) ?_; clear hK K))); (try refine WL.nil ?_))
      go_ret
      exact ⟨by rw [hs'.out]; rfl, st.below⟩
set_option maxRecDepth 8000 in
set_option maxHeartbeats 4000000 in
theorem Format_any (d : L.Desc) (A1 A2 : Option Addr) (n1 n2 c1 c2 B : Nat) (w : World) (h1 : Aces w B A1 n1 d.e) (h2 : Aces w B A2 n2 d.a) (hB1 : B ≤ w.heap.size) (hn1 : n1 ≤ 100) (hn2 : n2 ≤ 100) (hx : d.err.2 = 0) :
    Calls Tryz.prog 24 #[.agg #[.int .i64 d.o, .int .i64 d.g, .bool d.p, .bool d.h, .slice A1 n1 c1, .slice A2 n2 c2]] w fun e w' => e = .returned (.string ⟨d.fmt.toArray⟩) ∧ Below w.heap.size w w' := by
  have e1 := Lib.hid h1.len
  have e2 := Lib.hid h2.len
  have H1 := Lib.hid h1
  have H2 := Lib.hid h2
  have G1 := Lib.hid (L.Desc.err_e hx)
  have G2 := Lib.hid (L.Desc.err_a hx)
  have hh := L.Desc.err_holders hx
  have lf1 : (L.fmtAces d.e).length ≤ 1000000 := by have := L.fmtAces_len G1.out; have := e1.out; omega
  have lf2 : (L.fmtAces d.a).length ≤ 1000000 := by have := L.fmtAces_len G2.out; have := e2.out; omega
  clear h1 h2 hx
  have st := St.start w
  obtain ⟨do_, dg, dp, dh, de, da⟩ := d
  simp only [] at hh e1 e2 H1 H2 G1 G2 lf1 lf2
  obtain ⟨on, rfl⟩ := Int.eq_ofNat_of_zero_le (show 0 ≤ do_ by omega)
  obtain ⟨gn, rfl⟩ := Int.eq_ofNat_of_zero_le (show 0 ≤ dg by omega)
  have ho : on ≤ 999 := by omega
  have hg : gn ≤ 999 := by omega
  clear hh
  have li1 := L.itoa_len3 ho
  have li2 := L.itoa_len3 hg
  rcases (show (dp = true ∧ dh = true) ∨ (dp = true ∧ dh = false) ∨ (dp = false ∧ dh = true) ∨ (dp = false ∧ dh = false) by cases dp <;> cases dh <;> simp) with ⟨rfl, rfl⟩ | ⟨rfl, rfl⟩ | ⟨rfl, rfl⟩ | ⟨rfl, rfl⟩
  all_goals
    by_cases h0 : 0 < n2
    all_goals
      go_enter Tryz.func24, Tryz.ntmps24
      go_wp2_with (refine WL.out ?_; (repeat ((refine WL.op ?_ ?_; (exact rfl); intro K hK; (first | ((((with_reducible apply ow_assign); exact rfl)); (go_simp <;> (try simp (disch := omega) only [wrap_id, sub_left, zac]) <;> rfl)) | ((((with_reducible apply ow_box st); exact rfl; (go_simp <;> (try simp (disch := omega) only [wrap_id, sub_left, zac]) <;> rfl); (go_simp <;> (try simp (disch := omega) only [wrap_id, sub_left, zac]) <;> rfl))); (try clear st); intro b w' st)); refine WL.next hK (by simp only [Act.put, zpt, zsz, zss]; exact rfl) ?_; clear hK K))); (try refine WL.nil ?_))
      refine wp_region_plan 8 (by kernel_rfl) (by kernel_rfl) ?_; replace st := st.drew; generalize World.drew _ = W at st ⊢
      iterate 2 (apply Plan.val'; (focus (intro x0 x1 x2 x3 x4 x5 x6 x7 w1 hb; (try simp only [depF, fillA, Act.put, zta, ztz, zpt, zsz, zss, zl0, zls]); (repeat (rintro rfl)); have st := st.call hb; (first | (apply Yphi.run; (exact rfl); (go_simp <;> (try simp (disch := omega) only [wrap_id, sub_left, zac]) <;> rfl); exact rfl) | (apply Yphi.load1 st; exact rfl; exact inferInstance; (exact rfl); exact rfl; (exact get0); exact rfl)))); (simp only [zca, zcn] <;> exact rfl))
      (apply Plan.val'; (focus (intro x0 x1 x2 x3 x4 x5 x6 x7 w1 hb; (try simp only [depF, fillA, Act.put, zta, ztz, zpt, zsz, zss, zl0, zls]); (repeat (rintro rfl)); have st := st.call hb; apply Yphi.call; (exact rfl); (go_simp <;> (try simp (disch := omega) only [wrap_id, sub_left, zac]) <;> rfl); exact rfl; refine (Decimal_any on _ (by omega)).mono ?_; rintro e w' ⟨rfl, hb'⟩; exact ⟨_, rfl, hb', rfl⟩)); (simp only [zca, zcn] <;> exact rfl))
      iterate 2 (apply Plan.val'; (focus (intro x0 x1 x2 x3 x4 x5 x6 x7 w1 hb; (try simp only [depF, fillA, Act.put, zta, ztz, zpt, zsz, zss, zl0, zls]); (repeat (rintro rfl)); have st := st.call hb; apply Yphi.cat; (exact rfl); exact rfl; exact rfl; exact rfl; (focus (simp only [List.length_append, List.length_cons, List.length_nil]; omega)))); (simp only [zca, zcn] <;> exact rfl))
      iterate 2 (apply Plan.val'; (focus (intro x0 x1 x2 x3 x4 x5 x6 x7 w1 hb; (try simp only [depF, fillA, Act.put, zta, ztz, zpt, zsz, zss, zl0, zls]); (repeat (rintro rfl)); have st := st.call hb; (first | (apply Yphi.run; (exact rfl); (go_simp <;> (try simp (disch := omega) only [wrap_id, sub_left, zac]) <;> rfl); exact rfl) | (apply Yphi.load1 st; exact rfl; exact inferInstance; (exact rfl); exact rfl; (exact get0); exact rfl)))); (simp only [zca, zcn] <;> exact rfl))
      (apply Plan.val'; (focus (intro x0 x1 x2 x3 x4 x5 x6 x7 w1 hb; (try simp only [depF, fillA, Act.put, zta, ztz, zpt, zsz, zss, zl0, zls]); (repeat (rintro rfl)); have st := st.call hb; apply Yphi.call; (exact rfl); (go_simp <;> (try simp (disch := omega) only [wrap_id, sub_left, zac]) <;> rfl); exact rfl; refine (Decimal_any gn _ (by omega)).mono ?_; rintro e w' ⟨rfl, hb'⟩; exact ⟨_, rfl, hb', rfl⟩)); (simp only [zca, zcn] <;> exact rfl))
      intro x0 x1 x2 x3 x4 x5 x6 x7 lo hi w1 hb hap
      rintro rfl rfl rfl rfl rfl rfl rfl rfl
      simp only [allPhi, fillA, Act.put, zta, ztz, zpt, zsz, zss, zda, zdz]
      have st := st.call hb
      clear hap hb
      go_wp2_with (refine WL.out ?_; (repeat ((refine WL.op ?_ ?_; (exact rfl); intro K hK; (first | ((((with_reducible apply ow_assign); exact rfl)); (go_simp <;> (try simp (disch := omega) only [wrap_id, sub_left, zac]) <;> rfl)) | ((((with_reducible apply ow_load1 st); exact rfl; exact inferInstance; exact rfl; (exact get0))); exact rfl) | ((with_reducible apply ow_cat); exact rfl; exact rfl; exact rfl; (focus (simp only [List.length_append, List.length_cons, List.length_nil]; omega))) | ((with_reducible apply ow_eval); (go_simp <;> (try simp (disch := omega) only [wrap_id, sub_left, zac]) <;> rfl); first | (with_reducible apply up_value) | ((with_reducible apply up_enter); first | (go_at_call 43; ((with_reducible refine (list_any A1 n1 c1 B de _ ?_ ?_ ?_ ?_).mono ?_); exact (H1.out.st st hB1); exact (Nat.le_trans hB1 st.size); exact hn1; exact G1.out); rintro e w' ⟨rfl, hb⟩; replace st := st.call hb; clear hb; refine ⟨_, rfl, ?_⟩) | (go_at_call 43; ((with_reducible refine (list_any A2 n2 c2 B da _ ?_ ?_ ?_ ?_).mono ?_); exact (H2.out.st st hB1); exact (Nat.le_trans hB1 st.size); exact hn2; exact G2.out); rintro e w' ⟨rfl, hb⟩; replace st := st.call hb; clear hb; refine ⟨_, rfl, ?_⟩)))); refine WL.next hK (by simp only [Act.put, zpt, zsz, zss]; exact rfl) ?_; clear hK K))); (try refine WL.nil ?_))
      go_ret
      refine ⟨?_, st.below⟩
      refine congrArg (fun l : List UInt8 => Ending.returned (.string ⟨l.toArray⟩)) (?_ : _ = L.Desc.fmt ⟨(on : Int), (gn : Int), _, _, de, da⟩)
      unfold L.Desc.fmt L.Desc.mid
      have hz : (da.length = 0) = (n2 = 0) := by rw [e2.out]
      simp only [hz]
      first | (rw [if_neg (show ¬ n2 = 0 by omega)]; simp; done) | (rw [if_pos (show n2 = 0 by omega)]; simp; done)
end Go.Proofs.YtppjhccdgbheiaaGreatDoor
namespace Go.Proofs.YtppjhccdgbheiaaGreatDoor
open Go.RowKit Go.Hp
namespace L
def kd (s : List UInt8) : Nat → Int
  | 0 => -1
  | i + 1 => if (bx [65, 68, 85] i == bx s 1) = true then (i : Int) else kd s i
theorem kd_step (s : List UInt8) (i : Nat) : kd s (i + 1) = if (bx [65, 68, 85] i == bx s 1) = true then (i : Int) else kd s i := rfl
theorem kd_kind {s : List UInt8} (h : 1 < s.length) : kd s 3 = kindOf s := by
  obtain ⟨c, hc⟩ : ∃ c, s[1]? = some c := ⟨s[1], List.getElem?_eq_getElem h⟩
  unfold kindOf
  rw [kd_step, kd_step, kd_step, bx_eq (l := [65, 68, 85]) (i := 2) (c := 85) rfl hc, bx_eq (l := [65, 68, 85]) (i := 1) (c := 68) rfl hc, bx_eq (l := [65, 68, 85]) (i := 0) (c := 65) rfl hc, hc]
  have e : ∀ x : UInt8, ((x == c) = true) = (some c = some x) := fun x => by
    rw [beq_iff_eq]
    exact propext ⟨fun h => by rw [h], fun h => (Option.some.inj h).symm⟩
  simp only [e]
  rfl
theorem kindOf_short {s : List UInt8} (h : ¬ 1 < s.length) : kindOf s = -1 := by
  have : s[1]? = none := List.getElem?_eq_none (by omega)
  unfold kindOf
  rw [this]; rfl
theorem kindOf_ge (s : List UInt8) : -1 ≤ kindOf s ∧ kindOf s ≤ 2 := by
  unfold kindOf
  split
  · decide
  · split
    · decide
    · split <;> decide
theorem ace1_kind {s : List UInt8} (h : kindOf s < 0) : ace1 s = none := by unfold ace1; rw [if_pos (.inl h)]
theorem ace1_short {s : List UInt8} (h : s.length < 3) : ace1 s = none := by unfold ace1; rw [if_pos (.inr (.inl h))]
theorem ace1_mark {s : List UInt8} (h : (bx s 2 != 59) = true) : ace1 s = none := by
  have hne : s[2]? ≠ some 59 := by
    intro e
    have e2 : bx s 2 = 59 := by unfold bx; rw [e]; rfl
    rw [e2] at h
    exact absurd h (by decide)
  unfold ace1
  rw [if_pos (.inr (.inr hne))]
def r1 (s : List UInt8) : List UInt8 := (ltsN FLl (s.drop 3)).2
def r2 (s : List UInt8) : List UInt8 := (ltsN RLl (Lib.trimPrefix (r1 s) [59])).2
def r3 (s : List UInt8) : List UInt8 := Lib.trimPrefix (r2 s) [59]
theorem mark59 {s : List UInt8} (h : (bx s 2 != 59) = false) (hl : ¬ s.length < 3) : s[2]? = some 59 := by
  rw [List.getElem?_eq_getElem (by omega)]
  unfold bx at h
  rw [List.getElem?_eq_getElem (by omega)] at h
  simp only [Option.getD_some, bne_eq_false_iff_eq] at h
  exact congrArg some (UInt8.toNat_inj.1 (by have : (59 : UInt8).toNat = 59 := rfl
                                             omega))
theorem ace1_rest {s : List UInt8} (hk : ¬ kindOf s < 0) (hl : ¬ s.length < 3) (h : (bx s 2 != 59) = false) :
    ace1 s = if Lib.hasPrefix (r1 s) [59] = true ∧ Lib.hasPrefix (r2 s) [59] = true ∧ numOk (dW (r3 s)) = true ∧ Lib.hasPrefix (dR (r3 s)) [41] = true then some (aceOf s, Lib.trimPrefix (dR (r3 s)) [41]) else none := by
  unfold ace1
  rw [if_neg (by rw [mark59 h hl]; simp; omega)]
  rfl
end L
namespace L
theorem trim_le (l p : List UInt8) : (Lib.trimPrefix l p).length ≤ l.length := by
  unfold Lib.trimPrefix
  split
  · rw [List.length_drop]; omega
  · exact Nat.le_refl _
theorem lts_le (all s : List UInt8) : (ltsN all s).2.length ≤ s.length := by
  have h := congrArg List.length (ltsN_spec all s).1
  rw [List.length_append] at h
  omega
theorem dR_le (s : List UInt8) : (dR s).length ≤ s.length := by
  have := congrArg List.length (dW_dR s)
  rw [List.length_append] at this
  omega
theorem r1_le (s : List UInt8) : (r1 s).length ≤ s.length := Nat.le_trans (lts_le _ _) (by rw [List.length_drop]; omega)
theorem r2_le (s : List UInt8) : (r2 s).length ≤ s.length := Nat.le_trans (lts_le _ _) (Nat.le_trans (trim_le _ _) (r1_le s))
theorem r3_le (s : List UInt8) : (r3 s).length ≤ s.length := Nat.le_trans (trim_le _ _) (r2_le s)
theorem aceOf_w {s : List UInt8} (h : numOk (dW (r3 s)) = true) : numV (dW (r3 s)) = (aceOf s).w := by unfold numV; rw [if_pos h]; rfl
theorem head40 {s : List UInt8} (h0 : 0 < s.length) (h : (bx s 0 == 40) = true) : s.head? = some 40 := by
  rcases s with _ | ⟨c, t⟩
  · simp at h0
  · unfold bx at h
    simp only [List.getElem?_cons_zero, Option.getD_some, beq_iff_eq] at h
    exact congrArg some (UInt8.toNat_inj.1 (by have : (40 : UInt8).toNat = 40 := rfl
                                               omega))
theorem head_not {s : List UInt8} (h : ¬ (0 < s.length ∧ (bx s 0 == 40) = true)) : s.head? ≠ some 40 := by
  intro e
  rcases s with _ | ⟨c, t⟩
  · simp at e
  · have e1 : c = 40 := by simpa using e
    subst e1
    exact h ⟨by simp, rfl⟩
end L
theorem rLF_any (s : List UInt8) (w : World) (hl : s.length ≤ 100000) : Calls Tryz.prog 106 #[.string ⟨(s.drop 3).toArray⟩, .string ⟨#[102, 100, 110, 111, 105]⟩] w fun e w' => e = .returned (.tuple #[.int .i64 (L.aceOf s).f, .string ⟨(L.r1 s).toArray⟩]) ∧ Below w.heap.size w w' :=
  rLetters_any L.FLl (s.drop 3) w (by decide) (by rw [List.length_drop]; omega)
theorem rLR_any (s : List UInt8) (w : World) (hl : s.length ≤ 100000) : Calls Tryz.prog 106 #[.string ⟨(Lib.trimPrefix (L.r1 s) [59]).toArray⟩, .string ⟨#[114, 119, 97, 108, 99, 120, 115, 116, 107]⟩] w fun e w' => e = .returned (.tuple #[.int .i64 (L.aceOf s).m, .string ⟨(L.r2 s).toArray⟩]) ∧ Below w.heap.size w w' :=
  rLetters_any L.RLl (Lib.trimPrefix (L.r1 s) [59]) w (by decide) (by have := L.trim_le (L.r1 s) [59]; have := L.r1_le s; omega)
theorem rNum_any (s : List UInt8) (w : World) (hl : s.length ≤ 100000) : Calls Tryz.prog 70 #[.string ⟨(Lib.trimPrefix (L.r2 s) [59]).toArray⟩] w fun e w' => e = .returned (.tuple #[.int .i64 (L.numV (L.dW (L.r3 s))), .string ⟨(L.dR (L.r3 s)).toArray⟩, .bool (L.numOk (L.dW (L.r3 s)))]) ∧ Below w.heap.size w w' :=
  number_any (L.r3 s) w (by have := L.r3_le s; omega)
def L.sz : Value → Nat
  | .string b => b.size
  | _ => 0
def RetEnts (w : World) (o : Option (List L.Ace × List UInt8)) (e : Ending) (w' : World) : Prop :=
  (∃ (l : List L.Ace) (r : List UInt8) (A : Option Addr) (n c : Nat), o = some (l, r) ∧ e = .returned (.tuple #[.slice A n c, .string ⟨r.toArray⟩, .bool true]) ∧ St w w' [aceRow (.slice A n c) n l]) ∨
  (∃ r : List UInt8, o = none ∧ e = .returned (.tuple #[.slice none 0 0, .string ⟨r.toArray⟩, .bool false]) ∧ Below w.heap.size w w')
set_option maxRecDepth 8000 in
set_option maxHeartbeats 4000000 in
theorem entries_any (s : List UInt8) (w : World) (hl : s.length ≤ 100000) : Calls Tryz.prog 71 #[.string ⟨s.toArray⟩] w (RetEnts w (L.entries s)) := by
  have hsz := bytes_size
  have st := St.start w
  go_enter Tryz.func71, Tryz.ntmps71
  go_wp2_with (refine WL.out ?_; (repeat (fail)); (try refine WL.nil ?_))
  go_loopw [0, 5] (fun v x wr => ∃ (s' : List UInt8) (l0 : List L.Ace) (A : Option Addr) (n c : Nat), v = .string ⟨s'.toArray⟩ ∧ x = .slice A n c ∧ s'.length ≤ 100000 ∧ n + s'.length ≤ 100000 ∧ Hid (L.entries s = (L.entries s').map fun p => (l0 ++ p.1, p.2)) ∧ St w wr [aceRow (.slice A n c) n l0]) (fun v _ _ => L.sz v)
  case atStart => exact ⟨s, [], none, 0, 0, rfl, rfl, hl, by omega, Lib.hid (by simp), st.nilRow _ _⟩
  case round =>
    clear st
    obtain ⟨s', l0, A, n, c, rfl, rfl, hl', hn, hs, st⟩ := hrel
    by_cases h0 : 0 < s'.length ∧ (L.bx s' 0 == 40) = true
    · obtain ⟨h0, h40⟩ := h0
      have hi0 : (0 : Int) < (s'.length : Int) := by omega
      have hH := Lib.hid (L.head40 h0 h40)
      go_wp2_with (refine WL.out ?_; (repeat ((refine WL.op ?_ ?_; (exact rfl); intro K hK; (first | ((((with_reducible apply ow_move); exact rfl)); (go_simp <;> (try simp (disch := omega) only [wrap_id, sub_left, zac]) <;> rfl)) | ((((with_reducible apply ow_alloc st); exact rfl; exact inferInstance; (go_simp <;> (try simp (disch := omega) only [wrap_id, sub_left, zac]) <;> rfl))); (try clear st); intro b w' st) | ((((with_reducible apply ow_storeN' st); exact rfl; exact inferInstance; exact rfl; (exact get0); exact rfl)); exact rfl; exact rfl; (simp <;> done); ((try simp only [zta, ztz, zda, zdz, zca, zcn, zan, zsz, zss]) <;> exact rfl); (try clear st); intro w' st) | ((with_reducible apply ow_char (0)); exact rfl; exact Tryz.underlying9; exact rfl; exact rfl; (focus (exact rfl)); (focus omega)) | ((with_reducible apply ow_eval); (go_simp <;> (try simp (disch := omega) only [wrap_id, sub_left, zac]) <;> rfl); ((with_reducible apply up_value)))); refine WL.next hK (by simp only [Act.put, zpt, zsz, zss]; exact rfl) ?_; clear hK K))); (try refine WL.nil ?_))
      clear h40 hi0
      go_loopw [7] (fun x wr => ∃ (i : Nat), i ≤ 3 ∧ (¬ 1 < s'.length → i = 0) ∧ x = .int .i64 i ∧ St w wr [.box b 37 [.int .i64 (L.kd s' i), .int .i64 0, .int .i64 0, .int .i64 0], aceRow (.slice A n c) n l0]) (fun x _ => 3 - (intOf x).toNat)
      case atStart => exact ⟨0, by omega, fun _ => rfl, rfl, st⟩
      case round =>
        clear st
        obtain ⟨i, hi, hi1, rfl, st⟩ := hrel
        by_cases hin : i < 3 ∧ 1 < s'.length
        · obtain ⟨hi3, hs1⟩ := hin
          have hi3' : (i : Int) < 3 := by omega
          have hs1' : (1 : Int) < (s'.length : Int) := by omega
          clear hi1
          cases hq : (L.bx [65, 68, 85] i == L.bx s' 1)
          · have hkd : Hid (L.kd s' (i + 1) = L.kd s' i) := Lib.hid (by rw [L.kd_step, hq]; rfl)
            go_wp2_with (refine WL.out ?_; (repeat ((refine WL.op ?_ ?_; (exact rfl); intro K hK; (first | ((((with_reducible apply ow_move); exact rfl)); (go_simp <;> (try simp (disch := omega) only [wrap_id, sub_left, zac]) <;> rfl)) | ((with_reducible apply ow_eval); (go_simp <;> (try simp (disch := omega) only [wrap_id, sub_left, zac]) <;> rfl); ((with_reducible apply up_value)))); refine WL.next hK (by simp only [Act.put, zpt, zsz, zss]; exact rfl) ?_; clear hK K))); (try refine WL.nil ?_))
            refine wp_region_plan 5 (by kernel_rfl) (by kernel_rfl) ?_; replace st := st.drew; generalize World.drew _ = W at st ⊢
            (apply Plan.val'; (focus (intro x0 x1 x2 x3 x4 w1 hb; (try simp only [depF, fillA, Act.put, zta, ztz, zpt, zsz, zss, zl0, zls]); (repeat (fail)); have st := st.call hb; ((apply Yphi.run; (exact rfl); (go_simp <;> (try simp (disch := omega) only [wrap_id, sub_left, zac]) <;> rfl); exact rfl)))); (simp only [zca, zcn] <;> exact rfl))
            (apply Plan.val'; (focus (intro x0 x1 x2 x3 x4 w1 hb; (try simp only [depF, fillA, Act.put, zta, ztz, zpt, zsz, zss, zl0, zls]); (repeat (rintro rfl)); have st := st.call hb; apply Yphi.chr (l := [65, 68, 85]) (i); (exact rfl); exact rfl; exact Tryz.underlying9; exact rfl; exact rfl; (focus (exact rfl)); (focus (show _ < 3; omega)))); (simp only [zca, zcn] <;> exact rfl))
            (apply Plan.val'; (focus (intro x0 x1 x2 x3 x4 w1 hb; (try simp only [depF, fillA, Act.put, zta, ztz, zpt, zsz, zss, zl0, zls]); (repeat (fail)); have st := st.call hb; ((apply Yphi.run; (exact rfl); (go_simp <;> (try simp (disch := omega) only [wrap_id, sub_left, zac]) <;> rfl); exact rfl)))); (simp only [zca, zcn] <;> exact rfl))
            (apply Plan.val'; (focus (intro x0 x1 x2 x3 x4 w1 hb; (try simp only [depF, fillA, Act.put, zta, ztz, zpt, zsz, zss, zl0, zls]); (repeat (rintro rfl)); have st := st.call hb; apply Yphi.chr (1); (exact rfl); exact rfl; exact Tryz.underlying9; exact rfl; exact rfl; (focus (exact rfl)); (focus omega))); (simp only [zca, zcn] <;> exact rfl))
            (apply Plan.val'; (focus (intro x0 x1 x2 x3 x4 w1 hb; (try simp only [depF, fillA, Act.put, zta, ztz, zpt, zsz, zss, zl0, zls]); (repeat (rintro rfl)); have st := st.call hb; ((apply Yphi.run; (exact rfl); (go_simp <;> (try simp (disch := omega) only [wrap_id, sub_left, zac]) <;> rfl); exact rfl)))); (simp only [zca, zcn] <;> exact rfl))
            intro x0 x1 x2 x3 x4 lo hi w1 hb hap
            rintro rfl rfl rfl rfl rfl
            simp only [allPhi, fillA, Act.put, zta, ztz, zpt, zsz, zss, zda, zdz]
            have st := st.call hb
            clear hap hb
            go_wp2_with (refine WL.out ?_; (repeat ((refine WL.op ?_ ?_; (exact rfl); intro K hK; (first | ((((with_reducible apply ow_assign); exact rfl)); (go_simp <;> (try simp (disch := omega) only [wrap_id, sub_left, zac]) <;> rfl)) | ((with_reducible apply ow_eval); (go_simp <;> (try simp (disch := omega) only [wrap_id, sub_left, zac]) <;> rfl); ((with_reducible apply up_value)))); refine WL.next hK (by simp only [Act.put, zpt, zsz, zss]; exact rfl) ?_; clear hK K))); (try refine WL.nil ?_))
            exact ⟨⟨i + 1, by omega, fun h => absurd hs1 h, by go_num, by rw [hkd.out]; exact st⟩, by simp [intOf]; omega⟩
          · have hkd : Hid (L.kd s' (i + 1) = (i : Int)) := Lib.hid (by rw [L.kd_step, hq]; rfl)
            go_wp2_with (refine WL.out ?_; (repeat ((refine WL.op ?_ ?_; (exact rfl); intro K hK; (first | ((((with_reducible apply ow_move); exact rfl)); (go_simp <;> (try simp (disch := omega) only [wrap_id, sub_left, zac]) <;> rfl)) | ((with_reducible apply ow_eval); (go_simp <;> (try simp (disch := omega) only [wrap_id, sub_left, zac]) <;> rfl); ((with_reducible apply up_value)))); refine WL.next hK (by simp only [Act.put, zpt, zsz, zss]; exact rfl) ?_; clear hK K))); (try refine WL.nil ?_))
            refine wp_region_plan 5 (by kernel_rfl) (by kernel_rfl) ?_; replace st := st.drew; generalize World.drew _ = W at st ⊢
            (apply Plan.val'; (focus (intro x0 x1 x2 x3 x4 w1 hb; (try simp only [depF, fillA, Act.put, zta, ztz, zpt, zsz, zss, zl0, zls]); (repeat (fail)); have st := st.call hb; ((apply Yphi.run; (exact rfl); (go_simp <;> (try simp (disch := omega) only [wrap_id, sub_left, zac]) <;> rfl); exact rfl)))); (simp only [zca, zcn] <;> exact rfl))
            (apply Plan.val'; (focus (intro x0 x1 x2 x3 x4 w1 hb; (try simp only [depF, fillA, Act.put, zta, ztz, zpt, zsz, zss, zl0, zls]); (repeat (rintro rfl)); have st := st.call hb; apply Yphi.chr (l := [65, 68, 85]) (i); (exact rfl); exact rfl; exact Tryz.underlying9; exact rfl; exact rfl; (focus (exact rfl)); (focus (show _ < 3; omega)))); (simp only [zca, zcn] <;> exact rfl))
            (apply Plan.val'; (focus (intro x0 x1 x2 x3 x4 w1 hb; (try simp only [depF, fillA, Act.put, zta, ztz, zpt, zsz, zss, zl0, zls]); (repeat (fail)); have st := st.call hb; ((apply Yphi.run; (exact rfl); (go_simp <;> (try simp (disch := omega) only [wrap_id, sub_left, zac]) <;> rfl); exact rfl)))); (simp only [zca, zcn] <;> exact rfl))
            (apply Plan.val'; (focus (intro x0 x1 x2 x3 x4 w1 hb; (try simp only [depF, fillA, Act.put, zta, ztz, zpt, zsz, zss, zl0, zls]); (repeat (rintro rfl)); have st := st.call hb; apply Yphi.chr (1); (exact rfl); exact rfl; exact Tryz.underlying9; exact rfl; exact rfl; (focus (exact rfl)); (focus omega))); (simp only [zca, zcn] <;> exact rfl))
            (apply Plan.val'; (focus (intro x0 x1 x2 x3 x4 w1 hb; (try simp only [depF, fillA, Act.put, zta, ztz, zpt, zsz, zss, zl0, zls]); (repeat (rintro rfl)); have st := st.call hb; ((apply Yphi.run; (exact rfl); (go_simp <;> (try simp (disch := omega) only [wrap_id, sub_left, zac]) <;> rfl); exact rfl)))); (simp only [zca, zcn] <;> exact rfl))
            intro x0 x1 x2 x3 x4 lo hi w1 hb hap
            rintro rfl rfl rfl rfl rfl
            simp only [allPhi, fillA, Act.put, zta, ztz, zpt, zsz, zss, zda, zdz]
            have st := st.call hb
            clear hap hb
            go_wp2_with (refine WL.out ?_; (repeat ((refine WL.op ?_ ?_; (exact rfl); intro K hK; (first | ((((with_reducible apply ow_assign); exact rfl)); (go_simp <;> (try simp (disch := omega) only [wrap_id, sub_left, zac]) <;> rfl)) | ((((with_reducible apply ow_store1' st); exact rfl; exact inferInstance; exact rfl; (exact get0); (go_simp <;> (try simp (disch := omega) only [wrap_id, sub_left, zac]) <;> rfl))); exact rfl; exact rfl; (simp <;> done); ((try simp only [zta, ztz, zda, zdz, zca, zcn, zan, zsz, zss]) <;> exact rfl); (try clear st); intro w' st) | ((with_reducible apply ow_eval); (go_simp <;> (try simp (disch := omega) only [wrap_id, sub_left, zac]) <;> rfl); ((with_reducible apply up_value)))); refine WL.next hK (by simp only [Act.put, zpt, zsz, zss]; exact rfl) ?_; clear hK K))); (try refine WL.nil ?_))
            exact ⟨⟨i + 1, by omega, fun h => absurd hs1 h, by go_num, by rw [hkd.out]; exact st⟩, by simp [intOf]; omega⟩
        · have hkk : L.kd s' i = L.kindOf s' := by
            by_cases hs1 : 1 < s'.length
            · obtain rfl : i = 3 := by omega
              exact L.kd_kind hs1
            · rw [hi1 hs1, L.kindOf_short hs1]; rfl
          rw [hkk] at st
          clear hkk
          have hkg := L.kindOf_ge s'
          have hsh := fun h : ¬ 1 < s'.length => L.kindOf_short (s := s') h
          obtain ⟨K, hK⟩ : ∃ K, L.kindOf s' = K := ⟨_, rfl⟩
          rw [hK] at st hkg hsh
          have HK := Lib.hid hK
          clear hK
          have hK0 := hkg.1
          have hK1 := hkg.2
          clear hkg
          by_cases hk0 : K < 0
          · have hno : Hid (L.entries s = none) := Lib.hid (by rw [hs.out, L.entries_none hH.out (L.ace1_kind (by rw [HK.out]; exact hk0))]; rfl)
            by_cases hs1 : 1 < s'.length
            · obtain rfl : i = 3 := by omega
              clear hsh hi1
              go_wp2_with (refine WL.out ?_; (repeat (first | (refine WL.op ?_ ?_; (exact rfl); intro K hK; (first | ((((with_reducible apply ow_move); exact rfl)); (go_simp <;> (try simp (disch := omega) only [wrap_id, sub_left, zac]) <;> rfl)) | ((((with_reducible apply ow_load1 st); exact rfl; exact inferInstance; exact rfl; (exact get0))); exact rfl) | ((with_reducible apply ow_eval); (go_simp <;> (try simp (disch := omega) only [wrap_id, sub_left, zac]) <;> rfl); ((with_reducible apply up_value)))); refine WL.next hK (by simp only [Act.put, zpt, zsz, zss]; exact rfl) ?_; clear hK K) | (refine WL.skip ?_ (by simp only [Act.put, zpt, zsz, zss]; exact rfl) ?_; (exact rfl)))); (try refine WL.nil ?_))
              (go_ret3; exact .inr ⟨_, hno.out, rfl, st.below⟩)
            · obtain rfl : i = 0 := hi1 hs1
              have hs1' : ¬ (1 : Int) < (s'.length : Int) := by omega
              clear hsh hi1
              go_wp2_with (refine WL.out ?_; (repeat (first | (refine WL.op ?_ ?_; (exact rfl); intro K hK; (first | ((((with_reducible apply ow_move); exact rfl)); (go_simp <;> (try simp (disch := omega) only [wrap_id, sub_left, zac]) <;> rfl)) | ((((with_reducible apply ow_load1 st); exact rfl; exact inferInstance; exact rfl; (exact get0))); exact rfl) | ((with_reducible apply ow_eval); (go_simp <;> (try simp (disch := omega) only [wrap_id, sub_left, zac]) <;> rfl); ((with_reducible apply up_value)))); refine WL.next hK (by simp only [Act.put, zpt, zsz, zss]; exact rfl) ?_; clear hK K) | (refine WL.skip ?_ (by simp only [Act.put, zpt, zsz, zss]; exact rfl) ?_; (exact rfl)))); (try refine WL.nil ?_))
              (go_ret3; exact .inr ⟨_, hno.out, rfl, st.below⟩)
          · have hs1 : 1 < s'.length := by
              by_cases h : 1 < s'.length
              · exact h
              · have := hsh h; omega
            obtain rfl : i = 3 := by omega
            clear hsh hi1
            by_cases hl3 : s'.length < 3
            · have hno : Hid (L.entries s = none) := Lib.hid (by rw [hs.out, L.entries_none hH.out (L.ace1_short hl3)]; rfl)
              have hl3' : (s'.length : Int) < 3 := by omega
              go_wp2_with (refine WL.out ?_; (repeat (first | (refine WL.op ?_ ?_; (exact rfl); intro K hK; (first | ((((with_reducible apply ow_move); exact rfl)); (go_simp <;> (try simp (disch := omega) only [wrap_id, sub_left, zac]) <;> rfl)) | ((((with_reducible apply ow_load1 st); exact rfl; exact inferInstance; exact rfl; (exact get0))); exact rfl) | ((with_reducible apply ow_eval); (go_simp <;> (try simp (disch := omega) only [wrap_id, sub_left, zac]) <;> rfl); ((with_reducible apply up_value)))); refine WL.next hK (by simp only [Act.put, zpt, zsz, zss]; exact rfl) ?_; clear hK K) | (refine WL.skip ?_ (by simp only [Act.put, zpt, zsz, zss]; exact rfl) ?_; (exact rfl)))); (try refine WL.nil ?_))
              (go_ret3; exact .inr ⟨_, hno.out, rfl, st.below⟩)
            · have hl3' : ¬ (s'.length : Int) < 3 := by omega
              cases hm : (L.bx s' 2 != 59)
              · have hrest := Lib.hid (L.ace1_rest (s := s') (by rw [HK.out]; exact hk0) hl3 hm)
                have q1 := L.r1_le s'
                have q2 := L.r2_le s'
                have q3 := L.r3_le s'
                have q4 := L.dR_le (L.r3 s')
                cases hb1 : Lib.hasPrefix (L.r1 s') [59]
                · have hno : Hid (L.entries s = none) := Lib.hid (by rw [hs.out, L.entries_none hH.out (by rw [hrest.out, if_neg (by rw [hb1]; simp)])]; rfl)
                  go_wp2_with (refine WL.out ?_; (repeat (first | (refine WL.op ?_ ?_; (exact rfl); intro K hK; (first | ((first | ((with_reducible apply ow_move); exact rfl) | ((with_reducible apply ow_assign); exact rfl)); (go_simp <;> (try simp (disch := omega) only [wrap_id, sub_left, zac]) <;> rfl)) | ((((with_reducible apply ow_load1 st); exact rfl; exact inferInstance; exact rfl; (exact get0))); exact rfl) | ((((with_reducible apply ow_store1' st); exact rfl; exact inferInstance; exact rfl; (exact get0); (go_simp <;> (try simp (disch := omega) only [wrap_id, sub_left, zac]) <;> rfl))); exact rfl; exact rfl; (simp <;> done); ((try simp only [zta, ztz, zda, zdz, zca, zcn, zan, zsz, zss]) <;> exact rfl); (try clear st); intro w' st) | ((with_reducible apply ow_char (2)); exact rfl; exact Tryz.underlying9; exact rfl; exact rfl; (focus (exact rfl)); (focus omega)) | ((with_reducible apply ow_from (i := 3)); exact rfl; exact Tryz.underlying9; exact rfl; exact rfl; (focus (exact rfl)); (focus omega)) | ((with_reducible apply ow_eval); (go_simp <;> (try simp (disch := omega) only [wrap_id, sub_left, zac]) <;> rfl); first | (with_reducible apply up_value) | ((with_reducible apply up_enter); first | (go_at_call 106; ((with_reducible refine (rLF_any s' _ ?_).mono ?_); (iterate 1 (focus (omega))); rintro e w' ⟨rfl, hb⟩; replace st := st.call hb; clear hb; refine ⟨_, rfl, ?_⟩)) | (go_at_call 106; ((with_reducible refine (rLR_any s' _ ?_).mono ?_); (iterate 1 (focus (omega))); rintro e w' ⟨rfl, hb⟩; replace st := st.call hb; clear hb; refine ⟨_, rfl, ?_⟩)) | (go_at_call 70; ((with_reducible refine (rNum_any s' _ ?_).mono ?_); (iterate 1 (focus (omega))); rintro e w' ⟨rfl, hb⟩; replace st := st.call hb; clear hb; refine ⟨_, rfl, ?_⟩)) | (go_at_call 69; ((with_reducible refine (begins_any (L.r1 s') [59] _ ?_ ?_).mono ?_); (iterate 2 (focus (first | omega | (exact (by decide))))); rintro e w' ⟨rfl, hb⟩; replace st := st.call hb; clear hb; refine ⟨_, rfl, ?_⟩)) | (go_at_call 69; ((with_reducible refine (begins_any (L.r2 s') [59] _ ?_ ?_).mono ?_); (iterate 2 (focus (first | omega | (exact (by decide))))); rintro e w' ⟨rfl, hb⟩; replace st := st.call hb; clear hb; refine ⟨_, rfl, ?_⟩)) | (go_at_call 69; ((with_reducible refine (begins_any (L.dR (L.r3 s')) [41] _ ?_ ?_).mono ?_); (iterate 2 (focus (first | omega | (exact (by decide))))); rintro e w' ⟨rfl, hb⟩; replace st := st.call hb; clear hb; refine ⟨_, rfl, ?_⟩))))); refine WL.next hK (by simp only [Act.put, zpt, zsz, zss]; exact rfl) ?_; clear hK K) | (refine WL.skip ?_ (by simp only [Act.put, zpt, zsz, zss]; exact rfl) ?_; (exact rfl)))); (try refine WL.nil ?_))
                  (go_ret3; exact .inr ⟨_, hno.out, rfl, st.below⟩)
                · cases hb2 : Lib.hasPrefix (L.r2 s') [59]
                  · have hno : Hid (L.entries s = none) := Lib.hid (by rw [hs.out, L.entries_none hH.out (by rw [hrest.out, if_neg (by rw [hb2]; simp)])]; rfl)
                    go_wp2_with (refine WL.out ?_; (repeat (first | (refine WL.op ?_ ?_; (exact rfl); intro K hK; (first | ((first | ((with_reducible apply ow_move); exact rfl) | ((with_reducible apply ow_assign); exact rfl)); (go_simp <;> (try simp (disch := omega) only [wrap_id, sub_left, zac]) <;> rfl)) | ((((with_reducible apply ow_load1 st); exact rfl; exact inferInstance; exact rfl; (exact get0))); exact rfl) | ((((with_reducible apply ow_store1' st); exact rfl; exact inferInstance; exact rfl; (exact get0); (go_simp <;> (try simp (disch := omega) only [wrap_id, sub_left, zac]) <;> rfl))); exact rfl; exact rfl; (simp <;> done); ((try simp only [zta, ztz, zda, zdz, zca, zcn, zan, zsz, zss]) <;> exact rfl); (try clear st); intro w' st) | ((with_reducible apply ow_char (2)); exact rfl; exact Tryz.underlying9; exact rfl; exact rfl; (focus (exact rfl)); (focus omega)) | ((with_reducible apply ow_from (i := 3)); exact rfl; exact Tryz.underlying9; exact rfl; exact rfl; (focus (exact rfl)); (focus omega)) | ((with_reducible apply ow_eval); (go_simp <;> (try simp (disch := omega) only [wrap_id, sub_left, zac]) <;> rfl); first | (with_reducible apply up_value) | ((with_reducible apply up_enter); first | (go_at_call 106; ((with_reducible refine (rLF_any s' _ ?_).mono ?_); (iterate 1 (focus (omega))); rintro e w' ⟨rfl, hb⟩; replace st := st.call hb; clear hb; refine ⟨_, rfl, ?_⟩)) | (go_at_call 106; ((with_reducible refine (rLR_any s' _ ?_).mono ?_); (iterate 1 (focus (omega))); rintro e w' ⟨rfl, hb⟩; replace st := st.call hb; clear hb; refine ⟨_, rfl, ?_⟩)) | (go_at_call 70; ((with_reducible refine (rNum_any s' _ ?_).mono ?_); (iterate 1 (focus (omega))); rintro e w' ⟨rfl, hb⟩; replace st := st.call hb; clear hb; refine ⟨_, rfl, ?_⟩)) | (go_at_call 69; ((with_reducible refine (begins_any (L.r1 s') [59] _ ?_ ?_).mono ?_); (iterate 2 (focus (first | omega | (exact (by decide))))); rintro e w' ⟨rfl, hb⟩; replace st := st.call hb; clear hb; refine ⟨_, rfl, ?_⟩)) | (go_at_call 69; ((with_reducible refine (begins_any (L.r2 s') [59] _ ?_ ?_).mono ?_); (iterate 2 (focus (first | omega | (exact (by decide))))); rintro e w' ⟨rfl, hb⟩; replace st := st.call hb; clear hb; refine ⟨_, rfl, ?_⟩)) | (go_at_call 69; ((with_reducible refine (begins_any (L.dR (L.r3 s')) [41] _ ?_ ?_).mono ?_); (iterate 2 (focus (first | omega | (exact (by decide))))); rintro e w' ⟨rfl, hb⟩; replace st := st.call hb; clear hb; refine ⟨_, rfl, ?_⟩))))); refine WL.next hK (by simp only [Act.put, zpt, zsz, zss]; exact rfl) ?_; clear hK K) | (refine WL.skip ?_ (by simp only [Act.put, zpt, zsz, zss]; exact rfl) ?_; (exact rfl)))); (try refine WL.nil ?_))
                    (go_ret3; exact .inr ⟨_, hno.out, rfl, st.below⟩)
                  · cases hb3 : L.numOk (L.dW (L.r3 s'))
                    · have hno : Hid (L.entries s = none) := Lib.hid (by rw [hs.out, L.entries_none hH.out (by rw [hrest.out, if_neg (by rw [hb3]; simp)])]; rfl)
                      go_wp2_with (refine WL.out ?_; (repeat (first | (refine WL.op ?_ ?_; (exact rfl); intro K hK; (first | ((first | ((with_reducible apply ow_move); exact rfl) | ((with_reducible apply ow_assign); exact rfl)); (go_simp <;> (try simp (disch := omega) only [wrap_id, sub_left, zac]) <;> rfl)) | ((((with_reducible apply ow_load1 st); exact rfl; exact inferInstance; exact rfl; (exact get0))); exact rfl) | ((((with_reducible apply ow_store1' st); exact rfl; exact inferInstance; exact rfl; (exact get0); (go_simp <;> (try simp (disch := omega) only [wrap_id, sub_left, zac]) <;> rfl))); exact rfl; exact rfl; (simp <;> done); ((try simp only [zta, ztz, zda, zdz, zca, zcn, zan, zsz, zss]) <;> exact rfl); (try clear st); intro w' st) | ((with_reducible apply ow_char (2)); exact rfl; exact Tryz.underlying9; exact rfl; exact rfl; (focus (exact rfl)); (focus omega)) | ((with_reducible apply ow_from (i := 3)); exact rfl; exact Tryz.underlying9; exact rfl; exact rfl; (focus (exact rfl)); (focus omega)) | ((with_reducible apply ow_eval); (go_simp <;> (try simp (disch := omega) only [wrap_id, sub_left, zac]) <;> rfl); first | (with_reducible apply up_value) | ((with_reducible apply up_enter); first | (go_at_call 106; ((with_reducible refine (rLF_any s' _ ?_).mono ?_); (iterate 1 (focus (omega))); rintro e w' ⟨rfl, hb⟩; replace st := st.call hb; clear hb; refine ⟨_, rfl, ?_⟩)) | (go_at_call 106; ((with_reducible refine (rLR_any s' _ ?_).mono ?_); (iterate 1 (focus (omega))); rintro e w' ⟨rfl, hb⟩; replace st := st.call hb; clear hb; refine ⟨_, rfl, ?_⟩)) | (go_at_call 70; ((with_reducible refine (rNum_any s' _ ?_).mono ?_); (iterate 1 (focus (omega))); rintro e w' ⟨rfl, hb⟩; replace st := st.call hb; clear hb; refine ⟨_, rfl, ?_⟩)) | (go_at_call 69; ((with_reducible refine (begins_any (L.r1 s') [59] _ ?_ ?_).mono ?_); (iterate 2 (focus (first | omega | (exact (by decide))))); rintro e w' ⟨rfl, hb⟩; replace st := st.call hb; clear hb; refine ⟨_, rfl, ?_⟩)) | (go_at_call 69; ((with_reducible refine (begins_any (L.r2 s') [59] _ ?_ ?_).mono ?_); (iterate 2 (focus (first | omega | (exact (by decide))))); rintro e w' ⟨rfl, hb⟩; replace st := st.call hb; clear hb; refine ⟨_, rfl, ?_⟩)) | (go_at_call 69; ((with_reducible refine (begins_any (L.dR (L.r3 s')) [41] _ ?_ ?_).mono ?_); (iterate 2 (focus (first | omega | (exact (by decide))))); rintro e w' ⟨rfl, hb⟩; replace st := st.call hb; clear hb; refine ⟨_, rfl, ?_⟩))))); refine WL.next hK (by simp only [Act.put, zpt, zsz, zss]; exact rfl) ?_; clear hK K) | (refine WL.skip ?_ (by simp only [Act.put, zpt, zsz, zss]; exact rfl) ?_; (exact rfl)))); (try refine WL.nil ?_))
                      (go_ret3; exact .inr ⟨_, hno.out, rfl, st.below⟩)
                    · cases hb4 : Lib.hasPrefix (L.dR (L.r3 s')) [41]
                      · have hno : Hid (L.entries s = none) := Lib.hid (by rw [hs.out, L.entries_none hH.out (by rw [hrest.out, if_neg (by rw [hb4]; simp)])]; rfl)
                        go_wp2_with (refine WL.out ?_; (repeat (first | (refine WL.op ?_ ?_; (exact rfl); intro K hK; (first | ((first | ((with_reducible apply ow_move); exact rfl) | ((with_reducible apply ow_assign); exact rfl)); (go_simp <;> (try simp (disch := omega) only [wrap_id, sub_left, zac]) <;> rfl)) | ((((with_reducible apply ow_load1 st); exact rfl; exact inferInstance; exact rfl; (exact get0))); exact rfl) | ((((with_reducible apply ow_store1' st); exact rfl; exact inferInstance; exact rfl; (exact get0); (go_simp <;> (try simp (disch := omega) only [wrap_id, sub_left, zac]) <;> rfl))); exact rfl; exact rfl; (simp <;> done); ((try simp only [zta, ztz, zda, zdz, zca, zcn, zan, zsz, zss]) <;> exact rfl); (try clear st); intro w' st) | ((with_reducible apply ow_char (2)); exact rfl; exact Tryz.underlying9; exact rfl; exact rfl; (focus (exact rfl)); (focus omega)) | ((with_reducible apply ow_from (i := 3)); exact rfl; exact Tryz.underlying9; exact rfl; exact rfl; (focus (exact rfl)); (focus omega)) | ((with_reducible apply ow_eval); (go_simp <;> (try simp (disch := omega) only [wrap_id, sub_left, zac]) <;> rfl); first | (with_reducible apply up_value) | ((with_reducible apply up_enter); first | (go_at_call 106; ((with_reducible refine (rLF_any s' _ ?_).mono ?_); (iterate 1 (focus (omega))); rintro e w' ⟨rfl, hb⟩; replace st := st.call hb; clear hb; refine ⟨_, rfl, ?_⟩)) | (go_at_call 106; ((with_reducible refine (rLR_any s' _ ?_).mono ?_); (iterate 1 (focus (omega))); rintro e w' ⟨rfl, hb⟩; replace st := st.call hb; clear hb; refine ⟨_, rfl, ?_⟩)) | (go_at_call 70; ((with_reducible refine (rNum_any s' _ ?_).mono ?_); (iterate 1 (focus (omega))); rintro e w' ⟨rfl, hb⟩; replace st := st.call hb; clear hb; refine ⟨_, rfl, ?_⟩)) | (go_at_call 69; ((with_reducible refine (begins_any (L.r1 s') [59] _ ?_ ?_).mono ?_); (iterate 2 (focus (first | omega | (exact (by decide))))); rintro e w' ⟨rfl, hb⟩; replace st := st.call hb; clear hb; refine ⟨_, rfl, ?_⟩)) | (go_at_call 69; ((with_reducible refine (begins_any (L.r2 s') [59] _ ?_ ?_).mono ?_); (iterate 2 (focus (first | omega | (exact (by decide))))); rintro e w' ⟨rfl, hb⟩; replace st := st.call hb; clear hb; refine ⟨_, rfl, ?_⟩)) | (go_at_call 69; ((with_reducible refine (begins_any (L.dR (L.r3 s')) [41] _ ?_ ?_).mono ?_); (iterate 2 (focus (first | omega | (exact (by decide))))); rintro e w' ⟨rfl, hb⟩; replace st := st.call hb; clear hb; refine ⟨_, rfl, ?_⟩))))); refine WL.next hK (by simp only [Act.put, zpt, zsz, zss]; exact rfl) ?_; clear hK K) | (refine WL.skip ?_ (by simp only [Act.put, zpt, zsz, zss]; exact rfl) ?_; (exact rfl)))); (try refine WL.nil ?_))
                        (go_ret3; exact .inr ⟨_, hno.out, rfl, st.below⟩)
                      · have hac := Lib.hid (hrest.out.trans (if_pos ⟨hb1, hb2, hb3, hb4⟩))
                        have hnx : Hid (L.entries s = (L.entries (Lib.trimPrefix (L.dR (L.r3 s')) [41])).map fun p => ((l0 ++ [L.aceOf s']) ++ p.1, p.2)) := Lib.hid (by
                          rw [hs.out, L.entries_some hH.out hac.out, Option.map_map]
                          congr 1
                          funext p
                          simp)
                        have hlt := L.ace1_shorter hH.out hac.out
                        have HW := Lib.hid (L.aceOf_w hb3)
                        go_wp2_with (refine WL.out ?_; (repeat (first | (refine WL.op ?_ ?_; (exact rfl); intro K hK; (first | ((first | ((with_reducible apply ow_move); exact rfl) | ((with_reducible apply ow_assign); exact rfl)); (go_simp <;> (try simp (disch := omega) only [wrap_id, sub_left, zac]) <;> rfl)) | ((first | ((with_reducible apply ow_load1 st); exact rfl; exact inferInstance; exact rfl; (exact get0)) | ((with_reducible apply ow_loadN st); exact rfl; exact inferInstance; exact rfl; (exact get0); ((try simp only [zta, ztz, zda, zdz, zca, zcn, zan, zsz, zss]) <;> exact rfl))); exact rfl) | ((((with_reducible apply ow_newSlice st); exact rfl; (go_simp <;> (try simp (disch := omega) only [wrap_id, sub_left, zac]) <;> rfl); exact rfl)); (try clear st); intro b w' st) | ((((with_reducible apply ow_store1' st); exact rfl; exact inferInstance; exact rfl; (exact get0); (go_simp <;> (try simp (disch := omega) only [wrap_id, sub_left, zac]) <;> rfl))); exact rfl; exact rfl; (simp <;> done); ((try simp only [zta, ztz, zda, zdz, zca, zcn, zan, zsz, zss]) <;> exact rfl); (try clear st); intro w' st) | ((with_reducible apply ow_char (2)); exact rfl; exact Tryz.underlying9; exact rfl; exact rfl; (focus (exact rfl)); (focus omega)) | ((with_reducible apply ow_from (i := 3)); exact rfl; exact Tryz.underlying9; exact rfl; exact rfl; (focus (exact rfl)); (focus omega)) | ((with_reducible apply ow_append 2 st); exact rfl; exact inferInstance; exact rfl; exact rfl; exact rfl; exact st.rdBox (i := 0) (n := 1) (size := 4) rfl rfl; (focus ((simp [Value.oneCell']; done))); (focus (unfold maxLen; omega)); (focus omega); (try clear st); intro A' c' w' st; (try simp only [List.set_cons_zero, List.set_cons_succ, Nat.zero_add, List.nil_append] at st)) | ((with_reducible apply ow_eval); (go_simp <;> (try simp (disch := omega) only [wrap_id, sub_left, zac]) <;> rfl); first | (with_reducible apply up_value) | ((with_reducible apply up_enter); first | (go_at_call 106; ((with_reducible refine (rLF_any s' _ ?_).mono ?_); (iterate 1 (focus (omega))); rintro e w' ⟨rfl, hb⟩; replace st := st.call hb; clear hb; refine ⟨_, rfl, ?_⟩)) | (go_at_call 106; ((with_reducible refine (rLR_any s' _ ?_).mono ?_); (iterate 1 (focus (omega))); rintro e w' ⟨rfl, hb⟩; replace st := st.call hb; clear hb; refine ⟨_, rfl, ?_⟩)) | (go_at_call 70; ((with_reducible refine (rNum_any s' _ ?_).mono ?_); (iterate 1 (focus (omega))); rintro e w' ⟨rfl, hb⟩; replace st := st.call hb; clear hb; refine ⟨_, rfl, ?_⟩)) | (go_at_call 69; ((with_reducible refine (begins_any (L.r1 s') [59] _ ?_ ?_).mono ?_); (iterate 2 (focus (first | omega | (exact (by decide))))); rintro e w' ⟨rfl, hb⟩; replace st := st.call hb; clear hb; refine ⟨_, rfl, ?_⟩)) | (go_at_call 69; ((with_reducible refine (begins_any (L.r2 s') [59] _ ?_ ?_).mono ?_); (iterate 2 (focus (first | omega | (exact (by decide))))); rintro e w' ⟨rfl, hb⟩; replace st := st.call hb; clear hb; refine ⟨_, rfl, ?_⟩)) | (go_at_call 69; ((with_reducible refine (begins_any (L.dR (L.r3 s')) [41] _ ?_ ?_).mono ?_); (iterate 2 (focus (first | omega | (exact (by decide))))); rintro e w' ⟨rfl, hb⟩; replace st := st.call hb; clear hb; refine ⟨_, rfl, ?_⟩))))); refine WL.next hK (by simp only [Act.put, zpt, zsz, zss]; exact rfl) ?_; clear hK K) | (refine WL.skip ?_ (by simp only [Act.put, zpt, zsz, zss]; exact rfl) ?_; (exact rfl)))); (try refine WL.nil ?_))
                        have st2 := st.tail.tail
                        rw [HW.out, ← HK.out] at st2
                        have ht := L.trim_le (L.dR (L.r3 s')) [41]
                        exact ⟨⟨Lib.trimPrefix (L.dR (L.r3 s')) [41], l0 ++ [L.aceOf s'], A', n + 1, c', rfl, rfl, by omega, by omega, hnx, by unfold aceRow; rw [L.cellsOf_append]; exact st2⟩, by simp only [L.sz, hsz]; exact hlt⟩
              · have hno : Hid (L.entries s = none) := Lib.hid (by rw [hs.out, L.entries_none hH.out (L.ace1_mark hm)]; rfl)
                go_wp2_with (refine WL.out ?_; (repeat (first | (refine WL.op ?_ ?_; (exact rfl); intro K hK; (first | ((((with_reducible apply ow_move); exact rfl)); (go_simp <;> (try simp (disch := omega) only [wrap_id, sub_left, zac]) <;> rfl)) | ((((with_reducible apply ow_load1 st); exact rfl; exact inferInstance; exact rfl; (exact get0))); exact rfl) | ((with_reducible apply ow_char (2)); exact rfl; exact Tryz.underlying9; exact rfl; exact rfl; (focus (exact rfl)); (focus omega)) | ((with_reducible apply ow_eval); (go_simp <;> (try simp (disch := omega) only [wrap_id, sub_left, zac]) <;> rfl); ((with_reducible apply up_value)))); refine WL.next hK (by simp only [Act.put, zpt, zsz, zss]; exact rfl) ?_; clear hK K) | (refine WL.skip ?_ (by simp only [Act.put, zpt, zsz, zss]; exact rfl) ?_; (exact rfl)))); (try refine WL.nil ?_))
                (go_ret3; exact .inr ⟨_, hno.out, rfl, st.below⟩)
    · have hdone : Hid (L.entries s = some (l0, s')) := Lib.hid (by rw [hs.out, L.entries_not (L.head_not h0)]; simp)
      by_cases h1 : 0 < s'.length
      · have hi0 : (0 : Int) < (s'.length : Int) := by omega
        have h40 : (L.bx s' 0 == 40) = false := by
          cases h : (L.bx s' 0 == 40)
          · rfl
          · exact absurd ⟨h1, h⟩ h0
        clear h0
        go_wp2_with (refine WL.out ?_; (repeat ((refine WL.op ?_ ?_; (exact rfl); intro K hK; (first | ((((with_reducible apply ow_move); exact rfl)); (go_simp <;> (try simp (disch := omega) only [wrap_id, sub_left, zac]) <;> rfl)) | ((with_reducible apply ow_char (0)); exact rfl; exact Tryz.underlying9; exact rfl; exact rfl; (focus (exact rfl)); (focus omega)) | ((with_reducible apply ow_eval); (go_simp <;> (try simp (disch := omega) only [wrap_id, sub_left, zac]) <;> rfl); ((with_reducible apply up_value)))); refine WL.next hK (by simp only [Act.put, zpt, zsz, zss]; exact rfl) ?_; clear hK K))); (try refine WL.nil ?_))
        go_ret3
        exact .inl ⟨l0, s', A, n, c, hdone.out, rfl, st⟩
      · have hi0 : ¬ (0 : Int) < (s'.length : Int) := by omega
        clear h0
        go_wp2_with (refine WL.out ?_; (repeat (first | (refine WL.op ?_ ?_; (exact rfl); intro K hK; (first | ((((with_reducible apply ow_move); exact rfl)); (go_simp <;> (try simp (disch := omega) only [wrap_id, sub_left, zac]) <;> rfl)) | ((with_reducible apply ow_eval); (go_simp <;> (try simp (disch := omega) only [wrap_id, sub_left, zac]) <;> rfl); ((with_reducible apply up_value)))); refine WL.next hK (by simp only [Act.put, zpt, zsz, zss]; exact rfl) ?_; clear hK K) | (refine WL.skip ?_ (by simp only [Act.put, zpt, zsz, zss]; exact rfl) ?_; (exact rfl)))); (try refine WL.nil ?_))
        go_ret3
        exact .inl ⟨l0, s', A, n, c, hdone.out, rfl, st⟩
end Go.Proofs.YtppjhccdgbheiaaGreatDoor
namespace Go.Proofs.YtppjhccdgbheiaaGreatDoor
open Go.RowKit Go.Hp
theorem entries_ok {s r : List UInt8} {l : List L.Ace} (hx : L.entries s = some (l, r)) (w : World) (hl : s.length ≤ 100000) :
    Calls Tryz.prog 71 #[.string ⟨s.toArray⟩] w fun e w' => ∃ A n c, e = .returned (.tuple #[.slice A n c, .string ⟨r.toArray⟩, .bool true]) ∧ St w w' [aceRow (.slice A n c) n l] :=
  (entries_any s w hl).mono fun e w' h => by
    rcases h with ⟨l', r', A, n, c, h1, h2, h3⟩ | ⟨r', h1, _⟩
    · rw [hx] at h1
      simp only [Option.some.injEq, Prod.mk.injEq] at h1
      obtain ⟨rfl, rfl⟩ := h1
      exact ⟨A, n, c, h2, h3⟩
    · rw [hx] at h1; cases h1
theorem entries_no {s : List UInt8} (hx : L.entries s = none) (w : World) (hl : s.length ≤ 100000) :
    Calls Tryz.prog 71 #[.string ⟨s.toArray⟩] w fun e w' => ∃ r : List UInt8, e = .returned (.tuple #[.slice none 0 0, .string ⟨r.toArray⟩, .bool false]) ∧ Below w.heap.size w w' :=
  (entries_any s w hl).mono fun e w' h => by
    rcases h with ⟨l', r', A, n, c, h1, h2, h3⟩ | ⟨r', h1, h2, h3⟩
    · rw [hx] at h1; cases h1
    · exact ⟨r', h2, h3⟩
def RetRd (w : World) (o : Option L.Desc) (e : Ending) (w' : World) : Prop :=
  (∃ (d : L.Desc) (A1 A2 : Option Addr) (n1 n2 c1 c2 : Nat), o = some d ∧ e = .returned (.tuple #[.agg #[.int .i64 d.o, .int .i64 d.g, .bool d.p, .bool d.h, .slice A1 n1 c1, .slice A2 n2 c2], .bool true]) ∧ St w w' [aceRow (.slice A1 n1 c1) n1 d.e, aceRow (.slice A2 n2 c2) n2 d.a]) ∨
  (∃ (x y : Int) (p h : Bool) (A1 A2 : Option Addr) (n1 n2 c1 c2 : Nat), o = none ∧ e = .returned (.tuple #[.agg #[.int .i64 x, .int .i64 y, .bool p, .bool h, .slice A1 n1 c1, .slice A2 n2 c2], .bool false]) ∧ Below w.heap.size w w')
namespace L
theorem rd_no {s : List UInt8} (h : ¬ (Lib.hasPrefix s [79, 58] = true ∧ numOk (dW (rd1 s)) = true ∧ Lib.hasPrefix (dR (rd1 s)) [59, 71, 58] = true ∧ numOk (dW (rd2 s)) = true)) : rd s = none := by unfold rd; rw [if_neg h]
def rd3 (s : List UInt8) : List UInt8 := dR (rd2 s)
theorem rd_yes {s : List UInt8} (h1 : Lib.hasPrefix s [79, 58] = true) (h2 : numOk (dW (rd1 s)) = true) (h3 : Lib.hasPrefix (dR (rd1 s)) [59, 71, 58] = true) (h4 : numOk (dW (rd2 s)) = true) : rd s = rdE (numV (dW (rd1 s))) (numV (dW (rd2 s))) (rd3 s) := by
  unfold rd
  rw [if_pos ⟨h1, h2, h3, h4⟩]
  unfold numV
  rw [if_pos h2, if_pos h4]; rfl
theorem rd1_le (s : List UInt8) : (rd1 s).length ≤ s.length := trim_le _ _
theorem rd2_le (s : List UInt8) : (rd2 s).length ≤ s.length := Nat.le_trans (trim_le _ _) (Nat.le_trans (dR_le _) (rd1_le s))
theorem rd3_le (s : List UInt8) : (rd3 s).length ≤ s.length := Nat.le_trans (dR_le _) (rd2_le s)
theorem entries_le {s r : List UInt8} {l : List Ace} (h : entries s = some (l, r)) : r.length ≤ s.length := by
  obtain ⟨h1, _, _⟩ := entries_to _ _ _ _ (Nat.lt_succ_self _) h
  rw [h1, List.length_append]; omega
end L
theorem rdB1 (s : List UInt8) (w : World) (hl : s.length ≤ 100000) : Calls Tryz.prog 69 #[.string ⟨s.toArray⟩, .string ⟨#[79, 58]⟩] w fun e w' => e = .returned (.tuple #[.string ⟨(L.rd1 s).toArray⟩, .bool (Lib.hasPrefix s [79, 58])]) ∧ Below w.heap.size w w' := begins_any s [79, 58] w (by omega) (by decide)
theorem rdB2 (s : List UInt8) (w : World) (hl : s.length ≤ 100000) : Calls Tryz.prog 69 #[.string ⟨(L.dR (L.rd1 s)).toArray⟩, .string ⟨#[59, 71, 58]⟩] w fun e w' => e = .returned (.tuple #[.string ⟨(L.rd2 s).toArray⟩, .bool (Lib.hasPrefix (L.dR (L.rd1 s)) [59, 71, 58])]) ∧ Below w.heap.size w w' := begins_any (L.dR (L.rd1 s)) [59, 71, 58] w (by have := L.dR_le (L.rd1 s); have := L.rd1_le s; omega) (by decide)
theorem rdN1 (s : List UInt8) (w : World) (hl : s.length ≤ 100000) : Calls Tryz.prog 70 #[.string ⟨(L.rd1 s).toArray⟩] w fun e w' => e = .returned (.tuple #[.int .i64 (L.numV (L.dW (L.rd1 s))), .string ⟨(L.dR (L.rd1 s)).toArray⟩, .bool (L.numOk (L.dW (L.rd1 s)))]) ∧ Below w.heap.size w w' := number_any (L.rd1 s) w (by have := L.rd1_le s; omega)
theorem rdN2 (s : List UInt8) (w : World) (hl : s.length ≤ 100000) : Calls Tryz.prog 70 #[.string ⟨(L.rd2 s).toArray⟩] w fun e w' => e = .returned (.tuple #[.int .i64 (L.numV (L.dW (L.rd2 s))), .string ⟨(L.rd3 s).toArray⟩, .bool (L.numOk (L.dW (L.rd2 s)))]) ∧ Below w.heap.size w w' := number_any (L.rd2 s) w (by have := L.rd2_le s; omega)
set_option maxRecDepth 8000 in
set_option maxHeartbeats 4000000 in
theorem read_any (s : List UInt8) (w : World) (hl : s.length ≤ 100000) : Calls Tryz.prog 41 #[.string ⟨s.toArray⟩] w (RetRd w (L.rd s)) := by
  have hta := bytes_list
  have q1 := L.rd1_le s
  have q2 := L.rd2_le s
  have q3 := L.rd3_le s
  have q4 := L.dR_le (L.rd1 s)
  have st := St.start w
  have hcases : (Lib.hasPrefix s [79, 58] = true ∧ L.numOk (L.dW (L.rd1 s)) = true ∧ Lib.hasPrefix (L.dR (L.rd1 s)) [59, 71, 58] = true ∧ L.numOk (L.dW (L.rd2 s)) = true) ∨ ¬ (Lib.hasPrefix s [79, 58] = true ∧ L.numOk (L.dW (L.rd1 s)) = true ∧ Lib.hasPrefix (L.dR (L.rd1 s)) [59, 71, 58] = true ∧ L.numOk (L.dW (L.rd2 s)) = true) := Decidable.em _
  rcases hcases with ⟨b1, b2, b3, b4⟩ | hno
  · have hR := Lib.hid (L.rd_yes b1 b2 b3 b4)
    go_enter Tryz.func41, Tryz.ntmps41
    go_wp2_with (refine WL.out ?_; (repeat ((refine WL.op ?_ ?_; (exact rfl); intro K hK; (first | ((first | ((with_reducible apply ow_move); exact rfl) | ((with_reducible apply ow_assign); exact rfl)); (go_simp <;> (try simp (disch := omega) only [wrap_id, sub_left, zac]) <;> rfl)) | ((((with_reducible apply ow_alloc st); exact rfl; exact inferInstance; (go_simp <;> (try simp (disch := omega) only [wrap_id, sub_left, zac]) <;> rfl))); (try clear st); intro b w' st) | ((((with_reducible apply ow_store1' st); exact rfl; exact inferInstance; exact rfl; (exact get0); (go_simp <;> (try simp (disch := omega) only [wrap_id, sub_left, zac]) <;> rfl))); exact rfl; exact rfl; (simp <;> done); ((try simp only [zta, ztz, zda, zdz, zca, zcn, zan, zsz, zss]) <;> exact rfl); (try clear st); intro w' st) | ((with_reducible apply ow_eval); (go_simp <;> (try simp (disch := omega) only [wrap_id, sub_left, zac]) <;> rfl); first | (with_reducible apply up_value) | ((with_reducible apply up_enter); first | (go_at_call 69; ((with_reducible refine (rdB1 s _ ?_).mono ?_); (iterate 1 (focus (omega))); rintro e w' ⟨rfl, hb⟩; replace st := st.call hb; clear hb; refine ⟨_, rfl, ?_⟩)) | (go_at_call 69; ((with_reducible refine (rdB2 s _ ?_).mono ?_); (iterate 1 (focus (omega))); rintro e w' ⟨rfl, hb⟩; replace st := st.call hb; clear hb; refine ⟨_, rfl, ?_⟩)) | (go_at_call 70; ((with_reducible refine (rdN1 s _ ?_).mono ?_); (iterate 1 (focus (omega))); rintro e w' ⟨rfl, hb⟩; replace st := st.call hb; clear hb; refine ⟨_, rfl, ?_⟩)) | (go_at_call 70; ((with_reducible refine (rdN2 s _ ?_).mono ?_); (iterate 1 (focus (omega))); rintro e w' ⟨rfl, hb⟩; replace st := st.call hb; clear hb; refine ⟨_, rfl, ?_⟩))))); refine WL.next hK (by simp only [Act.put, zpt, zsz, zss]; exact rfl) ?_; clear hK K))); (try refine WL.nil ?_))
    have hsl : (L.rd3 s).length ≤ 100000 := by omega
    clear b1 b2 b3 b4 q1 q2 q3 q4
    generalize L.numV (L.dW (L.rd1 s)) = O at st hR ⊢
    generalize L.numV (L.dW (L.rd2 s)) = G at st hR ⊢
    generalize L.rd3 s = S at hR hsl ⊢
    cases hD : Lib.hasPrefix S [59, 68, 58]
    · have hR2 : Hid (L.rd s = L.rdA O G (Lib.hasPrefix S [59, 80]) false [] (Lib.trimPrefix S [59, 80])) := Lib.hid (by rw [hR.out]; unfold L.rdE; rw [if_neg (by rw [hD]; decide)])
      have hT : Lib.trimPrefix S [59, 68, 58] = S := by unfold Lib.trimPrefix; rw [if_neg (by rw [hD]; decide)]
      have hu := L.trim_le S [59, 80]
      ((repeat ((refine WL.op ?_ ?_; (exact rfl); intro K hK; (first | ((first | ((with_reducible apply ow_move); exact rfl) | ((with_reducible apply ow_assign); exact rfl)); (go_simp <;> (try simp (disch := omega) only [wrap_id, sub_left, zac]) <;> rfl)) | ((((with_reducible apply ow_store1' st); exact rfl; exact inferInstance; exact rfl; (exact get0); (go_simp <;> (try simp (disch := omega) only [wrap_id, sub_left, zac]) <;> rfl))); exact rfl; exact rfl; (simp <;> done); ((try simp only [zta, ztz, zda, zdz, zca, zcn, zan, zsz, zss]) <;> exact rfl); (try clear st); intro w' st) | ((with_reducible apply ow_eval); (go_simp <;> (try simp (disch := omega) only [wrap_id, sub_left, zac]) <;> rfl); first | (with_reducible apply up_value) | ((with_reducible apply up_enter); ((go_at_call 69; ((with_reducible refine (begins_any S [59, 68, 58] _ ?_ ?_).mono ?_); (iterate 2 (focus (first | omega | (exact (by decide))))); rintro e w' ⟨rfl, hb⟩; replace st := st.call hb; clear hb; refine ⟨_, rfl, ?_⟩)))))); refine WL.next hK (by simp only [Act.put, zpt, zsz, zss]; exact rfl) ?_; clear hK K))); (try refine WL.nil ?_))
      go_wp2_with (refine WL.out ?_; (repeat ((refine WL.op ?_ ?_; (exact rfl); intro K hK; (first | ((first | ((with_reducible apply ow_move); exact rfl) | ((with_reducible apply ow_assign); exact rfl)); (go_simp <;> (try simp (disch := omega) only [wrap_id, sub_left, zac]) <;> rfl)) | ((((with_reducible apply ow_load1 st); exact rfl; exact inferInstance; exact rfl; (exact get0))); exact rfl) | ((((with_reducible apply ow_store1' st); exact rfl; exact inferInstance; exact rfl; (exact get0); (go_simp <;> (try simp (disch := omega) only [wrap_id, sub_left, zac]) <;> rfl))); exact rfl; exact rfl; (simp <;> done); ((try simp only [zta, ztz, zda, zdz, zca, zcn, zan, zsz, zss]) <;> exact rfl); (try clear st); intro w' st) | ((with_reducible apply ow_eval); (go_simp <;> (try simp (disch := omega) only [wrap_id, sub_left, zac]) <;> rfl); first | (with_reducible apply up_value) | ((with_reducible apply up_enter); ((go_at_call 69; ((with_reducible refine (begins_any S [59, 80] _ ?_ ?_).mono ?_); (iterate 2 (focus (first | omega | (exact (by decide))))); rintro e w' ⟨rfl, hb⟩; replace st := st.call hb; clear hb; refine ⟨_, rfl, ?_⟩)))))); refine WL.next hK (by simp only [Act.put, zpt, zsz, zss]; exact rfl) ?_; clear hK K))); (try refine WL.nil ?_))
      have hul : (Lib.trimPrefix S [59, 80]).length ≤ 100000 := by omega
      clear hT hu
      generalize Lib.hasPrefix S [59, 80] = P at st hR2 ⊢
      generalize Lib.trimPrefix S [59, 80] = U at hR2 hul ⊢
      replace st := st.nilRow 37 4
      replace st : St w _ (aceRow (.slice none 0 0) 0 [] :: _) := st
      cases hA : Lib.hasPrefix U [59, 83, 58]
      · have hT : Lib.trimPrefix U [59, 83, 58] = U := by unfold Lib.trimPrefix; rw [if_neg (by rw [hA]; decide)]
        have hz : (U = [] ∧ Hid (L.rd s = some ⟨O, G, P, false, [], []⟩)) ∨ ((U == []) = false ∧ Hid (L.rd s = none)) := by
          rcases U with _ | ⟨x, U⟩
          · exact .inl ⟨rfl, Lib.hid (by rw [hR2.out]; rfl)⟩
          · exact .inr ⟨rfl, Lib.hid (by rw [hR2.out]; unfold L.rdA; rw [if_neg (by rw [hA]; decide), if_neg (by simp)])⟩
        rcases hz with ⟨hU, h⟩ | ⟨hU, h⟩
        · subst hU
          ((repeat ((refine WL.op ?_ ?_; (exact rfl); intro K hK; (first | ((first | ((with_reducible apply ow_move); exact rfl) | ((with_reducible apply ow_assign); exact rfl)); (go_simp <;> (try simp (disch := omega) only [wrap_id, sub_left, zac]) <;> rfl)) | ((with_reducible apply ow_eval); (go_simp <;> (try simp (disch := omega) only [wrap_id, sub_left, zac]) <;> rfl); first | (with_reducible apply up_value) | ((with_reducible apply up_enter); ((go_at_call 69; ((with_reducible refine (begins_any [] [59, 83, 58] _ ?_ ?_).mono ?_); (iterate 2 (focus (first | omega | (exact (by decide))))); rintro e w' ⟨rfl, hb⟩; replace st := st.call hb; clear hb; refine ⟨_, rfl, ?_⟩)))))); refine WL.next hK (by simp only [Act.put, zpt, zsz, zss]; exact rfl) ?_; clear hK K))); (try refine WL.nil ?_))
          go_wp2_with (refine WL.out ?_; (repeat ((refine WL.op ?_ ?_; (exact rfl); intro K hK; (first | ((first | ((with_reducible apply ow_move); exact rfl) | ((with_reducible apply ow_assign); exact rfl)); (go_simp <;> (try simp (disch := omega) only [wrap_id, sub_left, zac]) <;> rfl)) | ((((with_reducible apply ow_loadN st); exact rfl; exact inferInstance; exact rfl; (exact get1); ((try simp only [zta, ztz, zda, zdz, zca, zcn, zan, zsz, zss]) <;> exact rfl))); exact rfl) | ((((with_reducible apply ow_storeN' st); exact rfl; exact inferInstance; exact rfl; (exact get2); exact rfl)); exact rfl; exact rfl; (simp <;> done); ((try simp only [zta, ztz, zda, zdz, zca, zcn, zan, zsz, zss]) <;> exact rfl); (try clear st); intro w' st) | ((with_reducible apply ow_eval); (go_simp <;> (try simp (disch := omega) only [wrap_id, sub_left, zac]) <;> rfl); ((with_reducible apply up_value)))); refine WL.next hK (by simp only [Act.put, zpt, zsz, zss]; exact rfl) ?_; clear hK K))); (try refine WL.nil ?_))
          refine bodyPost_cell_tmp 2 st rfl inferInstance rfl rfl rfl rfl rfl ?_
          exact .inl ⟨_, none, none, 0, 0, 0, 0, h.out, rfl, ((st.sub (List.singleton_sublist.2 (List.mem_cons_self ..))).nilRow _ _).swap⟩
        · ((repeat ((refine WL.op ?_ ?_; (exact rfl); intro K hK; (first | ((first | ((with_reducible apply ow_move); exact rfl) | ((with_reducible apply ow_assign); exact rfl)); (go_simp <;> (try simp (disch := omega) only [wrap_id, sub_left, zac]) <;> rfl)) | ((with_reducible apply ow_eval); (go_simp <;> (try simp (disch := omega) only [wrap_id, sub_left, zac]) <;> rfl); first | (with_reducible apply up_value) | ((with_reducible apply up_enter); ((go_at_call 69; ((with_reducible refine (begins_any U [59, 83, 58] _ ?_ ?_).mono ?_); (iterate 2 (focus (first | omega | (exact (by decide))))); rintro e w' ⟨rfl, hb⟩; replace st := st.call hb; clear hb; refine ⟨_, rfl, ?_⟩)))))); refine WL.next hK (by simp only [Act.put, zpt, zsz, zss]; exact rfl) ?_; clear hK K))); (try refine WL.nil ?_))
          go_wp2_with (refine WL.out ?_; (repeat ((refine WL.op ?_ ?_; (exact rfl); intro K hK; (first | ((first | ((with_reducible apply ow_move); exact rfl) | ((with_reducible apply ow_assign); exact rfl)); (go_simp <;> (try simp (disch := omega) only [wrap_id, sub_left, zac]) <;> rfl)) | ((((with_reducible apply ow_loadN st); exact rfl; exact inferInstance; exact rfl; (exact get1); ((try simp only [zta, ztz, zda, zdz, zca, zcn, zan, zsz, zss]) <;> exact rfl))); exact rfl) | ((((with_reducible apply ow_storeN' st); exact rfl; exact inferInstance; exact rfl; (exact get2); exact rfl)); exact rfl; exact rfl; (simp <;> done); ((try simp only [zta, ztz, zda, zdz, zca, zcn, zan, zsz, zss]) <;> exact rfl); (try clear st); intro w' st) | ((with_reducible apply ow_eval); (go_simp <;> (try simp (disch := omega) only [wrap_id, sub_left, zac]) <;> rfl); ((with_reducible apply up_value)))); refine WL.next hK (by simp only [Act.put, zpt, zsz, zss]; exact rfl) ?_; clear hK K))); (try refine WL.nil ?_))
          refine bodyPost_cell_tmp 2 st rfl inferInstance rfl rfl rfl rfl rfl ?_
          exact .inr ⟨_, _, _, _, none, none, 0, 0, 0, 0, h.out, rfl, st.below⟩
      · have hu := L.trim_le U [59, 83, 58]
        have hul2 : (Lib.trimPrefix U [59, 83, 58]).length ≤ 100000 := by omega
        clear hu
        rcases hE : L.entries (Lib.trimPrefix U [59, 83, 58]) with _ | ⟨a, r⟩
        · have h : Hid (L.rd s = none) := Lib.hid (by rw [hR2.out]; unfold L.rdA; rw [if_pos hA, hE])
          ((repeat ((refine WL.op ?_ ?_; (exact rfl); intro K hK; (first | ((first | ((with_reducible apply ow_move); exact rfl) | ((with_reducible apply ow_assign); exact rfl)); (go_simp <;> (try simp (disch := omega) only [wrap_id, sub_left, zac]) <;> rfl)) | ((with_reducible apply ow_eval); (go_simp <;> (try simp (disch := omega) only [wrap_id, sub_left, zac]) <;> rfl); first | (with_reducible apply up_value) | ((with_reducible apply up_enter); ((go_at_call 69; ((with_reducible refine (begins_any U [59, 83, 58] _ ?_ ?_).mono ?_); (iterate 2 (focus (first | omega | (exact (by decide))))); rintro e w' ⟨rfl, hb⟩; replace st := st.call hb; clear hb; refine ⟨_, rfl, ?_⟩)))))); refine WL.next hK (by simp only [Act.put, zpt, zsz, zss]; exact rfl) ?_; clear hK K))); (try refine WL.nil ?_))
          go_wp2_with (refine WL.out ?_; (repeat (first | (refine WL.op ?_ ?_; (exact rfl); intro K hK; (first | ((first | ((with_reducible apply ow_move); exact rfl) | ((with_reducible apply ow_assign); exact rfl)); (go_simp <;> (try simp (disch := omega) only [wrap_id, sub_left, zac]) <;> rfl)) | ((((with_reducible apply ow_loadN st); exact rfl; exact inferInstance; exact rfl; (exact get1); ((try simp only [zta, ztz, zda, zdz, zca, zcn, zan, zsz, zss]) <;> exact rfl))); exact rfl) | ((((with_reducible apply ow_storeN' st); exact rfl; exact inferInstance; exact rfl; (exact get2); exact rfl)); exact rfl; exact rfl; (simp <;> done); ((try simp only [zta, ztz, zda, zdz, zca, zcn, zan, zsz, zss]) <;> exact rfl); (try clear st); intro w' st) | ((with_reducible apply ow_eval); (go_simp <;> (try simp (disch := omega) only [wrap_id, sub_left, zac]) <;> rfl); first | (with_reducible apply up_value) | ((with_reducible apply up_enter); ((go_at_call 71; ((with_reducible refine (entries_no hE _ ?_).mono ?_); (focus omega); rintro e5 w' ⟨r5, rfl, hb⟩; replace st := st.call hb; clear hb; refine ⟨_, rfl, ?_⟩)))))); refine WL.next hK (by simp only [Act.put, zpt, zsz, zss]; exact rfl) ?_; clear hK K) | (refine WL.skip ?_ (by simp only [Act.put, zpt, zsz, zss]; exact rfl) ?_; (exact rfl)))); (try refine WL.nil ?_))
          refine bodyPost_cell_tmp 2 st rfl inferInstance rfl rfl rfl rfl rfl ?_
          exact .inr ⟨_, _, _, _, none, none, 0, 0, 0, 0, h.out, rfl, st.below⟩
        · rcases Nat.eq_zero_or_pos a.length with ha | ha
          · have h : Hid (L.rd s = none) := Lib.hid (by rw [hR2.out]; unfold L.rdA; rw [if_pos hA, hE]; exact if_pos (.inl ha))
            ((repeat ((refine WL.op ?_ ?_; (exact rfl); intro K hK; (first | ((first | ((with_reducible apply ow_move); exact rfl) | ((with_reducible apply ow_assign); exact rfl)); (go_simp <;> (try simp (disch := omega) only [wrap_id, sub_left, zac]) <;> rfl)) | ((with_reducible apply ow_eval); (go_simp <;> (try simp (disch := omega) only [wrap_id, sub_left, zac]) <;> rfl); first | (with_reducible apply up_value) | ((with_reducible apply up_enter); ((go_at_call 69; ((with_reducible refine (begins_any U [59, 83, 58] _ ?_ ?_).mono ?_); (iterate 2 (focus (first | omega | (exact (by decide))))); rintro e w' ⟨rfl, hb⟩; replace st := st.call hb; clear hb; refine ⟨_, rfl, ?_⟩)))))); refine WL.next hK (by simp only [Act.put, zpt, zsz, zss]; exact rfl) ?_; clear hK K))); (try refine WL.nil ?_))
            go_wp2_with (refine WL.out ?_; (repeat ((refine WL.op ?_ ?_; (exact rfl); intro K hK; (first | ((first | ((with_reducible apply ow_move); exact rfl) | ((with_reducible apply ow_assign); exact rfl)); (go_simp <;> (try simp (disch := omega) only [wrap_id, sub_left, zac]) <;> rfl)) | ((((with_reducible apply ow_loadN st); exact rfl; exact inferInstance; exact rfl; (exact get2); ((try simp only [zta, ztz, zda, zdz, zca, zcn, zan, zsz, zss]) <;> exact rfl))); exact rfl) | ((((with_reducible apply ow_storeN' st); exact rfl; exact inferInstance; exact rfl; (exact get3); exact rfl)); exact rfl; exact rfl; (simp <;> done); ((try simp only [zta, ztz, zda, zdz, zca, zcn, zan, zsz, zss]) <;> exact rfl); (try clear st); intro w' st) | ((with_reducible apply ow_eval); (go_simp <;> (try simp (disch := omega) only [wrap_id, sub_left, zac]) <;> rfl); first | (with_reducible apply up_value) | ((with_reducible apply up_enter); ((go_at_call 71; ((with_reducible refine (entries_ok hE _ ?_).mono ?_); (focus omega)); rintro e5 w' ⟨A5, n5, c5, rfl, st'⟩; replace st := st.join st'; clear st'; simp only [List.cons_append, List.nil_append] at st; refine ⟨_, rfl, ?_⟩; skip; have hn5 : n5 = 0 := by have := St.len st (i := 0) rfl; omega))))); refine WL.next hK (by simp only [Act.put, zpt, zsz, zss]; exact rfl) ?_; clear hK K))); (try refine WL.nil ?_))
            refine bodyPost_cell_tmp 3 st rfl inferInstance rfl rfl rfl rfl rfl ?_
            exact .inr ⟨_, _, _, _, none, none, 0, 0, 0, 0, h.out, rfl, st.below⟩
          · have hz : (r = [] ∧ Hid (L.rd s = some ⟨O, G, P, false, [], a⟩)) ∨ ((r == []) = false ∧ Hid (L.rd s = none)) := by
              rcases r with _ | ⟨x, r⟩
              · exact .inl ⟨rfl, Lib.hid (by rw [hR2.out]; unfold L.rdA; rw [if_pos hA, hE]; exact if_neg (by simp; intro e; subst e; simp at ha))⟩
              · exact .inr ⟨rfl, Lib.hid (by rw [hR2.out]; unfold L.rdA; rw [if_pos hA, hE]; exact if_pos (.inr (by simp)))⟩
            rcases hz with ⟨hU, h⟩ | ⟨hU, h⟩
            · subst hU
              ((repeat ((refine WL.op ?_ ?_; (exact rfl); intro K hK; (first | ((first | ((with_reducible apply ow_move); exact rfl) | ((with_reducible apply ow_assign); exact rfl)); (go_simp <;> (try simp (disch := omega) only [wrap_id, sub_left, zac]) <;> rfl)) | ((with_reducible apply ow_eval); (go_simp <;> (try simp (disch := omega) only [wrap_id, sub_left, zac]) <;> rfl); first | (with_reducible apply up_value) | ((with_reducible apply up_enter); ((go_at_call 69; ((with_reducible refine (begins_any U [59, 83, 58] _ ?_ ?_).mono ?_); (iterate 2 (focus (first | omega | (exact (by decide))))); rintro e w' ⟨rfl, hb⟩; replace st := st.call hb; clear hb; refine ⟨_, rfl, ?_⟩)))))); refine WL.next hK (by simp only [Act.put, zpt, zsz, zss]; exact rfl) ?_; clear hK K))); (try refine WL.nil ?_))
              go_wp2_with (refine WL.out ?_; (repeat ((refine WL.op ?_ ?_; (exact rfl); intro K hK; (first | ((first | ((with_reducible apply ow_move); exact rfl) | ((with_reducible apply ow_assign); exact rfl)); (go_simp <;> (try simp (disch := omega) only [wrap_id, sub_left, zac]) <;> rfl)) | ((((with_reducible apply ow_loadN st); exact rfl; exact inferInstance; exact rfl; (exact get2); ((try simp only [zta, ztz, zda, zdz, zca, zcn, zan, zsz, zss]) <;> exact rfl))); exact rfl) | ((first | ((with_reducible apply ow_store1' st); exact rfl; exact inferInstance; exact rfl; (exact get2); (go_simp <;> (try simp (disch := omega) only [wrap_id, sub_left, zac]) <;> rfl)) | ((with_reducible apply ow_storeN' st); exact rfl; exact inferInstance; exact rfl; (exact get3); exact rfl)); exact rfl; exact rfl; (simp <;> done); ((try simp only [zta, ztz, zda, zdz, zca, zcn, zan, zsz, zss]) <;> exact rfl); (try clear st); intro w' st) | ((with_reducible apply ow_eval); (go_simp <;> (try simp (disch := omega) only [wrap_id, sub_left, zac]) <;> rfl); first | (with_reducible apply up_value) | ((with_reducible apply up_enter); ((go_at_call 71; ((with_reducible refine (entries_ok hE _ ?_).mono ?_); (focus omega)); rintro e5 w' ⟨A5, n5, c5, rfl, st'⟩; replace st := st.join st'; clear st'; simp only [List.cons_append, List.nil_append] at st; refine ⟨_, rfl, ?_⟩; skip; have hn5 : ((n5 : Int) == 0) = false := by (have := St.len st (i := 0) rfl); rw [beq_eq_false_iff_ne]; omega))))); refine WL.next hK (by simp only [Act.put, zpt, zsz, zss]; exact rfl) ?_; clear hK K))); (try refine WL.nil ?_))
              refine bodyPost_cell_tmp 3 st rfl inferInstance rfl rfl rfl rfl rfl ?_
              exact .inl ⟨_, none, A5, 0, n5, 0, c5, h.out, rfl, (st.swap).sub (.cons_cons _ (.cons_cons _ (List.nil_sublist _)))⟩
            · ((repeat ((refine WL.op ?_ ?_; (exact rfl); intro K hK; (first | ((first | ((with_reducible apply ow_move); exact rfl) | ((with_reducible apply ow_assign); exact rfl)); (go_simp <;> (try simp (disch := omega) only [wrap_id, sub_left, zac]) <;> rfl)) | ((with_reducible apply ow_eval); (go_simp <;> (try simp (disch := omega) only [wrap_id, sub_left, zac]) <;> rfl); first | (with_reducible apply up_value) | ((with_reducible apply up_enter); ((go_at_call 69; ((with_reducible refine (begins_any U [59, 83, 58] _ ?_ ?_).mono ?_); (iterate 2 (focus (first | omega | (exact (by decide))))); rintro e w' ⟨rfl, hb⟩; replace st := st.call hb; clear hb; refine ⟨_, rfl, ?_⟩)))))); refine WL.next hK (by simp only [Act.put, zpt, zsz, zss]; exact rfl) ?_; clear hK K))); (try refine WL.nil ?_))
              go_wp2_with (refine WL.out ?_; (repeat ((refine WL.op ?_ ?_; (exact rfl); intro K hK; (first | ((first | ((with_reducible apply ow_move); exact rfl) | ((with_reducible apply ow_assign); exact rfl)); (go_simp <;> (try simp (disch := omega) only [wrap_id, sub_left, zac]) <;> rfl)) | ((((with_reducible apply ow_loadN st); exact rfl; exact inferInstance; exact rfl; (exact get2); ((try simp only [zta, ztz, zda, zdz, zca, zcn, zan, zsz, zss]) <;> exact rfl))); exact rfl) | ((first | ((with_reducible apply ow_store1' st); exact rfl; exact inferInstance; exact rfl; (exact get2); (go_simp <;> (try simp (disch := omega) only [wrap_id, sub_left, zac]) <;> rfl)) | ((with_reducible apply ow_storeN' st); exact rfl; exact inferInstance; exact rfl; (exact get3); exact rfl)); exact rfl; exact rfl; (simp <;> done); ((try simp only [zta, ztz, zda, zdz, zca, zcn, zan, zsz, zss]) <;> exact rfl); (try clear st); intro w' st) | ((with_reducible apply ow_eval); (go_simp <;> (try simp (disch := omega) only [wrap_id, sub_left, zac]) <;> rfl); first | (with_reducible apply up_value) | ((with_reducible apply up_enter); ((go_at_call 71; ((with_reducible refine (entries_ok hE _ ?_).mono ?_); (focus omega)); rintro e5 w' ⟨A5, n5, c5, rfl, st'⟩; replace st := st.join st'; clear st'; simp only [List.cons_append, List.nil_append] at st; refine ⟨_, rfl, ?_⟩; skip; have hn5 : ((n5 : Int) == 0) = false := by (have := St.len st (i := 0) rfl); rw [beq_eq_false_iff_ne]; omega))))); refine WL.next hK (by simp only [Act.put, zpt, zsz, zss]; exact rfl) ?_; clear hK K))); (try refine WL.nil ?_))
              refine bodyPost_cell_tmp 3 st rfl inferInstance rfl rfl rfl rfl rfl ?_
              exact .inr ⟨_, _, _, _, none, A5, 0, n5, 0, c5, h.out, rfl, st.below⟩
    · have hu := L.trim_le S [59, 68, 58]
      have hu2 := L.trim_le (Lib.trimPrefix S [59, 68, 58]) [80]
      have hul : (Lib.trimPrefix (Lib.trimPrefix S [59, 68, 58]) [80]).length ≤ 100000 := by omega
      rcases hE0 : L.entries (Lib.trimPrefix (Lib.trimPrefix S [59, 68, 58]) [80]) with _ | ⟨e, U⟩
      · have h : Hid (L.rd s = none) := Lib.hid (by rw [hR.out]; unfold L.rdE; rw [if_pos hD, hE0])
        ((repeat ((refine WL.op ?_ ?_; (exact rfl); intro K hK; (first | ((first | ((with_reducible apply ow_move); exact rfl) | ((with_reducible apply ow_assign); exact rfl)); (go_simp <;> (try simp (disch := omega) only [wrap_id, sub_left, zac]) <;> rfl)) | ((((with_reducible apply ow_store1' st); exact rfl; exact inferInstance; exact rfl; (exact get0); (go_simp <;> (try simp (disch := omega) only [wrap_id, sub_left, zac]) <;> rfl))); exact rfl; exact rfl; (simp <;> done); ((try simp only [zta, ztz, zda, zdz, zca, zcn, zan, zsz, zss]) <;> exact rfl); (try clear st); intro w' st) | ((with_reducible apply ow_eval); (go_simp <;> (try simp (disch := omega) only [wrap_id, sub_left, zac]) <;> rfl); first | (with_reducible apply up_value) | ((with_reducible apply up_enter); ((go_at_call 69; ((with_reducible refine (begins_any S [59, 68, 58] _ ?_ ?_).mono ?_); (iterate 2 (focus (first | omega | (exact (by decide))))); rintro e w' ⟨rfl, hb⟩; replace st := st.call hb; clear hb; refine ⟨_, rfl, ?_⟩)))))); refine WL.next hK (by simp only [Act.put, zpt, zsz, zss]; exact rfl) ?_; clear hK K))); (try refine WL.nil ?_))
        go_wp2_with (refine WL.out ?_; (repeat ((refine WL.op ?_ ?_; (exact rfl); intro K hK; (first | ((first | ((with_reducible apply ow_move); exact rfl) | ((with_reducible apply ow_assign); exact rfl)); (go_simp <;> (try simp (disch := omega) only [wrap_id, sub_left, zac]) <;> rfl)) | ((first | ((with_reducible apply ow_load1 st); exact rfl; exact inferInstance; exact rfl; (exact get0)) | ((with_reducible apply ow_loadN st); exact rfl; exact inferInstance; exact rfl; (exact get0); ((try simp only [zta, ztz, zda, zdz, zca, zcn, zan, zsz, zss]) <;> exact rfl))); exact rfl) | ((first | ((with_reducible apply ow_store1' st); exact rfl; exact inferInstance; exact rfl; (exact get0); (go_simp <;> (try simp (disch := omega) only [wrap_id, sub_left, zac]) <;> rfl)) | ((with_reducible apply ow_storeN' st); exact rfl; exact inferInstance; exact rfl; (exact get1); exact rfl)); exact rfl; exact rfl; (simp <;> done); ((try simp only [zta, ztz, zda, zdz, zca, zcn, zan, zsz, zss]) <;> exact rfl); (try clear st); intro w' st) | ((with_reducible apply ow_eval); (go_simp <;> (try simp (disch := omega) only [wrap_id, sub_left, zac]) <;> rfl); first | (with_reducible apply up_value) | ((with_reducible apply up_enter); first | (go_at_call 69; ((with_reducible refine (begins_any (Lib.trimPrefix S [59, 68, 58]) [80] _ ?_ ?_).mono ?_); (iterate 2 (focus (first | omega | (exact (by decide))))); rintro e w' ⟨rfl, hb⟩; replace st := st.call hb; clear hb; refine ⟨_, rfl, ?_⟩)) | (go_at_call 71; ((with_reducible refine (entries_no hE0 _ ?_).mono ?_); (focus omega); rintro e5 w' ⟨r5, rfl, hb⟩; replace st := st.call hb; clear hb; refine ⟨_, rfl, ?_⟩))))); refine WL.next hK (by simp only [Act.put, zpt, zsz, zss]; exact rfl) ?_; clear hK K))); (try refine WL.nil ?_))
        refine bodyPost_cell_tmp 1 st rfl inferInstance rfl rfl rfl rfl rfl ?_
        exact .inr ⟨_, _, _, _, none, none, 0, 0, 0, 0, h.out, rfl, st.below⟩
      · have hR2 : Hid (L.rd s = L.rdA O G (Lib.hasPrefix (Lib.trimPrefix S [59, 68, 58]) [80]) true e U) := Lib.hid (by rw [hR.out]; unfold L.rdE; rw [if_pos hD, hE0])
        have hle := L.entries_le hE0
        ((repeat ((refine WL.op ?_ ?_; (exact rfl); intro K hK; (first | ((first | ((with_reducible apply ow_move); exact rfl) | ((with_reducible apply ow_assign); exact rfl)); (go_simp <;> (try simp (disch := omega) only [wrap_id, sub_left, zac]) <;> rfl)) | ((((with_reducible apply ow_store1' st); exact rfl; exact inferInstance; exact rfl; (exact get0); (go_simp <;> (try simp (disch := omega) only [wrap_id, sub_left, zac]) <;> rfl))); exact rfl; exact rfl; (simp <;> done); ((try simp only [zta, ztz, zda, zdz, zca, zcn, zan, zsz, zss]) <;> exact rfl); (try clear st); intro w' st) | ((with_reducible apply ow_eval); (go_simp <;> (try simp (disch := omega) only [wrap_id, sub_left, zac]) <;> rfl); first | (with_reducible apply up_value) | ((with_reducible apply up_enter); ((go_at_call 69; ((with_reducible refine (begins_any S [59, 68, 58] _ ?_ ?_).mono ?_); (iterate 2 (focus (first | omega | (exact (by decide))))); rintro e w' ⟨rfl, hb⟩; replace st := st.call hb; clear hb; refine ⟨_, rfl, ?_⟩)))))); refine WL.next hK (by simp only [Act.put, zpt, zsz, zss]; exact rfl) ?_; clear hK K))); (try refine WL.nil ?_))
        go_wp2_with (refine WL.out ?_; (repeat ((refine WL.op ?_ ?_; (exact rfl); intro K hK; (first | ((first | ((with_reducible apply ow_move); exact rfl) | ((with_reducible apply ow_assign); exact rfl)); (go_simp <;> (try simp (disch := omega) only [wrap_id, sub_left, zac]) <;> rfl)) | ((((with_reducible apply ow_load1 st); exact rfl; exact inferInstance; exact rfl; (exact get0))); exact rfl) | ((((with_reducible apply ow_store1' st); exact rfl; exact inferInstance; exact rfl; (first | exact get0 | exact get1); (go_simp <;> (try simp (disch := omega) only [wrap_id, sub_left, zac]) <;> rfl))); exact rfl; exact rfl; (simp <;> done); ((try simp only [zta, ztz, zda, zdz, zca, zcn, zan, zsz, zss]) <;> exact rfl); (try clear st); intro w' st) | ((with_reducible apply ow_eval); (go_simp <;> (try simp (disch := omega) only [wrap_id, sub_left, zac]) <;> rfl); first | (with_reducible apply up_value) | ((with_reducible apply up_enter); first | (go_at_call 69; ((with_reducible refine (begins_any (Lib.trimPrefix S [59, 68, 58]) [80] _ ?_ ?_).mono ?_); (iterate 2 (focus (first | omega | (exact (by decide))))); rintro e w' ⟨rfl, hb⟩; replace st := st.call hb; clear hb; refine ⟨_, rfl, ?_⟩)) | (go_at_call 71; ((with_reducible refine (entries_ok hE0 _ ?_).mono ?_); (focus omega)); rintro e5 w' ⟨A1, n1, c1, rfl, st'⟩; replace st := st.join st'; clear st'; simp only [List.cons_append, List.nil_append] at st; refine ⟨_, rfl, ?_⟩)))); refine WL.next hK (by simp only [Act.put, zpt, zsz, zss]; exact rfl) ?_; clear hK K))); (try refine WL.nil ?_))
        have hul : U.length ≤ 100000 := by omega
        clear hu hu2 hle
        generalize Lib.hasPrefix (Lib.trimPrefix S [59, 68, 58]) [80] = P at st hR2 ⊢
        cases hA : Lib.hasPrefix U [59, 83, 58]
        · have hT : Lib.trimPrefix U [59, 83, 58] = U := by unfold Lib.trimPrefix; rw [if_neg (by rw [hA]; decide)]
          have hz : (U = [] ∧ Hid (L.rd s = some ⟨O, G, P, true, e, []⟩)) ∨ ((U == []) = false ∧ Hid (L.rd s = none)) := by
            rcases U with _ | ⟨x, U⟩
            · exact .inl ⟨rfl, Lib.hid (by rw [hR2.out]; rfl)⟩
            · exact .inr ⟨rfl, Lib.hid (by rw [hR2.out]; unfold L.rdA; rw [if_neg (by rw [hA]; decide), if_neg (by simp)])⟩
          rcases hz with ⟨hU, h⟩ | ⟨hU, h⟩
          · subst hU
            ((repeat ((refine WL.op ?_ ?_; (exact rfl); intro K hK; (first | ((first | ((with_reducible apply ow_move); exact rfl) | ((with_reducible apply ow_assign); exact rfl)); (go_simp <;> (try simp (disch := omega) only [wrap_id, sub_left, zac]) <;> rfl)) | ((with_reducible apply ow_eval); (go_simp <;> (try simp (disch := omega) only [wrap_id, sub_left, zac]) <;> rfl); first | (with_reducible apply up_value) | ((with_reducible apply up_enter); ((go_at_call 69; ((with_reducible refine (begins_any [] [59, 83, 58] _ ?_ ?_).mono ?_); (iterate 2 (focus (first | omega | (exact (by decide))))); rintro e w' ⟨rfl, hb⟩; replace st := st.call hb; clear hb; refine ⟨_, rfl, ?_⟩)))))); refine WL.next hK (by simp only [Act.put, zpt, zsz, zss]; exact rfl) ?_; clear hK K))); (try refine WL.nil ?_))
            go_wp2_with (refine WL.out ?_; (repeat ((refine WL.op ?_ ?_; (exact rfl); intro K hK; (first | ((first | ((with_reducible apply ow_move); exact rfl) | ((with_reducible apply ow_assign); exact rfl)); (go_simp <;> (try simp (disch := omega) only [wrap_id, sub_left, zac]) <;> rfl)) | ((((with_reducible apply ow_loadN st); exact rfl; exact inferInstance; exact rfl; (exact get1); ((try simp only [zta, ztz, zda, zdz, zca, zcn, zan, zsz, zss]) <;> exact rfl))); exact rfl) | ((((with_reducible apply ow_storeN' st); exact rfl; exact inferInstance; exact rfl; (exact get2); exact rfl)); exact rfl; exact rfl; (simp <;> done); ((try simp only [zta, ztz, zda, zdz, zca, zcn, zan, zsz, zss]) <;> exact rfl); (try clear st); intro w' st) | ((with_reducible apply ow_eval); (go_simp <;> (try simp (disch := omega) only [wrap_id, sub_left, zac]) <;> rfl); ((with_reducible apply up_value)))); refine WL.next hK (by simp only [Act.put, zpt, zsz, zss]; exact rfl) ?_; clear hK K))); (try refine WL.nil ?_))
            refine bodyPost_cell_tmp 2 st rfl inferInstance rfl rfl rfl rfl rfl ?_
            exact .inl ⟨_, A1, none, n1, 0, c1, 0, h.out, rfl, ((st.sub (List.singleton_sublist.2 (List.mem_cons_self ..))).nilRow _ _).swap⟩
          · ((repeat ((refine WL.op ?_ ?_; (exact rfl); intro K hK; (first | ((first | ((with_reducible apply ow_move); exact rfl) | ((with_reducible apply ow_assign); exact rfl)); (go_simp <;> (try simp (disch := omega) only [wrap_id, sub_left, zac]) <;> rfl)) | ((with_reducible apply ow_eval); (go_simp <;> (try simp (disch := omega) only [wrap_id, sub_left, zac]) <;> rfl); first | (with_reducible apply up_value) | ((with_reducible apply up_enter); ((go_at_call 69; ((with_reducible refine (begins_any U [59, 83, 58] _ ?_ ?_).mono ?_); (iterate 2 (focus (first | omega | (exact (by decide))))); rintro e w' ⟨rfl, hb⟩; replace st := st.call hb; clear hb; refine ⟨_, rfl, ?_⟩)))))); refine WL.next hK (by simp only [Act.put, zpt, zsz, zss]; exact rfl) ?_; clear hK K))); (try refine WL.nil ?_))
            go_wp2_with (refine WL.out ?_; (repeat ((refine WL.op ?_ ?_; (exact rfl); intro K hK; (first | ((first | ((with_reducible apply ow_move); exact rfl) | ((with_reducible apply ow_assign); exact rfl)); (go_simp <;> (try simp (disch := omega) only [wrap_id, sub_left, zac]) <;> rfl)) | ((((with_reducible apply ow_loadN st); exact rfl; exact inferInstance; exact rfl; (exact get1); ((try simp only [zta, ztz, zda, zdz, zca, zcn, zan, zsz, zss]) <;> exact rfl))); exact rfl) | ((((with_reducible apply ow_storeN' st); exact rfl; exact inferInstance; exact rfl; (exact get2); exact rfl)); exact rfl; exact rfl; (simp <;> done); ((try simp only [zta, ztz, zda, zdz, zca, zcn, zan, zsz, zss]) <;> exact rfl); (try clear st); intro w' st) | ((with_reducible apply ow_eval); (go_simp <;> (try simp (disch := omega) only [wrap_id, sub_left, zac]) <;> rfl); ((with_reducible apply up_value)))); refine WL.next hK (by simp only [Act.put, zpt, zsz, zss]; exact rfl) ?_; clear hK K))); (try refine WL.nil ?_))
            refine bodyPost_cell_tmp 2 st rfl inferInstance rfl rfl rfl rfl rfl ?_
            exact .inr ⟨_, _, _, _, A1, none, n1, 0, c1, 0, h.out, rfl, st.below⟩
        · have hu := L.trim_le U [59, 83, 58]
          have hul2 : (Lib.trimPrefix U [59, 83, 58]).length ≤ 100000 := by omega
          clear hu
          rcases hE : L.entries (Lib.trimPrefix U [59, 83, 58]) with _ | ⟨a, r⟩
          · have h : Hid (L.rd s = none) := Lib.hid (by rw [hR2.out]; unfold L.rdA; rw [if_pos hA, hE])
            ((repeat ((refine WL.op ?_ ?_; (exact rfl); intro K hK; (first | ((first | ((with_reducible apply ow_move); exact rfl) | ((with_reducible apply ow_assign); exact rfl)); (go_simp <;> (try simp (disch := omega) only [wrap_id, sub_left, zac]) <;> rfl)) | ((with_reducible apply ow_eval); (go_simp <;> (try simp (disch := omega) only [wrap_id, sub_left, zac]) <;> rfl); first | (with_reducible apply up_value) | ((with_reducible apply up_enter); ((go_at_call 69; ((with_reducible refine (begins_any U [59, 83, 58] _ ?_ ?_).mono ?_); (iterate 2 (focus (first | omega | (exact (by decide))))); rintro e w' ⟨rfl, hb⟩; replace st := st.call hb; clear hb; refine ⟨_, rfl, ?_⟩)))))); refine WL.next hK (by simp only [Act.put, zpt, zsz, zss]; exact rfl) ?_; clear hK K))); (try refine WL.nil ?_))
            go_wp2_with (refine WL.out ?_; (repeat (first | (refine WL.op ?_ ?_; (exact rfl); intro K hK; (first | ((first | ((with_reducible apply ow_move); exact rfl) | ((with_reducible apply ow_assign); exact rfl)); (go_simp <;> (try simp (disch := omega) only [wrap_id, sub_left, zac]) <;> rfl)) | ((((with_reducible apply ow_loadN st); exact rfl; exact inferInstance; exact rfl; (exact get1); ((try simp only [zta, ztz, zda, zdz, zca, zcn, zan, zsz, zss]) <;> exact rfl))); exact rfl) | ((((with_reducible apply ow_storeN' st); exact rfl; exact inferInstance; exact rfl; (exact get2); exact rfl)); exact rfl; exact rfl; (simp <;> done); ((try simp only [zta, ztz, zda, zdz, zca, zcn, zan, zsz, zss]) <;> exact rfl); (try clear st); intro w' st) | ((with_reducible apply ow_eval); (go_simp <;> (try simp (disch := omega) only [wrap_id, sub_left, zac]) <;> rfl); first | (with_reducible apply up_value) | ((with_reducible apply up_enter); ((go_at_call 71; ((with_reducible refine (entries_no hE _ ?_).mono ?_); (focus omega); rintro e5 w' ⟨r5, rfl, hb⟩; replace st := st.call hb; clear hb; refine ⟨_, rfl, ?_⟩)))))); refine WL.next hK (by simp only [Act.put, zpt, zsz, zss]; exact rfl) ?_; clear hK K) | (refine WL.skip ?_ (by simp only [Act.put, zpt, zsz, zss]; exact rfl) ?_; (exact rfl)))); (try refine WL.nil ?_))
            refine bodyPost_cell_tmp 2 st rfl inferInstance rfl rfl rfl rfl rfl ?_
            exact .inr ⟨_, _, _, _, A1, none, n1, 0, c1, 0, h.out, rfl, st.below⟩
          · rcases Nat.eq_zero_or_pos a.length with ha | ha
            · have h : Hid (L.rd s = none) := Lib.hid (by rw [hR2.out]; unfold L.rdA; rw [if_pos hA, hE]; exact if_pos (.inl ha))
              ((repeat ((refine WL.op ?_ ?_; (exact rfl); intro K hK; (first | ((first | ((with_reducible apply ow_move); exact rfl) | ((with_reducible apply ow_assign); exact rfl)); (go_simp <;> (try simp (disch := omega) only [wrap_id, sub_left, zac]) <;> rfl)) | ((with_reducible apply ow_eval); (go_simp <;> (try simp (disch := omega) only [wrap_id, sub_left, zac]) <;> rfl); first | (with_reducible apply up_value) | ((with_reducible apply up_enter); ((go_at_call 69; ((with_reducible refine (begins_any U [59, 83, 58] _ ?_ ?_).mono ?_); (iterate 2 (focus (first | omega | (exact (by decide))))); rintro e w' ⟨rfl, hb⟩; replace st := st.call hb; clear hb; refine ⟨_, rfl, ?_⟩)))))); refine WL.next hK (by simp only [Act.put, zpt, zsz, zss]; exact rfl) ?_; clear hK K))); (try refine WL.nil ?_))
              go_wp2_with (refine WL.out ?_; (repeat ((refine WL.op ?_ ?_; (exact rfl); intro K hK; (first | ((first | ((with_reducible apply ow_move); exact rfl) | ((with_reducible apply ow_assign); exact rfl)); (go_simp <;> (try simp (disch := omega) only [wrap_id, sub_left, zac]) <;> rfl)) | ((((with_reducible apply ow_loadN st); exact rfl; exact inferInstance; exact rfl; (exact get2); ((try simp only [zta, ztz, zda, zdz, zca, zcn, zan, zsz, zss]) <;> exact rfl))); exact rfl) | ((((with_reducible apply ow_storeN' st); exact rfl; exact inferInstance; exact rfl; (exact get3); exact rfl)); exact rfl; exact rfl; (simp <;> done); ((try simp only [zta, ztz, zda, zdz, zca, zcn, zan, zsz, zss]) <;> exact rfl); (try clear st); intro w' st) | ((with_reducible apply ow_eval); (go_simp <;> (try simp (disch := omega) only [wrap_id, sub_left, zac]) <;> rfl); first | (with_reducible apply up_value) | ((with_reducible apply up_enter); ((go_at_call 71; ((with_reducible refine (entries_ok hE _ ?_).mono ?_); (focus omega)); rintro e5 w' ⟨A5, n5, c5, rfl, st'⟩; replace st := st.join st'; clear st'; simp only [List.cons_append, List.nil_append] at st; refine ⟨_, rfl, ?_⟩; skip; have hn5 : n5 = 0 := by have := St.len st (i := 0) rfl; omega))))); refine WL.next hK (by simp only [Act.put, zpt, zsz, zss]; exact rfl) ?_; clear hK K))); (try refine WL.nil ?_))
              refine bodyPost_cell_tmp 3 st rfl inferInstance rfl rfl rfl rfl rfl ?_
              exact .inr ⟨_, _, _, _, A1, none, n1, 0, c1, 0, h.out, rfl, st.below⟩
            · have hz : (r = [] ∧ Hid (L.rd s = some ⟨O, G, P, true, e, a⟩)) ∨ ((r == []) = false ∧ Hid (L.rd s = none)) := by
                rcases r with _ | ⟨x, r⟩
                · exact .inl ⟨rfl, Lib.hid (by rw [hR2.out]; unfold L.rdA; rw [if_pos hA, hE]; exact if_neg (by simp; intro e; subst e; simp at ha))⟩
                · exact .inr ⟨rfl, Lib.hid (by rw [hR2.out]; unfold L.rdA; rw [if_pos hA, hE]; exact if_pos (.inr (by simp)))⟩
              rcases hz with ⟨hU, h⟩ | ⟨hU, h⟩
              · subst hU
                ((repeat ((refine WL.op ?_ ?_; (exact rfl); intro K hK; (first | ((first | ((with_reducible apply ow_move); exact rfl) | ((with_reducible apply ow_assign); exact rfl)); (go_simp <;> (try simp (disch := omega) only [wrap_id, sub_left, zac]) <;> rfl)) | ((with_reducible apply ow_eval); (go_simp <;> (try simp (disch := omega) only [wrap_id, sub_left, zac]) <;> rfl); first | (with_reducible apply up_value) | ((with_reducible apply up_enter); ((go_at_call 69; ((with_reducible refine (begins_any U [59, 83, 58] _ ?_ ?_).mono ?_); (iterate 2 (focus (first | omega | (exact (by decide))))); rintro e w' ⟨rfl, hb⟩; replace st := st.call hb; clear hb; refine ⟨_, rfl, ?_⟩)))))); refine WL.next hK (by simp only [Act.put, zpt, zsz, zss]; exact rfl) ?_; clear hK K))); (try refine WL.nil ?_))
                go_wp2_with (refine WL.out ?_; (repeat ((refine WL.op ?_ ?_; (exact rfl); intro K hK; (first | ((first | ((with_reducible apply ow_move); exact rfl) | ((with_reducible apply ow_assign); exact rfl)); (go_simp <;> (try simp (disch := omega) only [wrap_id, sub_left, zac]) <;> rfl)) | ((((with_reducible apply ow_loadN st); exact rfl; exact inferInstance; exact rfl; (exact get2); ((try simp only [zta, ztz, zda, zdz, zca, zcn, zan, zsz, zss]) <;> exact rfl))); exact rfl) | ((first | ((with_reducible apply ow_store1' st); exact rfl; exact inferInstance; exact rfl; (exact get2); (go_simp <;> (try simp (disch := omega) only [wrap_id, sub_left, zac]) <;> rfl)) | ((with_reducible apply ow_storeN' st); exact rfl; exact inferInstance; exact rfl; (exact get3); exact rfl)); exact rfl; exact rfl; (simp <;> done); ((try simp only [zta, ztz, zda, zdz, zca, zcn, zan, zsz, zss]) <;> exact rfl); (try clear st); intro w' st) | ((with_reducible apply ow_eval); (go_simp <;> (try simp (disch := omega) only [wrap_id, sub_left, zac]) <;> rfl); first | (with_reducible apply up_value) | ((with_reducible apply up_enter); ((go_at_call 71; ((with_reducible refine (entries_ok hE _ ?_).mono ?_); (focus omega)); rintro e5 w' ⟨A5, n5, c5, rfl, st'⟩; replace st := st.join st'; clear st'; simp only [List.cons_append, List.nil_append] at st; refine ⟨_, rfl, ?_⟩; skip; have hn5 : ((n5 : Int) == 0) = false := by (have := St.len st (i := 0) rfl); rw [beq_eq_false_iff_ne]; omega))))); refine WL.next hK (by simp only [Act.put, zpt, zsz, zss]; exact rfl) ?_; clear hK K))); (try refine WL.nil ?_))
                refine bodyPost_cell_tmp 3 st rfl inferInstance rfl rfl rfl rfl rfl ?_
                exact .inl ⟨_, A1, A5, n1, n5, c1, c5, h.out, rfl, (st.swap).sub (.cons_cons _ (.cons_cons _ (List.nil_sublist _)))⟩
              · ((repeat ((refine WL.op ?_ ?_; (exact rfl); intro K hK; (first | ((first | ((with_reducible apply ow_move); exact rfl) | ((with_reducible apply ow_assign); exact rfl)); (go_simp <;> (try simp (disch := omega) only [wrap_id, sub_left, zac]) <;> rfl)) | ((with_reducible apply ow_eval); (go_simp <;> (try simp (disch := omega) only [wrap_id, sub_left, zac]) <;> rfl); first | (with_reducible apply up_value) | ((with_reducible apply up_enter); ((go_at_call 69; ((with_reducible refine (begins_any U [59, 83, 58] _ ?_ ?_).mono ?_); (iterate 2 (focus (first | omega | (exact (by decide))))); rintro e w' ⟨rfl, hb⟩; replace st := st.call hb; clear hb; refine ⟨_, rfl, ?_⟩)))))); refine WL.next hK (by simp only [Act.put, zpt, zsz, zss]; exact rfl) ?_; clear hK K))); (try refine WL.nil ?_))
                go_wp2_with (refine WL.out ?_; (repeat ((refine WL.op ?_ ?_; (exact rfl); intro K hK; (first | ((first | ((with_reducible apply ow_move); exact rfl) | ((with_reducible apply ow_assign); exact rfl)); (go_simp <;> (try simp (disch := omega) only [wrap_id, sub_left, zac]) <;> rfl)) | ((((with_reducible apply ow_loadN st); exact rfl; exact inferInstance; exact rfl; (exact get2); ((try simp only [zta, ztz, zda, zdz, zca, zcn, zan, zsz, zss]) <;> exact rfl))); exact rfl) | ((first | ((with_reducible apply ow_store1' st); exact rfl; exact inferInstance; exact rfl; (exact get2); (go_simp <;> (try simp (disch := omega) only [wrap_id, sub_left, zac]) <;> rfl)) | ((with_reducible apply ow_storeN' st); exact rfl; exact inferInstance; exact rfl; (exact get3); exact rfl)); exact rfl; exact rfl; (simp <;> done); ((try simp only [zta, ztz, zda, zdz, zca, zcn, zan, zsz, zss]) <;> exact rfl); (try clear st); intro w' st) | ((with_reducible apply ow_eval); (go_simp <;> (try simp (disch := omega) only [wrap_id, sub_left, zac]) <;> rfl); first | (with_reducible apply up_value) | ((with_reducible apply up_enter); ((go_at_call 71; ((with_reducible refine (entries_ok hE _ ?_).mono ?_); (focus omega)); rintro e5 w' ⟨A5, n5, c5, rfl, st'⟩; replace st := st.join st'; clear st'; simp only [List.cons_append, List.nil_append] at st; refine ⟨_, rfl, ?_⟩; skip; have hn5 : ((n5 : Int) == 0) = false := by (have := St.len st (i := 0) rfl); rw [beq_eq_false_iff_ne]; omega))))); refine WL.next hK (by simp only [Act.put, zpt, zsz, zss]; exact rfl) ?_; clear hK K))); (try refine WL.nil ?_))
                refine bodyPost_cell_tmp 3 st rfl inferInstance rfl rfl rfl rfl rfl ?_
                exact .inr ⟨_, _, _, _, A1, A5, n1, n5, c1, c5, h.out, rfl, st.below⟩
  · have hR := Lib.hid (L.rd_no hno)
    have hcs : Lib.hasPrefix s [79, 58] = false ∨ (Lib.hasPrefix s [79, 58] = true ∧ L.numOk (L.dW (L.rd1 s)) = false) ∨ (Lib.hasPrefix s [79, 58] = true ∧ L.numOk (L.dW (L.rd1 s)) = true ∧ Lib.hasPrefix (L.dR (L.rd1 s)) [59, 71, 58] = false) ∨ (Lib.hasPrefix s [79, 58] = true ∧ L.numOk (L.dW (L.rd1 s)) = true ∧ Lib.hasPrefix (L.dR (L.rd1 s)) [59, 71, 58] = true ∧ L.numOk (L.dW (L.rd2 s)) = false) := by
      revert hno
      cases Lib.hasPrefix s [79, 58] <;> cases L.numOk (L.dW (L.rd1 s)) <;> cases Lib.hasPrefix (L.dR (L.rd1 s)) [59, 71, 58] <;> cases L.numOk (L.dW (L.rd2 s)) <;> simp
    clear hno
    rcases hcs with b1 | ⟨b1, b2⟩ | ⟨b1, b2, b3⟩ | ⟨b1, b2, b3, b4⟩
    all_goals
      go_enter Tryz.func41, Tryz.ntmps41
      go_wp2_with (refine WL.out ?_; (repeat (first | (refine WL.op ?_ ?_; (exact rfl); intro K hK; (first | ((first | ((with_reducible apply ow_move); exact rfl) | ((with_reducible apply ow_assign); exact rfl)); (go_simp <;> (try simp (disch := omega) only [wrap_id, sub_left, zac]) <;> rfl)) | ((((with_reducible apply ow_loadN st); exact rfl; exact inferInstance; exact rfl; (exact get0); ((try simp only [zta, ztz, zda, zdz, zca, zcn, zan, zsz, zss]) <;> exact rfl))); exact rfl) | ((((with_reducible apply ow_alloc st); exact rfl; exact inferInstance; (go_simp <;> (try simp (disch := omega) only [wrap_id, sub_left, zac]) <;> rfl))); (try clear st); intro b w' st) | ((first | ((with_reducible apply ow_store1' st); exact rfl; exact inferInstance; exact rfl; (exact get0); (go_simp <;> (try simp (disch := omega) only [wrap_id, sub_left, zac]) <;> rfl)) | ((with_reducible apply ow_storeN' st); exact rfl; exact inferInstance; exact rfl; (exact get1); exact rfl)); exact rfl; exact rfl; (simp <;> done); ((try simp only [zta, ztz, zda, zdz, zca, zcn, zan, zsz, zss]) <;> exact rfl); (try clear st); intro w' st) | ((with_reducible apply ow_eval); (go_simp <;> (try simp (disch := omega) only [wrap_id, sub_left, zac]) <;> rfl); first | (with_reducible apply up_value) | ((with_reducible apply up_enter); first | (go_at_call 69; ((with_reducible refine (rdB1 s _ ?_).mono ?_); (iterate 1 (focus (omega))); rintro e w' ⟨rfl, hb⟩; replace st := st.call hb; clear hb; refine ⟨_, rfl, ?_⟩)) | (go_at_call 69; ((with_reducible refine (rdB2 s _ ?_).mono ?_); (iterate 1 (focus (omega))); rintro e w' ⟨rfl, hb⟩; replace st := st.call hb; clear hb; refine ⟨_, rfl, ?_⟩)) | (go_at_call 70; ((with_reducible refine (rdN1 s _ ?_).mono ?_); (iterate 1 (focus (omega))); rintro e w' ⟨rfl, hb⟩; replace st := st.call hb; clear hb; refine ⟨_, rfl, ?_⟩)) | (go_at_call 70; ((with_reducible refine (rdN2 s _ ?_).mono ?_); (iterate 1 (focus (omega))); rintro e w' ⟨rfl, hb⟩; replace st := st.call hb; clear hb; refine ⟨_, rfl, ?_⟩))))); refine WL.next hK (by simp only [Act.put, zpt, zsz, zss]; exact rfl) ?_; clear hK K) | (refine WL.skip ?_ (by simp only [Act.put, zpt, zsz, zss]; exact rfl) ?_; (exact rfl)))); (try refine WL.nil ?_))
      refine bodyPost_cell_tmp 1 st rfl inferInstance rfl rfl rfl rfl rfl ?_
      exact .inr ⟨_, _, _, _, none, none, 0, 0, 0, 0, hR.out, rfl, st.below⟩
end Go.Proofs.YtppjhccdgbheiaaGreatDoor
namespace Go.Proofs.YtppjhccdgbheiaaGreatDoor
open Go.RowKit Go.Hp
theorem read_ok {s : List UInt8} {d : L.Desc} (hx : L.rd s = some d) (w : World) (hl : s.length ≤ 100000) :
    Calls Tryz.prog 41 #[.string ⟨s.toArray⟩] w fun e w' => ∃ A1 A2 n1 n2 c1 c2, e = .returned (.tuple #[.agg #[.int .i64 d.o, .int .i64 d.g, .bool d.p, .bool d.h, .slice A1 n1 c1, .slice A2 n2 c2], .bool true]) ∧ St w w' [aceRow (.slice A1 n1 c1) n1 d.e, aceRow (.slice A2 n2 c2) n2 d.a] :=
  (read_any s w hl).mono fun e w' h => by
    rcases h with ⟨d', A1, A2, n1, n2, c1, c2, h1, h2, h3⟩ | ⟨_, _, _, _, _, _, _, _, _, _, h1, _, _⟩
    · obtain rfl : d = d' := Option.some.inj (hx.symm.trans h1)
      exact ⟨A1, A2, n1, n2, c1, c2, h2, h3⟩
    · rw [hx] at h1; cases h1
namespace L
def pRes (s : List UInt8) : Desc × Int := match rd s with
  | none => (Desc.none, 7)
  | some d => if d.rErrs.2 = 0 then (d, 0) else (Desc.none, d.rErrs.2)
end L
set_option maxRecDepth 8000 in
set_option maxHeartbeats 4000000 in
theorem rParse_large (s : List UInt8) (w : World) (hl : 200000 < s.length) : Calls Tryz.prog 23 #[.string ⟨s.toArray⟩] w (RetDescErr w (L.Desc.none, 8)) := by
  have hsz := bytes_size
  have st := St.start w
  have hl' : (200000 : Int) < (s.length : Int) := by omega
  go_enter Tryz.func23, Tryz.ntmps23
  go_wp2_with (refine WL.out ?_; (repeat ((refine WL.op ?_ ?_; (exact rfl); intro K hK; (first | ((((with_reducible apply ow_assign); exact rfl)); (go_simp <;> (try simp (disch := omega) only [wrap_id, sub_left, zac]) <;> rfl)) | ((((with_reducible apply ow_alloc st); exact rfl; exact inferInstance; (go_simp <;> (try simp (disch := omega) only [wrap_id, sub_left, zac]) <;> rfl))); (try clear st); intro b w' st) | ((((with_reducible apply ow_storeN' st); exact rfl; exact inferInstance; exact rfl; (exact get0); exact rfl)); exact rfl; exact rfl; (simp <;> done); ((try simp only [zta, ztz, zda, zdz, zca, zcn, zan, zsz, zss]) <;> exact rfl); (try clear st); intro w' st) | ((with_reducible apply ow_eval); (go_simp <;> (try simp (disch := omega) only [wrap_id, sub_left, zac]) <;> rfl); ((with_reducible apply up_value)))); refine WL.next hK (by simp only [Act.put, zpt, zsz, zss]; exact rfl) ?_; clear hK K))); (try refine WL.nil ?_))
  refine bodyPost_cell_tmp 0 st rfl inferInstance rfl rfl rfl rfl rfl ?_
  exact ⟨none, 0, 0, none, 0, 0, rfl, ((st.sub (List.nil_sublist _)).nilRow _ _).nilRow _ _⟩
set_option maxRecDepth 8000 in
set_option maxHeartbeats 4000000 in
theorem rParse_any (s : List UInt8) (w : World) (hl : s.length ≤ 100000) (hc : ∀ d, L.rd s = some d → d.e.length ≤ 100 ∧ d.a.length ≤ 100) : Calls Tryz.prog 23 #[.string ⟨s.toArray⟩] w (RetDescErr w (L.pRes s)) := by
  have hsz := bytes_size
  have st := St.start w
  have hl' : ¬ (200000 : Int) < (s.length : Int) := by omega
  rcases hR : L.rd s with _ | d
  · have hP : Hid (L.pRes s = (L.Desc.none, 7)) := Lib.hid (by unfold L.pRes; rw [hR])
    have HR := Lib.hid hR
    clear hR hc
    go_enter Tryz.func23, Tryz.ntmps23
    go_wp2_with (refine WL.out ?_; (repeat ((refine WL.op ?_ ?_; (exact rfl); intro K hK; (first | ((first | ((with_reducible apply ow_move); exact rfl) | ((with_reducible apply ow_assign); exact rfl)); (go_simp <;> (try simp (disch := omega) only [wrap_id, sub_left, zac]) <;> rfl)) | ((((with_reducible apply ow_alloc st); exact rfl; exact inferInstance; (go_simp <;> (try simp (disch := omega) only [wrap_id, sub_left, zac]) <;> rfl))); (try clear st); intro b w' st) | ((((with_reducible apply ow_storeN' st); exact rfl; exact inferInstance; exact rfl; (first | exact get0 | exact get1); exact rfl)); exact rfl; exact rfl; (simp <;> done); ((try simp only [zta, ztz, zda, zdz, zca, zcn, zan, zsz, zss]) <;> exact rfl); (try clear st); intro w' st) | ((with_reducible apply ow_eval); (go_simp <;> (try simp (disch := omega) only [wrap_id, sub_left, zac]) <;> rfl); first | (with_reducible apply up_value) | ((with_reducible apply up_enter); ((go_at_call 41; ((with_reducible refine (read_any s _ ?_).mono ?_); (focus omega)); rintro e5 w' h5; (rcases h5 with ⟨d5, A1, A2, n1, n2, c1, c2, h5, _, _⟩ | ⟨x5, y5, p5, h5, A1, A2, n1, n2, c1, c2, _, rfl, hb⟩); (focus (rw [HR.out] at h5; cases h5)); replace st := st.call hb; clear hb; refine ⟨_, rfl, ?_⟩))))); refine WL.next hK (by simp only [Act.put, zpt, zsz, zss]; exact rfl) ?_; clear hK K))); (try refine WL.nil ?_))
    refine bodyPost_cell_tmp 1 st rfl inferInstance rfl rfl rfl rfl rfl ?_
    rw [hP.out]
    exact ⟨none, 0, 0, none, 0, 0, rfl, ((st.sub (List.nil_sublist _)).nilRow _ _).nilRow _ _⟩
  · obtain ⟨hc1, hc2⟩ := hc d hR
    have HR := Lib.hid hR
    clear hc
    by_cases hE : d.rErrs.2 = 0
    · have hP : Hid (L.pRes s = (d, 0)) := Lib.hid (by unfold L.pRes; rw [hR]; exact if_pos hE)
      have HE := Lib.hid hE
      clear hE hR
      go_enter Tryz.func23, Tryz.ntmps23
      go_wp2_with (refine WL.out ?_; (repeat ((refine WL.op ?_ ?_; (exact rfl); intro K hK; (first | ((first | ((with_reducible apply ow_move); exact rfl) | ((with_reducible apply ow_assign); exact rfl)); (go_simp <;> (try simp (disch := omega) only [wrap_id, sub_left, zac]) <;> rfl)) | ((((with_reducible apply ow_loadN st); exact rfl; exact inferInstance; exact rfl; (exact get0); ((try simp only [zta, ztz, zda, zdz, zca, zcn, zan, zsz, zss]) <;> exact rfl))); exact rfl) | ((((with_reducible apply ow_alloc st); exact rfl; exact inferInstance; (go_simp <;> (try simp (disch := omega) only [wrap_id, sub_left, zac]) <;> rfl))); (try clear st); intro b w' st) | ((((with_reducible apply ow_storeN' st); exact rfl; exact inferInstance; exact rfl; (first | exact get0 | exact get3); exact rfl)); exact rfl; exact rfl; (simp <;> done); ((try simp only [zta, ztz, zda, zdz, zca, zcn, zan, zsz, zss]) <;> exact rfl); (try clear st); intro w' st) | ((with_reducible apply ow_eval); (go_simp <;> (try simp (disch := omega) only [wrap_id, sub_left, zac]) <;> rfl); first | (with_reducible apply up_value) | ((with_reducible apply up_enter); first | (go_at_call 41; ((with_reducible refine (read_ok HR.out _ ?_).mono ?_); (focus omega)); rintro e5 w' ⟨A1, A2, n1, n2, c1, c2, rfl, st'⟩; replace st := st.join st'; clear st'; simp only [List.cons_append, List.nil_append] at st; refine ⟨_, rfl, ?_⟩) | (go_at_call 14; ((with_reducible refine (rDescriptorErr_any d A1 A2 n1 n2 c1 c2 _ _ (St.aces st (i := 1) rfl) (St.aces st (i := 2) rfl) (Nat.le_refl _) ?_ ?_).mono ?_); (focus (have := St.len st (i := 1) rfl; omega)); (focus (have := St.len st (i := 2) rfl; omega))); rw [HE.out]; rintro e w' ⟨rfl, hb⟩; replace st := st.call hb; clear hb; refine ⟨_, rfl, ?_⟩)))); refine WL.next hK (by simp only [Act.put, zpt, zsz, zss]; exact rfl) ?_; clear hK K))); (try refine WL.nil ?_))
      refine bodyPost_cell_tmp 3 st rfl inferInstance rfl rfl rfl rfl rfl ?_
      rw [hP.out]
      exact ⟨A1, n1, c1, A2, n2, c2, rfl, st.tail.sub (.cons_cons _ (.cons_cons _ (List.nil_sublist _)))⟩
    · obtain ⟨E, hE2⟩ : ∃ E, d.rErrs.2 = E := ⟨_, rfl⟩
      have hP : Hid (L.pRes s = (L.Desc.none, E)) := Lib.hid (by unfold L.pRes; rw [hR]; exact (if_neg hE).trans (by rw [hE2]))
      rw [hE2] at hE
      have hv0 : (E != 0) = true := by simpa using hE
      have HE := Lib.hid hE2
      clear hE hE2 hR
      go_enter Tryz.func23, Tryz.ntmps23
      go_wp2_with (refine WL.out ?_; (repeat ((refine WL.op ?_ ?_; (exact rfl); intro K hK; (first | ((first | ((with_reducible apply ow_move); exact rfl) | ((with_reducible apply ow_assign); exact rfl)); (go_simp <;> (try simp (disch := omega) only [wrap_id, sub_left, zac]) <;> rfl)) | ((((with_reducible apply ow_loadN st); exact rfl; exact inferInstance; exact rfl; (exact get0); ((try simp only [zta, ztz, zda, zdz, zca, zcn, zan, zsz, zss]) <;> exact rfl))); exact rfl) | ((((with_reducible apply ow_alloc st); exact rfl; exact inferInstance; (go_simp <;> (try simp (disch := omega) only [wrap_id, sub_left, zac]) <;> rfl))); (try clear st); intro b w' st) | ((((with_reducible apply ow_storeN' st); exact rfl; exact inferInstance; exact rfl; (first | exact get0 | exact get3); exact rfl)); exact rfl; exact rfl; (simp <;> done); ((try simp only [zta, ztz, zda, zdz, zca, zcn, zan, zsz, zss]) <;> exact rfl); (try clear st); intro w' st) | ((with_reducible apply ow_eval); (go_simp <;> (try simp (disch := omega) only [wrap_id, sub_left, zac]) <;> rfl); first | (with_reducible apply up_value) | ((with_reducible apply up_enter); first | (go_at_call 41; ((with_reducible refine (read_ok HR.out _ ?_).mono ?_); (focus omega)); rintro e5 w' ⟨A1, A2, n1, n2, c1, c2, rfl, st'⟩; replace st := st.join st'; clear st'; simp only [List.cons_append, List.nil_append] at st; refine ⟨_, rfl, ?_⟩) | (go_at_call 14; ((with_reducible refine (rDescriptorErr_any d A1 A2 n1 n2 c1 c2 _ _ (St.aces st (i := 1) rfl) (St.aces st (i := 2) rfl) (Nat.le_refl _) ?_ ?_).mono ?_); (focus (have := St.len st (i := 1) rfl; omega)); (focus (have := St.len st (i := 2) rfl; omega))); rw [HE.out]; rintro e w' ⟨rfl, hb⟩; replace st := st.call hb; clear hb; refine ⟨_, rfl, ?_⟩)))); refine WL.next hK (by simp only [Act.put, zpt, zsz, zss]; exact rfl) ?_; clear hK K))); (try refine WL.nil ?_))
      refine bodyPost_cell_tmp 3 st rfl inferInstance rfl rfl rfl rfl rfl ?_
      rw [hP.out]
      exact ⟨none, 0, 0, none, 0, 0, rfl, ((st.sub (List.nil_sublist _)).nilRow _ _).nilRow _ _⟩
end Go.Proofs.YtppjhccdgbheiaaGreatDoor
namespace Go.Proofs.YtppjhccdgbheiaaGreatDoor
open Go.RowKit Go.Hp
namespace L
theorem cut_le (t : List UInt8) (c : UInt8) : (Lib.cut t [c]).1.length ≤ t.length ∧ (Lib.cut t [c]).2.1.length ≤ t.length := by
  unfold Lib.cut
  split
  · constructor
    · simp only [List.length_take]; omega
    · simp only [List.length_drop]; omega
  · exact ⟨Nat.le_refl _, Nat.zero_le _⟩
end L
set_option maxRecDepth 8000 in
set_option maxHeartbeats 4000000 in
theorem acesIn_any (s : List UInt8) (w : World) (hl : s.length ≤ 100000) (hE : Env w) : Calls Tryz.prog 68 #[.string ⟨s.toArray⟩] w (RetEnts w (L.entries s)) := by
  have hsz := bytes_size
  have HE := Lib.hid hE
  have st := St.start w
  clear hE
  go_enter Tryz.func68, Tryz.ntmps68
  go_wp2_with (refine WL.out ?_; (repeat (fail)); (try refine WL.nil ?_))
  go_loopw [0, 2] (fun v x wr => ∃ (s' : List UInt8) (l0 : List L.Ace) (A : Option Addr) (n c : Nat), v = .string ⟨s'.toArray⟩ ∧ x = .slice A n c ∧ s'.length ≤ 100000 ∧ n + s'.length ≤ 100000 ∧ Hid (L.entries s = (L.entries s').map fun p => (l0 ++ p.1, p.2)) ∧ St w wr [aceRow (.slice A n c) n l0]) (fun v _ _ => L.sz v)
  case atStart => exact ⟨s, [], none, 0, 0, rfl, rfl, hl, by omega, Lib.hid (by simp), st.nilRow _ _⟩
  case round =>
    clear st
    obtain ⟨s', l0, A, n, c, rfl, rfl, hl', hn, hs, st⟩ := hrel
    cases hp : Lib.hasPrefix s' [40]
    · have hh : s'.head? ≠ some 40 := by
        intro e
        rcases s' with _ | ⟨x, t⟩
        · simp at e
        · have e1 : x = 40 := by simpa using e
          rw [e1, L.hasC] at hp; cases hp
      have hdone : Hid (L.entries s = some (l0, s')) := Lib.hid (by rw [hs.out, L.entries_not hh]; simp)
      clear hh
      go_wp2_with (refine WL.out ?_; (repeat ((refine WL.op ?_ ?_; (exact rfl); intro K hK; (((with_reducible apply ow_eval); (go_simp <;> (try simp (disch := omega) only [wrap_id, sub_left, zac]) <;> rfl); (((with_reducible apply up_enter); ((go_at_call 102; refine (hasPrefix_any s' [40] _).mono ?_; rw [hp]; rintro e w' ⟨rfl, rfl⟩; refine ⟨_, rfl, ?_⟩)))))); refine WL.next hK (by simp only [Act.put, zpt, zsz, zss]; exact rfl) ?_; clear hK K))); (try refine WL.nil ?_))
      go_ret3
      exact .inl ⟨l0, s', A, n, c, hdone.out, rfl, st⟩
    · obtain ⟨t, ht⟩ := L.has1 hp
      have hh : Hid (s'.head? = some 40) := Lib.hid (by rw [ht]; rfl)
      have hone : Hid (L.ace1 s' = L.codeOne t) := Lib.hid (by rw [ht]; exact L.ace1_code t)
      have hd1 : s'.drop 1 = t := by rw [ht]; rfl
      have hd2 : s'.tail = t := by rw [ht]; rfl
      have hlen : s'.length = t.length + 1 := by rw [ht]; rfl
      have hpos : 1 ≤ s'.length := by omega
      have htl : t.length ≤ 100000 := by omega
      have HC := Lib.hid (cut_any t)
      have hcl := L.cut_le t 41
      rcases hcut : Lib.cut t [41] with ⟨own, aft, cl⟩
      have hco : Hid (L.codeOne t = if cl = true then (L.codeAce own).map fun a => (a, aft) else none) := Lib.hid (by unfold L.codeOne; rw [hcut])
      rw [hcut] at HC hcl
      simp only [] at hcl
      have HC2 : Hid (∀ w, t.length ≤ 100000 → Env w → Calls Tryz.prog 103 #[.string ⟨t.toArray⟩, .string ⟨#[41]⟩] w fun e w' => e = .returned (.tuple #[.string ⟨own.toArray⟩, .string ⟨aft.toArray⟩, .bool cl]) ∧ Below w.heap.size w w') := Lib.hid HC.out
      obtain ⟨ho1, ho2⟩ := hcl
      replace hlen := Lib.hid hlen
      clear ht HC hcut
      cases cl
      · have hno : Hid (L.entries s = none) := Lib.hid (by rw [hs.out, L.entries_none hh.out (by rw [hone.out, hco.out]; rfl)]; rfl)
        go_wp2_with (refine WL.out ?_; (repeat (first | (refine WL.op ?_ ?_; (exact rfl); intro K hK; (first | ((first | ((with_reducible apply ow_move); exact rfl) | ((with_reducible apply ow_assign); exact rfl)); (go_simp <;> (try simp (disch := omega) only [wrap_id, sub_left, zac]) <;> rfl)) | ((((with_reducible apply ow_alloc st); exact rfl; exact inferInstance; (go_simp <;> (try simp (disch := omega) only [wrap_id, sub_left, zac]) <;> rfl))); (try clear st); intro b w' st) | ((((with_reducible apply ow_storeN' st); exact rfl; exact inferInstance; exact rfl; (exact get0); exact rfl)); exact rfl; exact rfl; (simp <;> done); ((try simp only [zta, ztz, zda, zdz, zca, zcn, zan, zsz, zss]) <;> exact rfl); (try clear st); intro w' st) | ((with_reducible apply ow_from (i := 1)); exact rfl; exact Tryz.underlying9; exact rfl; exact rfl; (focus (exact rfl)); (focus omega)) | ((with_reducible apply ow_eval); (go_simp <;> (try simp (disch := omega) only [wrap_id, sub_left, zac]) <;> rfl); first | (with_reducible apply up_value) | ((with_reducible apply up_enter); first | (go_at_call 102; refine (hasPrefix_any s' [40] _).mono ?_; rw [hp]; rintro e w' ⟨rfl, rfl⟩; refine ⟨_, rfl, ?_⟩) | (go_at_call 103; refine (HC2.out _ htl (HE.out.later st.below)).mono ?_; rintro e w' ⟨rfl, hb⟩; replace st := st.call hb; clear hb; refine ⟨_, rfl, ?_⟩) | (go_at_call 104; ((with_reducible refine (aceIn_any own _ ?_ (HE.out.later st.below)).mono ?_); (focus omega)); rintro e w' ⟨ka, fa, ma, va, hva, rfl, hb⟩; replace st := st.call hb; clear hb; replace hva := Lib.hid hva; (try rw [HA.out]); refine ⟨_, rfl, ?_⟩)))); refine WL.next hK (by simp only [Act.put, zpt, zsz, zss]; exact rfl) ?_; clear hK K) | (refine WL.skip ?_ (by simp only [Act.put, zpt, zsz, zss]; exact rfl) ?_; (exact rfl)))); (try refine WL.nil ?_))
        go_ret3
        exact .inr ⟨_, hno.out, rfl, st.below⟩
      · rcases hA : L.codeAce own with _ | a
        · have hno : Hid (L.entries s = none) := Lib.hid (by rw [hs.out, L.entries_none hh.out (by rw [hone.out, hco.out, hA]; rfl)]; rfl)
          have HA := Lib.hid hA
          clear hA
          go_wp2_with (refine WL.out ?_; (repeat ((refine WL.op ?_ ?_; (exact rfl); intro K hK; (first | ((first | ((with_reducible apply ow_move); exact rfl) | ((with_reducible apply ow_assign); exact rfl)); (go_simp <;> (try simp (disch := omega) only [wrap_id, sub_left, zac]) <;> rfl)) | ((((with_reducible apply ow_alloc st); exact rfl; exact inferInstance; (go_simp <;> (try simp (disch := omega) only [wrap_id, sub_left, zac]) <;> rfl))); (try clear st); intro b w' st) | ((((with_reducible apply ow_storeN' st); exact rfl; exact inferInstance; exact rfl; (exact get0); exact rfl)); exact rfl; exact rfl; (simp <;> done); ((try simp only [zta, ztz, zda, zdz, zca, zcn, zan, zsz, zss]) <;> exact rfl); (try clear st); intro w' st) | ((with_reducible apply ow_from (i := 1)); exact rfl; exact Tryz.underlying9; exact rfl; exact rfl; (focus (exact rfl)); (focus omega)) | ((with_reducible apply ow_eval); (go_simp <;> (try simp (disch := omega) only [wrap_id, sub_left, zac]) <;> rfl); first | (with_reducible apply up_value) | ((with_reducible apply up_enter); first | (go_at_call 102; refine (hasPrefix_any s' [40] _).mono ?_; rw [hp]; rintro e w' ⟨rfl, rfl⟩; refine ⟨_, rfl, ?_⟩) | (go_at_call 103; refine (HC2.out _ htl (HE.out.later st.below)).mono ?_; rintro e w' ⟨rfl, hb⟩; replace st := st.call hb; clear hb; refine ⟨_, rfl, ?_⟩) | (go_at_call 104; ((with_reducible refine (aceIn_any own _ ?_ (HE.out.later st.below)).mono ?_); (focus omega)); rintro e w' ⟨ka, fa, ma, va, hva, rfl, hb⟩; replace st := st.call hb; clear hb; replace hva := Lib.hid hva; (try rw [HA.out]); refine ⟨_, rfl, ?_⟩)))); refine WL.next hK (by simp only [Act.put, zpt, zsz, zss]; exact rfl) ?_; clear hK K))); (try refine WL.nil ?_))
          go_ret3
          exact .inr ⟨_, hno.out, rfl, st.below⟩
        · have hac : Hid (L.ace1 s' = some (a, aft)) := Lib.hid (by rw [hone.out, hco.out, hA]; rfl)
          have hnx : Hid (L.entries s = (L.entries aft).map fun p => ((l0 ++ [a]) ++ p.1, p.2)) := Lib.hid (by
            rw [hs.out, L.entries_some hh.out hac.out, Option.map_map]
            congr 1
            funext p
            simp)
          have HA := Lib.hid hA
          clear hA
          go_wp2_with (refine WL.out ?_; (repeat ((refine WL.op ?_ ?_; (exact rfl); intro K hK; (first | ((first | ((with_reducible apply ow_move); exact rfl) | ((with_reducible apply ow_assign); exact rfl)); (go_simp <;> (try simp (disch := omega) only [wrap_id, sub_left, zac]) <;> rfl)) | ((((with_reducible apply ow_loadN st); exact rfl; exact inferInstance; exact rfl; (exact get0); ((try simp only [zta, ztz, zda, zdz, zca, zcn, zan, zsz, zss]) <;> exact rfl))); exact rfl) | ((first | ((with_reducible apply ow_newSlice st); exact rfl; (go_simp <;> (try simp (disch := omega) only [wrap_id, sub_left, zac]) <;> rfl); exact rfl) | ((with_reducible apply ow_alloc st); exact rfl; exact inferInstance; (go_simp <;> (try simp (disch := omega) only [wrap_id, sub_left, zac]) <;> rfl))); (try clear st); intro b w' st) | ((((with_reducible apply ow_storeN' st); exact rfl; exact inferInstance; exact rfl; (exact get0); exact rfl)); exact rfl; exact rfl; (simp <;> done); ((try simp only [zta, ztz, zda, zdz, zca, zcn, zan, zsz, zss]) <;> exact rfl); (try clear st); intro w' st) | ((with_reducible apply ow_from (i := 1)); exact rfl; exact Tryz.underlying9; exact rfl; exact rfl; (focus (exact rfl)); (focus omega)) | ((with_reducible apply ow_append 2 st); exact rfl; exact inferInstance; exact rfl; exact rfl; exact rfl; exact st.rdBox (i := 0) (n := 1) (size := 4) rfl rfl; (focus ((simp [Value.oneCell']; done))); (focus (unfold maxLen; omega)); (focus omega); (try clear st); intro A' c' w' st; (try simp only [List.set_cons_zero, List.set_cons_succ, Nat.zero_add, List.nil_append] at st)) | ((with_reducible apply ow_eval); (go_simp <;> (try simp (disch := omega) only [wrap_id, sub_left, zac]) <;> rfl); first | (with_reducible apply up_value) | ((with_reducible apply up_enter); first | (go_at_call 102; refine (hasPrefix_any s' [40] _).mono ?_; rw [hp]; rintro e w' ⟨rfl, rfl⟩; refine ⟨_, rfl, ?_⟩) | (go_at_call 103; refine (HC2.out _ htl (HE.out.later st.below)).mono ?_; rintro e w' ⟨rfl, hb⟩; replace st := st.call hb; clear hb; refine ⟨_, rfl, ?_⟩) | (go_at_call 104; ((with_reducible refine (aceIn_any own _ ?_ (HE.out.later st.below)).mono ?_); (focus omega)); rintro e w' ⟨ka, fa, ma, va, hva, rfl, hb⟩; replace st := st.call hb; clear hb; replace hva := Lib.hid hva; (try rw [HA.out]); refine ⟨_, rfl, ?_⟩)))); refine WL.next hK (by simp only [Act.put, zpt, zsz, zss]; exact rfl) ?_; clear hK K))); (try refine WL.nil ?_))
          have hae := hva.out a HA.out
          have hll := hlen.out
          subst hae
          exact ⟨⟨aft, l0 ++ [⟨ka, fa, ma, va⟩], A', n + 1, c', rfl, rfl, by omega, by omega, hnx, by unfold aceRow; rw [L.cellsOf_append]; exact st.tail.tail⟩, by simp only [L.sz, hsz]; omega⟩
end Go.Proofs.YtppjhccdgbheiaaGreatDoor
namespace Go.Proofs.YtppjhccdgbheiaaGreatDoor
open Go.RowKit Go.Hp
theorem acesIn_ok {s r : List UInt8} {l : List L.Ace} (hx : L.entries s = some (l, r)) (w : World) (hl : s.length ≤ 100000) (hE : Env w) :
    Calls Tryz.prog 68 #[.string ⟨s.toArray⟩] w fun e w' => ∃ A n c, e = .returned (.tuple #[.slice A n c, .string ⟨r.toArray⟩, .bool true]) ∧ St w w' [aceRow (.slice A n c) n l] :=
  (acesIn_any s w hl hE).mono fun e w' h => by
    rcases h with ⟨l', r', A, n, c, h1, h2, h3⟩ | ⟨r', h1, _⟩
    · rw [hx] at h1
      simp only [Option.some.injEq, Prod.mk.injEq] at h1
      obtain ⟨rfl, rfl⟩ := h1
      exact ⟨A, n, c, h2, h3⟩
    · rw [hx] at h1; cases h1
theorem acesIn_no {s : List UInt8} (hx : L.entries s = none) (w : World) (hl : s.length ≤ 100000) (hE : Env w) :
    Calls Tryz.prog 68 #[.string ⟨s.toArray⟩] w fun e w' => ∃ r : List UInt8, e = .returned (.tuple #[.slice none 0 0, .string ⟨r.toArray⟩, .bool false]) ∧ Below w.heap.size w w' :=
  (acesIn_any s w hl hE).mono fun e w' h => by
    rcases h with ⟨l', r', A, n, c, h1, h2, h3⟩ | ⟨r', h1, h2, h3⟩
    · rw [hx] at h1; cases h1
    · exact ⟨r', h2, h3⟩
theorem cpO (s : List UInt8) (w : World) : Calls Tryz.prog 66 #[.string ⟨s.toArray⟩, .string ⟨#[79, 58]⟩] w fun e w' => e = .returned (.tuple #[.string ⟨(L.rd1 s).toArray⟩, .bool (Lib.hasPrefix s [79, 58])]) ∧ w = w' := cutPrefix_any s [79, 58] w
theorem cpG (s : List UInt8) (w : World) : Calls Tryz.prog 66 #[.string ⟨(L.dR (L.rd1 s)).toArray⟩, .string ⟨#[59, 71, 58]⟩] w fun e w' => e = .returned (.tuple #[.string ⟨(L.rd2 s).toArray⟩, .bool (Lib.hasPrefix (L.dR (L.rd1 s)) [59, 71, 58])]) ∧ w = w' := cutPrefix_any (L.dR (L.rd1 s)) [59, 71, 58] w
theorem naG (s : List UInt8) (w : World) (hl : s.length ≤ 100000) (hE : Env w) : Calls Tryz.prog 67 #[.string ⟨(L.rd2 s).toArray⟩] w fun e w' => ∃ v : Int, (L.numOk (L.dW (L.rd2 s)) = true → v = L.numV (L.dW (L.rd2 s))) ∧ e = .returned (.tuple #[.int .i64 v, .string ⟨(L.rd3 s).toArray⟩, .bool (L.numOk (L.dW (L.rd2 s)))]) ∧ Below w.heap.size w w' := natural_any (L.rd2 s) w (by have := L.rd2_le s; omega) hE
set_option maxRecDepth 8000 in
set_option maxHeartbeats 4000000 in
theorem parse_any (s : List UInt8) (w : World) (hl : s.length ≤ 100000) (hE : Env w) : Calls Tryz.prog 40 #[.string ⟨s.toArray⟩] w (RetRd w (L.rd s)) := by
  have hta := bytes_list
  have q1 := L.rd1_le s
  have q3 := L.rd3_le s
  have HE := Lib.hid hE
  have st := St.start w
  clear hE
  have hcases : (Lib.hasPrefix s [79, 58] = true ∧ L.numOk (L.dW (L.rd1 s)) = true ∧ Lib.hasPrefix (L.dR (L.rd1 s)) [59, 71, 58] = true ∧ L.numOk (L.dW (L.rd2 s)) = true) ∨ ¬ (Lib.hasPrefix s [79, 58] = true ∧ L.numOk (L.dW (L.rd1 s)) = true ∧ Lib.hasPrefix (L.dR (L.rd1 s)) [59, 71, 58] = true ∧ L.numOk (L.dW (L.rd2 s)) = true) := Decidable.em _
  rcases hcases with ⟨b1, b2, b3, b4⟩ | hno
  · have hR := Lib.hid (L.rd_yes b1 b2 b3 b4)
    go_enter Tryz.func40, Tryz.ntmps40
    go_wp2_with (refine WL.out ?_; (repeat ((refine WL.op ?_ ?_; (exact rfl); intro K hK; (first | ((first | ((with_reducible apply ow_move); exact rfl) | ((with_reducible apply ow_assign); exact rfl)); (go_simp <;> (try simp (disch := omega) only [wrap_id, sub_left, zac]) <;> rfl)) | ((((with_reducible apply ow_alloc st); exact rfl; exact inferInstance; (go_simp <;> (try simp (disch := omega) only [wrap_id, sub_left, zac]) <;> rfl))); (try clear st); intro b w' st) | ((((with_reducible apply ow_store1' st); exact rfl; exact inferInstance; exact rfl; (exact get0); (go_simp <;> (try simp (disch := omega) only [wrap_id, sub_left, zac]) <;> rfl))); exact rfl; exact rfl; (simp <;> done); ((try simp only [zta, ztz, zda, zdz, zca, zcn, zan, zsz, zss]) <;> exact rfl); (try clear st); intro w' st) | ((with_reducible apply ow_eval); (go_simp <;> (try simp (disch := omega) only [wrap_id, sub_left, zac]) <;> rfl); first | (with_reducible apply up_value) | ((with_reducible apply up_enter); first | (go_at_call 66; ((with_reducible refine (cpO s _).mono ?_); rintro e5 w' ⟨rfl, rfl⟩; refine ⟨_, rfl, ?_⟩)) | (go_at_call 66; ((with_reducible refine (cpG s _).mono ?_); rintro e5 w' ⟨rfl, rfl⟩; refine ⟨_, rfl, ?_⟩)) | (go_at_call 67; ((with_reducible refine (natural_any (L.rd1 s) _ ?_ (HE.out.later st.below)).mono ?_); (focus omega)); rintro e5 w' ⟨O, hvO, rfl, hb⟩; replace st := st.call hb; clear hb; replace hvO := Lib.hid hvO; refine ⟨_, rfl, ?_⟩) | (go_at_call 67; ((with_reducible refine (naG s _ ?_ (HE.out.later st.below)).mono ?_); (focus omega)); rintro e5 w' ⟨G, hvG, rfl, hb⟩; replace st := st.call hb; clear hb; replace hvG := Lib.hid hvG; refine ⟨_, rfl, ?_⟩)))); refine WL.next hK (by simp only [Act.put, zpt, zsz, zss]; exact rfl) ?_; clear hK K))); (try refine WL.nil ?_))
    have hsl : (L.rd3 s).length ≤ 100000 := by omega
    have e1 := hvO.out b2
    have e2 := hvG.out b4
    rw [← e1, ← e2] at hR
    clear b1 b2 b3 b4 q1 q3 e1 e2 hvO hvG
    generalize L.rd3 s = S at hR hsl ⊢
    cases hD : Lib.hasPrefix S [59, 68, 58]
    · have hR2 : Hid (L.rd s = L.rdA O G (Lib.hasPrefix S [59, 80]) false [] (Lib.trimPrefix S [59, 80])) := Lib.hid (by rw [hR.out]; unfold L.rdE; rw [if_neg (by rw [hD]; decide)])
      have hT : Lib.trimPrefix S [59, 68, 58] = S := by unfold Lib.trimPrefix; rw [if_neg (by rw [hD]; decide)]
      have hu := L.trim_le S [59, 80]
      ((repeat ((refine WL.op ?_ ?_; (exact rfl); intro K hK; (first | ((first | ((with_reducible apply ow_move); exact rfl) | ((with_reducible apply ow_assign); exact rfl)); (go_simp <;> (try simp (disch := omega) only [wrap_id, sub_left, zac]) <;> rfl)) | ((((with_reducible apply ow_store1' st); exact rfl; exact inferInstance; exact rfl; (exact get0); (go_simp <;> (try simp (disch := omega) only [wrap_id, sub_left, zac]) <;> rfl))); exact rfl; exact rfl; (simp <;> done); ((try simp only [zta, ztz, zda, zdz, zca, zcn, zan, zsz, zss]) <;> exact rfl); (try clear st); intro w' st) | ((with_reducible apply ow_eval); (go_simp <;> (try simp (disch := omega) only [wrap_id, sub_left, zac]) <;> rfl); first | (with_reducible apply up_value) | ((with_reducible apply up_enter); ((go_at_call 66; ((with_reducible refine (cutPrefix_any (S) [59, 68, 58] _).mono ?_); rintro e5 w' ⟨rfl, rfl⟩; refine ⟨_, rfl, ?_⟩)))))); refine WL.next hK (by simp only [Act.put, zpt, zsz, zss]; exact rfl) ?_; clear hK K))); (try refine WL.nil ?_))
      go_wp2_with (refine WL.out ?_; (repeat ((refine WL.op ?_ ?_; (exact rfl); intro K hK; (first | ((first | ((with_reducible apply ow_move); exact rfl) | ((with_reducible apply ow_assign); exact rfl)); (go_simp <;> (try simp (disch := omega) only [wrap_id, sub_left, zac]) <;> rfl)) | ((((with_reducible apply ow_load1 st); exact rfl; exact inferInstance; exact rfl; (exact get0))); exact rfl) | ((((with_reducible apply ow_store1' st); exact rfl; exact inferInstance; exact rfl; (exact get0); (go_simp <;> (try simp (disch := omega) only [wrap_id, sub_left, zac]) <;> rfl))); exact rfl; exact rfl; (simp <;> done); ((try simp only [zta, ztz, zda, zdz, zca, zcn, zan, zsz, zss]) <;> exact rfl); (try clear st); intro w' st) | ((with_reducible apply ow_eval); (go_simp <;> (try simp (disch := omega) only [wrap_id, sub_left, zac]) <;> rfl); first | (with_reducible apply up_value) | ((with_reducible apply up_enter); ((go_at_call 66; ((with_reducible refine (cutPrefix_any (S) [59, 80] _).mono ?_); rintro e5 w' ⟨rfl, rfl⟩; refine ⟨_, rfl, ?_⟩)))))); refine WL.next hK (by simp only [Act.put, zpt, zsz, zss]; exact rfl) ?_; clear hK K))); (try refine WL.nil ?_))
      have hul : (Lib.trimPrefix S [59, 80]).length ≤ 100000 := by omega
      clear hT hu
      generalize Lib.hasPrefix S [59, 80] = P at st hR2 ⊢
      generalize Lib.trimPrefix S [59, 80] = U at hR2 hul ⊢
      replace st := st.nilRow 37 4
      replace st : St w _ (aceRow (.slice none 0 0) 0 [] :: _) := st
      cases hA : Lib.hasPrefix U [59, 83, 58]
      · have hz : (U = [] ∧ Hid (L.rd s = some ⟨O, G, P, false, [], []⟩)) ∨ ((U == []) = false ∧ Hid (L.rd s = none)) := by
          rcases U with _ | ⟨x, U⟩
          · exact .inl ⟨rfl, Lib.hid (by rw [hR2.out]; rfl)⟩
          · exact .inr ⟨rfl, Lib.hid (by rw [hR2.out]; unfold L.rdA; rw [if_neg (by rw [hA]; decide), if_neg (by simp)])⟩
        rcases hz with ⟨hU, h⟩ | ⟨hU, h⟩
        · subst hU
          ((repeat ((refine WL.op ?_ ?_; (exact rfl); intro K hK; (first | ((first | ((with_reducible apply ow_move); exact rfl) | ((with_reducible apply ow_assign); exact rfl)); (go_simp <;> (try simp (disch := omega) only [wrap_id, sub_left, zac]) <;> rfl)) | ((with_reducible apply ow_eval); (go_simp <;> (try simp (disch := omega) only [wrap_id, sub_left, zac]) <;> rfl); first | (with_reducible apply up_value) | ((with_reducible apply up_enter); ((go_at_call 66; ((with_reducible refine (cutPrefix_any ([]) [59, 83, 58] _).mono ?_); rintro e5 w' ⟨rfl, rfl⟩; refine ⟨_, rfl, ?_⟩)))))); refine WL.next hK (by simp only [Act.put, zpt, zsz, zss]; exact rfl) ?_; clear hK K))); (try refine WL.nil ?_))
          go_wp2_with (refine WL.out ?_; (repeat ((refine WL.op ?_ ?_; (exact rfl); intro K hK; (first | ((first | ((with_reducible apply ow_move); exact rfl) | ((with_reducible apply ow_assign); exact rfl)); (go_simp <;> (try simp (disch := omega) only [wrap_id, sub_left, zac]) <;> rfl)) | ((((with_reducible apply ow_loadN st); exact rfl; exact inferInstance; exact rfl; (exact get1); ((try simp only [zta, ztz, zda, zdz, zca, zcn, zan, zsz, zss]) <;> exact rfl))); exact rfl) | ((((with_reducible apply ow_storeN' st); exact rfl; exact inferInstance; exact rfl; (exact get1); exact rfl)); exact rfl; exact rfl; (simp <;> done); ((try simp only [zta, ztz, zda, zdz, zca, zcn, zan, zsz, zss]) <;> exact rfl); (try clear st); intro w' st) | ((with_reducible apply ow_eval); (go_simp <;> (try simp (disch := omega) only [wrap_id, sub_left, zac]) <;> rfl); ((with_reducible apply up_value)))); refine WL.next hK (by simp only [Act.put, zpt, zsz, zss]; exact rfl) ?_; clear hK K))); (try refine WL.nil ?_))
          refine bodyPost_cell_tmp 1 st rfl inferInstance rfl rfl rfl rfl rfl ?_
          exact .inl ⟨_, none, none, 0, 0, 0, 0, h.out, rfl, ((st.sub (List.singleton_sublist.2 (List.mem_cons_self ..))).nilRow _ _).swap⟩
        · ((repeat ((refine WL.op ?_ ?_; (exact rfl); intro K hK; (first | ((first | ((with_reducible apply ow_move); exact rfl) | ((with_reducible apply ow_assign); exact rfl)); (go_simp <;> (try simp (disch := omega) only [wrap_id, sub_left, zac]) <;> rfl)) | ((with_reducible apply ow_eval); (go_simp <;> (try simp (disch := omega) only [wrap_id, sub_left, zac]) <;> rfl); first | (with_reducible apply up_value) | ((with_reducible apply up_enter); ((go_at_call 66; ((with_reducible refine (cutPrefix_any (U) [59, 83, 58] _).mono ?_); rintro e5 w' ⟨rfl, rfl⟩; refine ⟨_, rfl, ?_⟩)))))); refine WL.next hK (by simp only [Act.put, zpt, zsz, zss]; exact rfl) ?_; clear hK K))); (try refine WL.nil ?_))
          go_wp2_with (refine WL.out ?_; (repeat ((refine WL.op ?_ ?_; (exact rfl); intro K hK; (first | ((first | ((with_reducible apply ow_move); exact rfl) | ((with_reducible apply ow_assign); exact rfl)); (go_simp <;> (try simp (disch := omega) only [wrap_id, sub_left, zac]) <;> rfl)) | ((((with_reducible apply ow_loadN st); exact rfl; exact inferInstance; exact rfl; (exact get1); ((try simp only [zta, ztz, zda, zdz, zca, zcn, zan, zsz, zss]) <;> exact rfl))); exact rfl) | ((((with_reducible apply ow_storeN' st); exact rfl; exact inferInstance; exact rfl; (exact get1); exact rfl)); exact rfl; exact rfl; (simp <;> done); ((try simp only [zta, ztz, zda, zdz, zca, zcn, zan, zsz, zss]) <;> exact rfl); (try clear st); intro w' st) | ((with_reducible apply ow_eval); (go_simp <;> (try simp (disch := omega) only [wrap_id, sub_left, zac]) <;> rfl); ((with_reducible apply up_value)))); refine WL.next hK (by simp only [Act.put, zpt, zsz, zss]; exact rfl) ?_; clear hK K))); (try refine WL.nil ?_))
          refine bodyPost_cell_tmp 1 st rfl inferInstance rfl rfl rfl rfl rfl ?_
          exact .inr ⟨_, _, _, _, none, none, 0, 0, 0, 0, h.out, rfl, st.below⟩
      · have hu := L.trim_le U [59, 83, 58]
        have hul2 : (Lib.trimPrefix U [59, 83, 58]).length ≤ 100000 := by omega
        clear hu
        rcases hE : L.entries (Lib.trimPrefix U [59, 83, 58]) with _ | ⟨a, r⟩
        · have h : Hid (L.rd s = none) := Lib.hid (by rw [hR2.out]; unfold L.rdA; rw [if_pos hA, hE])
          ((repeat ((refine WL.op ?_ ?_; (exact rfl); intro K hK; (first | ((first | ((with_reducible apply ow_move); exact rfl) | ((with_reducible apply ow_assign); exact rfl)); (go_simp <;> (try simp (disch := omega) only [wrap_id, sub_left, zac]) <;> rfl)) | ((with_reducible apply ow_eval); (go_simp <;> (try simp (disch := omega) only [wrap_id, sub_left, zac]) <;> rfl); first | (with_reducible apply up_value) | ((with_reducible apply up_enter); ((go_at_call 66; ((with_reducible refine (cutPrefix_any (U) [59, 83, 58] _).mono ?_); rintro e5 w' ⟨rfl, rfl⟩; refine ⟨_, rfl, ?_⟩)))))); refine WL.next hK (by simp only [Act.put, zpt, zsz, zss]; exact rfl) ?_; clear hK K))); (try refine WL.nil ?_))
          go_wp2_with (refine WL.out ?_; (repeat (first | (refine WL.op ?_ ?_; (exact rfl); intro K hK; (first | ((first | ((with_reducible apply ow_move); exact rfl) | ((with_reducible apply ow_assign); exact rfl)); (go_simp <;> (try simp (disch := omega) only [wrap_id, sub_left, zac]) <;> rfl)) | ((((with_reducible apply ow_loadN st); exact rfl; exact inferInstance; exact rfl; (exact get1); ((try simp only [zta, ztz, zda, zdz, zca, zcn, zan, zsz, zss]) <;> exact rfl))); exact rfl) | ((first | ((with_reducible apply ow_store1' st); exact rfl; exact inferInstance; exact rfl; (exact get1); (go_simp <;> (try simp (disch := omega) only [wrap_id, sub_left, zac]) <;> rfl)) | ((with_reducible apply ow_storeN' st); exact rfl; exact inferInstance; exact rfl; (exact get1); exact rfl)); exact rfl; exact rfl; (simp <;> done); ((try simp only [zta, ztz, zda, zdz, zca, zcn, zan, zsz, zss]) <;> exact rfl); (try clear st); intro w' st) | ((with_reducible apply ow_eval); (go_simp <;> (try simp (disch := omega) only [wrap_id, sub_left, zac]) <;> rfl); first | (with_reducible apply up_value) | ((with_reducible apply up_enter); ((go_at_call 68; ((with_reducible refine (acesIn_no hE _ ?_ (HE.out.later st.below)).mono ?_); (focus omega); rintro e5 w' ⟨r5, rfl, hb⟩; replace st := st.call hb; clear hb; refine ⟨_, rfl, ?_⟩)))))); refine WL.next hK (by simp only [Act.put, zpt, zsz, zss]; exact rfl) ?_; clear hK K) | (refine WL.skip ?_ (by simp only [Act.put, zpt, zsz, zss]; exact rfl) ?_; (exact rfl)))); (try refine WL.nil ?_))
          refine bodyPost_cell_tmp 1 st rfl inferInstance rfl rfl rfl rfl rfl ?_
          exact .inr ⟨_, _, _, _, none, none, 0, 0, 0, 0, h.out, rfl, st.below⟩
        · rcases Nat.eq_zero_or_pos a.length with ha | ha
          · have h : Hid (L.rd s = none) := Lib.hid (by rw [hR2.out]; unfold L.rdA; rw [if_pos hA, hE]; exact if_pos (.inl ha))
            ((repeat ((refine WL.op ?_ ?_; (exact rfl); intro K hK; (first | ((first | ((with_reducible apply ow_move); exact rfl) | ((with_reducible apply ow_assign); exact rfl)); (go_simp <;> (try simp (disch := omega) only [wrap_id, sub_left, zac]) <;> rfl)) | ((with_reducible apply ow_eval); (go_simp <;> (try simp (disch := omega) only [wrap_id, sub_left, zac]) <;> rfl); first | (with_reducible apply up_value) | ((with_reducible apply up_enter); ((go_at_call 66; ((with_reducible refine (cutPrefix_any (U) [59, 83, 58] _).mono ?_); rintro e5 w' ⟨rfl, rfl⟩; refine ⟨_, rfl, ?_⟩)))))); refine WL.next hK (by simp only [Act.put, zpt, zsz, zss]; exact rfl) ?_; clear hK K))); (try refine WL.nil ?_))
            go_wp2_with (refine WL.out ?_; (repeat ((refine WL.op ?_ ?_; (exact rfl); intro K hK; (first | ((first | ((with_reducible apply ow_move); exact rfl) | ((with_reducible apply ow_assign); exact rfl)); (go_simp <;> (try simp (disch := omega) only [wrap_id, sub_left, zac]) <;> rfl)) | ((first | ((with_reducible apply ow_load1 st); exact rfl; exact inferInstance; exact rfl; (exact get2)) | ((with_reducible apply ow_loadN st); exact rfl; exact inferInstance; exact rfl; (exact get2); ((try simp only [zta, ztz, zda, zdz, zca, zcn, zan, zsz, zss]) <;> exact rfl))); exact rfl) | ((first | ((with_reducible apply ow_store1' st); exact rfl; exact inferInstance; exact rfl; (exact get2); (go_simp <;> (try simp (disch := omega) only [wrap_id, sub_left, zac]) <;> rfl)) | ((with_reducible apply ow_storeN' st); exact rfl; exact inferInstance; exact rfl; (exact get2); exact rfl)); exact rfl; exact rfl; (simp <;> done); ((try simp only [zta, ztz, zda, zdz, zca, zcn, zan, zsz, zss]) <;> exact rfl); (try clear st); intro w' st) | ((with_reducible apply ow_eval); (go_simp <;> (try simp (disch := omega) only [wrap_id, sub_left, zac]) <;> rfl); first | (with_reducible apply up_value) | ((with_reducible apply up_enter); ((go_at_call 68; ((with_reducible refine (acesIn_ok hE _ ?_ (HE.out.later st.below)).mono ?_); (focus omega)); rintro e5 w' ⟨A5, n5, c5, rfl, st'⟩; replace st := st.join st'; clear st'; simp only [List.cons_append, List.nil_append] at st; refine ⟨_, rfl, ?_⟩; skip; have hn5 : ((n5 : Int) == 0) = true := by (have := St.len st (i := 0) rfl); rw [beq_iff_eq]; omega))))); refine WL.next hK (by simp only [Act.put, zpt, zsz, zss]; exact rfl) ?_; clear hK K))); (try refine WL.nil ?_))
            refine bodyPost_cell_tmp 2 st rfl inferInstance rfl rfl rfl rfl rfl ?_
            exact .inr ⟨_, _, _, _, none, A5, 0, n5, 0, c5, h.out, rfl, st.below⟩
          · have hz : (r = [] ∧ Hid (L.rd s = some ⟨O, G, P, false, [], a⟩)) ∨ ((r == []) = false ∧ Hid (L.rd s = none)) := by
              rcases r with _ | ⟨x, r⟩
              · exact .inl ⟨rfl, Lib.hid (by rw [hR2.out]; unfold L.rdA; rw [if_pos hA, hE]; exact if_neg (by simp; intro e; subst e; simp at ha))⟩
              · exact .inr ⟨rfl, Lib.hid (by rw [hR2.out]; unfold L.rdA; rw [if_pos hA, hE]; exact if_pos (.inr (by simp)))⟩
            rcases hz with ⟨hU, h⟩ | ⟨hU, h⟩
            · subst hU
              ((repeat ((refine WL.op ?_ ?_; (exact rfl); intro K hK; (first | ((first | ((with_reducible apply ow_move); exact rfl) | ((with_reducible apply ow_assign); exact rfl)); (go_simp <;> (try simp (disch := omega) only [wrap_id, sub_left, zac]) <;> rfl)) | ((with_reducible apply ow_eval); (go_simp <;> (try simp (disch := omega) only [wrap_id, sub_left, zac]) <;> rfl); first | (with_reducible apply up_value) | ((with_reducible apply up_enter); ((go_at_call 66; ((with_reducible refine (cutPrefix_any (U) [59, 83, 58] _).mono ?_); rintro e5 w' ⟨rfl, rfl⟩; refine ⟨_, rfl, ?_⟩)))))); refine WL.next hK (by simp only [Act.put, zpt, zsz, zss]; exact rfl) ?_; clear hK K))); (try refine WL.nil ?_))
              go_wp2_with (refine WL.out ?_; (repeat ((refine WL.op ?_ ?_; (exact rfl); intro K hK; (first | ((first | ((with_reducible apply ow_move); exact rfl) | ((with_reducible apply ow_assign); exact rfl)); (go_simp <;> (try simp (disch := omega) only [wrap_id, sub_left, zac]) <;> rfl)) | ((first | ((with_reducible apply ow_load1 st); exact rfl; exact inferInstance; exact rfl; (exact get2)) | ((with_reducible apply ow_loadN st); exact rfl; exact inferInstance; exact rfl; (exact get2); ((try simp only [zta, ztz, zda, zdz, zca, zcn, zan, zsz, zss]) <;> exact rfl))); exact rfl) | ((first | ((with_reducible apply ow_store1' st); exact rfl; exact inferInstance; exact rfl; (exact get2); (go_simp <;> (try simp (disch := omega) only [wrap_id, sub_left, zac]) <;> rfl)) | ((with_reducible apply ow_storeN' st); exact rfl; exact inferInstance; exact rfl; (exact get2); exact rfl)); exact rfl; exact rfl; (simp <;> done); ((try simp only [zta, ztz, zda, zdz, zca, zcn, zan, zsz, zss]) <;> exact rfl); (try clear st); intro w' st) | ((with_reducible apply ow_eval); (go_simp <;> (try simp (disch := omega) only [wrap_id, sub_left, zac]) <;> rfl); first | (with_reducible apply up_value) | ((with_reducible apply up_enter); ((go_at_call 68; ((with_reducible refine (acesIn_ok hE _ ?_ (HE.out.later st.below)).mono ?_); (focus omega)); rintro e5 w' ⟨A5, n5, c5, rfl, st'⟩; replace st := st.join st'; clear st'; simp only [List.cons_append, List.nil_append] at st; refine ⟨_, rfl, ?_⟩; skip; have hn5 : ((n5 : Int) == 0) = false := by (have := St.len st (i := 0) rfl); rw [beq_eq_false_iff_ne]; omega))))); refine WL.next hK (by simp only [Act.put, zpt, zsz, zss]; exact rfl) ?_; clear hK K))); (try refine WL.nil ?_))
              refine bodyPost_cell_tmp 2 st rfl inferInstance rfl rfl rfl rfl rfl ?_
              exact .inl ⟨_, none, A5, 0, n5, 0, c5, h.out, rfl, (st.swap).sub (.cons_cons _ (.cons_cons _ (List.nil_sublist _)))⟩
            · ((repeat ((refine WL.op ?_ ?_; (exact rfl); intro K hK; (first | ((first | ((with_reducible apply ow_move); exact rfl) | ((with_reducible apply ow_assign); exact rfl)); (go_simp <;> (try simp (disch := omega) only [wrap_id, sub_left, zac]) <;> rfl)) | ((with_reducible apply ow_eval); (go_simp <;> (try simp (disch := omega) only [wrap_id, sub_left, zac]) <;> rfl); first | (with_reducible apply up_value) | ((with_reducible apply up_enter); ((go_at_call 66; ((with_reducible refine (cutPrefix_any (U) [59, 83, 58] _).mono ?_); rintro e5 w' ⟨rfl, rfl⟩; refine ⟨_, rfl, ?_⟩)))))); refine WL.next hK (by simp only [Act.put, zpt, zsz, zss]; exact rfl) ?_; clear hK K))); (try refine WL.nil ?_))
              go_wp2_with (refine WL.out ?_; (repeat ((refine WL.op ?_ ?_; (exact rfl); intro K hK; (first | ((first | ((with_reducible apply ow_move); exact rfl) | ((with_reducible apply ow_assign); exact rfl)); (go_simp <;> (try simp (disch := omega) only [wrap_id, sub_left, zac]) <;> rfl)) | ((first | ((with_reducible apply ow_load1 st); exact rfl; exact inferInstance; exact rfl; (exact get2)) | ((with_reducible apply ow_loadN st); exact rfl; exact inferInstance; exact rfl; (exact get2); ((try simp only [zta, ztz, zda, zdz, zca, zcn, zan, zsz, zss]) <;> exact rfl))); exact rfl) | ((first | ((with_reducible apply ow_store1' st); exact rfl; exact inferInstance; exact rfl; (exact get2); (go_simp <;> (try simp (disch := omega) only [wrap_id, sub_left, zac]) <;> rfl)) | ((with_reducible apply ow_storeN' st); exact rfl; exact inferInstance; exact rfl; (exact get2); exact rfl)); exact rfl; exact rfl; (simp <;> done); ((try simp only [zta, ztz, zda, zdz, zca, zcn, zan, zsz, zss]) <;> exact rfl); (try clear st); intro w' st) | ((with_reducible apply ow_eval); (go_simp <;> (try simp (disch := omega) only [wrap_id, sub_left, zac]) <;> rfl); first | (with_reducible apply up_value) | ((with_reducible apply up_enter); ((go_at_call 68; ((with_reducible refine (acesIn_ok hE _ ?_ (HE.out.later st.below)).mono ?_); (focus omega)); rintro e5 w' ⟨A5, n5, c5, rfl, st'⟩; replace st := st.join st'; clear st'; simp only [List.cons_append, List.nil_append] at st; refine ⟨_, rfl, ?_⟩; skip; have hn5 : ((n5 : Int) == 0) = false := by (have := St.len st (i := 0) rfl); rw [beq_eq_false_iff_ne]; omega))))); refine WL.next hK (by simp only [Act.put, zpt, zsz, zss]; exact rfl) ?_; clear hK K))); (try refine WL.nil ?_))
              refine bodyPost_cell_tmp 2 st rfl inferInstance rfl rfl rfl rfl rfl ?_
              exact .inr ⟨_, _, _, _, none, A5, 0, n5, 0, c5, h.out, rfl, st.below⟩
    · have hu := L.trim_le S [59, 68, 58]
      have hu2 := L.trim_le (Lib.trimPrefix S [59, 68, 58]) [80]
      have hul : (Lib.trimPrefix (Lib.trimPrefix S [59, 68, 58]) [80]).length ≤ 100000 := by omega
      rcases hE0 : L.entries (Lib.trimPrefix (Lib.trimPrefix S [59, 68, 58]) [80]) with _ | ⟨e, U⟩
      · have h : Hid (L.rd s = none) := Lib.hid (by rw [hR.out]; unfold L.rdE; rw [if_pos hD, hE0])
        ((repeat ((refine WL.op ?_ ?_; (exact rfl); intro K hK; (first | ((first | ((with_reducible apply ow_move); exact rfl) | ((with_reducible apply ow_assign); exact rfl)); (go_simp <;> (try simp (disch := omega) only [wrap_id, sub_left, zac]) <;> rfl)) | ((((with_reducible apply ow_store1' st); exact rfl; exact inferInstance; exact rfl; (exact get0); (go_simp <;> (try simp (disch := omega) only [wrap_id, sub_left, zac]) <;> rfl))); exact rfl; exact rfl; (simp <;> done); ((try simp only [zta, ztz, zda, zdz, zca, zcn, zan, zsz, zss]) <;> exact rfl); (try clear st); intro w' st) | ((with_reducible apply ow_eval); (go_simp <;> (try simp (disch := omega) only [wrap_id, sub_left, zac]) <;> rfl); first | (with_reducible apply up_value) | ((with_reducible apply up_enter); ((go_at_call 66; ((with_reducible refine (cutPrefix_any (S) [59, 68, 58] _).mono ?_); rintro e5 w' ⟨rfl, rfl⟩; refine ⟨_, rfl, ?_⟩)))))); refine WL.next hK (by simp only [Act.put, zpt, zsz, zss]; exact rfl) ?_; clear hK K))); (try refine WL.nil ?_))
        go_wp2_with (refine WL.out ?_; (repeat ((refine WL.op ?_ ?_; (exact rfl); intro K hK; (first | ((first | ((with_reducible apply ow_move); exact rfl) | ((with_reducible apply ow_assign); exact rfl)); (go_simp <;> (try simp (disch := omega) only [wrap_id, sub_left, zac]) <;> rfl)) | ((first | ((with_reducible apply ow_load1 st); exact rfl; exact inferInstance; exact rfl; (exact get0)) | ((with_reducible apply ow_loadN st); exact rfl; exact inferInstance; exact rfl; (exact get0); ((try simp only [zta, ztz, zda, zdz, zca, zcn, zan, zsz, zss]) <;> exact rfl))); exact rfl) | ((first | ((with_reducible apply ow_store1' st); exact rfl; exact inferInstance; exact rfl; (exact get0); (go_simp <;> (try simp (disch := omega) only [wrap_id, sub_left, zac]) <;> rfl)) | ((with_reducible apply ow_storeN' st); exact rfl; exact inferInstance; exact rfl; (exact get0); exact rfl)); exact rfl; exact rfl; (simp <;> done); ((try simp only [zta, ztz, zda, zdz, zca, zcn, zan, zsz, zss]) <;> exact rfl); (try clear st); intro w' st) | ((with_reducible apply ow_eval); (go_simp <;> (try simp (disch := omega) only [wrap_id, sub_left, zac]) <;> rfl); first | (with_reducible apply up_value) | ((with_reducible apply up_enter); first | (go_at_call 66; ((with_reducible refine (cutPrefix_any (Lib.trimPrefix S [59, 68, 58]) [80] _).mono ?_); rintro e5 w' ⟨rfl, rfl⟩; refine ⟨_, rfl, ?_⟩)) | (go_at_call 68; ((with_reducible refine (acesIn_no hE0 _ ?_ (HE.out.later st.below)).mono ?_); (focus omega); rintro e5 w' ⟨r5, rfl, hb⟩; replace st := st.call hb; clear hb; refine ⟨_, rfl, ?_⟩))))); refine WL.next hK (by simp only [Act.put, zpt, zsz, zss]; exact rfl) ?_; clear hK K))); (try refine WL.nil ?_))
        refine bodyPost_cell_tmp 0 st rfl inferInstance rfl rfl rfl rfl rfl ?_
        exact .inr ⟨_, _, _, _, none, none, 0, 0, 0, 0, h.out, rfl, st.below⟩
      · have hR2 : Hid (L.rd s = L.rdA O G (Lib.hasPrefix (Lib.trimPrefix S [59, 68, 58]) [80]) true e U) := Lib.hid (by rw [hR.out]; unfold L.rdE; rw [if_pos hD, hE0])
        have hle := L.entries_le hE0
        ((repeat ((refine WL.op ?_ ?_; (exact rfl); intro K hK; (first | ((first | ((with_reducible apply ow_move); exact rfl) | ((with_reducible apply ow_assign); exact rfl)); (go_simp <;> (try simp (disch := omega) only [wrap_id, sub_left, zac]) <;> rfl)) | ((((with_reducible apply ow_store1' st); exact rfl; exact inferInstance; exact rfl; (exact get0); (go_simp <;> (try simp (disch := omega) only [wrap_id, sub_left, zac]) <;> rfl))); exact rfl; exact rfl; (simp <;> done); ((try simp only [zta, ztz, zda, zdz, zca, zcn, zan, zsz, zss]) <;> exact rfl); (try clear st); intro w' st) | ((with_reducible apply ow_eval); (go_simp <;> (try simp (disch := omega) only [wrap_id, sub_left, zac]) <;> rfl); first | (with_reducible apply up_value) | ((with_reducible apply up_enter); ((go_at_call 66; ((with_reducible refine (cutPrefix_any (S) [59, 68, 58] _).mono ?_); rintro e5 w' ⟨rfl, rfl⟩; refine ⟨_, rfl, ?_⟩)))))); refine WL.next hK (by simp only [Act.put, zpt, zsz, zss]; exact rfl) ?_; clear hK K))); (try refine WL.nil ?_))
        go_wp2_with (refine WL.out ?_; (repeat ((refine WL.op ?_ ?_; (exact rfl); intro K hK; (first | ((first | ((with_reducible apply ow_move); exact rfl) | ((with_reducible apply ow_assign); exact rfl)); (go_simp <;> (try simp (disch := omega) only [wrap_id, sub_left, zac]) <;> rfl)) | ((((with_reducible apply ow_load1 st); exact rfl; exact inferInstance; exact rfl; (exact get0))); exact rfl) | ((((with_reducible apply ow_store1' st); exact rfl; exact inferInstance; exact rfl; (first | exact get0 | exact get1); (go_simp <;> (try simp (disch := omega) only [wrap_id, sub_left, zac]) <;> rfl))); exact rfl; exact rfl; (simp <;> done); ((try simp only [zta, ztz, zda, zdz, zca, zcn, zan, zsz, zss]) <;> exact rfl); (try clear st); intro w' st) | ((with_reducible apply ow_eval); (go_simp <;> (try simp (disch := omega) only [wrap_id, sub_left, zac]) <;> rfl); first | (with_reducible apply up_value) | ((with_reducible apply up_enter); first | (go_at_call 66; ((with_reducible refine (cutPrefix_any (Lib.trimPrefix S [59, 68, 58]) [80] _).mono ?_); rintro e5 w' ⟨rfl, rfl⟩; refine ⟨_, rfl, ?_⟩)) | (go_at_call 68; ((with_reducible refine (acesIn_ok hE0 _ ?_ (HE.out.later st.below)).mono ?_); (focus omega)); rintro e5 w' ⟨A1, n1, c1, rfl, st'⟩; replace st := st.join st'; clear st'; simp only [List.cons_append, List.nil_append] at st; refine ⟨_, rfl, ?_⟩)))); refine WL.next hK (by simp only [Act.put, zpt, zsz, zss]; exact rfl) ?_; clear hK K))); (try refine WL.nil ?_))
        have hul : U.length ≤ 100000 := by omega
        clear hu hu2 hle
        generalize Lib.hasPrefix (Lib.trimPrefix S [59, 68, 58]) [80] = P at st hR2 ⊢
        cases hA : Lib.hasPrefix U [59, 83, 58]
        · have hz : (U = [] ∧ Hid (L.rd s = some ⟨O, G, P, true, e, []⟩)) ∨ ((U == []) = false ∧ Hid (L.rd s = none)) := by
            rcases U with _ | ⟨x, U⟩
            · exact .inl ⟨rfl, Lib.hid (by rw [hR2.out]; rfl)⟩
            · exact .inr ⟨rfl, Lib.hid (by rw [hR2.out]; unfold L.rdA; rw [if_neg (by rw [hA]; decide), if_neg (by simp)])⟩
          rcases hz with ⟨hU, h⟩ | ⟨hU, h⟩
          · subst hU
            ((repeat ((refine WL.op ?_ ?_; (exact rfl); intro K hK; (first | ((first | ((with_reducible apply ow_move); exact rfl) | ((with_reducible apply ow_assign); exact rfl)); (go_simp <;> (try simp (disch := omega) only [wrap_id, sub_left, zac]) <;> rfl)) | ((with_reducible apply ow_eval); (go_simp <;> (try simp (disch := omega) only [wrap_id, sub_left, zac]) <;> rfl); first | (with_reducible apply up_value) | ((with_reducible apply up_enter); ((go_at_call 66; ((with_reducible refine (cutPrefix_any ([]) [59, 83, 58] _).mono ?_); rintro e5 w' ⟨rfl, rfl⟩; refine ⟨_, rfl, ?_⟩)))))); refine WL.next hK (by simp only [Act.put, zpt, zsz, zss]; exact rfl) ?_; clear hK K))); (try refine WL.nil ?_))
            go_wp2_with (refine WL.out ?_; (repeat ((refine WL.op ?_ ?_; (exact rfl); intro K hK; (first | ((first | ((with_reducible apply ow_move); exact rfl) | ((with_reducible apply ow_assign); exact rfl)); (go_simp <;> (try simp (disch := omega) only [wrap_id, sub_left, zac]) <;> rfl)) | ((((with_reducible apply ow_loadN st); exact rfl; exact inferInstance; exact rfl; (exact get1); ((try simp only [zta, ztz, zda, zdz, zca, zcn, zan, zsz, zss]) <;> exact rfl))); exact rfl) | ((((with_reducible apply ow_storeN' st); exact rfl; exact inferInstance; exact rfl; (exact get1); exact rfl)); exact rfl; exact rfl; (simp <;> done); ((try simp only [zta, ztz, zda, zdz, zca, zcn, zan, zsz, zss]) <;> exact rfl); (try clear st); intro w' st) | ((with_reducible apply ow_eval); (go_simp <;> (try simp (disch := omega) only [wrap_id, sub_left, zac]) <;> rfl); ((with_reducible apply up_value)))); refine WL.next hK (by simp only [Act.put, zpt, zsz, zss]; exact rfl) ?_; clear hK K))); (try refine WL.nil ?_))
            refine bodyPost_cell_tmp 1 st rfl inferInstance rfl rfl rfl rfl rfl ?_
            exact .inl ⟨_, A1, none, n1, 0, c1, 0, h.out, rfl, ((st.sub (List.singleton_sublist.2 (List.mem_cons_self ..))).nilRow _ _).swap⟩
          · ((repeat ((refine WL.op ?_ ?_; (exact rfl); intro K hK; (first | ((first | ((with_reducible apply ow_move); exact rfl) | ((with_reducible apply ow_assign); exact rfl)); (go_simp <;> (try simp (disch := omega) only [wrap_id, sub_left, zac]) <;> rfl)) | ((with_reducible apply ow_eval); (go_simp <;> (try simp (disch := omega) only [wrap_id, sub_left, zac]) <;> rfl); first | (with_reducible apply up_value) | ((with_reducible apply up_enter); ((go_at_call 66; ((with_reducible refine (cutPrefix_any (U) [59, 83, 58] _).mono ?_); rintro e5 w' ⟨rfl, rfl⟩; refine ⟨_, rfl, ?_⟩)))))); refine WL.next hK (by simp only [Act.put, zpt, zsz, zss]; exact rfl) ?_; clear hK K))); (try refine WL.nil ?_))
            go_wp2_with (refine WL.out ?_; (repeat ((refine WL.op ?_ ?_; (exact rfl); intro K hK; (first | ((first | ((with_reducible apply ow_move); exact rfl) | ((with_reducible apply ow_assign); exact rfl)); (go_simp <;> (try simp (disch := omega) only [wrap_id, sub_left, zac]) <;> rfl)) | ((((with_reducible apply ow_loadN st); exact rfl; exact inferInstance; exact rfl; (exact get1); ((try simp only [zta, ztz, zda, zdz, zca, zcn, zan, zsz, zss]) <;> exact rfl))); exact rfl) | ((((with_reducible apply ow_storeN' st); exact rfl; exact inferInstance; exact rfl; (exact get1); exact rfl)); exact rfl; exact rfl; (simp <;> done); ((try simp only [zta, ztz, zda, zdz, zca, zcn, zan, zsz, zss]) <;> exact rfl); (try clear st); intro w' st) | ((with_reducible apply ow_eval); (go_simp <;> (try simp (disch := omega) only [wrap_id, sub_left, zac]) <;> rfl); ((with_reducible apply up_value)))); refine WL.next hK (by simp only [Act.put, zpt, zsz, zss]; exact rfl) ?_; clear hK K))); (try refine WL.nil ?_))
            refine bodyPost_cell_tmp 1 st rfl inferInstance rfl rfl rfl rfl rfl ?_
            exact .inr ⟨_, _, _, _, A1, none, n1, 0, c1, 0, h.out, rfl, st.below⟩
        · have hu := L.trim_le U [59, 83, 58]
          have hul2 : (Lib.trimPrefix U [59, 83, 58]).length ≤ 100000 := by omega
          clear hu
          rcases hE : L.entries (Lib.trimPrefix U [59, 83, 58]) with _ | ⟨a, r⟩
          · have h : Hid (L.rd s = none) := Lib.hid (by rw [hR2.out]; unfold L.rdA; rw [if_pos hA, hE])
            ((repeat ((refine WL.op ?_ ?_; (exact rfl); intro K hK; (first | ((first | ((with_reducible apply ow_move); exact rfl) | ((with_reducible apply ow_assign); exact rfl)); (go_simp <;> (try simp (disch := omega) only [wrap_id, sub_left, zac]) <;> rfl)) | ((with_reducible apply ow_eval); (go_simp <;> (try simp (disch := omega) only [wrap_id, sub_left, zac]) <;> rfl); first | (with_reducible apply up_value) | ((with_reducible apply up_enter); ((go_at_call 66; ((with_reducible refine (cutPrefix_any (U) [59, 83, 58] _).mono ?_); rintro e5 w' ⟨rfl, rfl⟩; refine ⟨_, rfl, ?_⟩)))))); refine WL.next hK (by simp only [Act.put, zpt, zsz, zss]; exact rfl) ?_; clear hK K))); (try refine WL.nil ?_))
            go_wp2_with (refine WL.out ?_; (repeat (first | (refine WL.op ?_ ?_; (exact rfl); intro K hK; (first | ((first | ((with_reducible apply ow_move); exact rfl) | ((with_reducible apply ow_assign); exact rfl)); (go_simp <;> (try simp (disch := omega) only [wrap_id, sub_left, zac]) <;> rfl)) | ((((with_reducible apply ow_loadN st); exact rfl; exact inferInstance; exact rfl; (exact get1); ((try simp only [zta, ztz, zda, zdz, zca, zcn, zan, zsz, zss]) <;> exact rfl))); exact rfl) | ((first | ((with_reducible apply ow_store1' st); exact rfl; exact inferInstance; exact rfl; (exact get1); (go_simp <;> (try simp (disch := omega) only [wrap_id, sub_left, zac]) <;> rfl)) | ((with_reducible apply ow_storeN' st); exact rfl; exact inferInstance; exact rfl; (exact get1); exact rfl)); exact rfl; exact rfl; (simp <;> done); ((try simp only [zta, ztz, zda, zdz, zca, zcn, zan, zsz, zss]) <;> exact rfl); (try clear st); intro w' st) | ((with_reducible apply ow_eval); (go_simp <;> (try simp (disch := omega) only [wrap_id, sub_left, zac]) <;> rfl); first | (with_reducible apply up_value) | ((with_reducible apply up_enter); ((go_at_call 68; ((with_reducible refine (acesIn_no hE _ ?_ (HE.out.later st.below)).mono ?_); (focus omega); rintro e5 w' ⟨r5, rfl, hb⟩; replace st := st.call hb; clear hb; refine ⟨_, rfl, ?_⟩)))))); refine WL.next hK (by simp only [Act.put, zpt, zsz, zss]; exact rfl) ?_; clear hK K) | (refine WL.skip ?_ (by simp only [Act.put, zpt, zsz, zss]; exact rfl) ?_; (exact rfl)))); (try refine WL.nil ?_))
            refine bodyPost_cell_tmp 1 st rfl inferInstance rfl rfl rfl rfl rfl ?_
            exact .inr ⟨_, _, _, _, A1, none, n1, 0, c1, 0, h.out, rfl, st.below⟩
          · rcases Nat.eq_zero_or_pos a.length with ha | ha
            · have h : Hid (L.rd s = none) := Lib.hid (by rw [hR2.out]; unfold L.rdA; rw [if_pos hA, hE]; exact if_pos (.inl ha))
              ((repeat ((refine WL.op ?_ ?_; (exact rfl); intro K hK; (first | ((first | ((with_reducible apply ow_move); exact rfl) | ((with_reducible apply ow_assign); exact rfl)); (go_simp <;> (try simp (disch := omega) only [wrap_id, sub_left, zac]) <;> rfl)) | ((with_reducible apply ow_eval); (go_simp <;> (try simp (disch := omega) only [wrap_id, sub_left, zac]) <;> rfl); first | (with_reducible apply up_value) | ((with_reducible apply up_enter); ((go_at_call 66; ((with_reducible refine (cutPrefix_any (U) [59, 83, 58] _).mono ?_); rintro e5 w' ⟨rfl, rfl⟩; refine ⟨_, rfl, ?_⟩)))))); refine WL.next hK (by simp only [Act.put, zpt, zsz, zss]; exact rfl) ?_; clear hK K))); (try refine WL.nil ?_))
              go_wp2_with (refine WL.out ?_; (repeat ((refine WL.op ?_ ?_; (exact rfl); intro K hK; (first | ((first | ((with_reducible apply ow_move); exact rfl) | ((with_reducible apply ow_assign); exact rfl)); (go_simp <;> (try simp (disch := omega) only [wrap_id, sub_left, zac]) <;> rfl)) | ((first | ((with_reducible apply ow_load1 st); exact rfl; exact inferInstance; exact rfl; (exact get2)) | ((with_reducible apply ow_loadN st); exact rfl; exact inferInstance; exact rfl; (exact get2); ((try simp only [zta, ztz, zda, zdz, zca, zcn, zan, zsz, zss]) <;> exact rfl))); exact rfl) | ((first | ((with_reducible apply ow_store1' st); exact rfl; exact inferInstance; exact rfl; (exact get2); (go_simp <;> (try simp (disch := omega) only [wrap_id, sub_left, zac]) <;> rfl)) | ((with_reducible apply ow_storeN' st); exact rfl; exact inferInstance; exact rfl; (exact get2); exact rfl)); exact rfl; exact rfl; (simp <;> done); ((try simp only [zta, ztz, zda, zdz, zca, zcn, zan, zsz, zss]) <;> exact rfl); (try clear st); intro w' st) | ((with_reducible apply ow_eval); (go_simp <;> (try simp (disch := omega) only [wrap_id, sub_left, zac]) <;> rfl); first | (with_reducible apply up_value) | ((with_reducible apply up_enter); ((go_at_call 68; ((with_reducible refine (acesIn_ok hE _ ?_ (HE.out.later st.below)).mono ?_); (focus omega)); rintro e5 w' ⟨A5, n5, c5, rfl, st'⟩; replace st := st.join st'; clear st'; simp only [List.cons_append, List.nil_append] at st; refine ⟨_, rfl, ?_⟩; skip; have hn5 : ((n5 : Int) == 0) = true := by (have := St.len st (i := 0) rfl); rw [beq_iff_eq]; omega))))); refine WL.next hK (by simp only [Act.put, zpt, zsz, zss]; exact rfl) ?_; clear hK K))); (try refine WL.nil ?_))
              refine bodyPost_cell_tmp 2 st rfl inferInstance rfl rfl rfl rfl rfl ?_
              exact .inr ⟨_, _, _, _, A1, A5, n1, n5, c1, c5, h.out, rfl, st.below⟩
            · have hz : (r = [] ∧ Hid (L.rd s = some ⟨O, G, P, true, e, a⟩)) ∨ ((r == []) = false ∧ Hid (L.rd s = none)) := by
                rcases r with _ | ⟨x, r⟩
                · exact .inl ⟨rfl, Lib.hid (by rw [hR2.out]; unfold L.rdA; rw [if_pos hA, hE]; exact if_neg (by simp; intro e; subst e; simp at ha))⟩
                · exact .inr ⟨rfl, Lib.hid (by rw [hR2.out]; unfold L.rdA; rw [if_pos hA, hE]; exact if_pos (.inr (by simp)))⟩
              rcases hz with ⟨hU, h⟩ | ⟨hU, h⟩
              · subst hU
                ((repeat ((refine WL.op ?_ ?_; (exact rfl); intro K hK; (first | ((first | ((with_reducible apply ow_move); exact rfl) | ((with_reducible apply ow_assign); exact rfl)); (go_simp <;> (try simp (disch := omega) only [wrap_id, sub_left, zac]) <;> rfl)) | ((with_reducible apply ow_eval); (go_simp <;> (try simp (disch := omega) only [wrap_id, sub_left, zac]) <;> rfl); first | (with_reducible apply up_value) | ((with_reducible apply up_enter); ((go_at_call 66; ((with_reducible refine (cutPrefix_any (U) [59, 83, 58] _).mono ?_); rintro e5 w' ⟨rfl, rfl⟩; refine ⟨_, rfl, ?_⟩)))))); refine WL.next hK (by simp only [Act.put, zpt, zsz, zss]; exact rfl) ?_; clear hK K))); (try refine WL.nil ?_))
                go_wp2_with (refine WL.out ?_; (repeat ((refine WL.op ?_ ?_; (exact rfl); intro K hK; (first | ((first | ((with_reducible apply ow_move); exact rfl) | ((with_reducible apply ow_assign); exact rfl)); (go_simp <;> (try simp (disch := omega) only [wrap_id, sub_left, zac]) <;> rfl)) | ((first | ((with_reducible apply ow_load1 st); exact rfl; exact inferInstance; exact rfl; (exact get2)) | ((with_reducible apply ow_loadN st); exact rfl; exact inferInstance; exact rfl; (exact get2); ((try simp only [zta, ztz, zda, zdz, zca, zcn, zan, zsz, zss]) <;> exact rfl))); exact rfl) | ((first | ((with_reducible apply ow_store1' st); exact rfl; exact inferInstance; exact rfl; (exact get2); (go_simp <;> (try simp (disch := omega) only [wrap_id, sub_left, zac]) <;> rfl)) | ((with_reducible apply ow_storeN' st); exact rfl; exact inferInstance; exact rfl; (exact get2); exact rfl)); exact rfl; exact rfl; (simp <;> done); ((try simp only [zta, ztz, zda, zdz, zca, zcn, zan, zsz, zss]) <;> exact rfl); (try clear st); intro w' st) | ((with_reducible apply ow_eval); (go_simp <;> (try simp (disch := omega) only [wrap_id, sub_left, zac]) <;> rfl); first | (with_reducible apply up_value) | ((with_reducible apply up_enter); ((go_at_call 68; ((with_reducible refine (acesIn_ok hE _ ?_ (HE.out.later st.below)).mono ?_); (focus omega)); rintro e5 w' ⟨A5, n5, c5, rfl, st'⟩; replace st := st.join st'; clear st'; simp only [List.cons_append, List.nil_append] at st; refine ⟨_, rfl, ?_⟩; skip; have hn5 : ((n5 : Int) == 0) = false := by (have := St.len st (i := 0) rfl); rw [beq_eq_false_iff_ne]; omega))))); refine WL.next hK (by simp only [Act.put, zpt, zsz, zss]; exact rfl) ?_; clear hK K))); (try refine WL.nil ?_))
                refine bodyPost_cell_tmp 2 st rfl inferInstance rfl rfl rfl rfl rfl ?_
                exact .inl ⟨_, A1, A5, n1, n5, c1, c5, h.out, rfl, (st.swap).sub (.cons_cons _ (.cons_cons _ (List.nil_sublist _)))⟩
              · ((repeat ((refine WL.op ?_ ?_; (exact rfl); intro K hK; (first | ((first | ((with_reducible apply ow_move); exact rfl) | ((with_reducible apply ow_assign); exact rfl)); (go_simp <;> (try simp (disch := omega) only [wrap_id, sub_left, zac]) <;> rfl)) | ((with_reducible apply ow_eval); (go_simp <;> (try simp (disch := omega) only [wrap_id, sub_left, zac]) <;> rfl); first | (with_reducible apply up_value) | ((with_reducible apply up_enter); ((go_at_call 66; ((with_reducible refine (cutPrefix_any (U) [59, 83, 58] _).mono ?_); rintro e5 w' ⟨rfl, rfl⟩; refine ⟨_, rfl, ?_⟩)))))); refine WL.next hK (by simp only [Act.put, zpt, zsz, zss]; exact rfl) ?_; clear hK K))); (try refine WL.nil ?_))
                go_wp2_with (refine WL.out ?_; (repeat ((refine WL.op ?_ ?_; (exact rfl); intro K hK; (first | ((first | ((with_reducible apply ow_move); exact rfl) | ((with_reducible apply ow_assign); exact rfl)); (go_simp <;> (try simp (disch := omega) only [wrap_id, sub_left, zac]) <;> rfl)) | ((first | ((with_reducible apply ow_load1 st); exact rfl; exact inferInstance; exact rfl; (exact get2)) | ((with_reducible apply ow_loadN st); exact rfl; exact inferInstance; exact rfl; (exact get2); ((try simp only [zta, ztz, zda, zdz, zca, zcn, zan, zsz, zss]) <;> exact rfl))); exact rfl) | ((first | ((with_reducible apply ow_store1' st); exact rfl; exact inferInstance; exact rfl; (exact get2); (go_simp <;> (try simp (disch := omega) only [wrap_id, sub_left, zac]) <;> rfl)) | ((with_reducible apply ow_storeN' st); exact rfl; exact inferInstance; exact rfl; (exact get2); exact rfl)); exact rfl; exact rfl; (simp <;> done); ((try simp only [zta, ztz, zda, zdz, zca, zcn, zan, zsz, zss]) <;> exact rfl); (try clear st); intro w' st) | ((with_reducible apply ow_eval); (go_simp <;> (try simp (disch := omega) only [wrap_id, sub_left, zac]) <;> rfl); first | (with_reducible apply up_value) | ((with_reducible apply up_enter); ((go_at_call 68; ((with_reducible refine (acesIn_ok hE _ ?_ (HE.out.later st.below)).mono ?_); (focus omega)); rintro e5 w' ⟨A5, n5, c5, rfl, st'⟩; replace st := st.join st'; clear st'; simp only [List.cons_append, List.nil_append] at st; refine ⟨_, rfl, ?_⟩; skip; have hn5 : ((n5 : Int) == 0) = false := by (have := St.len st (i := 0) rfl); rw [beq_eq_false_iff_ne]; omega))))); refine WL.next hK (by simp only [Act.put, zpt, zsz, zss]; exact rfl) ?_; clear hK K))); (try refine WL.nil ?_))
                refine bodyPost_cell_tmp 2 st rfl inferInstance rfl rfl rfl rfl rfl ?_
                exact .inr ⟨_, _, _, _, A1, A5, n1, n5, c1, c5, h.out, rfl, st.below⟩
  · have hR := Lib.hid (L.rd_no hno)
    have hcs : Lib.hasPrefix s [79, 58] = false ∨ (Lib.hasPrefix s [79, 58] = true ∧ L.numOk (L.dW (L.rd1 s)) = false) ∨ (Lib.hasPrefix s [79, 58] = true ∧ L.numOk (L.dW (L.rd1 s)) = true ∧ Lib.hasPrefix (L.dR (L.rd1 s)) [59, 71, 58] = false) ∨ (Lib.hasPrefix s [79, 58] = true ∧ L.numOk (L.dW (L.rd1 s)) = true ∧ Lib.hasPrefix (L.dR (L.rd1 s)) [59, 71, 58] = true ∧ L.numOk (L.dW (L.rd2 s)) = false) := by
      revert hno
      cases Lib.hasPrefix s [79, 58] <;> cases L.numOk (L.dW (L.rd1 s)) <;> cases Lib.hasPrefix (L.dR (L.rd1 s)) [59, 71, 58] <;> cases L.numOk (L.dW (L.rd2 s)) <;> simp
    clear hno
    rcases hcs with b1 | ⟨b1, b2⟩ | ⟨b1, b2, b3⟩ | ⟨b1, b2, b3, b4⟩
    all_goals
      go_enter Tryz.func40, Tryz.ntmps40
      go_wp2_with (refine WL.out ?_; (repeat (first | (refine WL.op ?_ ?_; (exact rfl); intro K hK; (first | ((first | ((with_reducible apply ow_move); exact rfl) | ((with_reducible apply ow_assign); exact rfl)); (go_simp <;> (try simp (disch := omega) only [wrap_id, sub_left, zac]) <;> rfl)) | ((((with_reducible apply ow_loadN st); exact rfl; exact inferInstance; exact rfl; (exact get0); ((try simp only [zta, ztz, zda, zdz, zca, zcn, zan, zsz, zss]) <;> exact rfl))); exact rfl) | ((((with_reducible apply ow_alloc st); exact rfl; exact inferInstance; (go_simp <;> (try simp (disch := omega) only [wrap_id, sub_left, zac]) <;> rfl))); (try clear st); intro b w' st) | ((first | ((with_reducible apply ow_store1' st); exact rfl; exact inferInstance; exact rfl; (exact get0); (go_simp <;> (try simp (disch := omega) only [wrap_id, sub_left, zac]) <;> rfl)) | ((with_reducible apply ow_storeN' st); exact rfl; exact inferInstance; exact rfl; (exact get0); exact rfl)); exact rfl; exact rfl; (simp <;> done); ((try simp only [zta, ztz, zda, zdz, zca, zcn, zan, zsz, zss]) <;> exact rfl); (try clear st); intro w' st) | ((with_reducible apply ow_eval); (go_simp <;> (try simp (disch := omega) only [wrap_id, sub_left, zac]) <;> rfl); first | (with_reducible apply up_value) | ((with_reducible apply up_enter); first | (go_at_call 66; ((with_reducible refine (cpO s _).mono ?_); rintro e5 w' ⟨rfl, rfl⟩; refine ⟨_, rfl, ?_⟩)) | (go_at_call 66; ((with_reducible refine (cpG s _).mono ?_); rintro e5 w' ⟨rfl, rfl⟩; refine ⟨_, rfl, ?_⟩)) | (go_at_call 67; ((with_reducible refine (natural_any (L.rd1 s) _ ?_ (HE.out.later st.below)).mono ?_); (focus omega)); rintro e5 w' ⟨O, hvO, rfl, hb⟩; replace st := st.call hb; clear hb; replace hvO := Lib.hid hvO; refine ⟨_, rfl, ?_⟩) | (go_at_call 67; ((with_reducible refine (naG s _ ?_ (HE.out.later st.below)).mono ?_); (focus omega)); rintro e5 w' ⟨G, hvG, rfl, hb⟩; replace st := st.call hb; clear hb; replace hvG := Lib.hid hvG; refine ⟨_, rfl, ?_⟩)))); refine WL.next hK (by simp only [Act.put, zpt, zsz, zss]; exact rfl) ?_; clear hK K) | (refine WL.skip ?_ (by simp only [Act.put, zpt, zsz, zss]; exact rfl) ?_; (exact rfl)))); (try refine WL.nil ?_))
      refine bodyPost_cell_tmp 0 st rfl inferInstance rfl rfl rfl rfl rfl ?_
      exact .inr ⟨_, _, _, _, none, none, 0, 0, 0, 0, hR.out, rfl, st.below⟩
end Go.Proofs.YtppjhccdgbheiaaGreatDoor
namespace Go.Proofs.YtppjhccdgbheiaaGreatDoor
open Go.RowKit Go.Hp
theorem parse_ok {s : List UInt8} {d : L.Desc} (hx : L.rd s = some d) (w : World) (hl : s.length ≤ 100000) (hE : Env w) :
    Calls Tryz.prog 40 #[.string ⟨s.toArray⟩] w fun e w' => ∃ A1 A2 n1 n2 c1 c2, e = .returned (.tuple #[.agg #[.int .i64 d.o, .int .i64 d.g, .bool d.p, .bool d.h, .slice A1 n1 c1, .slice A2 n2 c2], .bool true]) ∧ St w w' [aceRow (.slice A1 n1 c1) n1 d.e, aceRow (.slice A2 n2 c2) n2 d.a] :=
  (parse_any s w hl hE).mono fun e w' h => by
    rcases h with ⟨d', A1, A2, n1, n2, c1, c2, h1, h2, h3⟩ | ⟨_, _, _, _, _, _, _, _, _, _, h1, _, _⟩
    · obtain rfl : d = d' := Option.some.inj (hx.symm.trans h1)
      exact ⟨A1, A2, n1, n2, c1, c2, h2, h3⟩
    · rw [hx] at h1; cases h1
namespace L
def aRes (s : List UInt8) : Desc × Int := match rd s with
  | none => (Desc.none, 7)
  | some d => if d.err.2 = 0 then (d, 0) else (Desc.none, d.err.2)
end L
set_option maxRecDepth 8000 in
set_option maxHeartbeats 4000000 in
theorem aParse_large (s : List UInt8) (w : World) (hl : 200000 < s.length) : Calls Tryz.prog 22 #[.string ⟨s.toArray⟩] w (RetDescErr w (L.Desc.none, 8)) := by
  have hsz := bytes_size
  have st := St.start w
  have hl' : (200000 : Int) < (s.length : Int) := by omega
  go_enter Tryz.func22, Tryz.ntmps22
  go_wp2_with (refine WL.out ?_; (repeat ((refine WL.op ?_ ?_; (exact rfl); intro K hK; (first | ((((with_reducible apply ow_assign); exact rfl)); (go_simp <;> (try simp (disch := omega) only [wrap_id, sub_left, zac]) <;> rfl)) | ((((with_reducible apply ow_alloc st); exact rfl; exact inferInstance; (go_simp <;> (try simp (disch := omega) only [wrap_id, sub_left, zac]) <;> rfl))); (try clear st); intro b w' st) | ((((with_reducible apply ow_storeN' st); exact rfl; exact inferInstance; exact rfl; (exact get0); exact rfl)); exact rfl; exact rfl; (simp <;> done); ((try simp only [zta, ztz, zda, zdz, zca, zcn, zan, zsz, zss]) <;> exact rfl); (try clear st); intro w' st) | ((with_reducible apply ow_eval); (go_simp <;> (try simp (disch := omega) only [wrap_id, sub_left, zac]) <;> rfl); ((with_reducible apply up_value)))); refine WL.next hK (by simp only [Act.put, zpt, zsz, zss]; exact rfl) ?_; clear hK K))); (try refine WL.nil ?_))
  refine bodyPost_cell_tmp 0 st rfl inferInstance rfl rfl rfl rfl rfl ?_
  exact ⟨none, 0, 0, none, 0, 0, rfl, ((st.sub (List.nil_sublist _)).nilRow _ _).nilRow _ _⟩
set_option maxRecDepth 8000 in
set_option maxHeartbeats 4000000 in
theorem aParse_any (s : List UInt8) (w : World) (hl : s.length ≤ 100000) (hE : Env w) (hc : ∀ d, L.rd s = some d → d.e.length ≤ 100 ∧ d.a.length ≤ 100) : Calls Tryz.prog 22 #[.string ⟨s.toArray⟩] w (RetDescErr w (L.aRes s)) := by
  have hsz := bytes_size
  have st := St.start w
  have hl' : ¬ (200000 : Int) < (s.length : Int) := by omega
  have HV := Lib.hid hE
  clear hE
  rcases hR : L.rd s with _ | d
  · have hP : Hid (L.aRes s = (L.Desc.none, 7)) := Lib.hid (by unfold L.aRes; rw [hR])
    have HR := Lib.hid hR
    clear hR hc
    go_enter Tryz.func22, Tryz.ntmps22
    go_wp2_with (refine WL.out ?_; (repeat ((refine WL.op ?_ ?_; (exact rfl); intro K hK; (first | ((first | ((with_reducible apply ow_move); exact rfl) | ((with_reducible apply ow_assign); exact rfl)); (go_simp <;> (try simp (disch := omega) only [wrap_id, sub_left, zac]) <;> rfl)) | ((((with_reducible apply ow_alloc st); exact rfl; exact inferInstance; (go_simp <;> (try simp (disch := omega) only [wrap_id, sub_left, zac]) <;> rfl))); (try clear st); intro b w' st) | ((((with_reducible apply ow_storeN' st); exact rfl; exact inferInstance; exact rfl; (first | exact get0 | exact get1); exact rfl)); exact rfl; exact rfl; (simp <;> done); ((try simp only [zta, ztz, zda, zdz, zca, zcn, zan, zsz, zss]) <;> exact rfl); (try clear st); intro w' st) | ((with_reducible apply ow_eval); (go_simp <;> (try simp (disch := omega) only [wrap_id, sub_left, zac]) <;> rfl); first | (with_reducible apply up_value) | ((with_reducible apply up_enter); ((go_at_call 40; ((with_reducible refine (parse_any s _ ?_ (HV.out.later st.below)).mono ?_); (focus omega)); rintro e5 w' h5; (rcases h5 with ⟨d5, A1, A2, n1, n2, c1, c2, h5, _, _⟩ | ⟨x5, y5, p5, h5, A1, A2, n1, n2, c1, c2, _, rfl, hb⟩); (focus (rw [HR.out] at h5; cases h5)); replace st := st.call hb; clear hb; refine ⟨_, rfl, ?_⟩))))); refine WL.next hK (by simp only [Act.put, zpt, zsz, zss]; exact rfl) ?_; clear hK K))); (try refine WL.nil ?_))
    refine bodyPost_cell_tmp 1 st rfl inferInstance rfl rfl rfl rfl rfl ?_
    rw [hP.out]
    exact ⟨none, 0, 0, none, 0, 0, rfl, ((st.sub (List.nil_sublist _)).nilRow _ _).nilRow _ _⟩
  · obtain ⟨hc1, hc2⟩ := hc d hR
    have HR := Lib.hid hR
    clear hc
    by_cases hE0 : d.err.2 = 0
    · have hP : Hid (L.aRes s = (d, 0)) := Lib.hid (by unfold L.aRes; rw [hR]; exact if_pos hE0)
      have HE := Lib.hid hE0
      clear hE0 hR
      go_enter Tryz.func22, Tryz.ntmps22
      go_wp2_with (refine WL.out ?_; (repeat ((refine WL.op ?_ ?_; (exact rfl); intro K hK; (first | ((first | ((with_reducible apply ow_move); exact rfl) | ((with_reducible apply ow_assign); exact rfl)); (go_simp <;> (try simp (disch := omega) only [wrap_id, sub_left, zac]) <;> rfl)) | ((((with_reducible apply ow_loadN st); exact rfl; exact inferInstance; exact rfl; (exact get0); ((try simp only [zta, ztz, zda, zdz, zca, zcn, zan, zsz, zss]) <;> exact rfl))); exact rfl) | ((((with_reducible apply ow_alloc st); exact rfl; exact inferInstance; (go_simp <;> (try simp (disch := omega) only [wrap_id, sub_left, zac]) <;> rfl))); (try clear st); intro b w' st) | ((((with_reducible apply ow_storeN' st); exact rfl; exact inferInstance; exact rfl; (first | exact get0 | exact get3); exact rfl)); exact rfl; exact rfl; (simp <;> done); ((try simp only [zta, ztz, zda, zdz, zca, zcn, zan, zsz, zss]) <;> exact rfl); (try clear st); intro w' st) | ((with_reducible apply ow_eval); (go_simp <;> (try simp (disch := omega) only [wrap_id, sub_left, zac]) <;> rfl); first | (with_reducible apply up_value) | ((with_reducible apply up_enter); first | (go_at_call 40; ((with_reducible refine (parse_ok HR.out _ ?_ (HV.out.later st.below)).mono ?_); (focus omega)); rintro e5 w' ⟨A1, A2, n1, n2, c1, c2, rfl, st'⟩; replace st := st.join st'; clear st'; simp only [List.cons_append, List.nil_append] at st; refine ⟨_, rfl, ?_⟩) | (go_at_call 37; ((with_reducible refine (descriptorErr_any d A1 A2 n1 n2 c1 c2 _ _ (St.aces st (i := 1) rfl) (St.aces st (i := 2) rfl) (Nat.le_refl _) ?_ ?_).mono ?_); (focus (have := St.len st (i := 1) rfl; omega)); (focus (have := St.len st (i := 2) rfl; omega))); rw [HE.out]; rintro e w' ⟨rfl, hb⟩; replace st := st.call hb; clear hb; refine ⟨_, rfl, ?_⟩)))); refine WL.next hK (by simp only [Act.put, zpt, zsz, zss]; exact rfl) ?_; clear hK K))); (try refine WL.nil ?_))
      refine bodyPost_cell_tmp 3 st rfl inferInstance rfl rfl rfl rfl rfl ?_
      rw [hP.out]
      exact ⟨A1, n1, c1, A2, n2, c2, rfl, st.tail.sub (.cons_cons _ (.cons_cons _ (List.nil_sublist _)))⟩
    · obtain ⟨E, hE2⟩ : ∃ E, d.err.2 = E := ⟨_, rfl⟩
      have hP : Hid (L.aRes s = (L.Desc.none, E)) := Lib.hid (by unfold L.aRes; rw [hR]; exact (if_neg hE0).trans (by rw [hE2]))
      rw [hE2] at hE0
      have hv0 : (E != 0) = true := by simpa using hE0
      have HE := Lib.hid hE2
      clear hE0 hE2 hR
      go_enter Tryz.func22, Tryz.ntmps22
      go_wp2_with (refine WL.out ?_; (repeat ((refine WL.op ?_ ?_; (exact rfl); intro K hK; (first | ((first | ((with_reducible apply ow_move); exact rfl) | ((with_reducible apply ow_assign); exact rfl)); (go_simp <;> (try simp (disch := omega) only [wrap_id, sub_left, zac]) <;> rfl)) | ((((with_reducible apply ow_loadN st); exact rfl; exact inferInstance; exact rfl; (exact get0); ((try simp only [zta, ztz, zda, zdz, zca, zcn, zan, zsz, zss]) <;> exact rfl))); exact rfl) | ((((with_reducible apply ow_alloc st); exact rfl; exact inferInstance; (go_simp <;> (try simp (disch := omega) only [wrap_id, sub_left, zac]) <;> rfl))); (try clear st); intro b w' st) | ((((with_reducible apply ow_storeN' st); exact rfl; exact inferInstance; exact rfl; (first | exact get0 | exact get3); exact rfl)); exact rfl; exact rfl; (simp <;> done); ((try simp only [zta, ztz, zda, zdz, zca, zcn, zan, zsz, zss]) <;> exact rfl); (try clear st); intro w' st) | ((with_reducible apply ow_eval); (go_simp <;> (try simp (disch := omega) only [wrap_id, sub_left, zac]) <;> rfl); first | (with_reducible apply up_value) | ((with_reducible apply up_enter); first | (go_at_call 40; ((with_reducible refine (parse_ok HR.out _ ?_ (HV.out.later st.below)).mono ?_); (focus omega)); rintro e5 w' ⟨A1, A2, n1, n2, c1, c2, rfl, st'⟩; replace st := st.join st'; clear st'; simp only [List.cons_append, List.nil_append] at st; refine ⟨_, rfl, ?_⟩) | (go_at_call 37; ((with_reducible refine (descriptorErr_any d A1 A2 n1 n2 c1 c2 _ _ (St.aces st (i := 1) rfl) (St.aces st (i := 2) rfl) (Nat.le_refl _) ?_ ?_).mono ?_); (focus (have := St.len st (i := 1) rfl; omega)); (focus (have := St.len st (i := 2) rfl; omega))); rw [HE.out]; rintro e w' ⟨rfl, hb⟩; replace st := st.call hb; clear hb; refine ⟨_, rfl, ?_⟩)))); refine WL.next hK (by simp only [Act.put, zpt, zsz, zss]; exact rfl) ?_; clear hK K))); (try refine WL.nil ?_))
      refine bodyPost_cell_tmp 3 st rfl inferInstance rfl rfl rfl rfl rfl ?_
      rw [hP.out]
      exact ⟨none, 0, 0, none, 0, 0, rfl, ((st.sub (List.nil_sublist _)).nilRow _ _).nilRow _ _⟩
end Go.Proofs.YtppjhccdgbheiaaGreatDoor
namespace Go.Proofs.YtppjhccdgbheiaaGreatDoor
open Go.RowKit Go.Hp
namespace L
theorem b8_byte (x : UInt8) (r : Int) : b8 (((x.toNat : Nat) : Int) + 256 * r) = x := by
  unfold b8
  have h := x.toNat_lt
  have e : ((((x.toNat : Nat) : Int) + 256 * r) % 256).toNat = x.toNat := by omega
  rw [e]
  exact UInt8.ofNat_toNat
theorem little_lev (l : List UInt8) : ∀ (c p : Nat), p + c ≤ l.length → little c (lev l p c) = (l.drop p).take c
  | 0, _, _ => rfl
  | c + 1, p, h => by
    have ih := little_lev l c (p + 1) (by omega)
    have hp : p < l.length := by omega
    have hb := bx_bound l p
    rw [List.drop_eq_getElem_cons hp, List.take_succ_cons, ← ih]
    show b8 (bx l p + 256 * lev l (p + 1) c) :: little c ((bx l p + 256 * lev l (p + 1) c) / 256) = _
    rw [show (bx l p + 256 * lev l (p + 1) c) / 256 = lev l (p + 1) c by omega]
    congr 1
    unfold bx
    rw [List.getElem?_eq_getElem hp]
    exact b8_byte _ _
theorem one_byte (l : List UInt8) (p : Nat) (h : p < l.length) : [b8 (bx l p)] = (l.drop p).take 1 := by
  have := little_lev l 1 p (by omega)
  rw [lev_one] at this
  exact this
theorem encA_at (l : List UInt8) (p : Nat) (h : p + 8 ≤ l.length) : encA (aceAt l p) = (l.drop p).take 8 := by
  have e1 := one_byte l p (by omega)
  have e2 := one_byte l (p + 1) (by omega)
  have e3 := little_lev l 2 (p + 2) (by omega)
  have e4 := little_lev l 4 (p + 4) (by omega)
  rw [little2] at e3
  rw [little4] at e4
  show [b8 (bx l p), b8 (bx l (p + 1))] ++ (le16 (lev l (p + 2) 2) ++ le32 (lev l (p + 4) 4)) = _
  rw [show [b8 (bx l p), b8 (bx l (p + 1))] = [b8 (bx l p)] ++ [b8 (bx l (p + 1))] from rfl, e1, e2, e3, e4]
  have key : ∀ (m : List UInt8) (a b : Nat), m.take (a + b) = m.take a ++ (m.drop a).take b := fun m a b => List.take_add ..
  rw [show (8 : Nat) = 1 + (1 + (2 + 4)) from rfl, key, key, key]
  simp only [List.drop_drop, List.append_assoc]
theorem encAces_to (l : List UInt8) : ∀ k : Nat, 12 + 8 * k ≤ l.length → encAces (acesTo l k) = (l.drop 12).take (8 * k)
  | 0, _ => rfl
  | k + 1, h => by
    have ih := encAces_to l k (by omega)
    rw [acesTo_snoc]
    have e : encAces (acesTo l k ++ [aceAt l (12 + 8 * k)]) = encAces (acesTo l k) ++ encA (aceAt l (12 + 8 * k)) := by unfold encAces; rw [List.flatMap_append]; simp
    rw [e, ih, encA_at l _ (by omega), show 8 * (k + 1) = 8 * k + 8 by omega, List.take_add, List.drop_drop]
theorem enc_decD {l : List UInt8} (hl : l.length = 12 + 8 * (nb l 2 + nb l 3)) (h0 : bx l 0 = 1) (h1 : bx l 1 ≤ 3) : (decD l).enc = l := by
  have hb := (bx_bound l 1).1
  have hea : (decD l).e ++ (decD l).a = acesTo l (nb l 2 + nb l 3) := List.take_append_drop _ _
  have hle : (decD l).e.length = nb l 2 := by
    show ((acesTo l (nb l 2 + nb l 3)).take (nb l 2)).length = _
    rw [List.length_take, acesTo_len]; omega
  have hla : (decD l).a.length = nb l 3 := by
    show ((acesTo l (nb l 2 + nb l 3)).drop (nb l 2)).length = _
    rw [List.length_drop, acesTo_len]; omega
  have hfl : (decD l).fl = bx l 1 := by
    show bit (bx l 1 % 2 == 1) + 2 * bit (bx l 1 / 2 == 1) = bx l 1
    rcases (show bx l 1 = 0 ∨ bx l 1 = 1 ∨ bx l 1 = 2 ∨ bx l 1 = 3 by omega) with h | h | h | h <;> rw [h] <;> decide
  have f0 := one_byte l 0 (by omega)
  have f1 := one_byte l 1 (by omega)
  have f2 := one_byte l 2 (by omega)
  have f3 := one_byte l 3 (by omega)
  have f4 := little_lev l 4 4 (by omega)
  have f8 := little_lev l 4 8 (by omega)
  rw [little4] at f4 f8
  rw [h0] at f0
  have hb1 : b8 1 = 1 := by decide
  rw [hb1] at f0
  have hhead : (decD l).encHead = l.take 12 := by
    unfold Desc.encHead
    rw [hfl, hle, hla]
    show [1, b8 (bx l 1), b8 (bx l 2), b8 (bx l 3)] ++ (le32 (lev l 4 4) ++ le32 (lev l 8 4)) = _
    rw [show [1, b8 (bx l 1), b8 (bx l 2), b8 (bx l 3)] = [1] ++ ([b8 (bx l 1)] ++ ([b8 (bx l 2)] ++ [b8 (bx l 3)])) from rfl, f0, f1, f2, f3, f4, f8]
    have key : ∀ (m : List UInt8) (a b : Nat), m.take (a + b) = m.take a ++ (m.drop a).take b := fun m a b => List.take_add ..
    rw [show (12 : Nat) = 1 + (1 + (1 + (1 + (4 + 4)))) from rfl, key, key, key, key, key]
    simp only [List.drop_drop, List.append_assoc, List.drop_zero]
  unfold Desc.enc
  rw [hhead, hea, encAces_to l _ (by omega), List.take_of_length_le (l := l.drop 12) (by rw [List.length_drop]; omega), List.take_append_drop]
end L
end Go.Proofs.YtppjhccdgbheiaaGreatDoor
namespace Go.Proofs.YtppjhccdgbheiaaGreatDoor
open Go.RowKit Go.Hp
namespace L
theorem lev_little : ∀ (c : Nat) (pre post : List UInt8) (n : Int), 0 ≤ n → n < 256 ^ c → lev (pre ++ (little c n ++ post)) pre.length c = n
  | 0, _, _, n, h0, h1 => by
    have : n < 1 := by simpa using h1
    show (0 : Int) = n
    omega
  | c + 1, pre, post, n, h0, h1 => by
    have hq : n / 256 < 256 ^ c := by
      rw [Int.pow_succ] at h1
      exact Int.ediv_lt_of_lt_mul (by decide) h1
    have ih := lev_little c (pre ++ [b8 n]) post (n / 256) (by omega) hq
    rw [List.length_append, List.length_singleton, List.append_assoc] at ih
    show bx (pre ++ (b8 n :: (little c (n / 256) ++ post))) pre.length + 256 * lev (pre ++ ([b8 n] ++ (little c (n / 256) ++ post))) (pre.length + 1) c = n
    rw [ih]
    have : bx (pre ++ (b8 n :: (little c (n / 256) ++ post))) pre.length = n % 256 := by
      unfold bx
      rw [List.getElem?_append_right (Nat.le_refl _), Nat.sub_self]
      exact b8_toNat n
    rw [this]
    omega
theorem bx_little (pre post : List UInt8) {n : Int} (h0 : 0 ≤ n) (h1 : n < 256) : bx (pre ++ (b8 n :: post)) pre.length = n := by
  have := lev_little 1 pre post n h0 (by simpa using h1)
  rw [lev_one] at this
  exact this
theorem encAces_len' : ∀ l : List Ace, (encAces l).length = 8 * l.length
  | [] => rfl
  | a :: l => by
    have ih := encAces_len' l
    have e : encAces (a :: l) = encA a ++ encAces l := by unfold encAces; rw [List.flatMap_cons]
    rw [e, List.length_append, ih, List.length_cons]
    show 8 + _ = _
    omega
theorem aceAt_enc (pre post : List UInt8) {a : Ace} (h : Ok a) {p : Nat} (hp : p = pre.length) : aceAt (pre ++ (encA a ++ post)) p = a := by
  subst hp
  have hk0 := h.k0; have hk1 := h.k1; have hf0 := h.f0; have hf1 := h.f1; have hm0 := h.m0; have hm1 := h.m1; have hw0 := h.w0; have hw1 := h.w1
  have e1 := bx_little pre ([b8 a.f] ++ (le16 a.m ++ le32 a.w) ++ post) (n := a.k) (by omega) (by omega)
  have e2 := bx_little (pre ++ [b8 a.k]) ((le16 a.m ++ le32 a.w) ++ post) (n := a.f) (by omega) (by omega)
  have e3 := lev_little 2 (pre ++ [b8 a.k, b8 a.f]) (le32 a.w ++ post) a.m (by omega) (by have : (256 : Int) ^ 2 = 65536 := by decide
                                                                                          omega)
  have e4 := lev_little 4 (pre ++ [b8 a.k, b8 a.f] ++ le16 a.m) post a.w (by omega) (by have : (256 : Int) ^ 4 = 4294967296 := by decide
                                                                                        omega)
  rw [little2] at e3
  rw [little4] at e4
  have s1 : pre ++ (encA a ++ post) = pre ++ (b8 a.k :: ([b8 a.f] ++ (le16 a.m ++ le32 a.w) ++ post)) := by unfold encA; simp
  have s2 : pre ++ (encA a ++ post) = (pre ++ [b8 a.k]) ++ (b8 a.f :: ((le16 a.m ++ le32 a.w) ++ post)) := by unfold encA; simp
  have s3 : pre ++ (encA a ++ post) = (pre ++ [b8 a.k, b8 a.f]) ++ (le16 a.m ++ (le32 a.w ++ post)) := by unfold encA; simp
  have s4 : pre ++ (encA a ++ post) = (pre ++ [b8 a.k, b8 a.f] ++ le16 a.m) ++ (le32 a.w ++ post) := by unfold encA; simp
  have g1 : bx (pre ++ (encA a ++ post)) pre.length = a.k := by rw [s1]; exact e1
  have g2 : bx (pre ++ (encA a ++ post)) (pre.length + 1) = a.f := by
    rw [s2]
    rw [List.length_append, List.length_singleton] at e2
    exact e2
  have g3 : lev (pre ++ (encA a ++ post)) (pre.length + 2) 2 = a.m := by
    rw [s3]
    rw [List.length_append] at e3
    exact e3
  have g4 : lev (pre ++ (encA a ++ post)) (pre.length + 4) 4 = a.w := by
    rw [s4]
    rw [List.length_append, List.length_append] at e4
    exact e4
  unfold aceAt
  rw [g1, g2, g3, g4]
theorem acesTo_at (pre : List UInt8) (M : List Ace) (hp : pre.length = 12) (hg : Good M) (i : Nat) (h2 : i < M.length) : aceAt (pre ++ encAces M) (12 + 8 * i) = M[i] := by
  have hs : encAces M = encAces (M.take i) ++ (encA M[i] ++ encAces (M.drop (i + 1))) := by
    conv => lhs; rw [← List.take_append_drop i M, List.drop_eq_getElem_cons h2]
    unfold encAces
    rw [List.flatMap_append, List.flatMap_cons]
  rw [hs, ← List.append_assoc]
  refine aceAt_enc _ _ (hg _ (List.getElem_mem h2)) ?_
  rw [List.length_append, hp, encAces_len', List.length_take]
  omega
theorem acesTo_enc (pre : List UInt8) (M : List Ace) (hp : pre.length = 12) (hg : Good M) : acesTo (pre ++ encAces M) M.length = M := by
  apply List.ext_getElem?
  intro i
  show ((List.range M.length).map fun i => aceAt (pre ++ encAces M) (12 + 8 * i))[i]? = _
  rw [List.getElem?_map]
  by_cases h : i < M.length
  · rw [List.getElem?_range h, List.getElem?_eq_getElem h, ← acesTo_at pre M hp hg i h]
    rfl
  · rw [List.getElem?_eq_none (by rw [List.length_range]; omega), List.getElem?_eq_none (by omega)]
    rfl
end L
end Go.Proofs.YtppjhccdgbheiaaGreatDoor
namespace Go.Proofs.YtppjhccdgbheiaaGreatDoor
open Go.RowKit Go.Hp
namespace L
theorem rHolder_bound {n : Int} (h : rHolder n = true) : 0 ≤ n ∧ n < 4294967296 := by
  unfold rHolder isUser at h
  try unfold within at h
  simp only [Bool.or_eq_true, Bool.and_eq_true, beq_iff_eq, decide_eq_true_eq] at h
  omega
theorem fl_parts (d : Desc) : 0 ≤ d.fl ∧ d.fl ≤ 3 ∧ (d.fl % 2 == 1) = d.p ∧ (d.fl / 2 == 1) = d.h := by
  unfold Desc.fl
  cases d.p <;> cases d.h <;> decide
theorem bx_nat {l : List UInt8} {i k : Nat} (h : bx l i = (k : Int)) : nb l i = k := by
  have := bx_nb l i
  omega
theorem rDec_enc {d : Desc} (h : d.rErrs.2 = 0) : rDec d.enc = (d, 0) := by
  have hv := Desc.valid_of h
  have hg : Good (d.e ++ d.a) := Desc.err_good (by rw [Desc.err_eq]; exact h)
  obtain ⟨ho, hgr⟩ := pair_holders hv.pair
  obtain ⟨o0, o1⟩ := rHolder_bound ho
  obtain ⟨r0, r1⟩ := rHolder_bound hgr
  have le := hv.le
  have la := hv.la
  obtain ⟨f0, f1, f2, f3⟩ := fl_parts d
  have hhl : d.encHead.length = 12 := rfl
  have hlen : d.enc.length = 12 + 8 * (d.e.length + d.a.length) := by
    unfold Desc.enc
    rw [List.length_append, encAces_len', hhl, List.length_append]
  have x0 : bx d.enc 0 = 1 := by rfl
  have x1 : bx d.enc 1 = d.fl := bx_little [1] ([b8 d.e.length, b8 d.a.length] ++ (le32 d.o ++ le32 d.g) ++ encAces (d.e ++ d.a)) f0 (by omega)
  have x2 : bx d.enc 2 = (d.e.length : Int) := bx_little [1, b8 d.fl] ([b8 d.a.length] ++ (le32 d.o ++ le32 d.g) ++ encAces (d.e ++ d.a)) (by omega) (by omega)
  have x3 : bx d.enc 3 = (d.a.length : Int) := bx_little [1, b8 d.fl, b8 d.e.length] ((le32 d.o ++ le32 d.g) ++ encAces (d.e ++ d.a)) (by omega) (by omega)
  have p4 : (256 : Int) ^ 4 = 4294967296 := by decide
  have x4 := lev_little 4 [1, b8 d.fl, b8 d.e.length, b8 d.a.length] (le32 d.g ++ encAces (d.e ++ d.a)) d.o o0 (by omega)
  have x8 := lev_little 4 ([1, b8 d.fl, b8 d.e.length, b8 d.a.length] ++ le32 d.o) (encAces (d.e ++ d.a)) d.g r0 (by omega)
  rw [little4] at x4 x8
  have s4 : d.enc = [1, b8 d.fl, b8 d.e.length, b8 d.a.length] ++ (le32 d.o ++ (le32 d.g ++ encAces (d.e ++ d.a))) := by
    unfold Desc.enc Desc.encHead
    simp only [List.append_assoc]
  have s8 : d.enc = [1, b8 d.fl, b8 d.e.length, b8 d.a.length] ++ le32 d.o ++ (le32 d.g ++ encAces (d.e ++ d.a)) := by
    rw [s4]; simp only [List.append_assoc]
  rw [← s4] at x4
  rw [← s8] at x8
  have y4 : lev d.enc 4 4 = d.o := x4
  have y8 : lev d.enc 8 4 = d.g := x8
  have n2 := bx_nat x2
  have n3 := bx_nat x3
  have ha : acesTo d.enc (d.e.length + d.a.length) = d.e ++ d.a := by
    have := acesTo_enc d.encHead (d.e ++ d.a) hhl hg
    rw [List.length_append] at this
    exact this
  have hd : decD d.enc = d := by
    unfold decD
    rw [n2, n3, y4, y8, x1, f2, f3, ha, List.take_left', List.drop_left'] <;> rfl
  unfold rDec
  rw [hlen, n2, n3, x0, x1, hd, h]
  rw [if_neg (by omega), if_neg (by omega), if_neg (by omega), if_neg (by omega), if_neg (by omega)]
end L
end Go.Proofs.YtppjhccdgbheiaaGreatDoor
namespace Go.Hp
open Go.RowKit
section
variable {P : Program} {Q : Exit → Act → World → Prop} {a : Act} {w : World} {l : List Oper} {n s : Nat} {Φ : List Phi}
theorem wpAny_head (hB : phiB l n = true) (I : Array Bool → Act → World → Prop) (hinv : ∀ L a w, I L a w → HeadInv .any l.toArray n L)
    (step : ∀ L a w i o, I L a w → i < n → L.getD i false = false → l[i]? = some o → (∀ e ∈ o.after, Region.binds .any e = true → L.getD e.on false = true) →
      (Region.wanted o (yielded l.toArray a.tmps) = true ∧ o.wp P a w (fun a' w' => I (L.setIfInBounds i true) a' w') (fun _ _ _ => False)) ∨ (Region.wanted o (yielded l.toArray a.tmps) = false ∧ I (L.setIfInBounds i true) (a.put o.dst undef) w))
    (fin : ∀ L a w, I L a w → (∀ k, k < n → L.getD k false = true) → wpList P l.toArray Q (l.drop n) a w) :
    ∀ (f : Nat) (listed : Array Bool) (a' : Act) (w1 : World), I listed a' w1 → ((List.range n).filter fun k => !listed.getD k false).length = f → wpAny P .any l.toArray Q (f + (l.length - n)) listed a' w1 := by
  simp only [phiB, Bool.and_eq_true, decide_eq_true_eq, Bool.or_eq_true] at hB
  obtain ⟨⟨⟨⟨hdist, hn⟩, hback⟩, htail⟩, hseq⟩ := hB
  have htl : (l.take n).length = n := by simp; omega
  intro f
  induction f with
  | zero =>
    intro listed a' w1 hI hf
    have hall : ∀ k, k < n → listed.getD k false = true := by
      intro k hk
      cases hl : listed.getD k false with
      | true => rfl
      | false =>
        have : k ∈ (List.range n).filter fun k => !listed.getD k false := List.mem_filter.2 ⟨List.mem_range.2 hk, by simp [hl]⟩
        rw [List.length_eq_zero_iff.1 hf] at this
        cases this
    have hls : listed = headListed n l.length := by
      have hsz := (hinv _ _ _ hI).size
      simp only [List.size_toArray] at hsz
      apply Array.ext
      · simp [headListed, hsz]
      · intro k h1 h2
        have hk : k < l.length := by omega
        simp only [headListed, List.getElem_toArray, List.getElem_map, List.getElem_range]
        by_cases hkn : k < n
        · have := hall k hkn
          simp [h1] at this
          simp [this, hkn]
        · have := (hinv _ _ _ hI).tail k (by omega) (by simpa using hk)
          simp [h1] at this
          simp [this, hkn]
    rw [Nat.zero_add, hls]
    have hdl : (l.drop n).length = l.length - n := by simp
    rw [← hdl]
    exact wpAny_of_seq (l.drop n) n _ _ _ (fun j => by simp [List.getElem?_drop]) (by rw [hdl]; exact hseq) (fin _ _ _ hI hall)
  | succ f ih =>
    intro listed a' w1 hI hf
    have hex : ∃ k, k < n ∧ listed.getD k false = false := by
      cases hfl : (List.range n).filter fun k => !listed.getD k false with
      | nil => rw [hfl] at hf; simp at hf
      | cons k r =>
        have hm : k ∈ (List.range n).filter fun k => !listed.getD k false := by rw [hfl]; exact List.mem_cons_self ..
        obtain ⟨hk1, hk2⟩ := List.mem_filter.1 hm
        exact ⟨k, List.mem_range.1 hk1, by simpa using hk2⟩
    have hsz : listed.size = l.length := by have := (hinv _ _ _ hI).size; simpa using this
    have hready : Region.ready .any l.toArray listed ≠ [] := by
      obtain ⟨k, hk⟩ := hex
      induction k using Nat.strongRecOn with
      | _ k ihk =>
        obtain ⟨hkn, hkl⟩ := hk
        by_cases hsm : ∃ j, j < k ∧ listed.getD j false = false
        · obtain ⟨j, hj, hjl⟩ := hsm
          exact ihk j hj ⟨by omega, hjl⟩
        · intro h0
          have hmem : k ∈ Region.ready .any l.toArray listed := by
            have hklt : k < l.length := by omega
            refine mem_ready.2 ⟨getD_in (by omega) hkl, l[k], by simp [hklt], fun e he hb => ?_⟩
            have := List.all_eq_true.1 hback k (List.mem_range.2 hkn)
            simp only [List.getElem?_toArray, List.getElem?_eq_getElem hklt] at this
            have := Array.all_eq_true_iff_forall_mem.1 this e he
            simp only [hb, Bool.not_true, Bool.false_or, decide_eq_true_eq] at this
            cases hle : listed.getD e.on false with
            | true => rfl
            | false => exact absurd ⟨e.on, this, hle⟩ hsm
          rw [h0] at hmem
          cases hmem
    rw [show f + 1 + (l.length - n) = (f + (l.length - n)) + 1 by omega]
    refine ⟨fun h0 => absurd h0 hready, fun i hi => ?_⟩
    have hin : i < n := by
      rcases Nat.lt_or_ge i n with h | h
      · exact h
      · exfalso
        rcases htail with ht | ht
        · obtain ⟨_, o, ho, _⟩ := mem_ready.1 hi
          have := (Array.getElem?_eq_some_iff.1 ho).1
          simp at this
          omega
        · obtain ⟨k, hkn, hkl⟩ := hex
          obtain ⟨_, o, ho, _⟩ := mem_ready.1 hi
          have := (Array.getElem?_eq_some_iff.1 ho).1
          simp at this
          exact tail_waits ht.1 ht.2 (by simp; omega) (hinv _ _ _ hI) _ k rfl hkn (getD_in (by omega) hkl) i h hi
    obtain ⟨hun, o, ho, hdeps⟩ := mem_ready.1 hi
    have ho' : l[i]? = some o := by simpa using ho
    have hcount : ((List.range n).filter fun k => !(listed.setIfInBounds i true).getD k false).length = f := by
      have hlt : i < listed.size := by omega
      have e1 : ((List.range n).filter fun k => !listed.getD k false) = (List.range n).filter (fun k => decide (k = i) || !(listed.setIfInBounds i true).getD k false) := by
        apply List.filter_congr
        intro k _
        by_cases hki : k = i
        · subst hki; simp [getD_both hun]
        · rw [getD_set_ne false (Ne.symm hki)]; simp [hki]
      rw [e1] at hf
      have hnd : (List.range n).Nodup := List.nodup_range
      have e2 : ∀ (m : List Nat), m.Nodup → i ∈ m → (m.filter (fun k => decide (k = i) || !(listed.setIfInBounds i true).getD k false)).length = (m.filter fun k => !(listed.setIfInBounds i true).getD k false).length + 1 := by
        intro m
        induction m with
        | nil => intro _ h; cases h
        | cons x m ihm =>
          intro hnd hm
          obtain ⟨hx, hnd⟩ := List.nodup_cons.1 hnd
          by_cases hxi : x = i
          · subst hxi
            have : (m.filter (fun k => decide (k = x) || !(listed.setIfInBounds x true).getD k false)) = m.filter fun k => !(listed.setIfInBounds x true).getD k false := by
              apply List.filter_congr
              intro k hk
              have : k ≠ x := fun h => hx (h ▸ hk)
              simp [this]
            rw [List.filter_cons, List.filter_cons, this]
            have h3 : (listed.setIfInBounds x true).getD x false = true := by simp [hlt]
            simp [h3]
          · have hm' : i ∈ m := by
              rcases List.mem_cons.1 hm with h | h
              · exact absurd h.symm hxi
              · exact h
            have := ihm hnd hm'
            rw [List.filter_cons, List.filter_cons]
            simp only [hxi, decide_false, Bool.false_or]
            split
            · simp only [List.length_cons]; omega
            · exact this
      have := e2 _ hnd (List.mem_range.2 hin)
      omega
    unfold wpOp
    simp only [ho]
    rcases step _ _ _ i o hI hin (getD_both hun) ho' hdeps with ⟨hw, hy⟩ | ⟨hw, hy⟩
    · rw [if_pos hw]
      exact .inl (wp_strong (fun a2 w2 h2 => ih _ _ _ h2 hcount) hy)
    · rw [hw]
      simp only [Bool.false_eq_true, if_false]
      exact ih _ _ _ hy hcount
theorem start_inv : HeadInv .any l.toArray n (Array.replicate l.length false) :=
  ⟨by simp, fun j oj _ hl => (by rw [getD_replicate_false] at hl; cases hl), fun t _ ht => getD_in (by simpa using ht) (getD_replicate_false _ _)⟩
theorem wp_region_head {id : Nat} (hm : P.follows .mixedOrders = true) (hB : phiB l n = true) (I : Array Bool → Act → World → Prop) (hinv : ∀ L a w, I L a w → HeadInv .any l.toArray n L)
    (step : ∀ L a w i o, I L a w → i < n → L.getD i false = false → l[i]? = some o → (∀ e ∈ o.after, Region.binds .any e = true → L.getD e.on false = true) →
      (Region.wanted o (yielded l.toArray a.tmps) = true ∧ o.wp P a w (fun a' w' => I (L.setIfInBounds i true) a' w') (fun _ _ _ => False)) ∨ (Region.wanted o (yielded l.toArray a.tmps) = false ∧ I (L.setIfInBounds i true) (a.put o.dst undef) w))
    (fin : ∀ L a w, I L a w → (∀ k, k < n → L.getD k false = true) → wpList P l.toArray Q (l.drop n) a w) (h0 : I (Array.replicate l.length false) a w.drew) : (Code.region id l.toArray true).wp P Q a w := by
  have hB' := hB
  simp only [phiB, Bool.and_eq_true, decide_eq_true_eq, Bool.or_eq_true] at hB'
  obtain ⟨⟨⟨⟨_, hn⟩, hback⟩, _⟩, _⟩ := hB'
  refine wp_region_any hm ?_
  have main := wpAny_head hB I hinv step fin n (Array.replicate l.length false) a w.drew h0
    (by
      have : ((List.range n).filter fun k => !(Array.replicate l.length false).getD k false) = List.range n := List.filter_eq_self.2 (fun k _ => by rw [getD_replicate_false]; rfl)
      rw [this]; simp)
  have hsz : l.toArray.size = n + (l.length - n) := by simp; omega
  rw [hsz, show n + (l.length - n) = l.length by omega]
  rw [show n + (l.length - n) = l.length by omega] at main
  exact main
end
end Go.Hp
