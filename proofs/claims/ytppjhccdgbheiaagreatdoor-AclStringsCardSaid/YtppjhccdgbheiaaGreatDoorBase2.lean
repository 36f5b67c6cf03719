/- Own text, part Base 2: walks of the package acl and of its reference, and the plain laws that they lean on; no statement of the seat is here. -/
import Derived.Test.YtppjhccdgbheiaaGreatDoorBase1
import Derived.Deep.Cut
set_option linter.all false
namespace Go.Proofs.YtppjhccdgbheiaaGreatDoor
open Go.RowKit Go.Hp
namespace L
def inheritedOf (dir : Bool) (o g : Int) (l : List Ace) : List Ace := l.flatMap (inherit dir o g)
theorem inherited_step (dir : Bool) (o g : Int) (l : List Ace) (k : Nat) (h : k < l.length) : inheritedOf dir o g (l.take (k + 1)) = inheritedOf dir o g (l.take k) ++ inherit dir o g (ax l k) := by
  rw [take_succ_ax l k h]; unfold inheritedOf; rw [List.flatMap_append]; simp
theorem inherit_len (dir : Bool) (o g : Int) (a : Ace) : (inherit dir o g a).length ≤ 2 := by
  unfold inherit; split <;> (try simp) <;> split <;> (try simp) <;> split <;> simp
theorem inherited_len (dir : Bool) (o g : Int) : ∀ l : List Ace, (inheritedOf dir o g l).length ≤ 2 * l.length
  | [] => by simp [inheritedOf]
  | a :: l => by
    have h1 := inherit_len dir o g a
    have h2 := inherited_len dir o g l
    have : inheritedOf dir o g (a :: l) = inherit dir o g a ++ inheritedOf dir o g l := by unfold inheritedOf; rw [List.flatMap_cons]
    rw [this, List.length_append, List.length_cons]; omega
end L
set_option maxHeartbeats 2000000 in
theorem inherited_any (dir : Bool) (o g : Int) (A : Option Addr) (n c B : Nat) (l : List L.Ace) (w : World) (h1 : Aces w B A n l) (hB1 : B ≤ w.heap.size) (hn : n ≤ 100) (hg : ∀ a ∈ l, 0 ≤ a.f ∧ a.f ≤ 31) :
    Calls Tryz.prog 48 #[.agg #[.bool dir, .int .i64 o, .int .i64 g], .slice A n c] w (RetAces w (L.inheritedOf dir o g l)) := by
  have e1 := Lib.hid h1.len
  have H1 := Lib.hid h1
  have HG := Lib.hid hg
  clear hg h1
  have st := St.start w
  go_enter Tryz.func48, Tryz.ntmps48
  go_wp2_with (refine WL.out ?_; (repeat ((refine WL.op ?_ ?_; (exact rfl); intro K hK; (first | ((first | ((with_reducible apply ow_move); exact rfl) | ((with_reducible apply ow_assign); exact rfl)); (go_simp <;> (try simp (disch := omega) only [wrap_id, sub_left, zac]) <;> rfl)) | ((((with_reducible apply ow_box st); exact rfl; (go_simp <;> (try simp (disch := omega) only [wrap_id, sub_left, zac]) <;> rfl); (go_simp <;> (try simp (disch := omega) only [wrap_id, sub_left, zac]) <;> rfl))); (try clear st); intro b w' st) | ((with_reducible apply ow_eval); (go_simp <;> (try simp (disch := omega) only [wrap_id, sub_left, zac]) <;> rfl); ((with_reducible apply up_value)))); refine WL.next hK (by simp only [Act.put, zpt, zsz, zss]; exact rfl) ?_; clear hK K))); (try refine WL.nil ?_))
  go_loopw [5, 10] (fun v i wr => ∃ (k : Nat) (A' : Option Addr) (m c' : Nat), k ≤ n ∧ i = .int .i64 k ∧ v = .slice A' m c' ∧ St w wr [aceRow (.slice A' m c') m (L.inheritedOf dir o g (l.take k)), .box b 80 [.bool dir, .int .i64 o, .int .i64 g]]) (fun _ i _ => n - (intOf i).toNat)
  case atStart => exact ⟨0, none, 0, 0, Nat.zero_le _, rfl, rfl, st.nilRow _ _⟩
  case round =>
    clear st
    obtain ⟨k, A', m, c', hk, rfl, rfl, st⟩ := hrel
    have hm : m ≤ 200 := by
      have h := St.len st (i := 0) rfl
      have h2 := L.inherited_len dir o g (l.take k)
      have h3 := List.length_take_le k l
      omega
    by_cases hlt : k < n
    · have hst := Lib.hid (L.inherited_step dir o g l k (by rw [← e1.out]; omega))
      have hgk := HG.out (L.ax l k) (by rw [L.ax_eq l k (by rw [← e1.out]; omega)]; exact List.getElem_mem _)
      have hk0 := hgk.1
      have hk1 := hgk.2
      have hln := L.inherit_len dir o g (L.ax l k)
      obtain ⟨b1, o1, rfl, hb1, hc⟩ := H1.out.at_ (by omega)
      have hb1 := Nat.lt_of_lt_of_le hb1 hB1
      obtain ⟨f1, f2, f3, f4⟩ := hc k hlt
      clear hc hgk
      go_wp2_with (refine WL.out ?_; (repeat ((refine WL.op ?_ ?_; (exact rfl); intro K hK; (first | ((first | ((with_reducible apply ow_move); exact rfl) | ((with_reducible apply ow_assign); exact rfl)); (go_simp <;> (try simp (disch := omega) only [wrap_id, sub_left, zac]) <;> rfl)) | ((((with_reducible apply ow_loadN st); exact rfl; exact inferInstance; exact rfl; (first | exact get0 | exact get2); ((try simp only [zta, ztz, zda, zdz, zca, zcn, zan, zsz, zss]) <;> exact rfl))); exact rfl) | ((((with_reducible apply ow_alloc st); exact rfl; exact inferInstance; (go_simp <;> (try simp (disch := omega) only [wrap_id, sub_left, zac]) <;> rfl))); (try clear st); intro b w' st) | ((((with_reducible apply ow_storeN' st); exact rfl; exact inferInstance; exact rfl; (exact get0); exact rfl)); exact rfl; exact rfl; (simp <;> done); ((try simp only [zta, ztz, zda, zdz, zca, zcn, zan, zsz, zss]) <;> exact rfl); (try clear st); intro w' st) | ((with_reducible apply ow_old4 st); exact rfl; exact inferInstance; exact rfl; assumption; assumption; assumption; assumption; assumption) | ((with_reducible apply ow_append 2 st); exact rfl; exact inferInstance; exact rfl; exact rfl; exact rfl; exact st.rd (i := 0) rfl; (focus (exact cells_one _)); (focus (unfold maxLen; omega)); (focus omega); (try clear st); intro A' c' w' st; (try simp only [List.set_cons_zero, List.set_cons_succ, Nat.zero_add, List.nil_append] at st)) | ((with_reducible apply ow_eval); (go_simp <;> (try simp (disch := omega) only [wrap_id, sub_left, zac]) <;> rfl); first | (with_reducible apply up_value) | ((with_reducible apply up_enter); ((go_at_call 83; refine (inherit_any dir o g (L.ax l k) _ hk0 hk1).mono ?_; rintro e w' ⟨A2, m2, c2, rfl, st'⟩; have hm2 := St.len st' (i := 0) rfl; replace hm2 : m2 ≤ 2 := (by omega); replace st := st.join st'; clear st'; simp only [List.cons_append, List.nil_append] at st; refine ⟨_, rfl, ?_⟩))))); refine WL.next hK (by simp only [Act.put, zpt, zsz, zss]; exact rfl) ?_; clear hK K))); (try refine WL.nil ?_))
      have hwr : IntKind.i64.wrap ((k : Int) + 1) = (k : Int) + 1 := by rw [IntKind.wrap_i64]; omega
      exact ⟨⟨k + 1, A', m + m2, c', by omega, by go_num, rfl, by unfold aceRow; rw [hst.out, L.cellsOf_append]; exact st.tail.tail⟩, by simp [intOf]; omega⟩
    · have hs' : Hid (l.take k = l) := Lib.hid (List.take_of_length_le (by rw [← e1.out]; omega))
      go_wp2_with (refine WL.out ?_; (repeat ((refine WL.op ?_ ?_; (exact rfl); intro K hK; (((with_reducible apply ow_eval); (go_simp <;> (try simp (disch := omega) only [wrap_id, sub_left, zac]) <;> rfl); ((with_reducible apply up_value)))); refine WL.next hK (by simp only [Act.put, zpt, zsz, zss]; exact rfl) ?_; clear hK K))); (try refine WL.nil ?_))
      go_ret
      exact ⟨_, _, _, rfl, by rw [← hs'.out]; exact st.sub (.cons_cons _ (List.nil_sublist _))⟩
namespace L
def inheritedBy (l : List Ace) (dir : Bool) (o g : Int) : List Ace × Int :=
  if firstErr [acesErr l, holdersErr o g] = 0 then (if (inheritedOf dir o g l).length ≤ 16 then (inheritedOf dir o g l, 0) else ([], 16)) else ([], firstErr [acesErr l, holdersErr o g])
theorem firstErr_zero {l : List Int} (h : firstErr l = 0) : ∀ x ∈ l, x = 0 := by
  intro x hx
  unfold firstErr at h
  cases hf : l.find? (fun x => x != 0) with
  | none => simpa using List.find?_eq_none.1 hf x hx
  | some y =>
    have := List.find?_some hf
    rw [hf] at h
    simp_all
theorem unles_zero {b : Bool} {e : Int} (h : unles b e = 0) (he : e ≠ 0) : b = true := by
  cases b
  · exact absurd h he
  · rfl
theorem each_zero (E : Nat → Ace → Int) : ∀ (i : Nat) (l : List Ace), (each E i l).2 = 0 → ∀ j a, l[j]? = some a → E (i + j) a = 0
  | i, [], _, j, a, h => by simp at h
  | i, b :: l, h, j, a, ha => by
    unfold each at h
    split at h
    · rename_i hb
      rcases j with _ | j
      · simp only [List.getElem?_cons_zero, Option.some.injEq] at ha
        subst ha; exact hb
      · rw [List.getElem?_cons_succ] at ha
        have := each_zero E (i + 1) l h j a ha
        rwa [show i + (j + 1) = i + 1 + j by omega]
    · rename_i hb
      exact absurd h hb
theorem aErr_ok {a : Ace} (h : aErr a = 0) : Ok a := by
  have h1 := firstErr_zero h
  have h2 := unles_zero (h1 _ (List.mem_cons_self ..)) (by decide)
  have h3 := unles_zero (h1 _ (List.mem_cons_of_mem _ (List.mem_cons_self ..))) (by decide)
  simp only [within, isIdentity, Bool.and_eq_true, Bool.or_eq_true, decide_eq_true_eq] at h2 h3
  obtain ⟨h4, h5⟩ := h2
  obtain ⟨⟨⟨h6, h7⟩, h8, h9⟩, h10⟩ := h3
  exact ⟨h4, h5, h6, h7, h8, h9, by omega, by omega⟩
theorem acesErr_good {l : List Ace} (h : acesErr l = 0) : Good l := by
  unfold acesErr at h
  split at h
  · cases h
  · intro a ha
    obtain ⟨j, hj⟩ := List.mem_iff_getElem?.1 ha
    exact aErr_ok (each_zero _ 0 l h j a hj)
end L
def RetAcesErr (w : World) (p : List L.Ace × Int) (e : Ending) (w' : World) : Prop := ∃ A n c, e = .returned (.tuple #[.slice A n c, .int .i64 p.2]) ∧ St w w' [aceRow (.slice A n c) n p.1]
set_option maxHeartbeats 2000000 in
theorem InheritedBy_any (dir : Bool) (o g : Int) (A : Option Addr) (n c B : Nat) (l : List L.Ace) (w : World) (h1 : Aces w B A n l) (hB1 : B ≤ w.heap.size) (hn : n ≤ 100) :
    Calls Tryz.prog 28 #[.slice A n c, .bool dir, .int .i64 o, .int .i64 g] w (RetAcesErr w (L.inheritedBy l dir o g)) := by
  have e1 := Lib.hid h1.len
  have H1 := Lib.hid h1
  clear h1
  have st := St.start w
  have hs : Hid (L.inheritedBy l dir o g = if L.firstErr [L.acesErr l, L.holdersErr o g] = 0 then (if (L.inheritedOf dir o g l).length ≤ 16 then (L.inheritedOf dir o g l, 0) else ([], 16)) else ([], L.firstErr [L.acesErr l, L.holdersErr o g])) := rfl
  by_cases h0 : (L.firstErr [L.acesErr l, L.holdersErr o g] != 0) = true
  · have hs' : Hid (L.inheritedBy l dir o g = ([], L.firstErr [L.acesErr l, L.holdersErr o g])) := Lib.hid (by rw [hs.out, if_neg (by simpa using h0)])
    clear hs
    go_enter Tryz.func28, Tryz.ntmps28
    go_wp2_with (refine WL.out ?_; (repeat ((refine WL.op ?_ ?_; (exact rfl); intro K hK; (first | ((first | ((with_reducible apply ow_move); exact rfl) | ((with_reducible apply ow_assign); exact rfl)); (go_simp <;> (try simp (disch := omega) only [wrap_id, sub_left, zac]) <;> rfl)) | ((((with_reducible apply ow_newSlice st); exact rfl; (go_simp <;> (try simp (disch := omega) only [wrap_id, sub_left, zac]) <;> rfl); exact rfl)); (try clear st); intro b w' st) | ((with_reducible apply ow_eval); (go_simp <;> (try simp (disch := omega) only [wrap_id, sub_left, zac]) <;> rfl); first | (with_reducible apply up_value) | ((with_reducible apply up_enter); first | (go_at_call 46; refine (acesErr_any A n c B l _ (H1.out.st st hB1) (Nat.le_trans hB1 st.size) (by omega)).mono ?_; rintro e w' ⟨rfl, hb⟩; replace st := st.call hb; clear hb; refine ⟨_, rfl, ?_⟩) | (go_at_call 47; refine (holdersErr_any _ _ _).mono ?_; rintro e w' ⟨rfl, rfl⟩; refine ⟨_, rfl, ?_⟩) | (go_at_call 44; refine (first_st2 st).mono ?_; rintro e w' ⟨rfl, rfl⟩; refine ⟨_, rfl, ?_⟩)))); refine WL.next hK (by simp only [Act.put, zpt, zsz, zss]; exact rfl) ?_; clear hK K))); (try refine WL.nil ?_))
    go_ret2
    exact ⟨none, 0, 0, by rw [hs'.out]; rfl, by rw [hs'.out]; exact (st.sub (List.nil_sublist _)).nilRow _ _⟩
  · have h0' : L.firstErr [L.acesErr l, L.holdersErr o g] = 0 := by simpa using h0
    have hg : Hid (L.Good l) := Lib.hid (L.acesErr_good (by
      have h := h0'
      unfold L.firstErr at h
      by_cases ha : L.acesErr l = 0
      · exact ha
      · rw [List.find?_cons_of_pos (by simpa using ha)] at h
        exact absurd h ha))
    simp only [Bool.not_eq_true] at h0
    have hs2 : Hid (L.inheritedBy l dir o g = if (L.inheritedOf dir o g l).length ≤ 16 then (L.inheritedOf dir o g l, 0) else ([], 16)) := Lib.hid (by rw [hs.out, if_pos h0'])
    clear hs h0'
    go_enter Tryz.func28, Tryz.ntmps28
    go_wp2_with (refine WL.out ?_; (repeat ((refine WL.op ?_ ?_; (exact rfl); intro K hK; (first | ((first | ((with_reducible apply ow_move); exact rfl) | ((with_reducible apply ow_assign); exact rfl)); (go_simp <;> (try simp (disch := omega) only [wrap_id, sub_left, zac]) <;> rfl)) | ((((with_reducible apply ow_newSlice st); exact rfl; (go_simp <;> (try simp (disch := omega) only [wrap_id, sub_left, zac]) <;> rfl); exact rfl)); (try clear st); intro b w' st) | ((with_reducible apply ow_eval); (go_simp <;> (try simp (disch := omega) only [wrap_id, sub_left, zac]) <;> rfl); first | (with_reducible apply up_value) | ((with_reducible apply up_enter); first | (go_at_call 46; refine (acesErr_any A n c B l _ (H1.out.st st hB1) (Nat.le_trans hB1 st.size) (by omega)).mono ?_; rintro e w' ⟨rfl, hb⟩; replace st := st.call hb; clear hb; refine ⟨_, rfl, ?_⟩) | (go_at_call 47; refine (holdersErr_any _ _ _).mono ?_; rintro e w' ⟨rfl, rfl⟩; refine ⟨_, rfl, ?_⟩) | (go_at_call 44; refine (first_st2 st).mono ?_; rintro e w' ⟨rfl, rfl⟩; refine ⟨_, rfl, ?_⟩) | (go_at_call 48; refine (inherited_any dir o g A n c B l _ (H1.out.st st hB1) (Nat.le_trans hB1 st.size) hn ?_).mono ?_; (focus (intro a ha; exact ⟨(hg.out a ha).f0, (hg.out a ha).f1⟩)); rintro e w' ⟨A2, m2, c2, rfl, st'⟩; have hm2 := Lib.hid (St.len st' (i := 0) rfl); have hm3 : m2 ≤ 200 := (by have h := L.inherited_len dir o g l; have := hm2.out; have := e1.out; omega); replace st := st.join st'; clear st'; simp only [List.cons_append, List.nil_append] at st; refine ⟨_, rfl, ?_⟩) | (go_at_call 49; refine (fullErr_any _ _ _ _ (by omega)).mono ?_; rintro e w' ⟨rfl, rfl⟩; refine ⟨_, rfl, ?_⟩)))); refine WL.next hK (by simp only [Act.put, zpt, zsz, zss]; exact rfl) ?_; clear hK K))); (try refine WL.nil ?_))
    · have hx : ¬ m2 ≤ 16 := fun hm => by simp [L.unles, hm] at *
      go_ret2
      exact ⟨none, 0, 0, by rw [hs2.out, if_neg (by rw [← hm2.out]; exact hx)]; simp [L.unles, hx], by rw [hs2.out, if_neg (by rw [← hm2.out]; exact hx)]; exact (st.sub (List.nil_sublist _)).nilRow _ _⟩
    · have hx : m2 ≤ 16 := Decidable.byContradiction fun hm => by simp [L.unles, hm] at *
      go_ret2
      have hx' : (L.inheritedOf dir o g l).length ≤ 16 := by rw [← hm2.out]; exact hx
      exact ⟨A2, m2, c2, by rw [hs2.out, if_pos hx']; rfl, by rw [hs2.out, if_pos hx']; exact st.sub (.cons_cons _ (List.nil_sublist _))⟩
end Go.Proofs.YtppjhccdgbheiaaGreatDoor
namespace Go.Proofs.YtppjhccdgbheiaaGreatDoor
open Go.RowKit Go.Hp
namespace L
def onOf (fi di sp : Bool) : Int := (if fi && !sp then 1 else 0) + (if di && !sp then 2 else 0)
def inh1 (dir fi di sp : Bool) (who : Int) (a : Ace) : List Ace :=
  match dir, di with
  | false, _ => if fi then [⟨a.k, 16, a.m, who⟩] else []
  | true, true => if who = a.w ∨ onOf fi true sp = 0 then [⟨a.k, 16 + onOf fi true sp, a.m, who⟩] else [⟨a.k, 16, a.m, who⟩, ⟨a.k, 16 + onOf fi true sp + 8, a.m, a.w⟩]
  | true, false => if fi && !sp then [⟨a.k, 25, a.m, a.w⟩] else []
def rInherit (dir : Bool) (o g : Int) (a : Ace) : List Ace := inh1 dir (has a.f 1) (has a.f 2) (has a.f 4) (holder a.w o g) a
def rInherited (dir : Bool) (o g : Int) (l : List Ace) : List Ace := l.flatMap (rInherit dir o g)
theorem rInherited_step (dir : Bool) (o g : Int) (l : List Ace) (k : Nat) (h : k < l.length) : rInherited dir o g (l.take (k + 1)) = rInherited dir o g (l.take k) ++ rInherit dir o g (ax l k) := by
  rw [take_succ_ax l k h]; unfold rInherited; rw [List.flatMap_append]; simp
theorem inh1_len (dir fi di sp : Bool) (who : Int) (a : Ace) : (inh1 dir fi di sp who a).length ≤ 2 := by
  unfold inh1; split <;> split <;> simp
theorem rInherited_len (dir : Bool) (o g : Int) : ∀ l : List Ace, (rInherited dir o g l).length ≤ 2 * l.length
  | [] => by simp [rInherited]
  | a :: l => by
    have h1 := inh1_len dir (has a.f 1) (has a.f 2) (has a.f 4) (holder a.w o g) a
    have h2 := rInherited_len dir o g l
    have : rInherited dir o g (a :: l) = rInherit dir o g a ++ rInherited dir o g l := by unfold rInherited; rw [List.flatMap_cons]
    rw [this, List.length_append, List.length_cons]
    unfold rInherit
    omega
end L
set_option maxHeartbeats 4000000 in
set_option maxRecDepth 8000 in
theorem rInherited_any (dir : Bool) (o g : Int) (A : Option Addr) (n c B : Nat) (l : List L.Ace) (w : World) (h1 : Aces w B A n l) (hB1 : B ≤ w.heap.size) (hn : n ≤ 100) (hg : ∀ a ∈ l, 0 ≤ a.f ∧ a.f ≤ 31) :
    Calls Tryz.prog 60 #[.slice A n c, .bool dir, .int .i64 o, .int .i64 g] w (RetAces w (L.rInherited dir o g l)) := by
  have e1 := Lib.hid h1.len
  have H1 := Lib.hid h1
  have HG := Lib.hid hg
  clear hg h1
  have st := St.start w
  go_enter Tryz.func60, Tryz.ntmps60
  go_wp2_with (refine WL.out ?_; (repeat (fail)); (try refine WL.nil ?_))
  go_loopw [9, 10] (fun v i wr => ∃ (k : Nat) (A' : Option Addr) (m c' : Nat), k ≤ n ∧ i = .int .i64 k ∧ v = .slice A' m c' ∧ St w wr [aceRow (.slice A' m c') m (L.rInherited dir o g (l.take k))]) (fun _ i _ => n - (intOf i).toNat)
  case atStart => exact ⟨0, none, 0, 0, Nat.zero_le _, rfl, rfl, st.nilRow _ _⟩
  case round =>
    clear st
    obtain ⟨k, A', m, c', hk, rfl, rfl, st⟩ := hrel
    have hm : m ≤ 200 := by
      have h := St.len st (i := 0) rfl
      have h2 := L.rInherited_len dir o g (l.take k)
      have h3 := List.length_take_le k l
      omega
    by_cases hlt : k < n
    · have hst := Lib.hid (L.rInherited_step dir o g l k (by rw [← e1.out]; omega))
      have hgk := HG.out (L.ax l k) (by rw [L.ax_eq l k (by rw [← e1.out]; omega)]; exact List.getElem_mem _)
      have hk0 := hgk.1
      have hk1 := hgk.2
      obtain ⟨b1, o1, rfl, hb1, hc⟩ := H1.out.at_ (by omega)
      have hb1 := Nat.lt_of_lt_of_le hb1 hB1
      obtain ⟨f1, f2, f3, f4⟩ := hc k hlt
      clear hc hgk
      obtain ⟨fi, hfi⟩ : ∃ x, x = L.has (L.ax l k).f 1 := ⟨_, rfl⟩
      obtain ⟨di, hdi⟩ : ∃ x, x = L.has (L.ax l k).f 2 := ⟨_, rfl⟩
      obtain ⟨sp, hsp⟩ : ∃ x, x = L.has (L.ax l k).f 4 := ⟨_, rfl⟩
      obtain ⟨who, hwho⟩ : ∃ x, x = L.holder (L.ax l k).w o g := ⟨_, rfl⟩
      have hst2 : Hid (L.rInherited dir o g (l.take (k + 1)) = L.rInherited dir o g (l.take k) ++ L.inh1 dir fi di sp who (L.ax l k)) := Lib.hid (by rw [hst.out, hfi, hdi, hsp, hwho]; rfl)
      have k1 : Hid (∀ W : World, Calls Tryz.prog 12 #[.int .i64 (L.ax l k).f, .int .i64 1] W fun e w' => e = .returned (.bool fi) ∧ W = w') := Lib.hid fun W => by rw [hfi]; exact Has_any _ _ _ hk0 hk1 (by decide) (by decide)
      have k2 : Hid (∀ W : World, Calls Tryz.prog 12 #[.int .i64 (L.ax l k).f, .int .i64 2] W fun e w' => e = .returned (.bool di) ∧ W = w') := Lib.hid fun W => by rw [hdi]; exact Has_any _ _ _ hk0 hk1 (by decide) (by decide)
      have k3 : Hid (∀ W : World, Calls Tryz.prog 12 #[.int .i64 (L.ax l k).f, .int .i64 4] W fun e w' => e = .returned (.bool sp) ∧ W = w') := Lib.hid fun W => by rw [hsp]; exact Has_any _ _ _ hk0 hk1 (by decide) (by decide)
      have k4 : Hid (∀ W : World, Calls Tryz.prog 90 #[.int .i64 (L.ax l k).w, .int .i64 o, .int .i64 g] W fun e w' => e = .returned (.int .i64 who) ∧ W = w') := Lib.hid fun W => by rw [hwho]; exact holder_any _ _ _ _
      clear hfi hdi hsp hwho hst
      go_wp2_with (refine WL.out ?_; (repeat ((refine WL.op ?_ ?_; (exact rfl); intro K hK; (first | ((((with_reducible apply ow_alloc st); exact rfl; exact inferInstance; (go_simp <;> (try simp (disch := omega) only [wrap_id, sub_left, zac]) <;> rfl))); (try clear st); intro b w' st) | ((((with_reducible apply ow_storeN' st); exact rfl; exact inferInstance; exact rfl; (exact get0); exact rfl)); exact rfl; exact rfl; (simp <;> done); ((try simp only [zta, ztz, zda, zdz, zca, zcn, zan, zsz, zss]) <;> exact rfl); (try clear st); intro w' st) | ((with_reducible apply ow_old4 st); exact rfl; exact inferInstance; exact rfl; assumption; assumption; assumption; assumption; assumption) | ((with_reducible apply ow_eval); (go_simp <;> (try simp (disch := omega) only [wrap_id, sub_left, zac]) <;> rfl); ((with_reducible apply up_value)))); refine WL.next hK (by simp only [Act.put, zpt, zsz, zss]; exact rfl) ?_; clear hK K))); (try refine WL.nil ?_))
      refine wp_region_plan 9 (by kernel_rfl) (by kernel_rfl) ?_; replace st := st.drew; generalize World.drew _ = W at st ⊢
      iterate 2 (apply Plan.val'; (focus (intro x0 x1 x2 x3 x4 x5 x6 x7 x8 w1 hb; (try simp only [depF, fillA, Act.put, zta, ztz, zpt, zsz, zss, zl0, zls]); (repeat (rintro rfl)); have st := st.call hb; (first | (apply Yphi.run; (exact rfl); (go_simp <;> (try simp (disch := omega) only [wrap_id, sub_left, zac]) <;> rfl); exact rfl) | (apply Yphi.load1 st; exact rfl; exact inferInstance; (exact rfl); exact rfl; (exact get0); exact rfl)))); (simp only [zca, zcn] <;> exact rfl))
      (apply Plan.val'; (focus (intro x0 x1 x2 x3 x4 x5 x6 x7 x8 w1 hb; (try simp only [depF, fillA, Act.put, zta, ztz, zpt, zsz, zss, zl0, zls]); (repeat (rintro rfl)); have st := st.call hb; apply Yphi.call; (exact rfl); (go_simp <;> (try simp (disch := omega) only [wrap_id, sub_left, zac]) <;> rfl); exact rfl; refine (k1.out _).mono ?_; rintro e w' ⟨rfl, rfl⟩; exact ⟨_, rfl, Below.refl _ _, rfl⟩)); (simp only [zca, zcn] <;> exact rfl))
      iterate 2 (apply Plan.val'; (focus (intro x0 x1 x2 x3 x4 x5 x6 x7 x8 w1 hb; (try simp only [depF, fillA, Act.put, zta, ztz, zpt, zsz, zss, zl0, zls]); (repeat (rintro rfl)); have st := st.call hb; (first | (apply Yphi.run; (exact rfl); (go_simp <;> (try simp (disch := omega) only [wrap_id, sub_left, zac]) <;> rfl); exact rfl) | (apply Yphi.load1 st; exact rfl; exact inferInstance; (exact rfl); exact rfl; (exact get0); exact rfl)))); (simp only [zca, zcn] <;> exact rfl))
      (apply Plan.val'; (focus (intro x0 x1 x2 x3 x4 x5 x6 x7 x8 w1 hb; (try simp only [depF, fillA, Act.put, zta, ztz, zpt, zsz, zss, zl0, zls]); (repeat (rintro rfl)); have st := st.call hb; apply Yphi.call; (exact rfl); (go_simp <;> (try simp (disch := omega) only [wrap_id, sub_left, zac]) <;> rfl); exact rfl; refine (k2.out _).mono ?_; rintro e w' ⟨rfl, rfl⟩; exact ⟨_, rfl, Below.refl _ _, rfl⟩)); (simp only [zca, zcn] <;> exact rfl))
      iterate 2 (apply Plan.val'; (focus (intro x0 x1 x2 x3 x4 x5 x6 x7 x8 w1 hb; (try simp only [depF, fillA, Act.put, zta, ztz, zpt, zsz, zss, zl0, zls]); (repeat (rintro rfl)); have st := st.call hb; (first | (apply Yphi.run; (exact rfl); (go_simp <;> (try simp (disch := omega) only [wrap_id, sub_left, zac]) <;> rfl); exact rfl) | (apply Yphi.load1 st; exact rfl; exact inferInstance; (exact rfl); exact rfl; (exact get0); exact rfl)))); (simp only [zca, zcn] <;> exact rfl))
      (apply Plan.val'; (focus (intro x0 x1 x2 x3 x4 x5 x6 x7 x8 w1 hb; (try simp only [depF, fillA, Act.put, zta, ztz, zpt, zsz, zss, zl0, zls]); (repeat (rintro rfl)); have st := st.call hb; apply Yphi.call; (exact rfl); (go_simp <;> (try simp (disch := omega) only [wrap_id, sub_left, zac]) <;> rfl); exact rfl; refine (k3.out _).mono ?_; rintro e w' ⟨rfl, rfl⟩; exact ⟨_, rfl, Below.refl _ _, rfl⟩)); (simp only [zca, zcn] <;> exact rfl))
      intro x0 x1 x2 x3 x4 x5 x6 x7 x8 lo hi w1 hb hap
      rintro rfl rfl rfl rfl rfl rfl rfl rfl rfl
      simp only [allPhi, fillA, Act.put, zta, ztz, zpt, zsz, zss, zda, zdz]
      have st := st.call hb
      clear hap hb
      cases dir
      · cases fi
        · have hs' : Hid (L.rInherited false o g (l.take (k + 1)) = L.rInherited false o g (l.take k)) := Lib.hid (by rw [hst2.out]; exact List.append_nil _)
          clear hst2
          go_wp2_with (refine WL.out ?_; (repeat ((refine WL.op ?_ ?_; (exact rfl); intro K hK; (first | ((((with_reducible apply ow_assign); exact rfl)); (go_simp <;> (try simp (disch := omega) only [wrap_id, sub_left, zac]) <;> rfl)) | ((with_reducible apply ow_eval); (go_simp <;> (try simp (disch := omega) only [wrap_id, sub_left, zac]) <;> rfl); ((with_reducible apply up_value)))); refine WL.next hK (by simp only [Act.put, zpt, zsz, zss]; exact rfl) ?_; clear hK K))); (try refine WL.nil ?_))
          all_goals exact ⟨⟨k + 1, A', m, c', by omega, by go_num, rfl, by rw [hs'.out]; exact st.tail⟩, by simp [intOf]; omega⟩
        · have hs' : Hid (L.rInherited false o g (l.take (k + 1)) = L.rInherited false o g (l.take k) ++ [⟨(L.ax l k).k, 16, (L.ax l k).m, who⟩]) := Lib.hid (by rw [hst2.out]; rfl)
          clear hst2
          go_wp2_with (refine WL.out ?_; (repeat ((refine WL.op ?_ ?_; (exact rfl); intro K hK; (first | ((first | ((with_reducible apply ow_move); exact rfl) | ((with_reducible apply ow_assign); exact rfl)); (go_simp <;> (try simp (disch := omega) only [wrap_id, sub_left, zac]) <;> rfl)) | ((first | ((with_reducible apply ow_load1 st); exact rfl; exact inferInstance; exact rfl; (exact get0)) | ((with_reducible apply ow_loadN st); exact rfl; exact inferInstance; exact rfl; (exact get0); ((try simp only [zta, ztz, zda, zdz, zca, zcn, zan, zsz, zss]) <;> exact rfl))); exact rfl) | ((((with_reducible apply ow_newSlice st); exact rfl; (go_simp <;> (try simp (disch := omega) only [wrap_id, sub_left, zac]) <;> rfl); exact rfl)); (try clear st); intro b w' st) | ((((with_reducible apply ow_store1' st); exact rfl; exact inferInstance; exact rfl; (exact get0); (go_simp <;> (try simp (disch := omega) only [wrap_id, sub_left, zac]) <;> rfl))); exact rfl; exact rfl; (simp <;> done); ((try simp only [zta, ztz, zda, zdz, zca, zcn, zan, zsz, zss]) <;> exact rfl); (try clear st); intro w' st) | ((with_reducible apply ow_append 2 st); exact rfl; exact inferInstance; exact rfl; exact rfl; exact rfl; exact st.rdBox (i := 0) (n := 1) (size := 4) rfl rfl; (focus ((simp [Value.oneCell']; done))); (focus (unfold maxLen; omega)); (focus omega); (try clear st); intro A' c' w' st; (try simp only [List.set_cons_zero, List.set_cons_succ, Nat.zero_add, List.nil_append] at st)) | ((with_reducible apply ow_eval); (go_simp <;> (try simp (disch := omega) only [wrap_id, sub_left, zac]) <;> rfl); first | (with_reducible apply up_value) | ((with_reducible apply up_enter); ((go_at_call 90; refine (k4.out _).mono ?_; rintro e w' ⟨rfl, rfl⟩; refine ⟨_, rfl, ?_⟩))))); refine WL.next hK (by simp only [Act.put, zpt, zsz, zss]; exact rfl) ?_; clear hK K))); (try refine WL.nil ?_))
          all_goals exact ⟨⟨k + 1, A', m + 1, c', by omega, by go_num, rfl, by unfold aceRow; rw [hs'.out, L.cellsOf_append]; exact st.tail.tail⟩, by simp [intOf]; omega⟩
      · cases di
        · cases fi
          · have hs' : Hid (L.rInherited true o g (l.take (k + 1)) = L.rInherited true o g (l.take k)) := Lib.hid (by rw [hst2.out]; exact List.append_nil _)
            clear hst2
            go_wp2_with (refine WL.out ?_; (repeat ((refine WL.op ?_ ?_; (exact rfl); intro K hK; (first | ((((with_reducible apply ow_assign); exact rfl)); (go_simp <;> (try simp (disch := omega) only [wrap_id, sub_left, zac]) <;> rfl)) | ((with_reducible apply ow_eval); (go_simp <;> (try simp (disch := omega) only [wrap_id, sub_left, zac]) <;> rfl); ((with_reducible apply up_value)))); refine WL.next hK (by simp only [Act.put, zpt, zsz, zss]; exact rfl) ?_; clear hK K))); (try refine WL.nil ?_))
            all_goals exact ⟨⟨k + 1, A', m, c', by omega, by go_num, rfl, by rw [hs'.out]; exact st.tail⟩, by simp [intOf]; omega⟩
          · cases sp
            · have hs' : Hid (L.rInherited true o g (l.take (k + 1)) = L.rInherited true o g (l.take k) ++ [⟨(L.ax l k).k, 25, (L.ax l k).m, (L.ax l k).w⟩]) := Lib.hid (by rw [hst2.out]; rfl)
              clear hst2
              go_wp2_with (refine WL.out ?_; (repeat ((refine WL.op ?_ ?_; (exact rfl); intro K hK; (first | ((((with_reducible apply ow_assign); exact rfl)); (go_simp <;> (try simp (disch := omega) only [wrap_id, sub_left, zac]) <;> rfl)) | ((((with_reducible apply ow_loadN st); exact rfl; exact inferInstance; exact rfl; (exact get0); ((try simp only [zta, ztz, zda, zdz, zca, zcn, zan, zsz, zss]) <;> exact rfl))); exact rfl) | ((((with_reducible apply ow_newSlice st); exact rfl; (go_simp <;> (try simp (disch := omega) only [wrap_id, sub_left, zac]) <;> rfl); exact rfl)); (try clear st); intro b w' st) | ((((with_reducible apply ow_store1' st); exact rfl; exact inferInstance; exact rfl; (exact get0); (go_simp <;> (try simp (disch := omega) only [wrap_id, sub_left, zac]) <;> rfl))); exact rfl; exact rfl; (simp <;> done); ((try simp only [zta, ztz, zda, zdz, zca, zcn, zan, zsz, zss]) <;> exact rfl); (try clear st); intro w' st) | ((with_reducible apply ow_append 2 st); exact rfl; exact inferInstance; exact rfl; exact rfl; exact rfl; exact st.rdBox (i := 0) (n := 1) (size := 4) rfl rfl; (focus ((simp [Value.oneCell']; done))); (focus (unfold maxLen; omega)); (focus omega); (try clear st); intro A' c' w' st; (try simp only [List.set_cons_zero, List.set_cons_succ, Nat.zero_add, List.nil_append] at st)) | ((with_reducible apply ow_eval); (go_simp <;> (try simp (disch := omega) only [wrap_id, sub_left, zac]) <;> rfl); ((with_reducible apply up_value)))); refine WL.next hK (by simp only [Act.put, zpt, zsz, zss]; exact rfl) ?_; clear hK K))); (try refine WL.nil ?_))
              all_goals exact ⟨⟨k + 1, A', m + 1, c', by omega, by go_num, rfl, by unfold aceRow; rw [hs'.out, L.cellsOf_append]; exact st.tail.tail⟩, by simp [intOf]; omega⟩
            · have hs' : Hid (L.rInherited true o g (l.take (k + 1)) = L.rInherited true o g (l.take k)) := Lib.hid (by rw [hst2.out]; exact List.append_nil _)
              clear hst2
              go_wp2_with (refine WL.out ?_; (repeat ((refine WL.op ?_ ?_; (exact rfl); intro K hK; (first | ((((with_reducible apply ow_assign); exact rfl)); (go_simp <;> (try simp (disch := omega) only [wrap_id, sub_left, zac]) <;> rfl)) | ((with_reducible apply ow_eval); (go_simp <;> (try simp (disch := omega) only [wrap_id, sub_left, zac]) <;> rfl); ((with_reducible apply up_value)))); refine WL.next hK (by simp only [Act.put, zpt, zsz, zss]; exact rfl) ?_; clear hK K))); (try refine WL.nil ?_))
              all_goals exact ⟨⟨k + 1, A', m, c', by omega, by go_num, rfl, by rw [hs'.out]; exact st.tail⟩, by simp [intOf]; omega⟩
        · by_cases hw : (who == (L.ax l k).w) = true
          · have hw' : Hid (who = (L.ax l k).w) := Lib.hid (by simpa using hw)
            cases sp
            · cases fi
              · have hs' : Hid (L.rInherited true o g (l.take (k + 1)) = L.rInherited true o g (l.take k) ++ [⟨(L.ax l k).k, 18, (L.ax l k).m, who⟩]) := Lib.hid (by rw [hst2.out]; exact congrArg _ (if_pos (.inl hw'.out)))
                clear hst2
                go_wp2_with (refine WL.out ?_; (repeat (first | (refine WL.op ?_ ?_; (exact rfl); intro K hK; (first | ((first | ((with_reducible apply ow_move); exact rfl) | ((with_reducible apply ow_assign); exact rfl)); (go_simp <;> (try simp (disch := omega) only [wrap_id, sub_left, zac]) <;> rfl)) | ((first | ((with_reducible apply ow_load1 st); exact rfl; exact inferInstance; exact rfl; (exact get0)) | ((with_reducible apply ow_loadN st); exact rfl; exact inferInstance; exact rfl; (exact get0); ((try simp only [zta, ztz, zda, zdz, zca, zcn, zan, zsz, zss]) <;> exact rfl))); exact rfl) | ((((with_reducible apply ow_newSlice st); exact rfl; (go_simp <;> (try simp (disch := omega) only [wrap_id, sub_left, zac]) <;> rfl); exact rfl)); (try clear st); intro b w' st) | ((((with_reducible apply ow_store1' st); exact rfl; exact inferInstance; exact rfl; (exact get0); (go_simp <;> (try simp (disch := omega) only [wrap_id, sub_left, zac]) <;> rfl))); exact rfl; exact rfl; (simp <;> done); ((try simp only [zta, ztz, zda, zdz, zca, zcn, zan, zsz, zss]) <;> exact rfl); (try clear st); intro w' st) | ((with_reducible apply ow_append 2 st); exact rfl; exact inferInstance; exact rfl; exact rfl; exact rfl; exact st.rdBox (i := 0) (n := 1) (size := 4) rfl rfl; (focus ((simp [Value.oneCell']; done))); (focus (unfold maxLen; omega)); (focus omega); (try clear st); intro A' c' w' st; (try simp only [List.set_cons_zero, List.set_cons_succ, Nat.zero_add, List.nil_append] at st)) | ((with_reducible apply ow_eval); (go_simp <;> (try simp (disch := omega) only [wrap_id, sub_left, zac]) <;> rfl); first | (with_reducible apply up_value) | ((with_reducible apply up_enter); ((go_at_call 90; refine (k4.out _).mono ?_; rintro e w' ⟨rfl, rfl⟩; refine ⟨_, rfl, ?_⟩))))); refine WL.next hK (by simp only [Act.put, zpt, zsz, zss]; exact rfl) ?_; clear hK K) | (refine WL.skip ?_ (by simp only [Act.put, zpt, zsz, zss]; exact rfl) ?_; (exact rfl)))); (try refine WL.nil ?_))
                all_goals exact ⟨⟨k + 1, A', m + 1, c', by omega, by go_num, rfl, by unfold aceRow; rw [hs'.out, L.cellsOf_append]; exact st.tail.tail⟩, by simp [intOf]; omega⟩
              · have hs' : Hid (L.rInherited true o g (l.take (k + 1)) = L.rInherited true o g (l.take k) ++ [⟨(L.ax l k).k, 19, (L.ax l k).m, who⟩]) := Lib.hid (by rw [hst2.out]; exact congrArg _ (if_pos (.inl hw'.out)))
                clear hst2
                go_wp2_with (refine WL.out ?_; (repeat (first | (refine WL.op ?_ ?_; (exact rfl); intro K hK; (first | ((first | ((with_reducible apply ow_move); exact rfl) | ((with_reducible apply ow_assign); exact rfl)); (go_simp <;> (try simp (disch := omega) only [wrap_id, sub_left, zac]) <;> rfl)) | ((first | ((with_reducible apply ow_load1 st); exact rfl; exact inferInstance; exact rfl; (exact get0)) | ((with_reducible apply ow_loadN st); exact rfl; exact inferInstance; exact rfl; (exact get0); ((try simp only [zta, ztz, zda, zdz, zca, zcn, zan, zsz, zss]) <;> exact rfl))); exact rfl) | ((((with_reducible apply ow_newSlice st); exact rfl; (go_simp <;> (try simp (disch := omega) only [wrap_id, sub_left, zac]) <;> rfl); exact rfl)); (try clear st); intro b w' st) | ((((with_reducible apply ow_store1' st); exact rfl; exact inferInstance; exact rfl; (exact get0); (go_simp <;> (try simp (disch := omega) only [wrap_id, sub_left, zac]) <;> rfl))); exact rfl; exact rfl; (simp <;> done); ((try simp only [zta, ztz, zda, zdz, zca, zcn, zan, zsz, zss]) <;> exact rfl); (try clear st); intro w' st) | ((with_reducible apply ow_append 2 st); exact rfl; exact inferInstance; exact rfl; exact rfl; exact rfl; exact st.rdBox (i := 0) (n := 1) (size := 4) rfl rfl; (focus ((simp [Value.oneCell']; done))); (focus (unfold maxLen; omega)); (focus omega); (try clear st); intro A' c' w' st; (try simp only [List.set_cons_zero, List.set_cons_succ, Nat.zero_add, List.nil_append] at st)) | ((with_reducible apply ow_eval); (go_simp <;> (try simp (disch := omega) only [wrap_id, sub_left, zac]) <;> rfl); first | (with_reducible apply up_value) | ((with_reducible apply up_enter); ((go_at_call 90; refine (k4.out _).mono ?_; rintro e w' ⟨rfl, rfl⟩; refine ⟨_, rfl, ?_⟩))))); refine WL.next hK (by simp only [Act.put, zpt, zsz, zss]; exact rfl) ?_; clear hK K) | (refine WL.skip ?_ (by simp only [Act.put, zpt, zsz, zss]; exact rfl) ?_; (exact rfl)))); (try refine WL.nil ?_))
                all_goals exact ⟨⟨k + 1, A', m + 1, c', by omega, by go_num, rfl, by unfold aceRow; rw [hs'.out, L.cellsOf_append]; exact st.tail.tail⟩, by simp [intOf]; omega⟩
            · have hs' : Hid (L.rInherited true o g (l.take (k + 1)) = L.rInherited true o g (l.take k) ++ [⟨(L.ax l k).k, 16, (L.ax l k).m, who⟩]) := Lib.hid (by rw [hst2.out]; cases fi <;> exact congrArg _ (if_pos (.inl hw'.out)))
              clear hst2
              go_wp2_with (refine WL.out ?_; (repeat (first | (refine WL.op ?_ ?_; (exact rfl); intro K hK; (first | ((first | ((with_reducible apply ow_move); exact rfl) | ((with_reducible apply ow_assign); exact rfl)); (go_simp <;> (try simp (disch := omega) only [wrap_id, sub_left, zac]) <;> rfl)) | ((first | ((with_reducible apply ow_load1 st); exact rfl; exact inferInstance; exact rfl; (exact get0)) | ((with_reducible apply ow_loadN st); exact rfl; exact inferInstance; exact rfl; (exact get0); ((try simp only [zta, ztz, zda, zdz, zca, zcn, zan, zsz, zss]) <;> exact rfl))); exact rfl) | ((((with_reducible apply ow_newSlice st); exact rfl; (go_simp <;> (try simp (disch := omega) only [wrap_id, sub_left, zac]) <;> rfl); exact rfl)); (try clear st); intro b w' st) | ((((with_reducible apply ow_store1' st); exact rfl; exact inferInstance; exact rfl; (exact get0); (go_simp <;> (try simp (disch := omega) only [wrap_id, sub_left, zac]) <;> rfl))); exact rfl; exact rfl; (simp <;> done); ((try simp only [zta, ztz, zda, zdz, zca, zcn, zan, zsz, zss]) <;> exact rfl); (try clear st); intro w' st) | ((with_reducible apply ow_append 2 st); exact rfl; exact inferInstance; exact rfl; exact rfl; exact rfl; exact st.rdBox (i := 0) (n := 1) (size := 4) rfl rfl; (focus ((simp [Value.oneCell']; done))); (focus (unfold maxLen; omega)); (focus omega); (try clear st); intro A' c' w' st; (try simp only [List.set_cons_zero, List.set_cons_succ, Nat.zero_add, List.nil_append] at st)) | ((with_reducible apply ow_eval); (go_simp <;> (try simp (disch := omega) only [wrap_id, sub_left, zac]) <;> rfl); first | (with_reducible apply up_value) | ((with_reducible apply up_enter); ((go_at_call 90; refine (k4.out _).mono ?_; rintro e w' ⟨rfl, rfl⟩; refine ⟨_, rfl, ?_⟩))))); refine WL.next hK (by simp only [Act.put, zpt, zsz, zss]; exact rfl) ?_; clear hK K) | (refine WL.skip ?_ (by simp only [Act.put, zpt, zsz, zss]; exact rfl) ?_; (exact rfl)))); (try refine WL.nil ?_))
              all_goals exact ⟨⟨k + 1, A', m + 1, c', by omega, by go_num, rfl, by unfold aceRow; rw [hs'.out, L.cellsOf_append]; exact st.tail.tail⟩, by simp [intOf]; omega⟩
          · have hw' : Hid (¬ who = (L.ax l k).w) := Lib.hid (by simpa using hw)
            simp only [Bool.not_eq_true] at hw
            cases sp
            · cases fi
              · have hs' : Hid (L.rInherited true o g (l.take (k + 1)) = L.rInherited true o g (l.take k) ++ [⟨(L.ax l k).k, 16, (L.ax l k).m, who⟩, ⟨(L.ax l k).k, 26, (L.ax l k).m, (L.ax l k).w⟩]) := Lib.hid (by rw [hst2.out]; exact congrArg _ (if_neg (fun h => h.elim hw'.out (by decide))))
                clear hst2
                go_wp2_with (refine WL.out ?_; (repeat ((refine WL.op ?_ ?_; (exact rfl); intro K hK; (first | ((first | ((with_reducible apply ow_move); exact rfl) | ((with_reducible apply ow_assign); exact rfl)); (go_simp <;> (try simp (disch := omega) only [wrap_id, sub_left, zac]) <;> rfl)) | ((first | ((with_reducible apply ow_load1 st); exact rfl; exact inferInstance; exact rfl; (exact get0)) | ((with_reducible apply ow_loadN st); exact rfl; exact inferInstance; exact rfl; (first | exact get0 | exact get1); ((try simp only [zta, ztz, zda, zdz, zca, zcn, zan, zsz, zss]) <;> exact rfl))); exact rfl) | ((first | ((with_reducible apply ow_newSlice st); exact rfl; (go_simp <;> (try simp (disch := omega) only [wrap_id, sub_left, zac]) <;> rfl); exact rfl) | ((with_reducible apply ow_alloc st); exact rfl; exact inferInstance; (go_simp <;> (try simp (disch := omega) only [wrap_id, sub_left, zac]) <;> rfl))); (try clear st); intro b w' st) | ((first | ((with_reducible apply ow_store1' st); exact rfl; exact inferInstance; exact rfl; (first | exact get0 | exact get1); (go_simp <;> (try simp (disch := omega) only [wrap_id, sub_left, zac]) <;> rfl)) | ((with_reducible apply ow_storeN' st); exact rfl; exact inferInstance; exact rfl; (exact get0); exact rfl)); exact rfl; exact rfl; (simp <;> done); ((try simp only [zta, ztz, zda, zdz, zca, zcn, zan, zsz, zss]) <;> exact rfl); (try clear st); intro w' st) | ((with_reducible apply ow_append 3 st); exact rfl; exact inferInstance; exact rfl; exact rfl; exact rfl; exact st.rdBox (i := 0) (n := 2) (size := 4) rfl rfl; (focus ((simp [Value.oneCell']; done))); (focus (unfold maxLen; omega)); (focus omega); (try clear st); intro A' c' w' st; (try simp only [List.set_cons_zero, List.set_cons_succ, Nat.zero_add, List.nil_append] at st)) | ((with_reducible apply ow_eval); (go_simp <;> (try simp (disch := omega) only [wrap_id, sub_left, zac]) <;> rfl); first | (with_reducible apply up_value) | ((with_reducible apply up_enter); ((go_at_call 90; refine (k4.out _).mono ?_; rintro e w' ⟨rfl, rfl⟩; refine ⟨_, rfl, ?_⟩))))); refine WL.next hK (by simp only [Act.put, zpt, zsz, zss]; exact rfl) ?_; clear hK K))); (try refine WL.nil ?_))
                all_goals exact ⟨⟨k + 1, A', m + 2, c', by omega, by go_num, rfl, by unfold aceRow; rw [hs'.out, L.cellsOf_append]; exact st.tail.tail.tail⟩, by simp [intOf]; omega⟩
              · have hs' : Hid (L.rInherited true o g (l.take (k + 1)) = L.rInherited true o g (l.take k) ++ [⟨(L.ax l k).k, 16, (L.ax l k).m, who⟩, ⟨(L.ax l k).k, 27, (L.ax l k).m, (L.ax l k).w⟩]) := Lib.hid (by rw [hst2.out]; exact congrArg _ (if_neg (fun h => h.elim hw'.out (by decide))))
                clear hst2
                go_wp2_with (refine WL.out ?_; (repeat ((refine WL.op ?_ ?_; (exact rfl); intro K hK; (first | ((first | ((with_reducible apply ow_move); exact rfl) | ((with_reducible apply ow_assign); exact rfl)); (go_simp <;> (try simp (disch := omega) only [wrap_id, sub_left, zac]) <;> rfl)) | ((first | ((with_reducible apply ow_load1 st); exact rfl; exact inferInstance; exact rfl; (exact get0)) | ((with_reducible apply ow_loadN st); exact rfl; exact inferInstance; exact rfl; (first | exact get0 | exact get1); ((try simp only [zta, ztz, zda, zdz, zca, zcn, zan, zsz, zss]) <;> exact rfl))); exact rfl) | ((first | ((with_reducible apply ow_newSlice st); exact rfl; (go_simp <;> (try simp (disch := omega) only [wrap_id, sub_left, zac]) <;> rfl); exact rfl) | ((with_reducible apply ow_alloc st); exact rfl; exact inferInstance; (go_simp <;> (try simp (disch := omega) only [wrap_id, sub_left, zac]) <;> rfl))); (try clear st); intro b w' st) | ((first | ((with_reducible apply ow_store1' st); exact rfl; exact inferInstance; exact rfl; (first | exact get0 | exact get1); (go_simp <;> (try simp (disch := omega) only [wrap_id, sub_left, zac]) <;> rfl)) | ((with_reducible apply ow_storeN' st); exact rfl; exact inferInstance; exact rfl; (exact get0); exact rfl)); exact rfl; exact rfl; (simp <;> done); ((try simp only [zta, ztz, zda, zdz, zca, zcn, zan, zsz, zss]) <;> exact rfl); (try clear st); intro w' st) | ((with_reducible apply ow_append 3 st); exact rfl; exact inferInstance; exact rfl; exact rfl; exact rfl; exact st.rdBox (i := 0) (n := 2) (size := 4) rfl rfl; (focus ((simp [Value.oneCell']; done))); (focus (unfold maxLen; omega)); (focus omega); (try clear st); intro A' c' w' st; (try simp only [List.set_cons_zero, List.set_cons_succ, Nat.zero_add, List.nil_append] at st)) | ((with_reducible apply ow_eval); (go_simp <;> (try simp (disch := omega) only [wrap_id, sub_left, zac]) <;> rfl); first | (with_reducible apply up_value) | ((with_reducible apply up_enter); ((go_at_call 90; refine (k4.out _).mono ?_; rintro e w' ⟨rfl, rfl⟩; refine ⟨_, rfl, ?_⟩))))); refine WL.next hK (by simp only [Act.put, zpt, zsz, zss]; exact rfl) ?_; clear hK K))); (try refine WL.nil ?_))
                all_goals exact ⟨⟨k + 1, A', m + 2, c', by omega, by go_num, rfl, by unfold aceRow; rw [hs'.out, L.cellsOf_append]; exact st.tail.tail.tail⟩, by simp [intOf]; omega⟩
            · have hs' : Hid (L.rInherited true o g (l.take (k + 1)) = L.rInherited true o g (l.take k) ++ [⟨(L.ax l k).k, 16, (L.ax l k).m, who⟩]) := Lib.hid (by rw [hst2.out]; cases fi <;> exact congrArg _ (if_pos (.inr rfl)))
              clear hst2
              go_wp2_with (refine WL.out ?_; (repeat (first | (refine WL.op ?_ ?_; (exact rfl); intro K hK; (first | ((first | ((with_reducible apply ow_move); exact rfl) | ((with_reducible apply ow_assign); exact rfl)); (go_simp <;> (try simp (disch := omega) only [wrap_id, sub_left, zac]) <;> rfl)) | ((first | ((with_reducible apply ow_load1 st); exact rfl; exact inferInstance; exact rfl; (exact get0)) | ((with_reducible apply ow_loadN st); exact rfl; exact inferInstance; exact rfl; (exact get0); ((try simp only [zta, ztz, zda, zdz, zca, zcn, zan, zsz, zss]) <;> exact rfl))); exact rfl) | ((((with_reducible apply ow_newSlice st); exact rfl; (go_simp <;> (try simp (disch := omega) only [wrap_id, sub_left, zac]) <;> rfl); exact rfl)); (try clear st); intro b w' st) | ((((with_reducible apply ow_store1' st); exact rfl; exact inferInstance; exact rfl; (exact get0); (go_simp <;> (try simp (disch := omega) only [wrap_id, sub_left, zac]) <;> rfl))); exact rfl; exact rfl; (simp <;> done); ((try simp only [zta, ztz, zda, zdz, zca, zcn, zan, zsz, zss]) <;> exact rfl); (try clear st); intro w' st) | ((with_reducible apply ow_append 2 st); exact rfl; exact inferInstance; exact rfl; exact rfl; exact rfl; exact st.rdBox (i := 0) (n := 1) (size := 4) rfl rfl; (focus ((simp [Value.oneCell']; done))); (focus (unfold maxLen; omega)); (focus omega); (try clear st); intro A' c' w' st; (try simp only [List.set_cons_zero, List.set_cons_succ, Nat.zero_add, List.nil_append] at st)) | ((with_reducible apply ow_eval); (go_simp <;> (try simp (disch := omega) only [wrap_id, sub_left, zac]) <;> rfl); first | (with_reducible apply up_value) | ((with_reducible apply up_enter); ((go_at_call 90; refine (k4.out _).mono ?_; rintro e w' ⟨rfl, rfl⟩; refine ⟨_, rfl, ?_⟩))))); refine WL.next hK (by simp only [Act.put, zpt, zsz, zss]; exact rfl) ?_; clear hK K) | (refine WL.skip ?_ (by simp only [Act.put, zpt, zsz, zss]; exact rfl) ?_; (exact rfl)))); (try refine WL.nil ?_))
              all_goals exact ⟨⟨k + 1, A', m + 1, c', by omega, by go_num, rfl, by unfold aceRow; rw [hs'.out, L.cellsOf_append]; exact st.tail.tail⟩, by simp [intOf]; omega⟩
    · have hs' : Hid (l.take k = l) := Lib.hid (List.take_of_length_le (by rw [← e1.out]; omega))
      go_wp2_with (refine WL.out ?_; (repeat ((refine WL.op ?_ ?_; (exact rfl); intro K hK; (((with_reducible apply ow_eval); (go_simp <;> (try simp (disch := omega) only [wrap_id, sub_left, zac]) <;> rfl); ((with_reducible apply up_value)))); refine WL.next hK (by simp only [Act.put, zpt, zsz, zss]; exact rfl) ?_; clear hK K))); (try refine WL.nil ?_))
      go_ret
      exact ⟨_, _, _, rfl, by rw [← hs'.out]; exact st⟩
end Go.Proofs.YtppjhccdgbheiaaGreatDoor
namespace Go.Proofs.YtppjhccdgbheiaaGreatDoor
open Go.RowKit Go.Hp
namespace L
def rk (a : Ace) : Int := rRank a.k a.f
def canonTo (l : List Ace) (r : Nat) : List Ace := (List.range r).flatMap fun (i : Nat) => l.filter fun a => rk a == (i : Int)
def canon (l : List Ace) : List Ace := canonTo l 4
theorem canonTo_succ (l : List Ace) (r : Nat) : canonTo l (r + 1) = canonTo l r ++ l.filter fun a => rk a == (r : Int) := by
  unfold canonTo; rw [List.range_succ, List.flatMap_append]; simp
theorem canonTo_len (l : List Ace) : ∀ r, (canonTo l r).length ≤ r * l.length
  | 0 => by simp [canonTo]
  | r + 1 => by
    have h1 := canonTo_len l r
    have h2 := List.length_filter_le (fun a => rk a == (r : Int)) l
    rw [canonTo_succ, List.length_append, Nat.succ_mul]; omega
theorem filter_step (l : List Ace) (p : Ace → Bool) (k : Nat) (h : k < l.length) : (l.take (k + 1)).filter p = (l.take k).filter p ++ (if p (ax l k) then [ax l k] else []) := by
  rw [take_succ_ax l k h, List.filter_append]
  congr 1
  by_cases hx : p (ax l k) = true <;> simp [hx]
theorem filter_take_len (l : List Ace) (p : Ace → Bool) (k : Nat) : ((l.take k).filter p).length ≤ k := Nat.le_trans (List.length_filter_le _ _) (List.length_take_le _ _)
def rSortedFrom (l : List Ace) (k : Nat) : Bool := (List.range (l.length - k)).all fun i => !decide (rk (ax l (k + i)) < rk (ax l (k + i - 1)))
def rSorted (l : List Ace) : Bool := rSortedFrom l 1
theorem rSorted_one (l : List Ace) : rSorted l = rSortedFrom l 1 := rfl
theorem rSorted_step (l : List Ace) (j : Nat) (h : j + 1 < l.length) : rSortedFrom l (j + 1) = (!decide (rk (ax l (j + 1)) < rk (ax l j)) && rSortedFrom l (j + 2)) := by
  unfold rSortedFrom
  rw [show l.length - (j + 1) = (l.length - (j + 2)) + 1 by omega, List.range_succ_eq_map, List.all_cons, List.all_map]
  congr 1
  congr 1
  funext i
  simp only [Function.comp]
  rw [show j + 1 + i.succ = j + 2 + i by omega]
theorem rSorted_end (l : List Ace) (k : Nat) (h : l.length ≤ k) : rSortedFrom l k = true := by
  unfold rSortedFrom; rw [show l.length - k = 0 by omega]; rfl
def canonIn (l : List Ace) (r k : Nat) : List Ace := canonTo l r ++ (l.take k).filter fun a => rk a == (r : Int)
theorem canonIn_zero (l : List Ace) (r : Nat) : canonIn l r 0 = canonTo l r := by simp [canonIn]
theorem canonIn_full (l : List Ace) (r k : Nat) (h : l.length ≤ k) : canonIn l r k = canonTo l (r + 1) := by rw [canonIn, List.take_of_length_le h, canonTo_succ]
theorem canonIn_len (l : List Ace) (r k : Nat) : (canonIn l r k).length ≤ r * l.length + k := by
  have h1 := canonTo_len l r
  have h2 := filter_take_len l (fun a => rk a == (r : Int)) k
  rw [canonIn, List.length_append]; omega
end L
set_option maxHeartbeats 2000000 in
theorem rCanonical_any (A : Option Addr) (n c B : Nat) (l : List L.Ace) (w : World) (h1 : Aces w B A n l) (hB1 : B ≤ w.heap.size) (hn : n ≤ 100) (hg : ∀ a ∈ l, 0 ≤ a.f ∧ a.f ≤ 31) :
    Calls Tryz.prog 61 #[.slice A n c] w (RetAces w (L.canon l)) := by
  have e1 := Lib.hid h1.len
  have H1 := Lib.hid h1
  have HG := Lib.hid hg
  clear hg h1
  have st := St.start w
  go_enter Tryz.func61, Tryz.ntmps61
  go_wp2_with (refine WL.out ?_; (repeat (fail)); (try refine WL.nil ?_))
  go_loopw [3, 4] (fun v i wr => ∃ (r : Nat) (A' : Option Addr) (m c' : Nat), r ≤ 4 ∧ i = .int .i64 r ∧ v = .slice A' m c' ∧ St w wr [aceRow (.slice A' m c') m (L.canonTo l r)]) (fun _ i _ => 4 - (intOf i).toNat)
  case atStart => exact ⟨0, none, 0, 0, by omega, rfl, rfl, st.nilRow _ _⟩
  case round =>
    clear st
    obtain ⟨r, A', m, c', hr, rfl, rfl, st⟩ := hrel
    by_cases hr4 : r < 4
    · go_wp2_with (refine WL.out ?_; (repeat ((refine WL.op ?_ ?_; (exact rfl); intro K hK; (((with_reducible apply ow_eval); (go_simp <;> (try simp (disch := omega) only [wrap_id, sub_left, zac]) <;> rfl); ((with_reducible apply up_value)))); refine WL.next hK (by simp only [Act.put, zpt, zsz, zss]; exact rfl) ?_; clear hK K))); (try refine WL.nil ?_))
      go_loopw [3, 5] (fun v i wr => ∃ (k : Nat) (A' : Option Addr) (m c' : Nat), k ≤ n ∧ i = .int .i64 k ∧ v = .slice A' m c' ∧ St w wr [aceRow (.slice A' m c') m (L.canonIn l r k)]) (fun _ i _ => n - (intOf i).toNat)
      case atStart => exact ⟨0, A', m, c', by omega, rfl, rfl, by rw [L.canonIn_zero]; exact st⟩
      case round =>
        clear st
        obtain ⟨k, A', m, c', hk, rfl, rfl, st⟩ := hrel
        have hm : m ≤ 500 := by
          have h := St.len st (i := 0) rfl
          have h2 := L.canonIn_len l r k
          have h3 := e1.out
          have h4 : r * l.length ≤ 4 * l.length := Nat.mul_le_mul_right _ (by omega)
          omega
        by_cases hlt : k < n
        · have hst : Hid (L.canonIn l r (k + 1) = L.canonIn l r k ++ if L.rk (L.ax l k) == (r : Int) then [L.ax l k] else []) := Lib.hid (by unfold L.canonIn; rw [L.filter_step l _ k (by rw [← e1.out]; omega), List.append_assoc])
          have hgk := HG.out (L.ax l k) (by rw [L.ax_eq l k (by rw [← e1.out]; omega)]; exact List.getElem_mem _)
          have hk0 := hgk.1
          have hk1 := hgk.2
          obtain ⟨b1, o1, rfl, hb1, hc⟩ := H1.out.at_ (by omega)
          have hb1 := Nat.lt_of_lt_of_le hb1 hB1
          obtain ⟨f1, f2, f3, f4⟩ := hc k hlt
          clear hc hgk
          by_cases hx : (L.rRank (L.ax l k).k (L.ax l k).f == (r : Int)) = true
          · have hs' : Hid (L.canonIn l r (k + 1) = L.canonIn l r k ++ [L.ax l k]) := Lib.hid (by rw [hst.out, if_pos (show (L.rk (L.ax l k) == (r : Int)) = true from hx)])
            go_wp2_with (refine WL.out ?_; (repeat ((refine WL.op ?_ ?_; (exact rfl); intro K hK; (first | ((first | ((with_reducible apply ow_move); exact rfl) | ((with_reducible apply ow_assign); exact rfl)); (go_simp <;> (try simp (disch := omega) only [wrap_id, sub_left, zac]) <;> rfl)) | ((((with_reducible apply ow_newSlice st); exact rfl; (go_simp <;> (try simp (disch := omega) only [wrap_id, sub_left, zac]) <;> rfl); exact rfl)); (try clear st); intro b w' st) | ((with_reducible apply ow_old4 st); exact rfl; exact inferInstance; exact rfl; assumption; assumption; assumption; assumption; assumption) | ((with_reducible apply ow_append 1 st); exact rfl; exact inferInstance; exact rfl; exact rfl; exact rfl; exact st.rdBox (i := 0) (n := 1) (size := 4) rfl rfl; (focus ((simp [Value.oneCell']; done))); (focus (unfold maxLen; omega)); (focus omega); (try clear st); intro A' c' w' st; (try simp only [List.set_cons_zero, List.set_cons_succ, Nat.zero_add, List.nil_append] at st)) | ((with_reducible apply ow_eval); (go_simp <;> (try simp (disch := omega) only [wrap_id, sub_left, zac]) <;> rfl); first | (with_reducible apply up_value) | ((with_reducible apply up_enter); ((go_at_call 91; refine (Rank_any _ _ _ _ _ hk0 hk1).mono ?_; rintro e w' ⟨rfl, hb⟩; replace st := st.call hb; clear hb; refine ⟨_, rfl, ?_⟩))))); refine WL.next hK (by simp only [Act.put, zpt, zsz, zss]; exact rfl) ?_; clear hK K))); (try refine WL.nil ?_))
            exact ⟨⟨k + 1, A', m + 1, c', by omega, by go_num, rfl, by unfold aceRow; rw [hs'.out, L.cellsOf_append]; exact st.tail⟩, by simp [intOf]; omega⟩
          · have hs' : Hid (L.canonIn l r (k + 1) = L.canonIn l r k) := Lib.hid (by rw [hst.out, if_neg (show ¬ (L.rk (L.ax l k) == (r : Int)) = true from hx), List.append_nil])
            simp only [Bool.not_eq_true] at hx
            go_wp2_with (refine WL.out ?_; (repeat ((refine WL.op ?_ ?_; (exact rfl); intro K hK; (first | ((first | ((with_reducible apply ow_move); exact rfl) | ((with_reducible apply ow_assign); exact rfl)); (go_simp <;> (try simp (disch := omega) only [wrap_id, sub_left, zac]) <;> rfl)) | ((with_reducible apply ow_old4 st); exact rfl; exact inferInstance; exact rfl; assumption; assumption; assumption; assumption; assumption) | ((with_reducible apply ow_eval); (go_simp <;> (try simp (disch := omega) only [wrap_id, sub_left, zac]) <;> rfl); first | (with_reducible apply up_value) | ((with_reducible apply up_enter); ((go_at_call 91; refine (Rank_any _ _ _ _ _ hk0 hk1).mono ?_; rintro e w' ⟨rfl, hb⟩; replace st := st.call hb; clear hb; refine ⟨_, rfl, ?_⟩))))); refine WL.next hK (by simp only [Act.put, zpt, zsz, zss]; exact rfl) ?_; clear hK K))); (try refine WL.nil ?_))
            exact ⟨⟨k + 1, A', m, c', by omega, by go_num, rfl, by rw [hs'.out]; exact st⟩, by simp [intOf]; omega⟩
        · have hs' : Hid (L.canonIn l r k = L.canonTo l (r + 1)) := Lib.hid (L.canonIn_full l r k (by rw [← e1.out]; omega))
          go_wp2_with (refine WL.out ?_; (repeat ((refine WL.op ?_ ?_; (exact rfl); intro K hK; (first | ((((with_reducible apply ow_assign); exact rfl)); (go_simp <;> (try simp (disch := omega) only [wrap_id, sub_left, zac]) <;> rfl)) | ((with_reducible apply ow_eval); (go_simp <;> (try simp (disch := omega) only [wrap_id, sub_left, zac]) <;> rfl); ((with_reducible apply up_value)))); refine WL.next hK (by simp only [Act.put, zpt, zsz, zss]; exact rfl) ?_; clear hK K))); (try refine WL.nil ?_))
          exact ⟨⟨r + 1, A', m, c', by omega, by go_num, rfl, by rw [← hs'.out]; exact st⟩, by simp [intOf]; omega⟩
    · have hs' : Hid (L.canonTo l r = L.canon l) := Lib.hid (by rw [show r = 4 by omega]; rfl)
      go_wp2_with (refine WL.out ?_; (repeat ((refine WL.op ?_ ?_; (exact rfl); intro K hK; (((with_reducible apply ow_eval); (go_simp <;> (try simp (disch := omega) only [wrap_id, sub_left, zac]) <;> rfl); ((with_reducible apply up_value)))); refine WL.next hK (by simp only [Act.put, zpt, zsz, zss]; exact rfl) ?_; clear hK K))); (try refine WL.nil ?_))
      go_ret
      exact ⟨_, _, _, rfl, by rw [← hs'.out]; exact st⟩
end Go.Proofs.YtppjhccdgbheiaaGreatDoor
namespace Go.Proofs.YtppjhccdgbheiaaGreatDoor
open Go.RowKit Go.Hp
set_option maxHeartbeats 1000000 in
theorem Clone_any (A : Option Addr) (n c B : Nat) (l : List L.Ace) (w : World) (h1 : Aces w B A n l) (hB1 : B ≤ w.heap.size) (hn : n ≤ 1000) :
    Calls Tryz.prog 55 #[.slice A n c] w (RetAces w l) := by
  have H1 := Lib.hid h1
  clear h1
  have st := St.start w
  have hT : ∀ (A : Option Addr) (n c : Nat) (W : World), (binOp .eql 23 (.slice A n c) (.slice none 0 0)).run Tryz.prog W = .ok (.bool A.isNone) W := fun A n c W => Lib.run_eql_slice_nil W _ 37 A n c 0 0 (by kernel_rfl)
  cases A with
  | none =>
    have h0 : Hid (l = []) := Lib.hid (by
      have h := H1.out.len
      rcases Nat.eq_zero_or_pos n with hn0 | hn0
      · exact List.eq_nil_of_length_eq_zero (by omega)
      · obtain ⟨b, o, hA, _⟩ := H1.out.at_ hn0
        cases hA)
    go_enter Tryz.func55, Tryz.ntmps55
    go_wp2_with (refine WL.out ?_; (repeat ((refine WL.op ?_ ?_; (exact rfl); intro K hK; (((with_reducible apply ow_eval); (go_simp <;> (try simp (disch := omega) only [wrap_id, sub_left, zac]) <;> rfl); ((with_reducible apply up_value)))); refine WL.next hK (by simp only [Act.put, zpt, zsz, zss]; exact rfl) ?_; clear hK K))); (try refine WL.nil ?_))
    go_ret
    exact ⟨none, 0, 0, rfl, by rw [h0.out]; exact st.nilRow _ _⟩
  | some ad =>
    go_enter Tryz.func55, Tryz.ntmps55
    go_wp2_with (refine WL.out ?_; (repeat ((refine WL.op ?_ ?_; (exact rfl); intro K hK; (first | ((first | ((with_reducible apply ow_move); exact rfl) | ((with_reducible apply ow_assign); exact rfl)); (go_simp <;> (try simp (disch := omega) only [wrap_id, sub_left, zac]) <;> rfl)) | ((((with_reducible apply ow_newSlice st); exact rfl; (go_simp <;> (try simp (disch := omega) only [wrap_id, sub_left, zac]) <;> rfl); exact rfl)); (try clear st); intro b w' st) | (replace st := st.toRow (n := 0) (size := 4) rfl (by decide); ((with_reducible apply ow_append 0 st); exact rfl; exact inferInstance; exact rfl; exact rfl; exact rfl; exact (H1.out.st st hB1).rd; (focus (exact cells_one _)); (focus (unfold maxLen; omega)); (focus omega); (try clear st); intro A' c' w' st; (try simp only [List.set_cons_zero, List.set_cons_succ, Nat.zero_add, List.nil_append] at st))) | ((with_reducible apply ow_eval); (go_simp <;> (try simp (disch := omega) only [wrap_id, sub_left, zac]) <;> rfl); ((with_reducible apply up_value)))); refine WL.next hK (by simp only [Act.put, zpt, zsz, zss]; exact rfl) ?_; clear hK K))); (try refine WL.nil ?_))
    go_ret
    exact ⟨_, _, _, rfl, st⟩
theorem child11_any (k f m wh : Int) (w : World) :
    Calls Tryz.prog 76 #[.agg #[.int .i64 k, .int .i64 f, .int .i64 m, .int .i64 wh]] w fun e w' => e = .returned (.bool (L.band f 16 != 0)) ∧ Below w.heap.size w w' := by
  have st := St.start w
  go_enter Tryz.func76, Tryz.ntmps76
  go_wp2_with (refine WL.out ?_; (repeat ((refine WL.op ?_ ?_; (exact rfl); intro K hK; (first | ((((with_reducible apply ow_assign); exact rfl)); (go_simp <;> (try simp (disch := omega) only [wrap_id, sub_left, zac]) <;> rfl)) | ((((with_reducible apply ow_load1 st); exact rfl; exact inferInstance; exact rfl; (exact get0))); exact rfl) | ((((with_reducible apply ow_box st); exact rfl; (go_simp <;> (try simp (disch := omega) only [wrap_id, sub_left, zac]) <;> rfl); (go_simp <;> (try simp (disch := omega) only [wrap_id, sub_left, zac]) <;> rfl))); (try clear st); intro b w' st) | ((with_reducible apply ow_eval); (go_simp <;> (try simp (disch := omega) only [wrap_id, sub_left, zac]) <;> rfl); ((with_reducible apply up_value)))); refine WL.next hK (by simp only [Act.put, zpt, zsz, zss]; exact rfl) ?_; clear hK K))); (try refine WL.nil ?_))
  go_ret
  exact ⟨rfl, st.below⟩
end Go.Proofs.YtppjhccdgbheiaaGreatDoor
namespace Go.Proofs.YtppjhccdgbheiaaGreatDoor
open Go.RowKit Go.Hp
namespace L
theorem cells_take (M : List Ace) (R : List Value) (k : Nat) (h : k < M.length) : ((cellsOf M ++ R).drop (k * 4)).take 4 = (ax M k).cells := by
  have h1 : M = M.take k ++ (ax M k :: M.drop (k + 1)) := by rw [← drop_ax M k h, List.take_append_drop]
  have h2 : (cellsOf (M.take k)).length = k * 4 := by rw [cellsOf_length, List.length_take]; congr 1; omega
  have h3 : cellsOf M ++ R = cellsOf (M.take k) ++ ((ax M k).cells ++ (cellsOf (M.drop (k + 1)) ++ R)) := by
    conv => lhs; rw [h1, cellsOf_append]
    simp only [cellsOf, List.flatMap_cons, List.append_assoc]
  rw [h3, List.drop_append_of_le_length (by omega), List.drop_of_length_le (by omega), List.nil_append]
  rfl
theorem cells_set (M : List Ace) (R : List Value) (k : Nat) (a : Ace) (h : k < M.length) : (cellsOf M ++ R).take (k * 4) ++ a.cells ++ (cellsOf M ++ R).drop (k * 4 + 4) = cellsOf (M.set k a) ++ R := by
  have h1 : M = M.take k ++ (ax M k :: M.drop (k + 1)) := by rw [← drop_ax M k h, List.take_append_drop]
  have h2 : (cellsOf (M.take k)).length = k * 4 := by rw [cellsOf_length, List.length_take]; congr 1; omega
  have h3 : cellsOf M ++ R = cellsOf (M.take k) ++ ((ax M k).cells ++ (cellsOf (M.drop (k + 1)) ++ R)) := by
    conv => lhs; rw [h1, cellsOf_append]
    simp only [cellsOf, List.flatMap_cons, List.append_assoc]
  have h4 : cellsOf (M.set k a) = cellsOf (M.take k) ++ (a.cells ++ cellsOf (M.drop (k + 1))) := by
    rw [List.set_eq_take_append_cons_drop, if_pos h, cellsOf_append]
    simp only [cellsOf, List.flatMap_cons]
  rw [h4, h3]
  have h5 : (ax M k).cells.length = 4 := rfl
  rw [List.take_append_of_le_length (by omega), List.take_of_length_le (by omega)]
  rw [← List.append_assoc (cellsOf (M.take k)), List.drop_append_of_le_length (by simp [h2, h5]), List.drop_of_length_le (by simp [h2, h5])]
  simp only [List.nil_append, List.append_assoc]
def inh (a : Ace) : Bool := band a.f 16 != 0
def idx : Nat → List Ace → Int
  | _, [] => -1
  | i, a :: r => if inh a then i else idx (i + 1) r
theorem idx_step (l : List Ace) (k : Nat) (h : k < l.length) : idx k (l.drop k) = if inh (ax l k) then (k : Int) else idx (k + 1) (l.drop (k + 1)) := by
  rw [drop_ax l k h]; rfl
theorem idx_end (l : List Ace) (k : Nat) (h : l.length ≤ k) : idx k (l.drop k) = -1 := by
  rw [List.drop_eq_nil_of_le h]; rfl
theorem idx_spec : ∀ (l : List Ace) (i : Nat), (idx i l = -1 ∧ l.filter (fun a => !inh a) = l) ∨ ∃ j, idx i l = ((i + j : Nat) : Int) ∧ j < l.length ∧ (l.take (j + 1)).filter (fun a => !inh a) = l.take j
  | [], i => .inl ⟨rfl, rfl⟩
  | a :: l, i => by
    by_cases ha : inh a = true
    · refine .inr ⟨0, ?_, by simp, ?_⟩
      · unfold idx; rw [if_pos ha]; rfl
      · simp [ha]
    · rcases idx_spec l (i + 1) with ⟨h1, h2⟩ | ⟨j, h1, h2, h3⟩
      · refine .inl ⟨?_, ?_⟩
        · unfold idx; rw [if_neg ha]; exact h1
        · rw [List.filter_cons_of_pos (by simpa using ha), h2]
      · refine .inr ⟨j + 1, ?_, by simp; omega, ?_⟩
        · unfold idx; rw [if_neg ha, h1]; congr 1; omega
        · rw [List.take_succ_cons, List.filter_cons_of_pos (by simpa using ha), h3]; rfl
end L
set_option maxHeartbeats 1000000 in
theorem IndexFunc_any (A : Option Addr) (n c B : Nat) (l : List L.Ace) (w : World) (h1 : Aces w B A n l) (hB1 : B ≤ w.heap.size) (hn : n ≤ 1000) :
    Calls Tryz.prog 108 #[.slice A n c, .func (.func 76) #[] #[]] w fun e w' => e = .returned (.int .i64 (L.idx 0 l)) ∧ Below w.heap.size w w' := by
  have e1 := Lib.hid h1.len
  have H1 := Lib.hid h1
  clear h1
  have st := St.start w
  go_enter Tryz.func108, Tryz.ntmps108
  go_wp2_with (refine WL.out ?_; (repeat ((refine WL.op ?_ ?_; (exact rfl); intro K hK; (first | ((((with_reducible apply ow_move); exact rfl)); (go_simp <;> (try simp (disch := omega) only [wrap_id, sub_left, zac]) <;> rfl)) | ((with_reducible apply ow_eval); (go_simp <;> (try simp (disch := omega) only [wrap_id, sub_left, zac]) <;> rfl); ((with_reducible apply up_value)))); refine WL.next hK (by simp only [Act.put, zpt, zsz, zss]; exact rfl) ?_; clear hK K))); (try refine WL.nil ?_))
  go_loopw [8] (fun i wr => ∃ k : Nat, k ≤ n ∧ i = .int .i64 k ∧ St w wr [] ∧ Hid (L.idx 0 l = L.idx k (l.drop k))) (fun i _ => n - (intOf i).toNat)
  case atStart => exact ⟨0, by omega, rfl, st, rfl⟩
  case round =>
    clear st
    obtain ⟨k, hk, rfl, st, hs⟩ := hrel
    by_cases hlt : k < n
    · have hst := Lib.hid (L.idx_step l k (by rw [← e1.out]; omega))
      obtain ⟨b1, o1, rfl, hb1, hc⟩ := H1.out.at_ (by omega)
      have hb1 := Nat.lt_of_lt_of_le hb1 hB1
      obtain ⟨f1, f2, f3, f4⟩ := hc k hlt
      clear hc
      by_cases hx : (L.band (L.ax l k).f 16 != 0) = true
      · have hs' : Hid (L.idx 0 l = k) := Lib.hid (by rw [hs.out, hst.out]; exact if_pos hx)
        go_wp2_with (refine WL.out ?_; (repeat ((refine WL.op ?_ ?_; (exact rfl); intro K hK; (first | ((with_reducible apply ow_old4 st); exact rfl; exact inferInstance; exact rfl; assumption; assumption; assumption; assumption; assumption) | ((with_reducible apply ow_eval); (go_simp <;> (try simp (disch := omega) only [wrap_id, sub_left, zac]) <;> rfl); first | (with_reducible apply up_value) | ((with_reducible apply up_enter); ((go_at_call 76; refine (child11_any _ _ _ _ _).mono ?_; rintro e w' ⟨rfl, hb⟩; replace st := st.call hb; clear hb; refine ⟨_, rfl, ?_⟩))))); refine WL.next hK (by simp only [Act.put, zpt, zsz, zss]; exact rfl) ?_; clear hK K))); (try refine WL.nil ?_))
        go_ret
        exact ⟨ret_int hs'.out.symm, st.below⟩
      · have hs' : Hid (L.idx 0 l = L.idx (k + 1) (l.drop (k + 1))) := Lib.hid (by rw [hs.out, hst.out]; exact if_neg hx)
        simp only [Bool.not_eq_true] at hx
        go_wp2_with (refine WL.out ?_; (repeat ((refine WL.op ?_ ?_; (exact rfl); intro K hK; (first | ((((with_reducible apply ow_move); exact rfl)); (go_simp <;> (try simp (disch := omega) only [wrap_id, sub_left, zac]) <;> rfl)) | ((with_reducible apply ow_old4 st); exact rfl; exact inferInstance; exact rfl; assumption; assumption; assumption; assumption; assumption) | ((with_reducible apply ow_eval); (go_simp <;> (try simp (disch := omega) only [wrap_id, sub_left, zac]) <;> rfl); first | (with_reducible apply up_value) | ((with_reducible apply up_enter); ((go_at_call 76; refine (child11_any _ _ _ _ _).mono ?_; rintro e w' ⟨rfl, hb⟩; replace st := st.call hb; clear hb; refine ⟨_, rfl, ?_⟩))))); refine WL.next hK (by simp only [Act.put, zpt, zsz, zss]; exact rfl) ?_; clear hK K))); (try refine WL.nil ?_))
        exact ⟨⟨k + 1, by omega, by go_num, st, hs'⟩, by simp [intOf]; omega⟩
    · have hs' : Hid (L.idx 0 l = -1) := Lib.hid (by rw [hs.out]; exact L.idx_end l k (by rw [← e1.out]; omega))
      go_wp2_with (refine WL.out ?_; (repeat ((refine WL.op ?_ ?_; (exact rfl); intro K hK; (((with_reducible apply ow_eval); (go_simp <;> (try simp (disch := omega) only [wrap_id, sub_left, zac]) <;> rfl); ((with_reducible apply up_value)))); refine WL.next hK (by simp only [Act.put, zpt, zsz, zss]; exact rfl) ?_; clear hK K))); (try refine WL.nil ?_))
      go_ret
      exact ⟨ret_int hs'.out.symm, st.below⟩
end Go.Proofs.YtppjhccdgbheiaaGreatDoor
namespace Go.Hp
open Go.RowKit
section
variable {P : Program} {o : Oper} {a : Act} {w0 w : World} {rs : List Res} {Q : Exit → Act → World → Prop} {K : Act → World → Prop}
theorem St.toBox {e size n c : Nat} {A : Option Addr} {xs : List Value} (st : St w0 w (.row e size (.slice A n c) n xs :: rs)) (hn : 0 < n) :
    ∃ g R, A = some ⟨g, 0, none⟩ ∧ xs.length = n * size ∧ (xs ++ R).length = c * size ∧ n ≤ c ∧ c ≤ maxLen ∧ St w0 w (.box g e (xs ++ R) :: rs) := by
  have h := st.holds _ (List.mem_cons_self ..)
  have hl := h.1
  rcases h.2 with ⟨hv, h0⟩ | ⟨g, cap, cur, hv, hbase, hg, hnc, hcap, hsz, htake⟩
  · omega
  · injection hv with h1 h2 h3
    subst h1; subst h3
    have hxs : xs ++ cur.toList.drop (n * size) = cur.toList := by rw [← htake, List.take_append_drop]
    refine ⟨g, cur.toList.drop (n * size), rfl, hl, by rw [hxs, Array.length_toList, hsz], hnc, hcap, st.tail.cons ⟨hbase, by rw [hxs]; exact hg⟩ fun s hs k hk => (List.pairwise_cons.1 st.apart).1 s hs k hk⟩
theorem St.ofBox {e size n c g : Nat} {xs R : List Value} (st : St w0 w (.box g e (xs ++ R) :: rs)) (hl : xs.length = n * size) (hc : (xs ++ R).length = c * size) (hn : n ≤ c) (hm : c ≤ maxLen) : St w0 w (.row e size (.slice (some ⟨g, 0, none⟩) n c) n xs :: rs) := by
  have h := st.holds _ (List.mem_cons_self ..)
  refine st.tail.cons ⟨hl, .inr ⟨g, c, (xs ++ R).toArray, rfl, h.1, h.2, hn, hm, by simpa using hc, ?_⟩⟩ fun s hs k hk => (List.pairwise_cons.1 st.apart).1 s hs k hk
  rw [← hl]
  simp
theorem run_clear_box {t e b p n c bt : Nat} {z : Value} {size bytes : Nat} {cs : List Value} (hT : SliceT P t e z size bytes) (hZ : ZeroT P e z) (ty : TypeId) (hn : 0 < n) (hb : w.heap[b]? = some (.cells cs.toArray bt (0, 0))) (hp : p + n * size ≤ cs.length) (h1 : ∀ u ∈ (Builtin.zeroCells z.cells n).toList, u.oneCell' = true) :
    (Builtin.clear_ #[t] ty #[.slice (some ⟨b, p, none⟩) n c]).run P w = .ok (.tuple #[]) (w.setRow b (cs.take p ++ (Builtin.zeroCells z.cells n).toList ++ cs.drop (p + n * size)).toArray) := by
  have hzl : (Builtin.zeroCells z.cells n).toList.length = n * size := by simp [Builtin.zeroCells, hT.cells]
  have hst := run_storeCells_at P b p bt (Builtin.zeroCells z.cells n).toList 0 cs.toArray w hb (by rw [hzl]; simpa using hp) h1
  simp only [Nat.add_zero, hzl] at hst
  have hn0 : n ≠ 0 := by omega
  obtain ⟨m, rfl⟩ : ∃ m, n = m + 1 := ⟨n - 1, by omega⟩
  simp [Builtin.clear_, run_underlying hT.under, hZ.zero, hst]
theorem ow_clear {t e : TypeId} {z : Value} {size bytes i b p n c bt : Nat} {cs : List Value} {rs' : List Res} {x : Operand} (st : St w0 w rs) (ho : o.op = .call { callee := .builtin .clear, args := #[x], argTypes := #[t] }) (hT : SliceT P t e z size bytes) (hZ : ZeroT P e z)
    (hx : a.eval x = .slice (some ⟨b, p, none⟩) n c) (hi : rs[i]? = some (.box b bt cs)) (hn : 0 < n) (hp : p + n * size ≤ cs.length) (h1 : ∀ u ∈ (Builtin.zeroCells z.cells n).toList, u.oneCell' = true)
    (hrs : rs.set i (.box b bt (cs.take p ++ (Builtin.zeroCells z.cells n).toList ++ cs.drop (p + n * size))) = rs') (h : ∀ w', St w0 w' rs' → K (a.put o.dst (.tuple #[])) w') : OW P o a w K Q := by
  have hrun := run_clear_box (P := P) (w := w) (c := c) hT hZ o.type hn (st.blk hi) hp h1
  refine OW.mk ?_
  unfold Oper.wp execOp
  simp only [ho, resolve, invoke, builtin, Sem.run_bind, Sem.run_pure, Result.andThen_ok, List.map_toArray, List.map_cons, List.map_nil, hx, hrun]
  exact h _ (hrs ▸ st.store (o := p) (n := n * size) (vs := (Builtin.zeroCells z.cells n).toList) hi)
end
end Go.Hp
namespace Go.Proofs.YtppjhccdgbheiaaGreatDoor
open Go.RowKit Go.Hp
theorem zeros_one (n : Nat) : ∀ u ∈ (Builtin.zeroCells (Value.agg #[.int .i64 0, .int .i64 0, .int .i64 0, .int .i64 0]).cells n).toList, u.oneCell' = true := by
  simp [Builtin.zeroCells, Value.cells, Value.oneCell']
  intro a _
  rcases (by omega : a % 4 = 0 ∨ a % 4 = 1 ∨ a % 4 = 2 ∨ a % 4 = 3) with h | h | h | h <;> rw [h] <;> rfl
set_option maxHeartbeats 2000000 in
theorem DeleteFunc_any {w0 : World} {rs : List Res} (A : Option Addr) (n c : Nat) (l : List L.Ace) (w : World) (st : St w0 w (aceRow (.slice A n c) n l :: rs)) (hn : n ≤ 100) :
    Calls Tryz.prog 75 #[.slice A n c, .func (.func 76) #[] #[]] w fun e w' => ∃ A' n' c', e = .returned (.slice A' n' c') ∧ St w0 w' (aceRow (.slice A' n' c') n' (l.filter fun a => !L.inh a) :: rs) := by
  have e1 := Lib.hid (St.len st (i := 0) rfl)
  have ha := Lib.hid (St.aces st (i := 0) rfl)
  rcases L.idx_spec l 0 with ⟨h1, h2⟩ | ⟨j, h1, h2, h3⟩
  · have hf := Lib.hid h2
    clear h2
    go_enter Tryz.func75, Tryz.ntmps75
    go_wp2_with (refine WL.out ?_; (repeat ((refine WL.op ?_ ?_; (exact rfl); intro K hK; (first | ((((with_reducible apply ow_assign); exact rfl)); (go_simp <;> (try simp (disch := omega) only [wrap_id, sub_left, zac]) <;> rfl)) | ((with_reducible apply ow_eval); (go_simp <;> (try simp (disch := omega) only [wrap_id, sub_left, zac]) <;> rfl); first | (with_reducible apply up_value) | ((with_reducible apply up_enter); ((go_at_call 108; refine (IndexFunc_any A n c _ l _ ha.out (Nat.le_refl _) (by omega)).mono ?_; rintro e w' ⟨rfl, hb⟩; replace st := st.call hb; clear hb; rw [h1]; refine ⟨_, rfl, ?_⟩))))); refine WL.next hK (by simp only [Act.put, zpt, zsz, zss]; exact rfl) ?_; clear hK K))); (try refine WL.nil ?_))
    go_ret
    exact ⟨_, _, _, rfl, by rw [hf.out]; exact st⟩
  · rw [Nat.zero_add] at h1
    have hj : j < n := by rw [e1.out]; exact h2
    have hf := Lib.hid h3
    clear h2 h3
    obtain ⟨g, R, rfl, hl, hcc, hnc, hcm, st⟩ := st.toBox (by omega)
    have HC := Lib.hid hcc
    clear hcc hl
    go_enter Tryz.func75, Tryz.ntmps75
    go_wp2_with (refine WL.out ?_; (repeat ((refine WL.op ?_ ?_; (exact rfl); intro K hK; (first | ((((with_reducible apply ow_assign); exact rfl)); (go_simp <;> (try simp (disch := omega) only [wrap_id, sub_left, zac]) <;> rfl)) | ((with_reducible apply ow_eval); (go_simp <;> (try simp (disch := omega) only [wrap_id, sub_left, zac]) <;> rfl); first | (with_reducible apply up_value) | ((with_reducible apply up_enter); ((go_at_call 108; refine (IndexFunc_any _ n c _ l _ ha.out (Nat.le_refl _) (by omega)).mono ?_; rintro e w' ⟨rfl, hb⟩; replace st := st.call hb; clear hb; rw [h1]; refine ⟨_, rfl, ?_⟩))))); refine WL.next hK (by simp only [Act.put, zpt, zsz, zss]; exact rfl) ?_; clear hK K))); (try refine WL.nil ?_))
    have hstart := Lib.hid (show l.length = n ∧ l.take j = (l.take (j + 1)).filter (fun a => !L.inh a) ∧ l.drop (j + 1) = l.drop (j + 1) from ⟨e1.out.symm, hf.out.symm, rfl⟩)
    go_loopw [5, 6] (fun vi vj wr => ∃ (i j : Nat) (M : List L.Ace), i < j ∧ j ≤ n ∧ vi = .int .i64 i ∧ vj = .int .i64 j ∧ St w0 wr (.box g 37 (L.cellsOf M ++ R) :: rs) ∧ Hid (M.length = n ∧ M.take i = (l.take j).filter (fun a => !L.inh a) ∧ M.drop j = l.drop j)) (fun _ j _ => n - (intOf j).toNat)
    case atStart => exact ⟨j, j + 1, l, by omega, by omega, rfl, by go_num, st, hstart⟩
    case round =>
      clear st hstart hf hj h1
      obtain ⟨i, j, M, hij, hjn, rfl, rfl, st, hM⟩ := hrel
      by_cases hlt : j < n
      · have hax : Hid (L.ax M j = L.ax l j) := Lib.hid (by
          have h1 := L.drop_ax M j (by rw [hM.out.1]; exact hlt)
          have h2 := L.drop_ax l j (by rw [← e1.out]; exact hlt)
          rw [hM.out.2.2, h2] at h1
          exact (List.cons.inj h1).1.symm)
        have hft := Lib.hid (L.filter_step l (fun a => !L.inh a) j (by rw [← e1.out]; exact hlt))
        have hin : i < n := by omega
        by_cases hx : (L.band (L.ax M j).f 16 != 0) = true
        · have hs' : Hid (M.length = n ∧ M.take i = (l.take (j + 1)).filter (fun a => !L.inh a) ∧ M.drop (j + 1) = l.drop (j + 1)) := Lib.hid ⟨hM.out.1, by rw [hft.out, hM.out.2.1, ← hax.out, show L.inh (L.ax M j) = true from hx]; simp, by rw [← List.drop_drop, ← List.drop_drop, hM.out.2.2]⟩
          go_wp2_with (refine WL.out ?_; (repeat ((refine WL.op ?_ ?_; (exact rfl); intro K hK; (first | ((((with_reducible apply ow_assign); exact rfl)); (go_simp <;> (try simp (disch := omega) only [wrap_id, sub_left, zac]) <;> rfl)) | ((((with_reducible apply ow_loadN st); exact rfl; exact inferInstance; exact rfl; (exact get0); ((try simp only [zta, ztz, zda, zdz, zca, zcn, zan, zsz, zss]) <;> exact rfl))); exact rfl) | ((((with_reducible apply ow_alloc st); exact rfl; exact inferInstance; (go_simp <;> (try simp (disch := omega) only [wrap_id, sub_left, zac]) <;> rfl))); (try clear st); intro b w' st) | ((((with_reducible apply ow_storeN' st); exact rfl; exact inferInstance; exact rfl; (exact get0); exact rfl)); exact rfl; exact rfl; (simp <;> done); ((try simp only [zta, ztz, zda, zdz, zca, zcn, zan, zsz, zss]) <;> exact rfl); (try clear st); intro w' st) | ((with_reducible apply ow_loadN st); exact rfl; exact inferInstance; exact rfl; (exact get0); (focus (exact L.cells_take _ _ _ (by rw [hM.out.1]; exact hlt))); exact rfl) | ((with_reducible apply ow_eval); (go_simp <;> (try simp (disch := omega) only [wrap_id, sub_left, zac]) <;> rfl); first | (with_reducible apply up_value) | ((with_reducible apply up_enter); ((go_at_call 76; refine (child11_any _ _ _ _ _).mono ?_; rintro e w' ⟨rfl, hb⟩; replace st := st.call hb; clear hb; refine ⟨_, rfl, ?_⟩))))); refine WL.next hK (by simp only [Act.put, zpt, zsz, zss]; exact rfl) ?_; clear hK K))); (try refine WL.nil ?_))
          exact ⟨⟨i, j + 1, M, by omega, by omega, rfl, by go_num, st.tail, hs'⟩, by simp [intOf]; omega⟩
        · have hs' : Hid ((M.set i (L.ax M j)).length = n ∧ (M.set i (L.ax M j)).take (i + 1) = (l.take (j + 1)).filter (fun a => !L.inh a) ∧ (M.set i (L.ax M j)).drop (j + 1) = l.drop (j + 1)) := Lib.hid ⟨by rw [List.length_set]; exact hM.out.1, by
            rw [hft.out, ← hM.out.2.1, ← hax.out, if_pos (show (!L.inh (L.ax M j)) = true by simpa [L.inh] using hx), List.set_eq_take_append_cons_drop, if_pos (by rw [hM.out.1]; exact hin)]
            rw [List.take_append, List.take_of_length_le (by rw [List.length_take]; omega), List.length_take, hM.out.1, show i + 1 - min i n = 1 by omega]
            rfl, by rw [List.drop_set_of_lt (by omega), ← List.drop_drop, ← List.drop_drop, hM.out.2.2]⟩
          simp only [Bool.not_eq_true] at hx
          go_wp2_with (refine WL.out ?_; (repeat ((refine WL.op ?_ ?_; (exact rfl); intro K hK; (first | ((((with_reducible apply ow_assign); exact rfl)); (go_simp <;> (try simp (disch := omega) only [wrap_id, sub_left, zac]) <;> rfl)) | ((((with_reducible apply ow_loadN st); exact rfl; exact inferInstance; exact rfl; (exact get0); ((try simp only [zta, ztz, zda, zdz, zca, zcn, zan, zsz, zss]) <;> exact rfl))); exact rfl) | ((((with_reducible apply ow_alloc st); exact rfl; exact inferInstance; (go_simp <;> (try simp (disch := omega) only [wrap_id, sub_left, zac]) <;> rfl))); (try clear st); intro b w' st) | ((((with_reducible apply ow_storeN' st); exact rfl; exact inferInstance; exact rfl; (first | exact get0 | exact get1); exact rfl)); exact rfl; exact rfl; (simp <;> done); ((try simp only [zta, ztz, zda, zdz, zca, zcn, zan, zsz, zss]) <;> exact rfl); (try clear st); intro w' st) | ((with_reducible apply ow_loadN st); exact rfl; exact inferInstance; exact rfl; (exact get0); (focus (exact L.cells_take _ _ _ (by rw [hM.out.1]; exact hlt))); exact rfl) | ((with_reducible apply ow_storeN' st); exact rfl; exact inferInstance; exact rfl; (exact get1); exact rfl; exact rfl; exact rfl; (focus (rw [List.length_append, L.cellsOf_length, hM.out.1]; omega)); (focus (exact congrArg (fun x => Res.box _ _ _ :: Res.box g 37 x :: rs) (L.cells_set M R i (L.ax M j) (by rw [hM.out.1]; exact hin)))); (try clear st); intro w' st) | ((with_reducible apply ow_eval); (go_simp <;> (try simp (disch := omega) only [wrap_id, sub_left, zac]) <;> rfl); first | (with_reducible apply up_value) | ((with_reducible apply up_enter); ((go_at_call 76; refine (child11_any _ _ _ _ _).mono ?_; rintro e w' ⟨rfl, hb⟩; replace st := st.call hb; clear hb; refine ⟨_, rfl, ?_⟩))))); refine WL.next hK (by simp only [Act.put, zpt, zsz, zss]; exact rfl) ?_; clear hK K))); (try refine WL.nil ?_))
          exact ⟨⟨i + 1, j + 1, M.set i (L.ax M j), by omega, by omega, by go_num, by go_num, st.tail, hs'⟩, by simp [intOf]; omega⟩
      · have hlen : Hid ((l.filter fun a => !L.inh a).length = i ∧ l.filter (fun a => !L.inh a) = M.take i) := Lib.hid (by
          have h : l.take j = l := List.take_of_length_le (by rw [← e1.out]; omega)
          have h2 := hM.out.2.1
          rw [h] at h2
          exact ⟨by rw [← h2, List.length_take, hM.out.1]; omega, h2.symm⟩)
        have hin : i < n := by omega
        have hic : i ≤ c := by omega
        have hic' : i < c := by omega
        have hin' : i ≤ n := by omega
        go_wp2_with (refine WL.out ?_; (repeat ((refine WL.op ?_ ?_; (exact rfl); intro K hK; (((with_reducible apply ow_eval); (go_simp <;> (try simp (disch := omega) only [wrap_id, sub_left, zac]) <;> rfl); ((with_reducible apply up_value)))); refine WL.next hK (by simp only [Act.put, zpt, zsz, zss]; exact rfl) ?_; clear hK K))); (try refine WL.nil ?_))
        refine WL.op ?_ ?_
        (exact rfl)
        intro K hK
        ((with_reducible apply ow_clear st); exact rfl; exact inferInstance; exact inferInstance; exact rfl; (exact get0); (focus omega); (focus (rw [List.length_append, L.cellsOf_length, hM.out.1]; omega)); (exact zeros_one _); exact rfl; (try clear st); intro w' st; refine WL.next hK (by simp only [Act.put, zpt, zsz, zss]; exact rfl) ?_; clear hK K)
        refine WL.nil ?_
        have hk : (L.cellsOf M ++ R).take (i * 4) = L.cellsOf (M.take i) := by
          have h2 : (L.cellsOf (M.take i)).length = i * 4 := by rw [L.cellsOf_length, List.length_take, hM.out.1]; congr 1; omega
          conv => lhs; rw [← List.take_append_drop i M, L.cellsOf_append]
          rw [List.append_assoc, List.take_append_of_le_length (by omega), List.take_of_length_le (by omega)]
        rw [hk, List.append_assoc] at st
        have HK := Lib.hid hk
        clear hk
        go_wp2_with (refine WL.out ?_; (repeat ((refine WL.op ?_ ?_; (exact rfl); intro K hK; (first | ((((with_reducible apply ow_assign); exact rfl)); (go_simp <;> (try simp (disch := omega) only [wrap_id, sub_left, zac]) <;> rfl)) | ((with_reducible apply ow_eval); (go_simp <;> (try simp (disch := omega) only [wrap_id, sub_left, zac]) <;> rfl); ((with_reducible apply up_value)))); refine WL.next hK (by simp only [Act.put, zpt, zsz, zss]; exact rfl) ?_; clear hK K))); (try refine WL.nil ?_))
        go_ret
        refine ⟨_, _, _, rfl, ?_⟩
        rw [hlen.out.2]
        have h2 : (L.cellsOf (M.take i)).length = i * 4 := by rw [L.cellsOf_length, List.length_take, hM.out.1]; congr 1; omega
        have h3 : (Builtin.zeroCells (Value.agg #[.int .i64 0, .int .i64 0, .int .i64 0, .int .i64 0]).cells (n - i)).toList.length = (n - i) * 4 := by simp [Builtin.zeroCells, Value.cells]
        refine st.ofBox h2 ?_ hic hcm
        have h4 := HC.out
        rw [List.length_append, L.cellsOf_length, ← e1.out] at h4
        rw [List.length_append, List.length_append, h2, h3, List.length_drop, List.length_append, L.cellsOf_length, hM.out.1]
        omega
end Go.Proofs.YtppjhccdgbheiaaGreatDoor
namespace Go.Proofs.YtppjhccdgbheiaaGreatDoor
open Go.RowKit Go.Hp
namespace L
def FOk (l : List Ace) : Prop := ∀ a ∈ l, 0 ≤ a.f ∧ a.f ≤ 31
theorem band_has : ∀ f : Fin 32, (band ((f.val : Nat) : Int) 16 != 0) = has ((f.val : Nat) : Int) 16 := by decide +kernel
theorem band16 {f : Int} (h0 : 0 ≤ f) (h1 : f ≤ 31) : (band f 16 != 0) = has f 16 := by
  have := band_has ⟨f.toNat, by omega⟩
  simpa [Int.toNat_of_nonneg h0] using this
theorem rank_eq {k f : Int} (h0 : 0 ≤ f) (h1 : f ≤ 31) : rank k f = rRank k f := by
  unfold rank rRank
  rw [band16 h0 h1]
  by_cases hk : k = 1 <;> by_cases hh : has f 16 = true <;> simp [hk, hh]
theorem rk_range (a : Ace) : rk a = 0 ∨ rk a = 1 ∨ rk a = 2 ∨ rk a = 3 := by
  unfold rk rRank
  split <;> split <;> simp
def F (l : List Ace) (i : Int) : List Ace := l.filter fun a => rk a == i
theorem canon_four (l : List Ace) : canon l = F l 0 ++ (F l 1 ++ (F l 2 ++ F l 3)) := by
  unfold canon canonTo F
  simp [List.range, List.range.loop]
theorem F_rk {l : List Ace} {i : Int} {a : Ace} (h : a ∈ F l i) : rk a = i := by
  have := (List.mem_filter.1 h).2
  simpa using this
theorem F_snoc (l : List Ace) (x : Ace) (i : Int) : F (l ++ [x]) i = F l i ++ (if rk x == i then [x] else []) := by
  unfold F; rw [List.filter_append]; congr 1
  by_cases h : (rk x == i) = true <;> simp [h]
theorem F_le (l : List Ace) (i q : Int) : (F l i).filter (fun a => decide (rk a ≤ q)) = if i ≤ q then F l i else [] := by
  split
  · rename_i h
    exact List.filter_eq_self.2 fun a ha => by rw [F_rk ha]; simpa using h
  · rename_i h
    exact List.filter_eq_nil_iff.2 fun a ha => by rw [F_rk ha]; simpa using h
theorem F_gt (l : List Ace) (i q : Int) : (F l i).filter (fun a => !decide (rk a ≤ q)) = if i ≤ q then [] else F l i := by
  split
  · rename_i h
    exact List.filter_eq_nil_iff.2 fun a ha => by rw [F_rk ha]; simpa using h
  · rename_i h
    exact List.filter_eq_self.2 fun a ha => by rw [F_rk ha]; simpa using h
theorem canon_snoc (l : List Ace) (x : Ace) : canon (l ++ [x]) = (canon l).filter (fun a => decide (rk a ≤ rk x)) ++ x :: (canon l).filter (fun a => !decide (rk a ≤ rk x)) := by
  rw [canon_four, canon_four]
  simp only [List.filter_append, F_le, F_gt, F_snoc]
  rcases rk_range x with h | h | h | h <;> rw [h] <;> simp
theorem canon_sorted (l : List Ace) : (canon l).Pairwise fun a b => rk a ≤ rk b := by
  have hF : ∀ i, (F l i).Pairwise fun a b => rk a ≤ rk b := fun i => List.pairwise_of_forall_mem_list fun a ha b hb => by rw [F_rk ha, F_rk hb]; exact Int.le_refl _
  rw [canon_four]
  refine List.pairwise_append.2 ⟨hF 0, List.pairwise_append.2 ⟨hF 1, List.pairwise_append.2 ⟨hF 2, hF 3, ?_⟩, ?_⟩, ?_⟩
  · intro a ha b hb; rw [F_rk ha, F_rk hb]; decide
  · intro a ha b hb
    rcases List.mem_append.1 hb with hb | hb <;> rw [F_rk ha, F_rk hb] <;> decide
  · intro a ha b hb
    rcases List.mem_append.1 hb with hb | hb
    · rw [F_rk ha, F_rk hb]; decide
    · rcases List.mem_append.1 hb with hb | hb <;> rw [F_rk ha, F_rk hb] <;> decide
theorem canon_mem {l : List Ace} {a : Ace} : a ∈ canon l ↔ a ∈ l := by
  rw [canon_four]
  simp only [List.mem_append, F, List.mem_filter, beq_iff_eq]
  constructor
  · rintro (h | h | h | h) <;> exact h.1
  · intro h
    rcases rk_range a with h' | h' | h' | h' <;> simp [h, h']
theorem canon_length : ∀ l : List Ace, (canon l).length = l.length := by
  intro l
  have key : ∀ l : List Ace, (F l 0).length + ((F l 1).length + ((F l 2).length + (F l 3).length)) = l.length := by
    intro l
    induction l with
    | nil => rfl
    | cons a l ih =>
      rcases rk_range a with h | h | h | h <;> simp [F, List.filter_cons, h] at ih ⊢ <;> omega
  rw [canon_four, List.length_append, List.length_append, List.length_append]
  exact key l
theorem canon_cut {l : List Ace} {x : Ace} {j : Nat} (hj : j ≤ (canon l).length) (h1 : j = 0 ∨ rk (ax (canon l) (j - 1)) ≤ rk x) (h2 : ∀ a ∈ (canon l).drop j, rk x < rk a) :
    canon (l ++ [x]) = (canon l).take j ++ x :: (canon l).drop j := by
  have ht : ∀ a ∈ (canon l).take j, rk a ≤ rk x := by
    intro a ha
    rcases h1 with rfl | h1
    · simp at ha
    · obtain ⟨i, hi, rfl⟩ := List.mem_iff_getElem.1 ha
      rw [List.length_take] at hi
      rw [List.getElem_take]
      have hs := List.pairwise_iff_getElem.1 (canon_sorted l)
      rw [ax_eq _ _ (by omega)] at h1
      rcases Nat.lt_or_ge i (j - 1) with h | h
      · exact Int.le_trans (hs i (j - 1) (by omega) (by omega) h) h1
      · have : i = j - 1 := by omega
        subst this
        exact h1
  rw [canon_snoc]
  congr 1
  · conv => lhs; rw [← List.take_append_drop j (canon l)]
    rw [List.filter_append, List.filter_eq_self.2 fun a ha => by simpa using ht a ha, List.filter_eq_nil_iff.2 fun a ha => by have := h2 a ha; simp; omega, List.append_nil]
  · congr 1
    conv => lhs; rw [← List.take_append_drop j (canon l)]
    rw [List.filter_append, List.filter_eq_nil_iff.2 fun a ha => by simpa using ht a ha, List.filter_eq_self.2 fun a ha => by have := h2 a ha; simp; omega, List.nil_append]
theorem swap_list (P S : List Ace) (y x : Ace) : ax (P ++ y :: x :: S) (P.length + 1) = x ∧ ax (P ++ y :: x :: S) P.length = y ∧ ((P ++ y :: x :: S).set (P.length + 1) y).set P.length x = P ++ x :: y :: S := by
  refine ⟨?_, ?_, ?_⟩
  · simp [ax]
  · simp [ax]
  · rw [List.set_append_right _ _ (by omega), List.set_append_right _ _ (by omega)]
    simp
end L
end Go.Proofs.YtppjhccdgbheiaaGreatDoor
namespace Go.Proofs.YtppjhccdgbheiaaGreatDoor
open Go.RowKit Go.Hp
namespace L
def rkU (a : Ace) : Int := rank a.k a.f
def cmp (a b : Ace) : Int := rkU a - rkU b
theorem rkU_range (a : Ace) : 0 ≤ rkU a ∧ rkU a ≤ 3 := by
  unfold rkU rank
  split <;> split <;> simp
theorem rkU_eq {a : Ace} (h0 : 0 ≤ a.f) (h1 : a.f ≤ 31) : rkU a = rk a := rank_eq h0 h1
end L
theorem rankU_any (k f m wh : Int) (w : World) :
    Calls Tryz.prog 133 #[.agg #[.int .i64 k, .int .i64 f, .int .i64 m, .int .i64 wh]] w fun e w' => e = .returned (.int .i64 (L.rank k f)) ∧ Below w.heap.size w w' := by
  go_enter Tryz.func133, Tryz.ntmps133
  go_wp2
  all_goals (go_ret; exact ⟨by simp_all [L.rank, L.band], by (focus (repeat (first | exact Below.refl _ _ | (refine Below.alloc ?_ (by (omega)) _))))⟩)
theorem byRank_any (a b : L.Ace) (w : World) :
    Calls Tryz.prog 111 #[.agg #[.int .i64 a.k, .int .i64 a.f, .int .i64 a.m, .int .i64 a.w], .agg #[.int .i64 b.k, .int .i64 b.f, .int .i64 b.m, .int .i64 b.w]] w fun e w' => e = .returned (.int .i64 (L.cmp a b)) ∧ Below w.heap.size w w' := by
  have st := St.start w
  have r1 := L.rkU_range a
  have r2 := L.rkU_range b
  have hw : IntKind.i64.wrap (L.rank a.k a.f - L.rank b.k b.f) = L.cmp a b := by
    unfold L.cmp
    unfold L.rkU at r1 r2 ⊢
    exact wrap_id (by omega) (by omega)
  clear r1 r2
  have HW := Lib.hid hw
  clear hw
  go_enter Tryz.func111, Tryz.ntmps111
  go_wp2_with (refine WL.out ?_; (repeat ((refine WL.op ?_ ?_; (exact rfl); intro K hK; (first | ((((with_reducible apply ow_assign); exact rfl)); (go_simp <;> (try simp (disch := omega) only [wrap_id, sub_left, zac]) <;> rfl)) | ((((with_reducible apply ow_box st); exact rfl; (go_simp <;> (try simp (disch := omega) only [wrap_id, sub_left, zac]) <;> rfl); (go_simp <;> (try simp (disch := omega) only [wrap_id, sub_left, zac]) <;> rfl))); (try clear st); intro b w' st)); refine WL.next hK (by simp only [Act.put, zpt, zsz, zss]; exact rfl) ?_; clear hK K))); (try refine WL.nil ?_))
  refine wp_region_plan 4 (by kernel_rfl) (by kernel_rfl) ?_; replace st := st.drew; generalize World.drew _ = W at st ⊢
  (apply Plan.val'; (focus (intro x0 x1 x2 x3 w1 hb; (try simp only [depF, fillA, Act.put, zta, ztz, zpt, zsz, zss, zl0, zls]); (repeat (fail)); have st := st.call hb; ((apply Yphi.loadN st; exact rfl; exact inferInstance; (exact rfl); exact rfl; (exact get1); ((try simp only [zta, ztz, zda, zdz, zca, zcn, zan, zsz, zss]) <;> exact rfl); exact rfl)))); (simp only [zca, zcn] <;> exact rfl))
  (apply Plan.val'; (focus (intro x0 x1 x2 x3 w1 hb; (try simp only [depF, fillA, Act.put, zta, ztz, zpt, zsz, zss, zl0, zls]); (repeat (rintro rfl)); have st := st.call hb; apply Yphi.call; (exact rfl); (go_simp <;> (try simp (disch := omega) only [wrap_id, sub_left, zac]) <;> rfl); exact rfl; refine (rankU_any _ _ _ _ _).mono ?_; rintro e w' ⟨rfl, hb'⟩; exact ⟨_, rfl, hb', rfl⟩)); (simp only [zca, zcn] <;> exact rfl))
  (apply Plan.val'; (focus (intro x0 x1 x2 x3 w1 hb; (try simp only [depF, fillA, Act.put, zta, ztz, zpt, zsz, zss, zl0, zls]); (repeat (fail)); have st := st.call hb; ((apply Yphi.loadN st; exact rfl; exact inferInstance; (exact rfl); exact rfl; (exact get0); ((try simp only [zta, ztz, zda, zdz, zca, zcn, zan, zsz, zss]) <;> exact rfl); exact rfl)))); (simp only [zca, zcn] <;> exact rfl))
  (apply Plan.val'; (focus (intro x0 x1 x2 x3 w1 hb; (try simp only [depF, fillA, Act.put, zta, ztz, zpt, zsz, zss, zl0, zls]); (repeat (rintro rfl)); have st := st.call hb; apply Yphi.call; (exact rfl); (go_simp <;> (try simp (disch := omega) only [wrap_id, sub_left, zac]) <;> rfl); exact rfl; refine (rankU_any _ _ _ _ _).mono ?_; rintro e w' ⟨rfl, hb'⟩; exact ⟨_, rfl, hb', rfl⟩)); (simp only [zca, zcn] <;> exact rfl))
  intro x0 x1 x2 x3 lo hi w1 hb hap
  rintro rfl rfl rfl rfl
  simp only [allPhi, fillA, Act.put, zta, ztz, zpt, zsz, zss, zda, zdz]
  have st := st.call hb
  clear hap hb
  go_wp2_with (refine WL.out ?_; (repeat ((refine WL.op ?_ ?_; (exact rfl); intro K hK; (first | ((((with_reducible apply ow_assign); exact rfl)); (go_simp <;> (try simp (disch := omega) only [wrap_id, sub_left, zac]) <;> rfl)) | ((with_reducible apply ow_eval); (go_simp <;> (try simp (disch := omega) only [wrap_id, sub_left, zac]) <;> rfl); ((with_reducible apply up_value)))); refine WL.next hK (by simp only [Act.put, zpt, zsz, zss]; exact rfl) ?_; clear hK K))); (try refine WL.nil ?_))
  go_ret
  exact ⟨ret_int HW.out, st.below⟩
end Go.Proofs.YtppjhccdgbheiaaGreatDoor
namespace Go.Hp
open Go.RowKit
section
variable {P : Program} {Q : Exit → Act → World → Prop} {a : Act} {w wA wB : World} {l : List Oper} {n s : Nat} {X : List Value}
def YX (P : Program) (ops : Array Oper) (o : Oper) (a : Act) (w : World) (x : Value) : Prop :=
  (Region.wanted o (yielded ops a.tmps) = true ∧ o.wp P a w (fun a' w' => a' = a.put o.dst x ∧ w' = w) (fun _ _ _ => False)) ∨ (Region.wanted o (yielded ops a.tmps) = false ∧ x = undef)
def YS (P : Program) (ops : Array Oper) (o : Oper) (a : Act) (w w' : World) : Prop :=
  Region.wanted o (yielded ops a.tmps) = true ∧ o.wp P a w (fun a' w1 => a' = a.put o.dst undef ∧ w1 = w') (fun _ _ _ => False)
structure LateInv (l : List Oper) (n s : Nat) (X : List Value) (a : Act) (wA wB : World) (listed : Array Bool) (a' : Act) (w1 : World) : Prop where
  inv : HeadInv .any l.toArray n listed
  ex : ∃ xs : List Value, xs.length = n ∧ a' = fillA (l.take n) xs a ∧ ∀ k, k < n → listed.getD k false = true → xs.getD k undef = X.getD k undef
  world : w1 = if listed.getD s false then wB else wA
theorem list_eq_of_getD {xs ys : List Value} (h : xs.length = ys.length) (h2 : ∀ k, k < xs.length → xs.getD k undef = ys.getD k undef) : xs = ys := by
  apply List.ext_getElem h
  intro k h1 h3
  have := h2 k h1
  simpa [List.getD, h1, h3] using this
theorem wpAny_late (hB : phiB l n = true) (hX : X.length = n) (hs : s < n) (hXs : X.getD s undef = undef)
    (step : ∀ i o, i < n → i ≠ s → l[i]? = some o → ∀ xs : List Value, xs.length = n → (∀ k, k < n → Region.waitsFor .any l.toArray i k = true → xs.getD k undef = X.getD k undef) →
      YX P l.toArray o (fillA (l.take n) xs a) wA (X.getD i undef) ∧ (Region.waitsFor .any l.toArray s i = false → YX P l.toArray o (fillA (l.take n) xs a) wB (X.getD i undef)))
    (store : ∀ o, l[s]? = some o → ∀ xs : List Value, xs.length = n → (∀ k, k < n → Region.waitsFor .any l.toArray s k = true → xs.getD k undef = X.getD k undef) → YS P l.toArray o (fillA (l.take n) xs a) wA wB)
    (fin : wpList P l.toArray Q (l.drop n) (fillA (l.take n) X a) wB) :
    ∀ (f : Nat) (listed : Array Bool) (a' : Act) (w1 : World), LateInv l n s X a wA wB listed a' w1 → ((List.range n).filter fun k => !listed.getD k false).length = f → wpAny P .any l.toArray Q (f + (l.length - n)) listed a' w1 := by
  simp only [phiB, Bool.and_eq_true, decide_eq_true_eq, Bool.or_eq_true] at hB
  obtain ⟨⟨⟨⟨hdist, hn⟩, hback⟩, htail⟩, hseq⟩ := hB
  have htl : (l.take n).length = n := by simp; omega
  intro f
  induction f with
  | zero =>
    intro listed a' w1 hI hf
    have hall : ∀ k, k < n → listed.getD k false = true := by
      intro k hk
      cases hl : listed.getD k false with
      | true => rfl
      | false =>
        have : k ∈ (List.range n).filter fun k => !listed.getD k false := List.mem_filter.2 ⟨List.mem_range.2 hk, by simp [hl]⟩
        rw [List.length_eq_zero_iff.1 hf] at this
        cases this
    have hls : listed = headListed n l.length := by
      have hsz := hI.inv.size
      simp only [List.size_toArray] at hsz
      apply Array.ext
      · simp [headListed, hsz]
      · intro k h1 h2
        have hk : k < l.length := by omega
        simp only [headListed, List.getElem_toArray, List.getElem_map, List.getElem_range]
        by_cases hkn : k < n
        · have := hall k hkn
          simp [h1] at this
          simp [this, hkn]
        · have := hI.inv.tail k (by omega) (by simpa using hk)
          simp [h1] at this
          simp [this, hkn]
    obtain ⟨xs, hlen, rfl, h1⟩ := hI.ex
    have hw := hI.world
    rw [hall s hs, if_pos rfl] at hw
    subst hw
    obtain rfl : xs = X := list_eq_of_getD (by rw [hlen, hX]) (fun k hk => h1 k (by omega) (hall k (by omega)))
    rw [Nat.zero_add, hls]
    have hdl : (l.drop n).length = l.length - n := by simp
    rw [← hdl]
    exact wpAny_of_seq (l.drop n) n _ _ _ (fun j => by simp [List.getElem?_drop]) (by rw [hdl]; exact hseq) fin
  | succ f ih =>
    intro listed a' w1 hI hf
    have hex : ∃ k, k < n ∧ listed.getD k false = false := by
      cases hfl : (List.range n).filter fun k => !listed.getD k false with
      | nil => rw [hfl] at hf; simp at hf
      | cons k r =>
        have hm : k ∈ (List.range n).filter fun k => !listed.getD k false := by rw [hfl]; exact List.mem_cons_self ..
        obtain ⟨hk1, hk2⟩ := List.mem_filter.1 hm
        exact ⟨k, List.mem_range.1 hk1, by simpa using hk2⟩
    have hsz : listed.size = l.length := by have := hI.inv.size; simpa using this
    have hready : Region.ready .any l.toArray listed ≠ [] := by
      obtain ⟨k, hk⟩ := hex
      induction k using Nat.strongRecOn with
      | _ k ihk =>
        obtain ⟨hkn, hkl⟩ := hk
        by_cases hsm : ∃ j, j < k ∧ listed.getD j false = false
        · obtain ⟨j, hj, hjl⟩ := hsm
          exact ihk j hj ⟨by omega, hjl⟩
        · intro h0
          have hmem : k ∈ Region.ready .any l.toArray listed := by
            have hklt : k < l.length := by omega
            refine mem_ready.2 ⟨getD_in (by omega) hkl, l[k], by simp [hklt], fun e he hb => ?_⟩
            have := List.all_eq_true.1 hback k (List.mem_range.2 hkn)
            simp only [List.getElem?_toArray, List.getElem?_eq_getElem hklt] at this
            have := Array.all_eq_true_iff_forall_mem.1 this e he
            simp only [hb, Bool.not_true, Bool.false_or, decide_eq_true_eq] at this
            cases hle : listed.getD e.on false with
            | true => rfl
            | false => exact absurd ⟨e.on, this, hle⟩ hsm
          rw [h0] at hmem
          cases hmem
    rw [show f + 1 + (l.length - n) = (f + (l.length - n)) + 1 by omega]
    refine ⟨fun h0 => absurd h0 hready, fun i hi => ?_⟩
    have hin : i < n := by
      rcases Nat.lt_or_ge i n with h | h
      · exact h
      · exfalso
        rcases htail with ht | ht
        · obtain ⟨_, o, ho, _⟩ := mem_ready.1 hi
          have := (Array.getElem?_eq_some_iff.1 ho).1
          simp at this
          omega
        · obtain ⟨k, hkn, hkl⟩ := hex
          obtain ⟨_, o, ho, _⟩ := mem_ready.1 hi
          have := (Array.getElem?_eq_some_iff.1 ho).1
          simp at this
          exact tail_waits ht.1 ht.2 (by simp; omega) hI.inv _ k rfl hkn (getD_in (by omega) hkl) i h hi
    obtain ⟨hun, o, ho, hdeps⟩ := mem_ready.1 hi
    have ho' : l[i]? = some o := by simpa using ho
    obtain ⟨xs, hlen, rfl, h1⟩ := hI.ex
    have hdep : ∀ k, k < n → Region.waitsFor .any l.toArray i k = true → xs.getD k undef = X.getD k undef := fun k hk hwt => by
      obtain ⟨o2, ho2, e, he, hb, hon⟩ := Region.waitsFor_spec hwt
      have : o2 = o := Option.some.inj (ho2.symm.trans ho)
      subst this
      have hlk := hdeps e he hb
      rw [hon] at hlk
      exact h1 k hk hlk
    have hnext : ∀ v w2, v = X.getD i undef → w2 = (if (listed.setIfInBounds i true).getD s false then wB else wA) → LateInv l n s X a wA wB (listed.setIfInBounds i true) ((fillA (l.take n) xs a).put o.dst v) w2 := by
      intro v w2 hv hw2
      refine ⟨hI.inv.set hi hin, ⟨xs.set i v, by simpa using hlen, ?_, ?_⟩, hw2⟩
      · exact fillA_put (l.take n) xs a i o v hdist (by rw [List.getElem?_take, if_pos hin]; exact ho') (by rw [hlen, htl])
      · intro k hk hlk
        by_cases hki : k = i
        · subst hki
          have : (xs.set k v).getD k undef = v := by simp [List.getD, hlen, hin]
          rw [this]; exact hv
        · rw [getD_set_ne false (Ne.symm hki)] at hlk
          have : (xs.set i v).getD k undef = xs.getD k undef := by simp [List.getD, List.getElem?_set_ne (Ne.symm hki)]
          rw [this]
          exact h1 k hk hlk
    have hcount : ((List.range n).filter fun k => !(listed.setIfInBounds i true).getD k false).length = f := by
      have hlt : i < listed.size := by omega
      have e1 : ((List.range n).filter fun k => !listed.getD k false) = (List.range n).filter (fun k => decide (k = i) || !(listed.setIfInBounds i true).getD k false) := by
        apply List.filter_congr
        intro k _
        by_cases hki : k = i
        · subst hki; simp [getD_both hun]
        · rw [getD_set_ne false (Ne.symm hki)]; simp [hki]
      rw [e1] at hf
      have hnd : (List.range n).Nodup := List.nodup_range
      have e2 : ∀ (m : List Nat), m.Nodup → i ∈ m → (m.filter (fun k => decide (k = i) || !(listed.setIfInBounds i true).getD k false)).length = (m.filter fun k => !(listed.setIfInBounds i true).getD k false).length + 1 := by
        intro m
        induction m with
        | nil => intro _ h; cases h
        | cons x m ihm =>
          intro hnd hm
          obtain ⟨hx, hnd⟩ := List.nodup_cons.1 hnd
          by_cases hxi : x = i
          · subst hxi
            have : (m.filter (fun k => decide (k = x) || !(listed.setIfInBounds x true).getD k false)) = m.filter fun k => !(listed.setIfInBounds x true).getD k false := by
              apply List.filter_congr
              intro k hk
              have : k ≠ x := fun h => hx (h ▸ hk)
              simp [this]
            rw [List.filter_cons, List.filter_cons, this]
            have h3 : (listed.setIfInBounds x true).getD x false = true := by simp [hlt]
            simp [h3]
          · have hm' : i ∈ m := by
              rcases List.mem_cons.1 hm with h | h
              · exact absurd h.symm hxi
              · exact h
            have := ihm hnd hm'
            rw [List.filter_cons, List.filter_cons]
            simp only [hxi, decide_false, Bool.false_or]
            split
            · simp only [List.length_cons]; omega
            · exact this
      have := e2 _ hnd (List.mem_range.2 hin)
      omega
    have hw1 := hI.world
    unfold wpOp
    simp only [ho]
    by_cases his : i = s
    · subst his
      obtain ⟨hw, hy⟩ := store o ho' xs hlen hdep
      rw [getD_both hun] at hw1
      simp only [Bool.false_eq_true, if_false] at hw1
      subst hw1
      rw [if_pos hw]
      refine .inl (wp_strong (fun a2 w2 ⟨e1, e2⟩ => ?_) hy)
      subst e1; subst e2
      exact ih _ _ _ (hnext undef _ hXs.symm (by
        have h3 : (listed.setIfInBounds i true).getD i false = true := by simp [show i < listed.size by omega]
        rw [h3]; rfl)) hcount
    · have hsl : (listed.setIfInBounds i true).getD s false = listed.getD s false := getD_set_ne false his
      have hy : YX P l.toArray o (fillA (l.take n) xs a) w1 (X.getD i undef) := by
        obtain ⟨y1, y2⟩ := step i o hin his ho' xs hlen hdep
        cases hb : listed.getD s false with
        | false =>
          rw [hb] at hw1
          rw [hw1]; exact y1
        | true =>
          rw [hb] at hw1
          rw [hw1]
          refine y2 ?_
          cases hws : Region.waitsFor .any l.toArray s i with
          | false => rfl
          | true =>
            obtain ⟨o2, ho2, e, he, hbd, hon⟩ := Region.waitsFor_spec hws
            have := hI.inv.closed s o2 ho2 hb e he hbd
            rw [hon, getD_both hun] at this
            cases this
      rcases hy with ⟨hw, hy⟩ | ⟨hw, hy⟩
      · rw [if_pos hw]
        refine .inl (wp_strong (fun a2 w2 ⟨e1, e2⟩ => ?_) hy)
        subst e1; subst e2
        exact ih _ _ _ (hnext _ _ rfl (by rw [hsl]; exact hw1)) hcount
      · rw [hw]
        simp only [Bool.false_eq_true, if_false]
        exact ih _ _ _ (hnext undef w1 hy.symm (by rw [hsl]; exact hw1)) hcount
def depL (X : List Value) (xs : List Value) (G : Prop) : List Edge → Prop
  | [] => G
  | e :: es => match Region.binds .any e with
    | true => (xs.getD e.on undef = X.getD e.on undef) → depL X xs G es
    | false => depL X xs G es
theorem depL_spec {X xs : List Value} {G : Prop} : ∀ es : List Edge, depL X xs G es → (∀ e ∈ es, Region.binds .any e = true → xs.getD e.on undef = X.getD e.on undef) → G
  | [], h, _ => h
  | e :: es, h, hd => by
    have ht := fun h' => depL_spec (X := X) (xs := xs) (G := G) es h' (fun e' he' => hd e' (List.mem_cons_of_mem _ he'))
    unfold depL at h
    split at h
    · rename_i hb
      exact ht (h (hd e (List.mem_cons_self ..) hb))
    · exact ht h
def ob (l : List Oper) (n : Nat) (a : Act) (i : Nat) (X : List Value) (F : Oper → Act → Prop) : Prop :=
  match l[i]? with
  | some o => allV n fun xs => depL X xs (F o (fillA (l.take n) xs a)) o.after.toList
  | none => False
theorem allV_mono {F G : List Value → Prop} (h : ∀ xs, F xs → G xs) : ∀ {n : Nat} {F G : List Value → Prop}, (∀ xs, F xs → G xs) → allV n F → allV n G
  | 0, _, _, h, hf => h _ hf
  | _ + 1, _, _, h, hf => fun x => allV_mono (F := F) (G := G) ‹_› (fun xs => h (x :: xs)) (hf x)
theorem depL_mono {X xs : List Value} {F G : Prop} (h : F → G) : ∀ es : List Edge, depL X xs F es → depL X xs G es
  | [], hf => h hf
  | e :: es, hf => by
    unfold depL at hf ⊢
    split
    · rename_i hb; rw [hb] at hf; exact fun h' => depL_mono h es (hf h')
    · rename_i hb; rw [hb] at hf; exact depL_mono h es hf
theorem ob_mono {i : Nat} {F G : Oper → Act → Prop} (h : ∀ o a, F o a → G o a) (hf : ob l n a i X F) : ob l n a i X G := by
  unfold ob at hf ⊢
  split
  · rename_i o ho
    rw [ho] at hf
    exact allV_mono (F := fun _ => True) (G := fun _ => True) (fun _ h => h) (fun xs h' => depL_mono (h _ _) _ h') hf
  · rename_i ho; rw [ho] at hf; exact hf
def lateOb (P : Program) (l : List Oper) (n s : Nat) (a : Act) (wA wB : World) (i : Nat) (X : List Value) (x : Value) : Prop :=
  ob l n a i X fun o a => match decide (i = s), Region.waitsFor .any l.toArray s i with
    | true, _ => YS P l.toArray o a wA wB ∧ x = undef
    | false, true => YX P l.toArray o a wA x
    | false, false => YX P l.toArray o a wA x ∧ YX P l.toArray o a wB x
def Late (P : Program) (l : List Oper) (n s : Nat) (a : Act) (wA wB : World) (Q : Exit → Act → World → Prop) : Nat → List Value → Prop
  | 0, X => wpList P l.toArray Q (l.drop n) (fillA (l.take n) X a) wB
  | r + 1, X => ∃ x, lateOb P l n s a wA wB X.length X x ∧ Late P l n s a wA wB Q r (X ++ [x])
theorem Late.cons {r : Nat} {X X' : List Value} {x : Value} (h : lateOb P l n s a wA wB X.length X x) (hX : X ++ [x] = X') (h' : Late P l n s a wA wB Q r X') : Late P l n s a wA wB Q (r + 1) X := ⟨x, h, hX ▸ h'⟩
theorem Late.free {r : Nat} {X X' : List Value} {x : Value} (his : decide (X.length = s) = false) (h : ob l n a X.length X fun o a => ∀ w, YX P l.toArray o a w x) (hX : X ++ [x] = X') (h' : Late P l n s a wA wB Q r X') : Late P l n s a wA wB Q (r + 1) X :=
  Late.cons (ob_mono (fun o a hy => by rw [his]; split <;> first | exact ⟨hy _, hy _⟩ | exact hy _ | simp_all) h) hX h'
theorem Late.pre {r : Nat} {X X' : List Value} {x : Value} (his : decide (X.length = s) = false) (hw : Region.waitsFor .any l.toArray s X.length = true) (h : ob l n a X.length X fun o a => YX P l.toArray o a wA x) (hX : X ++ [x] = X') (h' : Late P l n s a wA wB Q r X') : Late P l n s a wA wB Q (r + 1) X :=
  Late.cons (ob_mono (fun o a hy => by rw [his, hw]; exact hy) h) hX h'
theorem Late.store {r : Nat} {X X' : List Value} (his : decide (X.length = s) = true) (h : ob l n a X.length X fun o a => YS P l.toArray o a wA wB) (hX : X ++ [undef] = X') (h' : Late P l n s a wA wB Q r X') : Late P l n s a wA wB Q (r + 1) X :=
  Late.cons (ob_mono (fun o a hy => by rw [his]; exact ⟨hy, rfl⟩) h) hX h'
theorem Late.fin (h : wpList P l.toArray Q (l.drop n) (fillA (l.take n) X a) wB) : Late P l n s a wA wB Q 0 X := h
theorem Late.all : ∀ (r : Nat) (X : List Value), Late P l n s a wA wB Q r X → (∀ i x, X[i]? = some x → lateOb P l n s a wA wB i (X.take i) x) →
    ∃ Y : List Value, Y.length = X.length + r ∧ (∀ i x, Y[i]? = some x → lateOb P l n s a wA wB i (Y.take i) x) ∧ wpList P l.toArray Q (l.drop n) (fillA (l.take n) Y a) wB
  | 0, X, h, h2 => ⟨X, rfl, h2, h⟩
  | r + 1, X, ⟨k, hs, h⟩, h2 => by
    obtain ⟨Y, a1, a3, a4⟩ := Late.all r (X ++ [k]) h (fun i x hx => by
      rcases Nat.lt_or_ge i X.length with hi | hi
      · rw [List.getElem?_append_left hi] at hx
        rw [List.take_append_of_le_length (by omega)]
        exact h2 i x hx
      · rw [List.getElem?_append_right hi] at hx
        have hi0 : i - X.length = 0 := by
          rcases Nat.eq_zero_or_pos (i - X.length) with h0 | h0
          · exact h0
          · rw [List.getElem?_eq_none (by simp; omega)] at hx; cases hx
        rw [hi0] at hx
        simp only [List.getElem?_cons_zero, Option.some.injEq] at hx
        have : i = X.length := by omega
        subst this
        rw [List.take_append_of_le_length (Nat.le_refl _), List.take_length, ← hx]
        exact hs)
    exact ⟨Y, by rw [a1]; simp; omega, a3, a4⟩
theorem getD_take {Y : List Value} {i k : Nat} (h : k < i) : (Y.take i).getD k undef = Y.getD k undef := by
  simp [List.getD, List.getElem?_take, h]
theorem wp_region_late {id : Nat} (n s : Nat) {wB : World} (hm : P.follows .mixedOrders = true) (hB : phiB l n = true) (hs : s < n) (h : Late P l n s a w.drew wB Q n []) : (Code.region id l.toArray true).wp P Q a w := by
  obtain ⟨X, hlen, hstep, hfin⟩ := Late.all n [] h (fun i k hk => by simp at hk)
  simp only [List.length_nil, Nat.zero_add] at hlen
  have hB' := hB
  simp only [phiB, Bool.and_eq_true, decide_eq_true_eq, Bool.or_eq_true] at hB'
  obtain ⟨⟨⟨⟨_, hn⟩, hback⟩, _⟩, _⟩ := hB'
  refine wp_region_any hm ?_
  have hback' : ∀ i o, i < n → l[i]? = some o → ∀ e ∈ o.after.toList, Region.binds .any e = true → e.on < i := fun i o hi ho e he hbind => by
    have := List.all_eq_true.1 hback i (List.mem_range.2 hi)
    simp only [List.getElem?_toArray, ho] at this
    have := Array.all_eq_true_iff_forall_mem.1 this e (by simpa using he)
    simpa [hbind] using this
  have hwait : ∀ i o, l[i]? = some o → ∀ e ∈ o.after.toList, Region.binds .any e = true → Region.waitsFor .any l.toArray i e.on = true := fun i o ho e he hbind => by
    unfold Region.waitsFor
    simp only [List.getElem?_toArray, ho]
    exact Array.any_eq_true'.2 ⟨e, by simpa using he, by simp [hbind]⟩
  have hget : ∀ i, i < n → X[i]? = some (X.getD i undef) := fun i hi => by
    rw [List.getElem?_eq_getElem (by omega)]; simp [List.getD, show i < X.length by omega]
  have main := wpAny_late (P := P) (Q := Q) (a := a) (wA := w.drew) (wB := wB) (l := l) (n := n) (s := s) (X := X) hB hlen hs
    (by
      have h1 := hstep s _ (hget s hs)
      unfold lateOb ob at h1
      split at h1
      · rename_i o ho
        have := allV_spec n _ h1 X hlen
        have := depL_spec _ this (fun e he hb => by rw [getD_take (hback' s o hs ho e he hb)])
        simp only [decide_true] at this
        exact this.2
      · exact h1.elim)
    (fun i o hi his ho xs hxs hd => by
      have h1 := hstep i _ (hget i hi)
      unfold lateOb ob at h1
      rw [ho] at h1
      have := depL_spec _ (allV_spec n _ h1 xs hxs) (fun e he hb => by
        have hlt := hback' i o hi ho e he hb
        rw [getD_take hlt]
        exact hd e.on (by omega) (hwait i o ho e he hb))
      simp only [his, decide_false] at this
      cases hw : Region.waitsFor .any l.toArray s i with
      | true => rw [hw] at this; exact ⟨this, fun h => by cases h⟩
      | false => rw [hw] at this; exact ⟨this.1, fun _ => this.2⟩)
    (fun o ho xs hxs hd => by
      have h1 := hstep s _ (hget s hs)
      unfold lateOb ob at h1
      rw [ho] at h1
      have := depL_spec _ (allV_spec n _ h1 xs hxs) (fun e he hb => by
        have hlt := hback' s o hs ho e he hb
        rw [getD_take hlt]
        exact hd e.on (by omega) (hwait s o ho e he hb))
      simp only [decide_true] at this
      exact this.1)
    hfin
    n (Array.replicate l.length false) a w.drew
    ⟨⟨by simp, fun j oj _ hl => (by rw [getD_replicate_false] at hl; cases hl), fun t _ ht => getD_in (by simpa using ht) (getD_replicate_false _ _)⟩,
      ⟨(l.take n).map (fun o => match o.dst with | some d => a.tmps.getD d undef | none => undef), by simp; omega, (fillA_self _ a).symm, fun k _ hl => (by rw [getD_replicate_false] at hl; cases hl)⟩,
      by rw [getD_replicate_false]; rfl⟩
    (by
      have : ((List.range n).filter fun k => !(Array.replicate l.length false).getD k false) = List.range n := List.filter_eq_self.2 (fun k _ => by rw [getD_replicate_false]; rfl)
      rw [this]; simp)
  have hsz : l.toArray.size = n + (l.length - n) := by simp; omega
  rw [hsz, show n + (l.length - n) = l.length by omega]
  rw [show n + (l.length - n) = l.length by omega] at main
  exact main
theorem wp_region_late_st {id : Nat} {w0 : World} {rs : List Res} (n s b : Nat) (cs : List Value) (st : St w0 w rs) (hm : P.follows .mixedOrders = true) (hB : phiB l n = true) (hs : s < n) (h : ∀ W, St w0 W rs → Late P l n s a W (W.setRow b cs.toArray) Q n []) : (Code.region id l.toArray true).wp P Q a w :=
  wp_region_late n s hm hB hs (h _ st.drew)
section
variable {ops : Array Oper} {o : Oper} {w0 : World} {rs : List Res}
theorem YX.run {v : Value} {r : Result Next} (hw : Region.wanted o (yielded ops a.tmps) = true) (hr : (execOp a.eval o).run P w = r) (hv : r = .ok (.value v) w) : YX P ops o a w v :=
  .inl ⟨hw, wp_value (hr.trans hv) ⟨rfl, rfl⟩⟩
theorem YX.both {v : Value} (h : ∀ w, YX P ops o a w v) : YX P ops o a wA v ∧ YX P ops o a wB v := ⟨h _, h _⟩
theorem YX.skip (hw : Region.wanted o (yielded ops a.tmps) = false) : YX P ops o a w undef := .inr ⟨hw, rfl⟩
theorem YX.load1 {t : TypeId} {x : Operand} {i b p : Nat} {bt : TypeId} {cs : List Value} {v : Value} (st : St w0 w rs) (ho : o.op = .load t x) (hT : OneT P t) (hw : Region.wanted o (yielded ops a.tmps) = true) (hx : a.eval x = .pointer (some ⟨b, p, none⟩)) (hi : rs[i]? = some (.box b bt cs)) (hv : cs[p]? = some v) : YX P ops o a w v :=
  .inl ⟨hw, wp_load1 st ho hT hx hi hv ⟨rfl, rfl⟩⟩
theorem YX.loadN {t n : Nat} {x : Operand} {i b p : Nat} {bt : TypeId} {cs vs : List Value} (st : St w0 w rs) (ho : o.op = .load t x) (hT : AggT P t n) (hw : Region.wanted o (yielded ops a.tmps) = true) (hx : a.eval x = .pointer (some ⟨b, p, none⟩)) (hi : rs[i]? = some (.box b bt cs)) (hv : (cs.drop p).take n = vs) (hn : vs.length = n) : YX P ops o a w (.agg vs.toArray) :=
  .inl ⟨hw, wp_loadN st ho hT hx hi hv hn ⟨rfl, rfl⟩⟩
theorem YS.storeN {t n : Nat} {x y : Operand} {i b p : Nat} {bt : TypeId} {cs vs : List Value} (st : St w0 w rs) (ho : o.op = .store t x y) (hT : AggT P t n) (hw : Region.wanted o (yielded ops a.tmps) = true) (hx : a.eval x = .pointer (some ⟨b, p, none⟩)) (hi : rs[i]? = some (.box b bt cs)) (hy : a.eval y = .agg vs.toArray) (hn : vs.length = n) (h1 : vs.all (·.oneCell') = true) (hp : p + n ≤ cs.length) :
    YS P ops o a w (w.setRow b (cs.take p ++ vs ++ cs.drop (p + n)).toArray) := by
  refine ⟨hw, wp_skip_ (w' := w.setRow b (cs.take p ++ vs ++ cs.drop (p + n)).toArray) ?_ ⟨rfl, rfl⟩⟩
  have := run_storeAt (P := P) (t := t) (o := p) (v := .agg vs.toArray) (vs := vs) hT.size (by simp [Value.cells]) hn (fun u hu => List.all_eq_true.1 h1 u hu) (st.blk hi) hp
  simp [execOp, ho, hx, hy, this]
end
end
end Go.Hp
namespace Go.Proofs.YtppjhccdgbheiaaGreatDoor
open Go.RowKit Go.Hp
namespace L
def Outer (l : List Ace) (a i : Nat) (M : List Ace) : Prop := M.length = l.length ∧ (a = 0 → FOk l → M = canon (l.take i) ++ l.drop i)
def Inner (l : List Ace) (a i j : Nat) (M : List Ace) : Prop := M.length = l.length ∧ (a = 0 → FOk l → M = (canon (l.take i)).take j ++ ax l i :: ((canon (l.take i)).drop j ++ l.drop (i + 1)) ∧ ∀ x ∈ (canon (l.take i)).drop j, rk (ax l i) < rk x)
theorem canon_one (l : List Ace) (h : l.length ≤ 1) : canon l = l := by
  match l, h with
  | [], _ => rfl
  | [a], _ =>
    rw [canon_four]
    rcases rk_range a with h | h | h | h <;> simp [F, h]
theorem take_canon_len {l : List Ace} {i : Nat} (h : i ≤ l.length) : (canon (l.take i)).length = i := by rw [canon_length, List.length_take]; omega
theorem outer_start (l : List Ace) (a : Nat) (_ : 0 < l.length) : Outer l a (a + 1) l := ⟨rfl, fun h0 _ => by subst h0; rw [canon_one _ (by rw [List.length_take]; omega), List.take_append_drop]⟩
theorem inner_start {l M : List Ace} {a i : Nat} (h : Outer l a i M) (hi : i < l.length) : Inner l a i i M := ⟨h.1, fun h0 hf => by
  have h1 := take_canon_len (l := l) (i := i) (by omega)
  rw [h.2 h0 hf, List.take_of_length_le (l := canon (l.take i)) (by omega), List.drop_of_length_le (l := canon (l.take i)) (by omega), drop_ax l i hi]
  exact ⟨rfl, fun x hx => by cases hx⟩⟩
theorem inner_step {l M : List Ace} {a i q : Nat} (h : Inner l a i (q + 1) M) (hi : i < l.length) (hq : q + 1 ≤ i) (hc : cmp (ax M (q + 1)) (ax M q) < 0) : Inner l a i q ((M.set (q + 1) (ax M q)).set q (ax M (q + 1))) := ⟨by rw [List.length_set, List.length_set]; exact h.1, fun h0 hf => by
  obtain ⟨h1, h2⟩ := h.2 h0 hf
  have hl := take_canon_len (l := l) (i := i) (by omega)
  generalize hC : canon (l.take i) = C at *
  have e1 : C.take (q + 1) = C.take q ++ [ax C q] := take_succ_ax C q (by omega)
  have e2 : C.drop q = ax C q :: C.drop (q + 1) := drop_ax C q (by omega)
  have hpl : (C.take q).length = q := by rw [List.length_take]; omega
  have h3 : M = C.take q ++ ax C q :: ax l i :: (C.drop (q + 1) ++ l.drop (i + 1)) := by rw [h1, e1]; simp
  obtain ⟨s1, s2, s3⟩ := swap_list (C.take q) (C.drop (q + 1) ++ l.drop (i + 1)) (ax C q) (ax l i)
  rw [hpl] at s1 s2 s3
  rw [h3, s1, s2, s3]
  rw [h3, s1, s2] at hc
  have hm : ∀ x ∈ C, 0 ≤ x.f ∧ x.f ≤ 31 := fun x hx => hf x (List.mem_of_mem_take (canon_mem.1 (by rw [hC]; exact hx)))
  have g1 := hf (ax l i) (by rw [ax_eq l i hi]; exact List.getElem_mem _)
  have g2 := hm (ax C q) (by rw [ax_eq C q (by omega)]; exact List.getElem_mem _)
  unfold cmp at hc
  rw [rkU_eq g1.1 g1.2, rkU_eq g2.1 g2.2] at hc
  refine ⟨by rw [e2]; rfl, fun x hx => ?_⟩
  rw [e2] at hx
  rcases List.mem_cons.1 hx with rfl | hx
  · omega
  · exact h2 x hx⟩
theorem inner_end {l M : List Ace} {a i j : Nat} (h : Inner l a i j M) (hi : i < l.length) (hj : j ≤ i) (hc : j = a ∨ ∃ q, j = q + 1 ∧ ¬ cmp (ax M (q + 1)) (ax M q) < 0) : Outer l a (i + 1) M := ⟨h.1, fun h0 hf => by
  obtain ⟨h1, h2⟩ := h.2 h0 hf
  have hl := take_canon_len (l := l) (i := i) (by omega)
  have hcut := canon_cut (l := l.take i) (x := ax l i) (j := j) (by omega) (by
    rcases hc with rfl | ⟨q, rfl, hc⟩
    · exact .inl h0
    · refine .inr ?_
      rw [Nat.add_sub_cancel]
      generalize hC : canon (l.take i) = C at *
      have e1 : C.take (q + 1) = C.take q ++ [ax C q] := take_succ_ax C q (by omega)
      have hpl : (C.take q).length = q := by rw [List.length_take]; omega
      have h3 : M = C.take q ++ ax C q :: ax l i :: (C.drop (q + 1) ++ l.drop (i + 1)) := by rw [h1, e1]; simp
      obtain ⟨s1, s2, s3⟩ := swap_list (C.take q) (C.drop (q + 1) ++ l.drop (i + 1)) (ax C q) (ax l i)
      rw [hpl] at s1 s2
      rw [h3, s1, s2] at hc
      have hm : ∀ x ∈ C, 0 ≤ x.f ∧ x.f ≤ 31 := fun x hx => hf x (List.mem_of_mem_take (canon_mem.1 (by rw [hC]; exact hx)))
      have g1 := hf (ax l i) (by rw [ax_eq l i hi]; exact List.getElem_mem _)
      have g2 := hm (ax C q) (by rw [ax_eq C q (by omega)]; exact List.getElem_mem _)
      unfold cmp at hc
      rw [rkU_eq g1.1 g1.2, rkU_eq g2.1 g2.2] at hc
      omega) h2
  rw [take_succ_ax l i hi, hcut, h1]; simp⟩
theorem outer_end {l M : List Ace} {a i : Nat} (h : Outer l a i M) (hi : l.length ≤ i) : M.length = l.length ∧ (a = 0 → FOk l → M = canon l) := ⟨h.1, fun h0 hf => by rw [h.2 h0 hf, List.take_of_length_le hi, List.drop_of_length_le hi, List.append_nil]⟩
end L
set_option maxHeartbeats 4000000 in
theorem insertionSort_any {w0 : World} {rs : List Res} (g n c a b : Nat) (l : List L.Ace) (R : List Value) (w : World) (st : St w0 w (.box g 37 (L.cellsOf l ++ R) :: rs)) (hl : l.length = n) (ha : a ≤ n) (hb : b ≤ n) (hc : n ≤ c) (hn : n ≤ 1000) (h0 : 0 < n) :
    Calls Tryz.prog 162 #[.slice (some ⟨g, 0, none⟩) n c, .int .i64 a, .int .i64 b, .func (.func 111) #[] #[]] w fun e w' => ∃ M, e = .returned (.tuple #[]) ∧ St w0 w' (.box g 37 (L.cellsOf M ++ R) :: rs) ∧ M.length = n ∧ (a = 0 → b = n → L.FOk l → M = L.canon l) ∧ (b ≤ a + 1 → M = l) := by
  have HL := Lib.hid hl
  have hst := Lib.hid (L.outer_start l a (by omega))
  clear hl
  go_enter Tryz.func162, Tryz.ntmps162
  go_wp2_with (refine WL.out ?_; (repeat ((refine WL.op ?_ ?_; (exact rfl); intro K hK; (first | ((((with_reducible apply ow_assign); exact rfl)); (go_simp <;> (try simp (disch := omega) only [wrap_id, sub_left, zac]) <;> rfl)) | ((with_reducible apply ow_eval); (go_simp <;> (try simp (disch := omega) only [wrap_id, sub_left, zac]) <;> rfl); ((with_reducible apply up_value)))); refine WL.next hK (by simp only [Act.put, zpt, zsz, zss]; exact rfl) ?_; clear hK K))); (try refine WL.nil ?_))
  go_loopw [8] (fun vi wr => ∃ (i : Nat) (M : List L.Ace), a + 1 ≤ i ∧ i ≤ 1001 ∧ vi = .int .i64 i ∧ St w0 wr (.box g 37 (L.cellsOf M ++ R) :: rs) ∧ Hid (L.Outer l a i M) ∧ Hid (b ≤ a + 1 → M = l)) (fun i _ => b - (intOf i).toNat)
  case atStart => exact ⟨a + 1, l, by omega, by omega, by go_num, st, hst, Lib.hid fun _ => rfl⟩
  case round =>
    clear st hst
    obtain ⟨i, M, hai, hi1, rfl, st, hM, hsame⟩ := hrel
    by_cases hib : i < b
    · have hin := Lib.hid (L.inner_start hM.out (by rw [HL.out]; omega))
      clear hM
      go_wp2_with (refine WL.out ?_; (repeat ((refine WL.op ?_ ?_; (exact rfl); intro K hK; (((with_reducible apply ow_eval); (go_simp <;> (try simp (disch := omega) only [wrap_id, sub_left, zac]) <;> rfl); ((with_reducible apply up_value)))); refine WL.next hK (by simp only [Act.put, zpt, zsz, zss]; exact rfl) ?_; clear hK K))); (try refine WL.nil ?_))
      go_loopw [9] (fun vj wr => ∃ (j : Nat) (M : List L.Ace), a ≤ j ∧ j ≤ i ∧ vj = .int .i64 j ∧ St w0 wr (.box g 37 (L.cellsOf M ++ R) :: rs) ∧ Hid (L.Inner l a i j M)) (fun j _ => (intOf j).toNat)
      case atStart => exact ⟨i, M, by omega, by omega, rfl, st, hin⟩
      case round =>
        clear st hin
        obtain ⟨j, M, haj, hji, rfl, st, hM⟩ := hrel
        by_cases hj : a < j
        · obtain ⟨q, rfl⟩ : ∃ q, j = q + 1 := ⟨j - 1, by omega⟩
          have hq1 : Hid (q < M.length) := Lib.hid (by rw [hM.out.1, HL.out]; omega)
          have hq2 : Hid (q + 1 < M.length) := Lib.hid (by rw [hM.out.1, HL.out]; omega)
          have hqn : q < n := by omega
          have hqn1 : q + 1 < n := by omega
          have hqi : q < i := by omega
          have hI0 : (0 : Int) ≤ (q : Int) + 1 := by omega
          have hI1 : (q : Int) + 1 < (n : Int) := by omega
          by_cases hx : L.cmp (L.ax M (q + 1)) (L.ax M q) < 0
          · have hs' := Lib.hid (L.inner_step hM.out (by rw [HL.out]; omega) (by omega) hx)
            have hx' : decide (L.cmp (L.ax M (q + 1)) (L.ax M q) < 0) = true := by simpa using hx
            go_wp2_with (refine WL.out ?_; (repeat (fail)); (try refine WL.nil ?_))
            refine wp_region_plan 17 (by kernel_rfl) (by kernel_rfl) ?_; replace st := st.drew; generalize World.drew _ = W at st ⊢
            iterate 8 (apply Plan.val'; (focus (intro x0 x1 x2 x3 x4 x5 x6 x7 x8 x9 x10 x11 x12 x13 x14 x15 x16 w1 hb; (try simp only [depF, fillA, Act.put, zta, ztz, zpt, zsz, zss, zl0, zls]); (repeat (rintro rfl)); have st := st.call hb; ((apply Yphi.run; (first | exact rfl | (simp [Region.wanted, yielded] <;> omega)); (go_simp <;> (try simp (disch := omega) only [wrap_id, sub_left, zac]) <;> rfl); exact rfl)))); (simp only [zca, zcn] <;> exact rfl))
            (apply Plan.val'; (focus (intro x0 x1 x2 x3 x4 x5 x6 x7 x8 x9 x10 x11 x12 x13 x14 x15 x16 w1 hb; (try simp only [depF, fillA, Act.put, zta, ztz, zpt, zsz, zss, zl0, zls]); (repeat (rintro rfl)); have st := st.call hb; apply Yphi.loadN st; exact rfl; exact inferInstance; ((simp [Region.wanted, yielded] <;> omega)); exact rfl; (exact get0); (focus (exact L.cells_take _ _ _ (hq2.out))); exact rfl)); (simp only [zca, zcn] <;> exact rfl))
            iterate 4 (apply Plan.val'; (focus (intro x0 x1 x2 x3 x4 x5 x6 x7 x8 x9 x10 x11 x12 x13 x14 x15 x16 w1 hb; (try simp only [depF, fillA, Act.put, zta, ztz, zpt, zsz, zss, zl0, zls]); (repeat (rintro rfl)); have st := st.call hb; ((apply Yphi.run; ((simp [Region.wanted, yielded] <;> omega)); (go_simp <;> (try simp (disch := omega) only [wrap_id, sub_left, zac]) <;> rfl); exact rfl)))); (simp only [zca, zcn] <;> exact rfl))
            (apply Plan.val'; (focus (intro x0 x1 x2 x3 x4 x5 x6 x7 x8 x9 x10 x11 x12 x13 x14 x15 x16 w1 hb; (try simp only [depF, fillA, Act.put, zta, ztz, zpt, zsz, zss, zl0, zls]); (repeat (rintro rfl)); have st := st.call hb; apply Yphi.loadN st; exact rfl; exact inferInstance; ((simp [Region.wanted, yielded] <;> omega)); exact rfl; (exact get0); (focus (exact L.cells_take _ _ _ (hq1.out))); exact rfl)); (simp only [zca, zcn] <;> exact rfl))
            (apply Plan.val'; (focus (intro x0 x1 x2 x3 x4 x5 x6 x7 x8 x9 x10 x11 x12 x13 x14 x15 x16 w1 hb; (try simp only [depF, fillA, Act.put, zta, ztz, zpt, zsz, zss, zl0, zls]); (repeat (first | rintro rfl | intro _)); have st := st.call hb; apply Yphi.call; ((simp [Region.wanted, yielded] <;> omega)); (go_simp <;> (try simp (disch := omega) only [wrap_id, sub_left, zac]) <;> rfl); exact rfl; refine (byRank_any (L.ax M (q + 1)) (L.ax M q) _).mono ?_; rintro e w' ⟨rfl, hb'⟩; exact ⟨_, rfl, hb', rfl⟩)); (simp only [zca, zcn] <;> exact rfl))
            iterate 2 (apply Plan.val'; (focus (intro x0 x1 x2 x3 x4 x5 x6 x7 x8 x9 x10 x11 x12 x13 x14 x15 x16 w1 hb; (try simp only [depF, fillA, Act.put, zta, ztz, zpt, zsz, zss, zl0, zls]); (repeat (rintro rfl)); have st := st.call hb; ((apply Yphi.run; (first | exact rfl | (simp [Region.wanted, yielded] <;> omega)); (go_simp <;> (try simp (disch := omega) only [wrap_id, sub_left, zac]) <;> rfl); exact rfl)))); (simp only [zca, zcn] <;> exact rfl))
            intro x0 x1 x2 x3 x4 x5 x6 x7 x8 x9 x10 x11 x12 x13 x14 x15 x16 lo hi w1 hb hap
            rintro rfl rfl rfl rfl rfl rfl rfl rfl rfl rfl rfl rfl rfl rfl rfl rfl rfl
            simp only [allPhi, fillA, Act.put, zta, ztz, zpt, zsz, zss, zda, zdz]
            have st := st.call hb
            clear hap hb
            go_wp2_with (refine WL.out ?_; (repeat (fail)); (try refine WL.nil ?_))
            refine wp_region_late_st 16 15 g ((L.cellsOf M ++ R).take ((q + 1) * 4) ++ (L.ax M q).cells ++ (L.cellsOf M ++ R).drop ((q + 1) * 4 + 4)) st (by kernel_rfl) (by kernel_rfl) (by decide) ?_
            clear st
            intro W2 st
            iterate 9 (apply Late.free; exact rfl; (focus (intro x0 x1 x2 x3 x4 x5 x6 x7 x8 x9 x10 x11 x12 x13 x14 x15; (try simp only [depL, fillA, Act.put, List.getD_cons_succ, List.getD_cons_zero, zta, ztz, zpt, zsz, zss, zl0, zls]); (repeat (first | rintro rfl | intro _)); apply YX.run; (exact rfl); (go_simp <;> (try simp (disch := omega) only [wrap_id, sub_left, zac]) <;> rfl); exact rfl)); (simp only [zca, zcn] <;> exact rfl))
            (apply Late.pre; exact rfl; (kernel_rfl); (focus (intro x0 x1 x2 x3 x4 x5 x6 x7 x8 x9 x10 x11 x12 x13 x14 x15; (try simp only [depL, fillA, Act.put, List.getD_cons_succ, List.getD_cons_zero, zta, ztz, zpt, zsz, zss, zl0, zls]); (repeat (rintro rfl)); apply YX.loadN st; exact rfl; exact inferInstance; (exact rfl); exact rfl; (exact get0); (focus ((exact L.cells_take _ _ _ (hq1.out)))); exact rfl)); (simp only [zca, zcn] <;> exact rfl))
            iterate 3 (apply Late.free; exact rfl; (focus (intro x0 x1 x2 x3 x4 x5 x6 x7 x8 x9 x10 x11 x12 x13 x14 x15; (try simp only [depL, fillA, Act.put, List.getD_cons_succ, List.getD_cons_zero, zta, ztz, zpt, zsz, zss, zl0, zls]); (repeat (first | rintro rfl | intro _)); apply YX.run; (exact rfl); (go_simp <;> (try simp (disch := omega) only [wrap_id, sub_left, zac]) <;> rfl); exact rfl)); (simp only [zca, zcn] <;> exact rfl))
            (apply Late.pre; exact rfl; (kernel_rfl); (focus (intro x0 x1 x2 x3 x4 x5 x6 x7 x8 x9 x10 x11 x12 x13 x14 x15; (try simp only [depL, fillA, Act.put, List.getD_cons_succ, List.getD_cons_zero, zta, ztz, zpt, zsz, zss, zl0, zls]); (repeat (rintro rfl)); apply YX.loadN st; exact rfl; exact inferInstance; (exact rfl); exact rfl; (exact get0); (focus ((exact L.cells_take _ _ _ (hq2.out)))); exact rfl)); (simp only [zca, zcn] <;> exact rfl))
            (apply Late.free; exact rfl; (focus (intro x0 x1 x2 x3 x4 x5 x6 x7 x8 x9 x10 x11 x12 x13 x14 x15; (try simp only [depL, fillA, Act.put, List.getD_cons_succ, List.getD_cons_zero, zta, ztz, zpt, zsz, zss, zl0, zls]); (repeat (first | rintro rfl | intro _)); apply YX.run; (exact rfl); (go_simp <;> (try simp (disch := omega) only [wrap_id, sub_left, zac]) <;> rfl); exact rfl)); (simp only [zca, zcn] <;> exact rfl))
            (apply Late.store; exact rfl; (focus (intro x0 x1 x2 x3 x4 x5 x6 x7 x8 x9 x10 x11 x12 x13 x14 x15; (try simp only [depL, fillA, Act.put, List.getD_cons_succ, List.getD_cons_zero, zta, ztz, zpt, zsz, zss, zl0, zls]); (repeat (first | rintro rfl | intro _)); apply YS.storeN st; exact rfl; exact inferInstance; (exact rfl); exact rfl; (exact get0); exact rfl; exact rfl; exact rfl; (focus (rw [List.length_append, L.cellsOf_length, hM.out.1, HL.out]; omega)))); (simp only [zca, zcn] <;> exact rfl))
            have st2 := st.store (o := (q + 1) * 4) (n := 4) (vs := (L.ax M q).cells) (i := 0) rfl
            rw [L.cells_set M R (q + 1) (L.ax M q) hq2.out] at st2 ⊢
            replace st := st2
            clear st2
            generalize W2.setRow _ _ = W3 at st ⊢
            (try simp only [List.set_cons_zero] at st)
            refine Late.fin ?_
            simp only [allPhi, fillA, Act.put, zta, ztz, zpt, zsz, zss, zda, zdz]
            go_wp2_with (refine WL.out ?_; (repeat ((refine WL.op ?_ ?_; (exact rfl); intro K hK; (first | ((((with_reducible apply ow_assign); exact rfl)); (go_simp <;> (try simp (disch := omega) only [wrap_id, sub_left, zac]) <;> rfl)) | ((with_reducible apply ow_storeN' st); exact rfl; exact inferInstance; exact rfl; (exact get0); exact rfl; exact rfl; exact rfl; (focus (rw [List.length_append, L.cellsOf_length, List.length_set, hM.out.1, HL.out]; omega)); (focus (exact congrArg (fun x => Res.box g 37 x :: rs) (L.cells_set _ R q (L.ax M (q + 1)) (by rw [List.length_set]; exact hq1.out)))); (try clear st); intro w' st) | ((with_reducible apply ow_eval); (go_simp <;> (try simp (disch := omega) only [wrap_id, sub_left, zac]) <;> rfl); ((with_reducible apply up_value)))); refine WL.next hK (by simp only [Act.put, zpt, zsz, zss]; exact rfl) ?_; clear hK K))); (try refine WL.nil ?_))
            exact ⟨⟨q, _, by omega, by omega, by go_num, st, hs'⟩, by simp [intOf]⟩
          · have hs' := Lib.hid (L.inner_end hM.out (by rw [HL.out]; omega) (by omega) (.inr ⟨q, rfl, hx⟩))
            have hx' : decide (L.cmp (L.ax M (q + 1)) (L.ax M q) < 0) = false := by simpa using hx
            go_wp2_with (refine WL.out ?_; (repeat (fail)); (try refine WL.nil ?_))
            refine wp_region_plan 17 (by kernel_rfl) (by kernel_rfl) ?_; replace st := st.drew; generalize World.drew _ = W at st ⊢
            iterate 8 (apply Plan.val'; (focus (intro x0 x1 x2 x3 x4 x5 x6 x7 x8 x9 x10 x11 x12 x13 x14 x15 x16 w1 hb; (try simp only [depF, fillA, Act.put, zta, ztz, zpt, zsz, zss, zl0, zls]); (repeat (rintro rfl)); have st := st.call hb; ((apply Yphi.run; (first | exact rfl | (simp [Region.wanted, yielded] <;> omega)); (go_simp <;> (try simp (disch := omega) only [wrap_id, sub_left, zac]) <;> rfl); exact rfl)))); (simp only [zca, zcn] <;> exact rfl))
            (apply Plan.val'; (focus (intro x0 x1 x2 x3 x4 x5 x6 x7 x8 x9 x10 x11 x12 x13 x14 x15 x16 w1 hb; (try simp only [depF, fillA, Act.put, zta, ztz, zpt, zsz, zss, zl0, zls]); (repeat (rintro rfl)); have st := st.call hb; apply Yphi.loadN st; exact rfl; exact inferInstance; ((simp [Region.wanted, yielded] <;> omega)); exact rfl; (exact get0); (focus (exact L.cells_take _ _ _ (hq2.out))); exact rfl)); (simp only [zca, zcn] <;> exact rfl))
            iterate 4 (apply Plan.val'; (focus (intro x0 x1 x2 x3 x4 x5 x6 x7 x8 x9 x10 x11 x12 x13 x14 x15 x16 w1 hb; (try simp only [depF, fillA, Act.put, zta, ztz, zpt, zsz, zss, zl0, zls]); (repeat (rintro rfl)); have st := st.call hb; ((apply Yphi.run; ((simp [Region.wanted, yielded] <;> omega)); (go_simp <;> (try simp (disch := omega) only [wrap_id, sub_left, zac]) <;> rfl); exact rfl)))); (simp only [zca, zcn] <;> exact rfl))
            (apply Plan.val'; (focus (intro x0 x1 x2 x3 x4 x5 x6 x7 x8 x9 x10 x11 x12 x13 x14 x15 x16 w1 hb; (try simp only [depF, fillA, Act.put, zta, ztz, zpt, zsz, zss, zl0, zls]); (repeat (rintro rfl)); have st := st.call hb; apply Yphi.loadN st; exact rfl; exact inferInstance; ((simp [Region.wanted, yielded] <;> omega)); exact rfl; (exact get0); (focus (exact L.cells_take _ _ _ (hq1.out))); exact rfl)); (simp only [zca, zcn] <;> exact rfl))
            (apply Plan.val'; (focus (intro x0 x1 x2 x3 x4 x5 x6 x7 x8 x9 x10 x11 x12 x13 x14 x15 x16 w1 hb; (try simp only [depF, fillA, Act.put, zta, ztz, zpt, zsz, zss, zl0, zls]); (repeat (first | rintro rfl | intro _)); have st := st.call hb; apply Yphi.call; ((simp [Region.wanted, yielded] <;> omega)); (go_simp <;> (try simp (disch := omega) only [wrap_id, sub_left, zac]) <;> rfl); exact rfl; refine (byRank_any (L.ax M (q + 1)) (L.ax M q) _).mono ?_; rintro e w' ⟨rfl, hb'⟩; exact ⟨_, rfl, hb', rfl⟩)); (simp only [zca, zcn] <;> exact rfl))
            iterate 2 (apply Plan.val'; (focus (intro x0 x1 x2 x3 x4 x5 x6 x7 x8 x9 x10 x11 x12 x13 x14 x15 x16 w1 hb; (try simp only [depF, fillA, Act.put, zta, ztz, zpt, zsz, zss, zl0, zls]); (repeat (rintro rfl)); have st := st.call hb; ((apply Yphi.run; (first | exact rfl | (simp [Region.wanted, yielded] <;> omega)); (go_simp <;> (try simp (disch := omega) only [wrap_id, sub_left, zac]) <;> rfl); exact rfl)))); (simp only [zca, zcn] <;> exact rfl))
            intro x0 x1 x2 x3 x4 x5 x6 x7 x8 x9 x10 x11 x12 x13 x14 x15 x16 lo hi w1 hb hap
            rintro rfl rfl rfl rfl rfl rfl rfl rfl rfl rfl rfl rfl rfl rfl rfl rfl rfl
            simp only [allPhi, fillA, Act.put, zta, ztz, zpt, zsz, zss, zda, zdz]
            have st := st.call hb
            clear hap hb
            go_wp2_with (refine WL.out ?_; (repeat ((refine WL.op ?_ ?_; (exact rfl); intro K hK; (first | ((((with_reducible apply ow_assign); exact rfl)); (go_simp <;> (try simp (disch := omega) only [wrap_id, sub_left, zac]) <;> rfl)) | ((with_reducible apply ow_eval); (go_simp <;> (try simp (disch := omega) only [wrap_id, sub_left, zac]) <;> rfl); ((with_reducible apply up_value)))); refine WL.next hK (by simp only [Act.put, zpt, zsz, zss]; exact rfl) ?_; clear hK K))); (try refine WL.nil ?_))
            exact ⟨⟨i + 1, M, by omega, by omega, by go_num, st, hs', Lib.hid fun h => absurd h (by omega)⟩, by simp [intOf]; omega⟩
        · have hs' := Lib.hid (L.inner_end hM.out (by rw [HL.out]; omega) (by omega) (.inl (by omega)))
          have hj' : decide ((a : Int) < (j : Int)) = false := by simp; omega
          go_wp2_with (refine WL.out ?_; (repeat (fail)); (try refine WL.nil ?_))
          refine wp_region_plan 17 (by kernel_rfl) (by kernel_rfl) ?_; replace st := st.drew; generalize World.drew _ = W at st ⊢
          iterate 4 (apply Plan.val'; (focus (intro x0 x1 x2 x3 x4 x5 x6 x7 x8 x9 x10 x11 x12 x13 x14 x15 x16 w1 hb; (try simp only [depF, fillA, Act.put, zta, ztz, zpt, zsz, zss, zl0, zls]); (repeat (rintro rfl)); have st := st.call hb; ((apply Yphi.run; (exact rfl); (go_simp <;> (try simp (disch := omega) only [wrap_id, sub_left, zac]) <;> rfl); exact rfl)))); (simp only [zca, zcn] <;> exact rfl))
          iterate 12 (apply Plan.val'; (focus (intro x0 x1 x2 x3 x4 x5 x6 x7 x8 x9 x10 x11 x12 x13 x14 x15 x16 w1 hb; (try simp only [depF, fillA, Act.put, zta, ztz, zpt, zsz, zss, zl0, zls]); (repeat (first | rintro rfl | intro _)); have st := st.call hb; apply Yphi.skip; (exact rfl))); (simp only [zca, zcn] <;> exact rfl))
          (apply Plan.val'; (focus (intro x0 x1 x2 x3 x4 x5 x6 x7 x8 x9 x10 x11 x12 x13 x14 x15 x16 w1 hb; (try simp only [depF, fillA, Act.put, zta, ztz, zpt, zsz, zss, zl0, zls]); (repeat (rintro rfl)); have st := st.call hb; ((apply Yphi.run; (exact rfl); (go_simp <;> (try simp (disch := omega) only [wrap_id, sub_left, zac]) <;> rfl); exact rfl)))); (simp only [zca, zcn] <;> exact rfl))
          intro x0 x1 x2 x3 x4 x5 x6 x7 x8 x9 x10 x11 x12 x13 x14 x15 x16 lo hi w1 hb hap
          rintro rfl rfl rfl rfl rfl rfl rfl rfl rfl rfl rfl rfl rfl rfl rfl rfl rfl
          simp only [allPhi, fillA, Act.put, zta, ztz, zpt, zsz, zss, zda, zdz]
          have st := st.call hb
          clear hap hb
          go_wp2_with (refine WL.out ?_; (repeat ((refine WL.op ?_ ?_; (exact rfl); intro K hK; (first | ((((with_reducible apply ow_assign); exact rfl)); (go_simp <;> (try simp (disch := omega) only [wrap_id, sub_left, zac]) <;> rfl)) | ((with_reducible apply ow_eval); (go_simp <;> (try simp (disch := omega) only [wrap_id, sub_left, zac]) <;> rfl); ((with_reducible apply up_value)))); refine WL.next hK (by simp only [Act.put, zpt, zsz, zss]; exact rfl) ?_; clear hK K))); (try refine WL.nil ?_))
          exact ⟨⟨i + 1, M, by omega, by omega, by go_num, st, hs', Lib.hid fun h => absurd h (by omega)⟩, by simp [intOf]; omega⟩
    · have hs' := Lib.hid (fun h : n ≤ i => L.outer_end hM.out (by rw [HL.out]; exact h))
      go_wp2_with (refine WL.out ?_; (repeat ((refine WL.op ?_ ?_; (exact rfl); intro K hK; (((with_reducible apply ow_eval); (go_simp <;> (try simp (disch := omega) only [wrap_id, sub_left, zac]) <;> rfl); ((with_reducible apply up_value)))); refine WL.next hK (by simp only [Act.put, zpt, zsz, zss]; exact rfl) ?_; clear hK K))); (try refine WL.nil ?_))
      go_end0
      exact ⟨M, rfl, st, by rw [hM.out.1, HL.out], fun h1 h2 h3 => (hs'.out (by omega)).2 h1 h3, hsame.out⟩
end Go.Proofs.YtppjhccdgbheiaaGreatDoor
namespace Go.Proofs.YtppjhccdgbheiaaGreatDoor
open Go.RowKit Go.Hp
set_option maxHeartbeats 2000000 in
theorem stable_small {w0 : World} {rs : List Res} (g n c : Nat) (l : List L.Ace) (R : List Value) (w : World) (st : St w0 w (.box g 37 (L.cellsOf l ++ R) :: rs)) (hl : l.length = n) (hc : n ≤ c) (hn : n ≤ 20) (h0 : 0 < n) :
    Calls Tryz.prog 150 #[.slice (some ⟨g, 0, none⟩) n c, .int .i64 n, .func (.func 111) #[] #[]] w fun e w' => ∃ M, e = .returned (.tuple #[]) ∧ St w0 w' (.box g 37 (L.cellsOf M ++ R) :: rs) ∧ M.length = n ∧ (L.FOk l → M = L.canon l) := by
  have HL := Lib.hid hl
  clear hl
  go_enter Tryz.func150, Tryz.ntmps150
  go_wp2_with (refine WL.out ?_; (repeat (fail)); (try refine WL.nil ?_))
  go_loopw [7, 8] (fun va vb wr => ∃ (p : Nat) (M : List L.Ace), p ≤ n ∧ va = .int .i64 p ∧ vb = .int .i64 (p + 20) ∧ St w0 wr (.box g 37 (L.cellsOf M ++ R) :: rs) ∧ Hid (M.length = n ∧ (L.FOk l → (p = 0 ∧ M = l) ∨ (p = n ∧ M = L.canon l)))) (fun va _ _ => n - (intOf va).toNat)
  case atStart => exact ⟨0, l, by omega, rfl, by go_num, st, Lib.hid ⟨HL.out, fun _ => .inl ⟨rfl, rfl⟩⟩⟩
  case round =>
    clear st
    obtain ⟨p, M, hp, rfl, rfl, st, hM⟩ := hrel
    by_cases hpn : p + 20 ≤ n
    · obtain rfl : p = 0 := by omega
      have hI : (0 : Int) + 20 ≤ (n : Int) := by omega
      go_wp2_with (refine WL.out ?_; (repeat ((refine WL.op ?_ ?_; (exact rfl); intro K hK; (first | ((((with_reducible apply ow_assign); exact rfl)); (go_simp <;> (try simp (disch := omega) only [wrap_id, sub_left, zac]) <;> rfl)) | ((with_reducible apply ow_eval); (go_simp <;> (try simp (disch := omega) only [wrap_id, sub_left, zac]) <;> rfl); first | (with_reducible apply up_value) | ((with_reducible apply up_enter); ((go_at_call 162; refine (insertionSort_any g n c 0 20 M R _ st hM.out.1 (by omega) (by omega) hc (by omega) h0).mono ?_; rintro e w' ⟨M', rfl, st', hM1, hM2, hM3⟩; replace st := st'; clear st'; replace hM2 := Lib.hid hM2; replace hM1 := Lib.hid hM1; clear hM3; refine ⟨_, rfl, ?_⟩))))); refine WL.next hK (by simp only [Act.put, zpt, zsz, zss]; exact rfl) ?_; clear hK K))); (try refine WL.nil ?_))
      exact ⟨⟨20, M', by omega, by simp, by simp, st, Lib.hid ⟨hM1.out, fun hf => .inr ⟨by omega, by
        rcases hM.out.2 hf with ⟨_, h⟩ | ⟨h, _⟩
        · rw [h] at hM2; exact hM2.out rfl (by omega) hf
        · omega⟩⟩⟩, by simp [intOf]; omega⟩
    · have hI : (n : Int) < (p : Int) + 20 := by omega
      go_wp2_with (refine WL.out ?_; (repeat ((refine WL.op ?_ ?_; (exact rfl); intro K hK; (((with_reducible apply ow_eval); (go_simp <;> (try simp (disch := omega) only [wrap_id, sub_left, zac]) <;> rfl); first | (with_reducible apply up_value) | ((with_reducible apply up_enter); ((go_at_call 162; refine (insertionSort_any g n c p n M R _ st hM.out.1 (by omega) (by omega) hc (by omega) h0).mono ?_; rintro e w' ⟨M', rfl, st', hM1, hM2, hM3⟩; replace st := st'; clear st'; replace hM2 := Lib.hid hM2; replace hM1 := Lib.hid hM1; replace hM3 := Lib.hid hM3; refine ⟨_, rfl, ?_⟩))))); refine WL.next hK (by simp only [Act.put, zpt, zsz, zss]; exact rfl) ?_; clear hK K))); (try refine WL.nil ?_))
      have hD : Hid (L.FOk l → M' = L.canon l) := Lib.hid fun hf => by
        rcases hM.out.2 hf with ⟨h1, h2⟩ | ⟨h1, h2⟩
        · subst h2; exact hM2.out h1 trivial hf
        · rw [hM3.out (by omega)]; exact h2
      clear hM hM2 hM3
      go_loopw [6] (fun v wr => v = .int .i64 20 ∧ St w0 wr (.box g 37 (L.cellsOf M' ++ R) :: rs)) (fun _ _ => 0)
      case atStart => exact ⟨rfl, st⟩
      case round =>
        clear st
        obtain ⟨rfl, st⟩ := hrel
        have hI2 : (n : Int) ≤ 20 := by omega
        go_wp2_with (refine WL.out ?_; (repeat ((refine WL.op ?_ ?_; (exact rfl); intro K hK; (((with_reducible apply ow_eval); (go_simp <;> (try simp (disch := omega) only [wrap_id, sub_left, zac]) <;> rfl); ((with_reducible apply up_value)))); refine WL.next hK (by simp only [Act.put, zpt, zsz, zss]; exact rfl) ?_; clear hK K))); (try refine WL.nil ?_))
        go_end0
        exact ⟨M', rfl, st, hM1.out, hD.out⟩
theorem SortStable_small {w0 : World} {rs : List Res} (g n c : Nat) (l : List L.Ace) (R : List Value) (w : World) (st : St w0 w (.box g 37 (L.cellsOf l ++ R) :: rs)) (hl : l.length = n) (hc : n ≤ c) (hn : n ≤ 20) (h0 : 0 < n) :
    Calls Tryz.prog 131 #[.slice (some ⟨g, 0, none⟩) n c, .func (.func 111) #[] #[]] w fun e w' => ∃ M, e = .returned (.tuple #[]) ∧ St w0 w' (.box g 37 (L.cellsOf M ++ R) :: rs) ∧ M.length = n ∧ (L.FOk l → M = L.canon l) := by
  have HL := Lib.hid hl
  clear hl
  go_enter Tryz.func131, Tryz.ntmps131
  go_wp2_with (refine WL.out ?_; (repeat ((refine WL.op ?_ ?_; (exact rfl); intro K hK; (first | ((((with_reducible apply ow_move); exact rfl)); (go_simp <;> (try simp (disch := omega) only [wrap_id, sub_left, zac]) <;> rfl)) | ((with_reducible apply ow_eval); (go_simp <;> (try simp (disch := omega) only [wrap_id, sub_left, zac]) <;> rfl); first | (with_reducible apply up_value) | ((with_reducible apply up_enter); ((go_at_call 150; refine (stable_small g n c l R _ st HL.out hc hn h0).mono ?_; rintro e w' ⟨M', rfl, st', hM1, hM2⟩; replace st := st'; clear st'; replace hM2 := Lib.hid hM2; replace hM1 := Lib.hid hM1; refine ⟨_, rfl, ?_⟩))))); refine WL.next hK (by simp only [Act.put, zpt, zsz, zss]; exact rfl) ?_; clear hK K))); (try refine WL.nil ?_))
  go_end0
  exact ⟨M', rfl, st, hM1.out, hM2.out⟩
theorem insertion_none (A : Option Addr) (c : Nat) (w : World) : Calls Tryz.prog 162 #[.slice A 0 c, .int .i64 0, .int .i64 0, .func (.func 111) #[] #[]] w fun e w' => e = .returned (.tuple #[]) ∧ w = w' := by
  go_enter Tryz.func162, Tryz.ntmps162
  go_wp2_with (refine WL.out ?_; (repeat ((refine WL.op ?_ ?_; (exact rfl); intro K hK; (first | ((((with_reducible apply ow_assign); exact rfl)); (go_simp <;> (try simp (disch := omega) only [wrap_id, sub_left, zac]) <;> rfl)) | ((with_reducible apply ow_eval); (go_simp <;> (try simp (disch := omega) only [wrap_id, sub_left, zac]) <;> rfl); ((with_reducible apply up_value)))); refine WL.next hK (by simp only [Act.put, zpt, zsz, zss]; exact rfl) ?_; clear hK K))); (try refine WL.nil ?_))
  go_loop [8] (fun v => v = .int .i64 1) (fun _ => 0)
  case atStart => exact rfl
  case round =>
    subst hrel
    go_wp2_with (refine WL.out ?_; (repeat ((refine WL.op ?_ ?_; (exact rfl); intro K hK; (((with_reducible apply ow_eval); (go_simp <;> (try simp (disch := omega) only [wrap_id, sub_left, zac]) <;> rfl); ((with_reducible apply up_value)))); refine WL.next hK (by simp only [Act.put, zpt, zsz, zss]; exact rfl) ?_; clear hK K))); (try refine WL.nil ?_))
    go_end0
    exact ⟨rfl, rfl⟩
theorem stable_none (A : Option Addr) (c : Nat) (w : World) : Calls Tryz.prog 150 #[.slice A 0 c, .int .i64 0, .func (.func 111) #[] #[]] w fun e w' => e = .returned (.tuple #[]) ∧ w = w' := by
  go_enter Tryz.func150, Tryz.ntmps150
  go_wp2_with (refine WL.out ?_; (repeat (fail)); (try refine WL.nil ?_))
  go_loop [7, 8] (fun va vb => va = .int .i64 0 ∧ vb = .int .i64 20) (fun _ _ => 0)
  case atStart => exact ⟨rfl, rfl⟩
  case round =>
    obtain ⟨rfl, rfl⟩ := hrel
    go_wp2_with (refine WL.out ?_; (repeat ((refine WL.op ?_ ?_; (exact rfl); intro K hK; (((with_reducible apply ow_eval); (go_simp <;> (try simp (disch := omega) only [wrap_id, sub_left, zac]) <;> rfl); first | (with_reducible apply up_value) | ((with_reducible apply up_enter); ((go_at_call 162; refine (insertion_none A c _).mono ?_; rintro e w' ⟨rfl, rfl⟩; refine ⟨_, rfl, ?_⟩))))); refine WL.next hK (by simp only [Act.put, zpt, zsz, zss]; exact rfl) ?_; clear hK K))); (try refine WL.nil ?_))
    go_loop [6] (fun v => v = .int .i64 20) (fun _ => 0)
    case atStart => exact rfl
    case round =>
      subst hrel
      go_wp2_with (refine WL.out ?_; (repeat ((refine WL.op ?_ ?_; (exact rfl); intro K hK; (((with_reducible apply ow_eval); (go_simp <;> (try simp (disch := omega) only [wrap_id, sub_left, zac]) <;> rfl); ((with_reducible apply up_value)))); refine WL.next hK (by simp only [Act.put, zpt, zsz, zss]; exact rfl) ?_; clear hK K))); (try refine WL.nil ?_))
      go_end0
      exact ⟨rfl, rfl⟩
theorem SortStable_none (A : Option Addr) (c : Nat) (w : World) : Calls Tryz.prog 131 #[.slice A 0 c, .func (.func 111) #[] #[]] w fun e w' => e = .returned (.tuple #[]) ∧ Below w.heap.size w w' := by
  go_enter Tryz.func131, Tryz.ntmps131
  go_wp2_with (refine WL.out ?_; (repeat ((refine WL.op ?_ ?_; (exact rfl); intro K hK; (first | ((((with_reducible apply ow_move); exact rfl)); (go_simp <;> (try simp (disch := omega) only [wrap_id, sub_left, zac]) <;> rfl)) | ((with_reducible apply ow_eval); (go_simp <;> (try simp (disch := omega) only [wrap_id, sub_left, zac]) <;> rfl); first | (with_reducible apply up_value) | ((with_reducible apply up_enter); ((go_at_call 150; refine (stable_none A c _).mono ?_; rintro e w' ⟨rfl, rfl⟩; refine ⟨_, rfl, ?_⟩))))); refine WL.next hK (by simp only [Act.put, zpt, zsz, zss]; exact rfl) ?_; clear hK K))); (try refine WL.nil ?_))
  go_end0
  exact ⟨rfl, Below.refl _ _⟩
theorem SortRow_small {w0 : World} {rs : List Res} (A : Option Addr) (n c : Nat) (l : List L.Ace) (w : World) (st : St w0 w (aceRow (.slice A n c) n l :: rs)) (hn : n ≤ 20) (hf : L.FOk l) :
    Calls Tryz.prog 131 #[.slice A n c, .func (.func 111) #[] #[]] w fun e w' => e = .returned (.tuple #[]) ∧ St w0 w' (aceRow (.slice A n c) n (L.canon l) :: rs) := by
  have e1 := St.len st (i := 0) rfl
  rcases Nat.eq_zero_or_pos n with h0 | h0
  · subst h0
    have h1 : l = [] := List.eq_nil_of_length_eq_zero e1.symm
    subst h1
    exact (SortStable_none A c w).mono fun e w' ⟨h1, h2⟩ => ⟨h1, st.call h2⟩
  · obtain ⟨g, R, rfl, hl, hcc, hnc, hcm, st⟩ := st.toBox h0
    refine (SortStable_small g n c l R w st e1.symm hnc hn h0).mono ?_
    rintro e w' ⟨M, rfl, st', hM1, hM2⟩
    refine ⟨rfl, ?_⟩
    rw [← hM2 hf]
    refine st'.ofBox (by rw [L.cellsOf_length, hM1]) ?_ hnc hcm
    rw [List.length_append, L.cellsOf_length, hM1]
    rw [List.length_append, L.cellsOf_length, ← e1] at hcc
    exact hcc
end Go.Proofs.YtppjhccdgbheiaaGreatDoor
namespace Go.Proofs.YtppjhccdgbheiaaGreatDoor
open Go.RowKit Go.Hp Go.Shelf
attribute [local go_sem] Oper.semAt_some
set_option maxRecDepth 100000 in
set_option maxHeartbeats 2000000 in
theorem values1_stops (n Bs n₀ len cap B : Nat) (A : Option Addr) (zs : List L.Ace) (w : World) (hBs : Bs < n₀) (hn₀ : n₀ ≤ w.heap.size) (hc : w.cell? ⟨Bs, 0, none⟩ = some (.slice A len cap)) (h1 : Aces w B A len zs) (hB : B ≤ n₀) (hlen : len ≤ 1000) :
    SeqStopsK Fence.wide n Tryz.prog 132 #[.pointer (some ⟨Bs, 0, none⟩)] (fun x : L.Ace => #[.agg #[.int .i64 x.k, .int .i64 x.f, .int .i64 x.m, .int .i64 x.w]]) (Below n₀) (fun ys => ys = zs) (fun _ => True) zs.length w := by
  intro l J Jx W hW hJ hJx hY h0
  have hc' := (hW.cell (p := ⟨Bs, 0, none⟩) (show Bs < w.heap.size by omega)).trans hc
  have H1 := Lib.hid (h1.below hW (by omega))
  have e1 := Lib.hid h1.len
  clear h1 hc
  refine callsIn_of_wp Tryz.func132 rfl trivial ?_ rfl
  simp only [Tryz.ntmps132, List.size_toArray, List.length_cons, List.length_nil, Nat.reduceAdd, Nat.reduceSub, Array.replicate_succ, Array.replicate_zero, List.push_toArray, List.append_toArray, List.nil_append, List.cons_append]
  gi_wp2
  gi_loopw [7] (fun i wr => ∃ k : Nat, k ≤ len ∧ i = .int .i64 k ∧ J (zs.take k) wr ∧ Below n₀ W wr) (fun i _ => len - (intOf i).toNat)
  case atStart => exact ⟨0, Nat.zero_le _, rfl, h0, Below.refl _ _⟩
  case round =>
    obtain ⟨k, hk, rfl, hJs, hnx⟩ := hrel
    by_cases hlt : k < len
    · have H2 := Lib.hid (H1.out.below hnx hB)
      obtain ⟨b, o, rfl, hb, hcs⟩ := H2.out.at_ (by omega)
      obtain ⟨f1, f2, f3, f4⟩ := hcs k hlt
      clear hcs
      have hblt : b < wr.heap.size := by have := hnx.size; have := hW.size; omega
      have htk := Lib.hid (L.take_succ_ax zs k (by rw [← e1.out]; exact hlt))
      obtain ⟨fn, tmps, assign, body, hy, hR⟩ := hY _ (L.ax zs k) (wr.alloc (.cells #[.int .i64 (L.ax zs k).k, .int .i64 (L.ax zs k).f, .int .i64 (L.ax zs k).m, .int .i64 (L.ax zs k).w] 37)) (hJ _ _ _ none hJs (Below.grownNone ((Below.refl _ _).alloc (Nat.le_refl _) _)) (fun r h => by cases h)) (by rw [List.length_take, ← e1.out]; omega)
      (try dsimp only at hy)
      gi_wp2
      refine ⟨fun h => (by cases h), hR.mono ?_⟩
      rintro e W3 (⟨rfl, hJ3, hk3⟩ | ⟨rfl, hJx3⟩)
      · have hk4 : Below n₀ wr W3 := (((Below.refl _ _).alloc (Nat.le_refl _) _).mono (by have := hnx.size; have := hW.size; omega)).trans hk3
        gi_wp2
        go_roundw
        case rel => exact ⟨k + 1, by omega, by simp, by rw [htk.out]; exact hJ3, hnx.trans hk4⟩
        case measure => simp [intOf]; omega
      · gi_wp2
        refine bodyPost_ret (results_none rfl _ _ _) rfl ?_
        exact ⟨⟨_, rfl⟩, .inr ⟨_, trivial, hJx3⟩⟩
    · have hs' : Hid (zs.take k = zs) := Lib.hid (List.take_of_length_le (by rw [← e1.out]; omega))
      gi_wp2
      go_end0
      exact ⟨⟨_, rfl⟩, .inl ⟨_, hs'.out, hJs⟩⟩
theorem Values_any (A : Option Addr) (n c : Nat) (w : World) :
    Calls Tryz.prog 110 #[.slice A n c] w fun e w' => e = .returned (.func (.func 132) #[] #[.pointer (some ⟨w.heap.size, 0, none⟩)]) ∧ w' = w.alloc (.cells #[.slice A n c] 23) := by
  go_enter Tryz.func110, Tryz.ntmps110
  go_wp2
  go_ret
  exact ⟨rfl, rfl⟩
end Go.Proofs.YtppjhccdgbheiaaGreatDoor
namespace Go.Proofs.YtppjhccdgbheiaaGreatDoor
open Go.RowKit Go.Hp Go.Shelf
attribute [local go_sem] Oper.semAt_some
set_option maxRecDepth 100000 in
set_option maxHeartbeats 2000000 in
theorem AppendSeq_any (Bs len cap B : Nat) (A : Option Addr) (zs : List L.Ace) (w : World) (hBs : Bs < w.heap.size) (hc : w.cell? ⟨Bs, 0, none⟩ = some (.slice A len cap)) (h1 : Aces w B A len zs) (hB : B ≤ w.heap.size) (hlen : len ≤ 1000) :
    Calls Tryz.prog 149 #[.slice none 0 0, .func (.func 132) #[] #[.pointer (some ⟨Bs, 0, none⟩)]] w (RetAces w zs) := by
  have e1 := Lib.hid h1.len
  refine (callsIn_wide (n := 3)).1 (callsIn_of_wp_marks Tryz.func149 rfl trivial ?_ rfl)
  simp only [Tryz.ntmps149, List.size_toArray, List.length_cons, List.length_nil, Nat.reduceAdd, Nat.reduceSub, Array.replicate_succ, Array.replicate_zero, List.push_toArray, List.append_toArray, List.nil_append, List.cons_append]
  gi_wp2
  have st : St w (w.alloc (.cells #[.slice none 0 0] 23)) [.box w.heap.size 23 [.slice none 0 0], aceRow (.slice none 0 0) 0 []] := (((St.start w).alloc [.slice none 0 0] 23).nilRow 37 4).swap
  have hb1 : Below w.heap.size w (w.alloc (.cells #[.slice none 0 0] 23)) := (Below.refl _ _).alloc (Nat.le_refl _) _
  generalize w.alloc (.cells #[.slice none 0 0] 23) = w1 at st hb1 ⊢
  have hs1 := hb1.size
  have hlt1 : w.heap.size < w1.heap.size := (Res.holds_lt (st.get (i := 0) rfl) rfl).2
  refine wpIn_rangeFunc_ownH rfl (by omega) (gf := 132) (lb := #[.pointer (some ⟨Bs, 0, none⟩)]) rfl trivial (enters_of Tryz.func132 (by kernel_rfl) rfl)
    (values1_stops 2 Bs w.heap.size len cap B A zs w1 hBs hs1 ((hb1.cell (p := ⟨Bs, 0, none⟩) hBs).trans hc) (h1.below hb1 hB) hB hlen) belowK_t (belowK_b hs1) (Below.refl _ _) (fun _ => rfl)
    (fun pre W => ∃ A' n' c', St w W [.box w.heap.size 23 [.slice A' n' c'], aceRow (.slice A' n' c') n' pre])
    (fun _ _ _ => False)
    (fun s X Y row ⟨A', n', c', st⟩ hg hr => ⟨A', n', c', st.turn rfl hs1 hg hr⟩)
    (fun _ _ _ _ _ hs _ _ => hs)
    ⟨none, 0, 0, st⟩
    (fun x a' W => ∃ (bx : Nat) (v : Value), a' = { tmps := #[.slice none 0 0, .func (.func 132) #[] #[.pointer (some ⟨Bs, 0, none⟩)], .pointer (some ⟨w.heap.size, 0, none⟩), undef, .slice none 0 0, .pointer (some ⟨bx, 0, none⟩), .func (.func 132) #[] #[.pointer (some ⟨Bs, 0, none⟩)], .agg x.cells.toArray, undef, undef, undef, undef, undef], defers := [] } ∧ w.heap.size < bx ∧ v.ownBlock ≠ some bx ∧ W.heap[bx]? = some (.cells x.cells.toArray 37 (0, 0)) ∧ W.heap[w.heap.size]? = some (.cells #[v] 23 (0, 0)))
    (by
      rintro x a' s X Y row ⟨bx, v, h1, h2, h3, h4, h5⟩ hg hr
      have key : ∀ (b : Nat) (o : Obj), X.heap[b]? = some o → o.isCells = true → Y.heap[b]? = some o := fun b o ho hc => (hg.block b (Array.getElem?_eq_some_iff.1 ho).1 fun e => by
        obtain ⟨_, o', ho', hc'⟩ := hr b e.symm
        rw [ho] at ho'; cases ho'
        rw [hc] at hc'; cases hc').trans ho
      exact ⟨bx, v, h1, h2, h3, key _ _ h4 rfl, key _ _ h5 rfl⟩) ?assign ?body ?done ?stop
  case assign =>
    rintro l pre x W K ⟨A', n', c', st'⟩ hK
    have hsub := (Res.holds_lt (st'.get (i := 0) rfl) rfl).2
    clear st
    have st := st'.objs rfl hs1
    have hst0 := st'
    clear st'
    simp only [List.cons_append, List.nil_append] at st
    refine wpIn_round_region (by rfl) (by rintro ⟨_, _, h⟩; exact h) ?_
    refine WL.act (a' := { tmps := #[.slice none 0 0, (.func (.func 132) #[] #[.pointer (some ⟨Bs, 0, none⟩)]), .pointer (some ⟨w.heap.size, 0, none⟩), undef, .slice none 0 0, undef, (.func (.func 132) #[] #[.pointer (some ⟨Bs, 0, none⟩)]), .agg #[.int .i64 x.k, .int .i64 x.f, .int .i64 x.m, .int .i64 x.w], undef, undef, undef, undef, undef], defers := [] }) (by simp) ?_
    (repeat ((refine WL.op ?_ ?_; (exact rfl); intro K hK; (first | ((((with_reducible apply ow_alloc st); exact rfl; exact inferInstance; (go_simp <;> (try simp (disch := omega) only [wrap_id, sub_left, zac]) <;> rfl))); (try clear st); intro b w' st) | ((((with_reducible apply ow_storeN' st); exact rfl; exact inferInstance; exact rfl; (exact get0); exact rfl)); exact rfl; exact rfl; (simp <;> done); ((try simp only [zta, ztz, zda, zdz, zca, zcn, zan, zsz, zss]) <;> exact rfl); (try clear st); intro w' st)); refine WL.next hK (by simp only [Act.put, zpt, zsz, zss]; exact rfl) ?_; clear hK K)))
    refine WL.nil ?_
    obtain ⟨hkf, hsz⟩ := St.keepsFrom (rs' := [_, _, _]) st
    have st2 := St.front (rs := [_, _, _]) st
    have hbx := (st.get (i := 0) rfl).2
    have hb2 := st.blk (i := 1) rfl
    refine hK _ _ hkf (below_of_st hst0.below st2 (Nat.le_refl _) hsz) ⟨A', n', c', st2.tail⟩ ⟨_, _, rfl, ?_, ?_, hbx, hb2⟩
    · have h1 := (List.pairwise_cons.1 st.apart).1 _ (List.mem_cons_self ..) _ rfl
      have h2 : w.heap.size ≤ _ := (st.get (i := 0) rfl).1
      exact Nat.lt_of_le_of_ne h2 (fun e => h1 (by rw [← e]; rfl))
    · exact (List.pairwise_cons.1 st.apart).1 _ (List.mem_cons_of_mem _ (List.mem_cons_self ..)) _ rfl
  case body =>
    rintro l pre x a' W hl - ⟨A', n', c', st'⟩ ⟨bx, v, rfl, h2, h3, h4, h5⟩ hlt
    have hn2 : n' ≤ 1000 := by
      have h1 := St.len st' (i := 1) rfl
      have h2 := e1.out
      omega
    have hsub := (Res.holds_lt (st'.get (i := 0) rfl) rfl).2
    obtain rfl : v = .slice A' n' c' := by
      have := (st'.blk (i := 0) rfl).symm.trans h5
      simpa using this.symm
    clear st
    have st2 : St w W [.box bx 37 x.cells, .box w.heap.size 23 [.slice A' n' c'], aceRow (.slice A' n' c') n' pre] := st'.cons ⟨by omega, h4⟩ (fun s hs k hk hk' => by
      cases hk
      rcases List.mem_cons.1 hs with rfl | hs
      · cases hk'; omega
      · rw [List.mem_singleton.1 hs] at hk'; exact h3 hk')
    have st := st2.objs rfl hs1
    simp only [List.cons_append, List.nil_append] at st
    have hst0 := st'
    clear st' st2 h4 h5
    apply wpIn_block
    refine wpIn_round_region (by rfl) (by rintro ⟨_, _, h⟩; exact h) ?_
    (repeat ((refine WL.op ?_ ?_; (exact rfl); intro K hK; (first | ((first | ((with_reducible apply ow_load1 st); exact rfl; exact inferInstance; exact rfl; (exact get1)) | ((with_reducible apply ow_loadN st); exact rfl; exact inferInstance; exact rfl; (exact get0); ((try simp only [zta, ztz, zda, zdz, zca, zcn, zan, zsz, zss]) <;> exact rfl))); exact rfl) | ((((with_reducible apply ow_newSlice st); exact rfl; (go_simp <;> (try simp (disch := omega) only [wrap_id, sub_left, zac]) <;> rfl); exact rfl)); (try clear st); intro b w' st) | ((((with_reducible apply ow_store1' st); exact rfl; exact inferInstance; exact rfl; (exact get2); (go_simp <;> (try simp (disch := omega) only [wrap_id, sub_left, zac]) <;> rfl))); exact rfl; exact rfl; (simp <;> done); ((try simp only [zta, ztz, zda, zdz, zca, zcn, zan, zsz, zss]) <;> exact rfl); (try clear st); intro w' st) | ((with_reducible apply ow_append 3 st); exact rfl; exact inferInstance; exact rfl; exact rfl; exact rfl; exact st.rdBox (i := 0) (n := 1) (size := 4) rfl rfl; (focus ((simp [Value.oneCell']; done))); (focus (unfold maxLen; omega)); (focus omega); (try clear st); intro A' c' w' st; (try simp only [List.set_cons_zero, List.set_cons_succ, Nat.zero_add, List.nil_append] at st))); refine WL.next hK (by simp only [Act.put, zpt, zsz, zss]; exact rfl) ?_; clear hK K)))
    refine WL.nil ?_
    obtain ⟨hkf, hsz⟩ := St.keepsFrom (rs' := [_, _, _, _]) st
    have st2 := St.front (rs := [_, _, _, _]) st
    exact ⟨hkf, below_of_st hst0.below st2 (Nat.le_refl _) hsz, A', n' + 1, c', by unfold aceRow; rw [L.cellsOf_append]; exact st2.tail.tail⟩
  case done =>
    rintro D ys W hD rfl ⟨A', n', c', st'⟩ hK
    have hc : W.cell? ⟨w.heap.size, 0, none⟩ = some (.slice A' n' c') := (st'.cell (i := 0) rfl 0)
    clear st
    have H1 := Lib.hid h1
    clear h1
    gi_wp2
    refine ⟨by simp, .inl ⟨_, _, rfl, run_takeDeferred hK, ?_⟩⟩
    refine ⟨_, results_tmp rfl _ _ _, A', n', c', rfl, ?_⟩
    exact (st'.turn rfl (Nat.le_trans hs1 hD) (grownBy_putObj' W D _) (fun r e => by cases e; exact ⟨Nat.le_refl _, _, hK, rfl⟩)).tail
  case stop =>
    rintro D c pre W _ _ h _
    exact h.elim
theorem Collect_any (Bs len cap B : Nat) (A : Option Addr) (zs : List L.Ace) (w : World) (hBs : Bs < w.heap.size) (hc : w.cell? ⟨Bs, 0, none⟩ = some (.slice A len cap)) (h1 : Aces w B A len zs) (hB : B ≤ w.heap.size) (hlen : len ≤ 1000) :
    Calls Tryz.prog 130 #[.func (.func 132) #[] #[.pointer (some ⟨Bs, 0, none⟩)]] w (RetAces w zs) := by
  have H1 := Lib.hid h1
  clear h1
  have HC := Lib.hid hc
  clear hc
  have st := St.start w
  go_enter Tryz.func130, Tryz.ntmps130
  go_wp2_with (refine WL.out ?_; (repeat ((refine WL.op ?_ ?_; (exact rfl); intro K hK; (first | ((((with_reducible apply ow_assign); exact rfl)); (go_simp <;> (try simp (disch := omega) only [wrap_id, sub_left, zac]) <;> rfl)) | ((with_reducible apply ow_eval); (go_simp <;> (try simp (disch := omega) only [wrap_id, sub_left, zac]) <;> rfl); (((with_reducible apply up_enter); ((go_at_call 149; refine (AppendSeq_any Bs len cap B A zs _ hBs HC.out H1.out hB hlen).mono ?_; rintro e w' ⟨A', n', c', rfl, st'⟩; replace st := st'; refine ⟨_, rfl, ?_⟩)))))); refine WL.next hK (by simp only [Act.put, zpt, zsz, zss]; exact rfl) ?_; clear hK K))); (try refine WL.nil ?_))
  go_ret
  exact ⟨_, _, _, rfl, st⟩
theorem SortedStable_small (Bs len cap B : Nat) (A : Option Addr) (zs : List L.Ace) (w : World) (hBs : Bs < w.heap.size) (hc : w.cell? ⟨Bs, 0, none⟩ = some (.slice A len cap)) (h1 : Aces w B A len zs) (hB : B ≤ w.heap.size) (hlen : len ≤ 20) (hf : L.FOk zs) :
    Calls Tryz.prog 109 #[.func (.func 132) #[] #[.pointer (some ⟨Bs, 0, none⟩)], .func (.func 111) #[] #[]] w (RetAces w (L.canon zs)) := by
  have e1 := Lib.hid h1.len
  have H1 := Lib.hid h1
  clear h1
  have HC := Lib.hid hc
  clear hc
  have HF := Lib.hid hf
  clear hf
  have st := St.start w
  go_enter Tryz.func109, Tryz.ntmps109
  go_wp2_with (refine WL.out ?_; (repeat ((refine WL.op ?_ ?_; (exact rfl); intro K hK; (first | ((((with_reducible apply ow_assign); exact rfl)); (go_simp <;> (try simp (disch := omega) only [wrap_id, sub_left, zac]) <;> rfl)) | ((with_reducible apply ow_eval); (go_simp <;> (try simp (disch := omega) only [wrap_id, sub_left, zac]) <;> rfl); (((with_reducible apply up_enter); first | (go_at_call 130; refine (Collect_any Bs len cap B A zs _ hBs HC.out H1.out hB (by omega)).mono ?_; rintro e w' ⟨A', n', c', rfl, st'⟩; replace st := st'; clear st'; have hn2 : n' ≤ 20 := (by have h1 := St.len st (i := 0) rfl; have h2 := e1.out; omega); refine ⟨_, rfl, ?_⟩) | (go_at_call 131; refine (SortRow_small A' n' c' zs _ st hn2 HF.out).mono ?_; rintro e w' ⟨rfl, st'⟩; replace st := st'; clear st'; refine ⟨_, rfl, ?_⟩))))); refine WL.next hK (by simp only [Act.put, zpt, zsz, zss]; exact rfl) ?_; clear hK K))); (try refine WL.nil ?_))
  go_ret
  exact ⟨_, _, _, rfl, st⟩
theorem canonical_small (A : Option Addr) (n c B : Nat) (l : List L.Ace) (w : World) (h1 : Aces w B A n l) (hB : B ≤ w.heap.size) (hn : n ≤ 20) (hf : L.FOk l) :
    Calls Tryz.prog 77 #[.slice A n c] w (RetAces w (L.canon l)) := by
  have e1 := Lib.hid h1.len
  have H1 := Lib.hid h1
  clear h1
  have HF := Lib.hid hf
  clear hf
  have st := St.start w
  go_enter Tryz.func77, Tryz.ntmps77
  go_wp2_with (refine WL.out ?_; (repeat ((refine WL.op ?_ ?_; (exact rfl); intro K hK; (first | ((((with_reducible apply ow_assign); exact rfl)); (go_simp <;> (try simp (disch := omega) only [wrap_id, sub_left, zac]) <;> rfl)) | ((with_reducible apply ow_eval); (go_simp <;> (try simp (disch := omega) only [wrap_id, sub_left, zac]) <;> rfl); (((with_reducible apply up_enter); first | (go_at_call 110; refine (Values_any A n c _).mono ?_; rintro e w' ⟨rfl, rfl⟩; have st := st.alloc [.slice A n c] 23; have hb0 := st.below; have hk : (w.alloc (.cells [Value.slice A n c].toArray 23)).cell? ⟨w.heap.size, 0, none⟩ = some (.slice A n c) := (st.cell (i := 0) rfl 0); have hsz : w.heap.size < (w.alloc (.cells [Value.slice A n c].toArray 23)).heap.size := (by simp); refine ⟨_, rfl, ?_⟩) | (go_at_call 109; refine (SortedStable_small w.heap.size n c B A l _ hsz hk (H1.out.below hb0 hB) (Nat.le_trans hB hb0.size) hn HF.out).mono ?_; rintro e w' ⟨A', n', c', rfl, st'⟩; replace st := st.join st'; clear st'; refine ⟨_, rfl, ?_⟩))))); refine WL.next hK (by simp only [Act.put, zpt, zsz, zss]; exact rfl) ?_; clear hK K))); (try refine WL.nil ?_))
  go_ret
  exact ⟨_, _, _, rfl, st.sub (by simp)⟩
end Go.Proofs.YtppjhccdgbheiaaGreatDoor
namespace Go.Proofs.YtppjhccdgbheiaaGreatDoor
open Go.RowKit Go.Hp
set_option maxHeartbeats 4000000 in
theorem swapRange_any {w0 : World} {rs : List Res} (g n c x y m : Nat) (l : List L.Ace) (R : List Value) (w : World) (st : St w0 w (.box g 37 (L.cellsOf l ++ R) :: rs)) (hl : l.length = n) (hx : x + m ≤ n) (hy : y + m ≤ n) (hc : n ≤ c) (hn : n ≤ 1000) (F : Value) :
    Calls Tryz.prog 173 #[.slice (some ⟨g, 0, none⟩) n c, .int .i64 x, .int .i64 y, .int .i64 m, F] w fun e w' => ∃ M, e = .returned (.tuple #[]) ∧ St w0 w' (.box g 37 (L.cellsOf M ++ R) :: rs) ∧ M.length = n := by
  have HL := Lib.hid hl
  clear hl
  go_enter Tryz.func173, Tryz.ntmps173
  go_wp2_with (refine WL.out ?_; (repeat (fail)); (try refine WL.nil ?_))
  go_loopw [10] (fun vi wr => ∃ (i : Nat) (M : List L.Ace), i ≤ m ∧ vi = .int .i64 i ∧ St w0 wr (.box g 37 (L.cellsOf M ++ R) :: rs) ∧ Hid (M.length = n)) (fun i _ => m - (intOf i).toNat)
  case atStart => exact ⟨0, l, by omega, rfl, st, HL⟩
  case round =>
    clear st HL
    obtain ⟨i, M, him, rfl, st, hM⟩ := hrel
    by_cases hi : i < m
    · have hq1 : Hid (x + i < M.length) := Lib.hid (by rw [hM.out]; omega)
      have hq2 : Hid (y + i < M.length) := Lib.hid (by rw [hM.out]; omega)
      have hI0 : (0 : Int) ≤ (x : Int) + (i : Int) := by omega
      have hI1 : (x : Int) + (i : Int) < (n : Int) := by omega
      have hJ0 : (0 : Int) ≤ (y : Int) + (i : Int) := by omega
      have hJ1 : (y : Int) + (i : Int) < (n : Int) := by omega
      have hIT : ((x : Int) + (i : Int)).toNat = x + i := by omega
      have hJT : ((y : Int) + (i : Int)).toNat = y + i := by omega
      go_wp2_with (refine WL.out ?_; (repeat ((refine WL.op ?_ ?_; (exact rfl); intro K hK; (((with_reducible apply ow_eval); (go_simp <;> (try simp (disch := omega) only [wrap_id, sub_left, zac]) <;> rfl); ((with_reducible apply up_value)))); refine WL.next hK (by simp only [Act.put, zpt, zsz, zss]; exact rfl) ?_; clear hK K))); (try refine WL.nil ?_))
      refine wp_region_late_st 22 21 g ((L.cellsOf M ++ R).take ((x + i) * 4) ++ (L.ax M (y + i)).cells ++ (L.cellsOf M ++ R).drop ((x + i) * 4 + 4)) st (by kernel_rfl) (by kernel_rfl) (by decide) ?_
      clear st
      intro W2 st
      iterate 13 (apply Late.free; exact rfl; (focus (intro x0 x1 x2 x3 x4 x5 x6 x7 x8 x9 x10 x11 x12 x13 x14 x15 x16 x17 x18 x19 x20 x21; (try simp only [depL, fillA, Act.put, List.getD_cons_succ, List.getD_cons_zero, zta, ztz, zpt, zsz, zss, zl0, zls]); (repeat (first | rintro rfl | intro _)); apply YX.run; (exact rfl); (go_simp <;> (try simp (disch := omega) only [wrap_id, sub_left, zac]) <;> rfl); exact rfl)); (simp only [zca, zcn] <;> exact rfl))
      (apply Late.pre; exact rfl; (kernel_rfl); (focus (intro x0 x1 x2 x3 x4 x5 x6 x7 x8 x9 x10 x11 x12 x13 x14 x15 x16 x17 x18 x19 x20 x21; (try simp only [depL, fillA, Act.put, List.getD_cons_succ, List.getD_cons_zero, zta, ztz, zpt, zsz, zss, zl0, zls]); (repeat (rintro rfl)); apply YX.loadN st; exact rfl; exact inferInstance; (exact rfl); exact rfl; (exact get0); (focus ((exact L.cells_take _ _ _ (hq2.out)))); exact rfl)); (simp only [zca, zcn] <;> exact rfl))
      iterate 5 (apply Late.free; exact rfl; (focus (intro x0 x1 x2 x3 x4 x5 x6 x7 x8 x9 x10 x11 x12 x13 x14 x15 x16 x17 x18 x19 x20 x21; (try simp only [depL, fillA, Act.put, List.getD_cons_succ, List.getD_cons_zero, zta, ztz, zpt, zsz, zss, zl0, zls]); (repeat (first | rintro rfl | intro _)); apply YX.run; (exact rfl); (go_simp <;> (try simp (disch := omega) only [wrap_id, sub_left, zac]) <;> rfl); exact rfl)); (simp only [zca, zcn] <;> exact rfl))
      (apply Late.pre; exact rfl; (kernel_rfl); (focus (intro x0 x1 x2 x3 x4 x5 x6 x7 x8 x9 x10 x11 x12 x13 x14 x15 x16 x17 x18 x19 x20 x21; (try simp only [depL, fillA, Act.put, List.getD_cons_succ, List.getD_cons_zero, zta, ztz, zpt, zsz, zss, zl0, zls]); (repeat (rintro rfl)); apply YX.loadN st; exact rfl; exact inferInstance; (exact rfl); exact rfl; (exact get0); (focus ((exact L.cells_take _ _ _ (hq1.out)))); exact rfl)); (simp only [zca, zcn] <;> exact rfl))
      (apply Late.free; exact rfl; (focus (intro x0 x1 x2 x3 x4 x5 x6 x7 x8 x9 x10 x11 x12 x13 x14 x15 x16 x17 x18 x19 x20 x21; (try simp only [depL, fillA, Act.put, List.getD_cons_succ, List.getD_cons_zero, zta, ztz, zpt, zsz, zss, zl0, zls]); (repeat (first | rintro rfl | intro _)); apply YX.run; (exact rfl); (go_simp <;> (try simp (disch := omega) only [wrap_id, sub_left, zac]) <;> rfl); exact rfl)); (simp only [zca, zcn] <;> exact rfl))
      (apply Late.store; exact rfl; (focus (intro x0 x1 x2 x3 x4 x5 x6 x7 x8 x9 x10 x11 x12 x13 x14 x15 x16 x17 x18 x19 x20 x21; (try simp only [depL, fillA, Act.put, List.getD_cons_succ, List.getD_cons_zero, zta, ztz, zpt, zsz, zss, zl0, zls]); (repeat (first | rintro rfl | intro _)); apply YS.storeN st; exact rfl; exact inferInstance; (exact rfl); exact rfl; (exact get0); exact rfl; exact rfl; exact rfl; (focus (rw [List.length_append, L.cellsOf_length, hM.out]; omega)))); (simp only [zca, zcn] <;> exact rfl))
      have st2 := st.store (o := (x + i) * 4) (n := 4) (vs := (L.ax M (y + i)).cells) (i := 0) rfl
      rw [L.cells_set M R (x + i) (L.ax M (y + i)) hq1.out] at st2 ⊢
      replace st := st2
      clear st2
      generalize W2.setRow _ _ = W3 at st ⊢
      (try simp only [List.set_cons_zero] at st)
      refine Late.fin ?_
      simp only [allPhi, fillA, Act.put, zta, ztz, zpt, zsz, zss, zda, zdz]
      go_wp2_with (refine WL.out ?_; (repeat ((refine WL.op ?_ ?_; (exact rfl); intro K hK; (first | ((((with_reducible apply ow_assign); exact rfl)); (go_simp <;> (try simp (disch := omega) only [wrap_id, sub_left, zac]) <;> rfl)) | ((with_reducible apply ow_storeN' st); exact rfl; exact inferInstance; exact rfl; (exact get0); exact rfl; exact rfl; exact rfl; (focus (rw [List.length_append, L.cellsOf_length, List.length_set, hM.out]; omega)); (focus (exact congrArg (fun x => Res.box g 37 x :: rs) (L.cells_set _ R (y + i) (L.ax M (x + i)) (by rw [List.length_set]; exact hq2.out)))); (try clear st); intro w' st) | ((with_reducible apply ow_eval); (go_simp <;> (try simp (disch := omega) only [wrap_id, sub_left, zac]) <;> rfl); ((with_reducible apply up_value)))); refine WL.next hK (by simp only [Act.put, zpt, zsz, zss]; exact rfl) ?_; clear hK K))); (try refine WL.nil ?_))
      exact ⟨⟨i + 1, _, by omega, by go_num, st, Lib.hid (by rw [List.length_set, List.length_set]; exact hM.out)⟩, by simp [intOf]; omega⟩
    · go_wp2_with (refine WL.out ?_; (repeat ((refine WL.op ?_ ?_; (exact rfl); intro K hK; (((with_reducible apply ow_eval); (go_simp <;> (try simp (disch := omega) only [wrap_id, sub_left, zac]) <;> rfl); ((with_reducible apply up_value)))); refine WL.next hK (by simp only [Act.put, zpt, zsz, zss]; exact rfl) ?_; clear hK K))); (try refine WL.nil ?_))
      go_end0
      exact ⟨M, rfl, st, hM.out⟩
theorem swapRange_int {w0 : World} {rs : List Res} (X Y Z : Int) (g n c x y m : Nat) (l : List L.Ace) (R : List Value) (w : World) (st : St w0 w (.box g 37 (L.cellsOf l ++ R) :: rs)) (hl : l.length = n) (hX : X = x) (hY : Y = y) (hZ : Z = m) (hx : x + m ≤ n) (hy : y + m ≤ n) (hc : n ≤ c) (hn : n ≤ 1000) (F : Value) :
    Calls Tryz.prog 173 #[.slice (some ⟨g, 0, none⟩) n c, .int .i64 X, .int .i64 Y, .int .i64 Z, F] w fun e w' => ∃ M, e = .returned (.tuple #[]) ∧ St w0 w' (.box g 37 (L.cellsOf M ++ R) :: rs) ∧ M.length = n := by
  subst hX; subst hY; subst hZ
  exact swapRange_any g n c x y m l R w st hl hx hy hc hn F
set_option maxHeartbeats 2000000 in
theorem rotate_any {w0 : World} {rs : List Res} (g n c a m b : Nat) (l : List L.Ace) (R : List Value) (w : World) (st : St w0 w (.box g 37 (L.cellsOf l ++ R) :: rs)) (hl : l.length = n) (ham : a < m) (hmb : m < b) (hb : b ≤ n) (hc : n ≤ c) (hn : n ≤ 1000) (F : Value) :
    Calls Tryz.prog 171 #[.slice (some ⟨g, 0, none⟩) n c, .int .i64 a, .int .i64 m, .int .i64 b, F] w fun e w' => ∃ M, e = .returned (.tuple #[]) ∧ St w0 w' (.box g 37 (L.cellsOf M ++ R) :: rs) ∧ M.length = n := by
  have HL := Lib.hid hl
  clear hl
  go_enter Tryz.func171, Tryz.ntmps171
  go_wp2_with (refine WL.out ?_; (repeat ((refine WL.op ?_ ?_; (exact rfl); intro K hK; (first | ((((with_reducible apply ow_assign); exact rfl)); (go_simp <;> (try simp (disch := omega) only [wrap_id, sub_left, zac]) <;> rfl)) | ((with_reducible apply ow_eval); (go_simp <;> (try simp (disch := omega) only [wrap_id, sub_left, zac]) <;> rfl); ((with_reducible apply up_value)))); refine WL.next hK (by simp only [Act.put, zpt, zsz, zss]; exact rfl) ?_; clear hK K))); (try refine WL.nil ?_))
  go_loopw [10, 11] (fun vi vj wr => ∃ (i j : Nat) (M : List L.Ace), 1 ≤ i ∧ i ≤ m ∧ 1 ≤ j ∧ m + j ≤ n ∧ vi = .int .i64 i ∧ vj = .int .i64 j ∧ St w0 wr (.box g 37 (L.cellsOf M ++ R) :: rs) ∧ Hid (M.length = n)) (fun i j _ => (intOf i).toNat + (intOf j).toNat)
  case atStart => exact ⟨m - a, b - m, l, by omega, by omega, by omega, by omega, congrArg (Value.int .i64) (by omega), congrArg (Value.int .i64) (by omega), st, HL⟩
  case round =>
    clear st HL
    obtain ⟨i, j, M, hi0, him, hj0, hmj, rfl, rfl, st, hM⟩ := hrel
    rcases Nat.lt_trichotomy i j with hij | hij | hij
    · have e1 : ((i : Int) == (j : Int)) = false := by simp; omega
      have e2 : decide ((j : Int) < (i : Int)) = false := by simp; omega
      go_wp2_with (refine WL.out ?_; (repeat ((refine WL.op ?_ ?_; (exact rfl); intro K hK; (first | ((first | ((with_reducible apply ow_move); exact rfl) | ((with_reducible apply ow_assign); exact rfl)); (go_simp <;> (try simp (disch := omega) only [wrap_id, sub_left, zac]) <;> rfl)) | ((with_reducible apply ow_eval); (go_simp <;> (try simp (disch := omega) only [wrap_id, sub_left, zac]) <;> rfl); first | (with_reducible apply up_value) | ((with_reducible apply up_enter); ((go_at_call 173; refine (swapRange_int _ _ _ g n c (m - i) (m + j - i) (i) M R _ st hM.out (by omega) (by omega) (by omega) (by omega) (by omega) hc hn _).mono ?_; rintro e w' ⟨M', rfl, st', hM1⟩; replace st := st'; clear st'; replace hM1 := Lib.hid hM1; refine ⟨_, rfl, ?_⟩))))); refine WL.next hK (by simp only [Act.put, zpt, zsz, zss]; exact rfl) ?_; clear hK K))); (try refine WL.nil ?_))
      exact ⟨⟨i, j - i, M', by omega, by omega, by omega, by omega, rfl, congrArg (Value.int .i64) (by omega), st, hM1⟩, by simp [intOf]; omega⟩
    · subst hij
      go_wp2_with (refine WL.out ?_; (repeat ((refine WL.op ?_ ?_; (exact rfl); intro K hK; (first | ((((with_reducible apply ow_move); exact rfl)); (go_simp <;> (try simp (disch := omega) only [wrap_id, sub_left, zac]) <;> rfl)) | ((with_reducible apply ow_eval); (go_simp <;> (try simp (disch := omega) only [wrap_id, sub_left, zac]) <;> rfl); first | (with_reducible apply up_value) | ((with_reducible apply up_enter); ((go_at_call 173; refine (swapRange_int _ _ _ g n c (m - i) (m) (i) M R _ st hM.out (by omega) (by omega) (by omega) (by omega) (by omega) hc hn _).mono ?_; rintro e w' ⟨M', rfl, st', hM1⟩; replace st := st'; clear st'; replace hM1 := Lib.hid hM1; refine ⟨_, rfl, ?_⟩))))); refine WL.next hK (by simp only [Act.put, zpt, zsz, zss]; exact rfl) ?_; clear hK K))); (try refine WL.nil ?_))
      go_end0
      exact ⟨M', rfl, st, hM1.out⟩
    · have e1 : ((i : Int) == (j : Int)) = false := by simp; omega
      have e2 : decide ((j : Int) < (i : Int)) = true := by simp; omega
      go_wp2_with (refine WL.out ?_; (repeat ((refine WL.op ?_ ?_; (exact rfl); intro K hK; (first | ((first | ((with_reducible apply ow_move); exact rfl) | ((with_reducible apply ow_assign); exact rfl)); (go_simp <;> (try simp (disch := omega) only [wrap_id, sub_left, zac]) <;> rfl)) | ((with_reducible apply ow_eval); (go_simp <;> (try simp (disch := omega) only [wrap_id, sub_left, zac]) <;> rfl); first | (with_reducible apply up_value) | ((with_reducible apply up_enter); ((go_at_call 173; refine (swapRange_int _ _ _ g n c (m - i) (m) (j) M R _ st hM.out (by omega) (by omega) (by omega) (by omega) (by omega) hc hn _).mono ?_; rintro e w' ⟨M', rfl, st', hM1⟩; replace st := st'; clear st'; replace hM1 := Lib.hid hM1; refine ⟨_, rfl, ?_⟩))))); refine WL.next hK (by simp only [Act.put, zpt, zsz, zss]; exact rfl) ?_; clear hK K))); (try refine WL.nil ?_))
      exact ⟨⟨i - j, j, M', by omega, by omega, by omega, by omega, congrArg (Value.int .i64) (by omega), rfl, st, hM1⟩, by simp [intOf]; omega⟩
end Go.Proofs.YtppjhccdgbheiaaGreatDoor
namespace Go.Proofs.YtppjhccdgbheiaaGreatDoor
open Go.RowKit Go.Hp
theorem avg_wrap {i j h : Nat} (hh : h = (i + j) / 2) (hi : i ≤ 2000) (hj : j ≤ 2000) : IntKind.i64.wrap (IntKind.u64.wrap ((i : Int) + (j : Int)) / 2) = (h : Int) := by
  rw [IntKind.wrap_i64, IntKind.wrap_u64]
  omega
set_option maxRecDepth 8000 in
set_option maxHeartbeats 8000000 in
theorem symMerge_left {w0 : World} {rs : List Res} (g n c a m b : Nat) (l : List L.Ace) (R : List Value) (w : World) (st : St w0 w (.box g 37 (L.cellsOf l ++ R) :: rs)) (hl : l.length = n) (ham : m = a + 1) (hmb : m < b) (hbn : b ≤ n) (hc : n ≤ c) (hn : n ≤ 1000) :
    Calls Tryz.prog 163 #[.slice (some ⟨g, 0, none⟩) n c, .int .i64 a, .int .i64 m, .int .i64 b, .func (.func 111) #[] #[]] w fun e w' => ∃ M, e = .returned (.tuple #[]) ∧ St w0 w' (.box g 37 (L.cellsOf M ++ R) :: rs) ∧ M.length = n := by
  have HL := Lib.hid hl
  clear hl
  have e0 : ((m : Int) - (a : Int) == 1) = true := by simp; omega
  go_enter Tryz.func163, Tryz.ntmps163
  go_wp2_with (refine WL.out ?_; (repeat ((refine WL.op ?_ ?_; (exact rfl); intro K hK; (((with_reducible apply ow_eval); (go_simp <;> (try simp (disch := omega) only [wrap_id, sub_left, zac]) <;> rfl); ((with_reducible apply up_value)))); refine WL.next hK (by simp only [Act.put, zpt, zsz, zss]; exact rfl) ?_; clear hK K))); (try refine WL.nil ?_))
  go_loopw [10, 11] (fun vi vj wr => ∃ (i j : Nat), m ≤ i ∧ i ≤ j ∧ j ≤ b ∧ vi = .int .i64 i ∧ vj = .int .i64 j ∧ St w0 wr (.box g 37 (L.cellsOf l ++ R) :: rs)) (fun i j _ => (intOf j).toNat - (intOf i).toNat)
  case atStart => exact ⟨m, b, by omega, by omega, by omega, rfl, rfl, st⟩
  case round =>
    clear st
    obtain ⟨i, j, hmi, hij, hjb, rfl, rfl, st⟩ := hrel
    by_cases hlt : i < j
    · obtain ⟨h, hh⟩ : ∃ h, h = (i + j) / 2 := ⟨_, rfl⟩
      have hav := Lib.hid (avg_wrap (i := i) (j := j) hh (by omega) (by omega))
      have hih : i ≤ h := by omega
      have hhj : h < j := by omega
      clear hh
      have hhn : h < n := by omega
      have han : a < n := by omega
      have hq1 : Hid (h < l.length) := Lib.hid (by rw [HL.out]; omega)
      have hq2 : Hid (a < l.length) := Lib.hid (by rw [HL.out]; omega)
      go_wp2_with (refine WL.out ?_; (repeat ((refine WL.op ?_ ?_; (exact rfl); intro K hK; (first | ((((with_reducible apply ow_assign); exact rfl)); (go_simp <;> (try simp (disch := omega) only [wrap_id, sub_left, zac]) <;> rfl)) | ((with_reducible apply ow_eval); (go_simp <;> (try simp (disch := omega) only [wrap_id, sub_left, zac]) <;> rfl); ((with_reducible apply up_value)))); refine WL.next hK (by simp only [Act.put, zpt, zsz, zss]; exact rfl) ?_; clear hK K))); (try refine WL.nil ?_))
      rw [hav.out]
      refine wp_region_plan 11 (by kernel_rfl) (by kernel_rfl) ?_; replace st := st.drew; generalize World.drew _ = W at st ⊢
      iterate 4 (apply Plan.val'; (focus (intro x0 x1 x2 x3 x4 x5 x6 x7 x8 x9 x10 w1 hb; (try simp only [depF, fillA, Act.put, zta, ztz, zpt, zsz, zss, zl0, zls]); (repeat (rintro rfl)); have st := st.call hb; ((apply Yphi.run; (exact rfl); (go_simp <;> (try simp (disch := omega) only [wrap_id, sub_left, zac]) <;> rfl); exact rfl)))); (simp only [zca, zcn] <;> exact rfl))
      (apply Plan.val'; (focus (intro x0 x1 x2 x3 x4 x5 x6 x7 x8 x9 x10 w1 hb; (try simp only [depF, fillA, Act.put, zta, ztz, zpt, zsz, zss, zl0, zls]); (repeat (rintro rfl)); have st := st.call hb; apply Yphi.loadN st; exact rfl; exact inferInstance; (exact rfl); exact rfl; (exact get0); (focus (exact L.cells_take _ _ _ (hq1.out))); exact rfl)); (simp only [zca, zcn] <;> exact rfl))
      iterate 3 (apply Plan.val'; (focus (intro x0 x1 x2 x3 x4 x5 x6 x7 x8 x9 x10 w1 hb; (try simp only [depF, fillA, Act.put, zta, ztz, zpt, zsz, zss, zl0, zls]); (repeat (rintro rfl)); have st := st.call hb; ((apply Yphi.run; (exact rfl); (go_simp <;> (try simp (disch := omega) only [wrap_id, sub_left, zac]) <;> rfl); exact rfl)))); (simp only [zca, zcn] <;> exact rfl))
      (apply Plan.val'; (focus (intro x0 x1 x2 x3 x4 x5 x6 x7 x8 x9 x10 w1 hb; (try simp only [depF, fillA, Act.put, zta, ztz, zpt, zsz, zss, zl0, zls]); (repeat (rintro rfl)); have st := st.call hb; apply Yphi.loadN st; exact rfl; exact inferInstance; (exact rfl); exact rfl; (exact get0); (focus (exact L.cells_take _ _ _ (hq2.out))); exact rfl)); (simp only [zca, zcn] <;> exact rfl))
      (apply Plan.val'; (focus (intro x0 x1 x2 x3 x4 x5 x6 x7 x8 x9 x10 w1 hb; (try simp only [depF, fillA, Act.put, zta, ztz, zpt, zsz, zss, zl0, zls]); (repeat (rintro rfl)); have st := st.call hb; apply Yphi.call; (exact rfl); (go_simp <;> (try simp (disch := omega) only [wrap_id, sub_left, zac]) <;> rfl); exact rfl; refine (byRank_any (L.ax l h) (L.ax l a) _).mono ?_; rintro e w' ⟨rfl, hb'⟩; exact ⟨_, rfl, hb', rfl⟩)); (simp only [zca, zcn] <;> exact rfl))
      (apply Plan.val'; (focus (intro x0 x1 x2 x3 x4 x5 x6 x7 x8 x9 x10 w1 hb; (try simp only [depF, fillA, Act.put, zta, ztz, zpt, zsz, zss, zl0, zls]); (repeat (rintro rfl)); have st := st.call hb; ((apply Yphi.run; (exact rfl); (go_simp <;> (try simp (disch := omega) only [wrap_id, sub_left, zac]) <;> rfl); exact rfl)))); (simp only [zca, zcn] <;> exact rfl))
      intro x0 x1 x2 x3 x4 x5 x6 x7 x8 x9 x10 lo hi w1 hb hap
      rintro rfl rfl rfl rfl rfl rfl rfl rfl rfl rfl rfl
      simp only [allPhi, fillA, Act.put, zta, ztz, zpt, zsz, zss, zda, zdz]
      have st := st.call hb
      clear hap hb
      by_cases hx : L.cmp (L.ax l h) (L.ax l a) < 0
      · go_wp2_with (refine WL.out ?_; (repeat ((refine WL.op ?_ ?_; (exact rfl); intro K hK; (first | ((((with_reducible apply ow_assign); exact rfl)); (go_simp <;> (try simp (disch := omega) only [wrap_id, sub_left, zac]) <;> rfl)) | ((with_reducible apply ow_eval); (go_simp <;> (try simp (disch := omega) only [wrap_id, sub_left, zac]) <;> rfl); ((with_reducible apply up_value)))); refine WL.next hK (by simp only [Act.put, zpt, zsz, zss]; exact rfl) ?_; clear hK K))); (try refine WL.nil ?_))
        exact ⟨⟨h + 1, j, by omega, by omega, by omega, by go_num, rfl, st⟩, by simp [intOf]; omega⟩
      · go_wp2_with (refine WL.out ?_; (repeat (fail)); (try refine WL.nil ?_))
        exact ⟨⟨i, h, by omega, by omega, by omega, rfl, rfl, st⟩, by simp [intOf]; omega⟩
    · have hi1 : (i : Int) = (i : Int) := rfl
      clear hi1
      have hin : i ≤ n := by omega
      go_wp2_with (refine WL.out ?_; (repeat ((refine WL.op ?_ ?_; (exact rfl); intro K hK; (((with_reducible apply ow_eval); (go_simp <;> (try simp (disch := omega) only [wrap_id, sub_left, zac]) <;> rfl); ((with_reducible apply up_value)))); refine WL.next hK (by simp only [Act.put, zpt, zsz, zss]; exact rfl) ?_; clear hK K))); (try refine WL.nil ?_))
      go_loopw [13] (fun vk wr => ∃ (k : Nat) (M : List L.Ace), a ≤ k ∧ k + 1 ≤ i ∧ vk = .int .i64 k ∧ St w0 wr (.box g 37 (L.cellsOf M ++ R) :: rs) ∧ Hid (M.length = n)) (fun k _ => i - (intOf k).toNat)
      case atStart => exact ⟨a, l, by omega, by omega, rfl, st, HL⟩
      case round =>
        clear st HL
        obtain ⟨k, M, hak, hki, rfl, st, hM⟩ := hrel
        have hi0 : (1 : Int) ≤ (i : Int) := by omega
        by_cases hlt2 : k + 1 < i
        · have hp : Hid (k < M.length) := Lib.hid (by rw [hM.out]; omega)
          have hq : Hid (k + 1 < M.length) := Lib.hid (by rw [hM.out]; omega)
          have hkn : k < n := by omega
          have hI0 : (0 : Int) ≤ (k : Int) + 1 := by omega
          have hI1 : (k : Int) + 1 < (n : Int) := by omega
          have hI2 : (k : Int) < (i : Int) - 1 := by omega
          go_wp2_with (refine WL.out ?_; (repeat ((refine WL.op ?_ ?_; (exact rfl); intro K hK; (((with_reducible apply ow_eval); (go_simp <;> (try simp (disch := omega) only [wrap_id, sub_left, zac]) <;> rfl); ((with_reducible apply up_value)))); refine WL.next hK (by simp only [Act.put, zpt, zsz, zss]; exact rfl) ?_; clear hK K))); (try refine WL.nil ?_))
          (refine wp_region_late_st 16 15 g ((L.cellsOf M ++ R).take ((k) * 4) ++ (L.ax M (k + 1)).cells ++ (L.cellsOf M ++ R).drop ((k) * 4 + 4)) st (by kernel_rfl) (by kernel_rfl) (by decide) ?_; clear st; intro W2 st; (iterate 9 (apply Late.free; exact rfl; (focus (intro x0 x1 x2 x3 x4 x5 x6 x7 x8 x9 x10 x11 x12 x13 x14 x15; (try simp only [depL, fillA, Act.put, List.getD_cons_succ, List.getD_cons_zero, zta, ztz, zpt, zsz, zss, zl0, zls]); (repeat (first | rintro rfl | intro _)); apply YX.run; (exact rfl); (go_simp <;> (try simp (disch := omega) only [wrap_id, sub_left, zac]) <;> rfl); exact rfl)); (simp only [zca, zcn] <;> exact rfl))); (apply Late.pre; exact rfl; (kernel_rfl); (focus (intro x0 x1 x2 x3 x4 x5 x6 x7 x8 x9 x10 x11 x12 x13 x14 x15; (try simp only [depL, fillA, Act.put, List.getD_cons_succ, List.getD_cons_zero, zta, ztz, zpt, zsz, zss, zl0, zls]); (repeat (rintro rfl)); apply YX.loadN st; exact rfl; exact inferInstance; (exact rfl); exact rfl; (exact get0); (focus ((exact L.cells_take _ _ _ (hq.out)))); exact rfl)); (simp only [zca, zcn] <;> exact rfl)); (iterate 3 (apply Late.free; exact rfl; (focus (intro x0 x1 x2 x3 x4 x5 x6 x7 x8 x9 x10 x11 x12 x13 x14 x15; (try simp only [depL, fillA, Act.put, List.getD_cons_succ, List.getD_cons_zero, zta, ztz, zpt, zsz, zss, zl0, zls]); (repeat (first | rintro rfl | intro _)); apply YX.run; (exact rfl); (go_simp <;> (try simp (disch := omega) only [wrap_id, sub_left, zac]) <;> rfl); exact rfl)); (simp only [zca, zcn] <;> exact rfl))); (apply Late.pre; exact rfl; (kernel_rfl); (focus (intro x0 x1 x2 x3 x4 x5 x6 x7 x8 x9 x10 x11 x12 x13 x14 x15; (try simp only [depL, fillA, Act.put, List.getD_cons_succ, List.getD_cons_zero, zta, ztz, zpt, zsz, zss, zl0, zls]); (repeat (rintro rfl)); apply YX.loadN st; exact rfl; exact inferInstance; (exact rfl); exact rfl; (exact get0); (focus ((exact L.cells_take _ _ _ (hp.out)))); exact rfl)); (simp only [zca, zcn] <;> exact rfl)); (apply Late.free; exact rfl; (focus (intro x0 x1 x2 x3 x4 x5 x6 x7 x8 x9 x10 x11 x12 x13 x14 x15; (try simp only [depL, fillA, Act.put, List.getD_cons_succ, List.getD_cons_zero, zta, ztz, zpt, zsz, zss, zl0, zls]); (repeat (first | rintro rfl | intro _)); apply YX.run; (exact rfl); (go_simp <;> (try simp (disch := omega) only [wrap_id, sub_left, zac]) <;> rfl); exact rfl)); (simp only [zca, zcn] <;> exact rfl)); (apply Late.store; exact rfl; (focus (intro x0 x1 x2 x3 x4 x5 x6 x7 x8 x9 x10 x11 x12 x13 x14 x15; (try simp only [depL, fillA, Act.put, List.getD_cons_succ, List.getD_cons_zero, zta, ztz, zpt, zsz, zss, zl0, zls]); (repeat (first | rintro rfl | intro _)); apply YS.storeN st; exact rfl; exact inferInstance; (exact rfl); exact rfl; (exact get0); exact rfl; exact rfl; exact rfl; (focus (rw [List.length_append, L.cellsOf_length, hM.out]; omega)))); (simp only [zca, zcn] <;> exact rfl)); have st2 := st.store (o := (k) * 4) (n := 4) (vs := (L.ax M (k + 1)).cells) (i := 0) rfl; rw [L.cells_set M R (k) (L.ax M (k + 1)) hp.out] at st2 ⊢; replace st := st2; clear st2; generalize W2.setRow _ _ = W3 at st ⊢; (try simp only [List.set_cons_zero] at st); refine Late.fin ?_; simp only [allPhi, fillA, Act.put, zta, ztz, zpt, zsz, zss, zda, zdz])
          go_wp2_with (refine WL.out ?_; (repeat ((refine WL.op ?_ ?_; (exact rfl); intro K hK; (first | ((((with_reducible apply ow_assign); exact rfl)); (go_simp <;> (try simp (disch := omega) only [wrap_id, sub_left, zac]) <;> rfl)) | ((with_reducible apply ow_storeN' st); exact rfl; exact inferInstance; exact rfl; (exact get0); exact rfl; exact rfl; exact rfl; (focus (rw [List.length_append, L.cellsOf_length, List.length_set, hM.out]; omega)); (focus (exact congrArg (fun x => Res.box g 37 x :: rs) (L.cells_set _ R (k + 1) (L.ax M (k)) (by rw [List.length_set]; exact hq.out)))); (try clear st); intro w' st) | ((with_reducible apply ow_eval); (go_simp <;> (try simp (disch := omega) only [wrap_id, sub_left, zac]) <;> rfl); ((with_reducible apply up_value)))); refine WL.next hK (by simp only [Act.put, zpt, zsz, zss]; exact rfl) ?_; clear hK K))); (try refine WL.nil ?_))
          exact ⟨⟨k + 1, _, by omega, by omega, by go_num, st, Lib.hid (by rw [List.length_set, List.length_set]; exact hM.out)⟩, by simp [intOf]; omega⟩
        · have hI2 : (i : Int) - 1 ≤ (k : Int) := by omega
          go_wp2_with (refine WL.out ?_; (repeat ((refine WL.op ?_ ?_; (exact rfl); intro K hK; (((with_reducible apply ow_eval); (go_simp <;> (try simp (disch := omega) only [wrap_id, sub_left, zac]) <;> rfl); ((with_reducible apply up_value)))); refine WL.next hK (by simp only [Act.put, zpt, zsz, zss]; exact rfl) ?_; clear hK K))); (try refine WL.nil ?_))
          refine bodyPost_ret (results_none rfl _ _ _) rfl ?_
          exact ⟨M, rfl, st, hM.out⟩
end Go.Proofs.YtppjhccdgbheiaaGreatDoor
namespace Go.Proofs.YtppjhccdgbheiaaGreatDoor
open Go.RowKit Go.Hp
set_option maxRecDepth 8000 in
set_option maxHeartbeats 8000000 in
theorem symMerge_right {w0 : World} {rs : List Res} (g n c a m b : Nat) (l : List L.Ace) (R : List Value) (w : World) (st : St w0 w (.box g 37 (L.cellsOf l ++ R) :: rs)) (hl : l.length = n) (ham : a + 1 < m) (hmb : b = m + 1) (hbn : b ≤ n) (hc : n ≤ c) (hn : n ≤ 1000) :
    Calls Tryz.prog 163 #[.slice (some ⟨g, 0, none⟩) n c, .int .i64 a, .int .i64 m, .int .i64 b, .func (.func 111) #[] #[]] w fun e w' => ∃ M, e = .returned (.tuple #[]) ∧ St w0 w' (.box g 37 (L.cellsOf M ++ R) :: rs) ∧ M.length = n := by
  have HL := Lib.hid hl
  clear hl
  have e0 : ((m : Int) - (a : Int) == 1) = false := by simp; omega
  have e1 : ((b : Int) - (m : Int) == 1) = true := by simp; omega
  go_enter Tryz.func163, Tryz.ntmps163
  go_wp2_with (refine WL.out ?_; (repeat ((refine WL.op ?_ ?_; (exact rfl); intro K hK; (((with_reducible apply ow_eval); (go_simp <;> (try simp (disch := omega) only [wrap_id, sub_left, zac]) <;> rfl); ((with_reducible apply up_value)))); refine WL.next hK (by simp only [Act.put, zpt, zsz, zss]; exact rfl) ?_; clear hK K))); (try refine WL.nil ?_))
  go_loopw [14, 15] (fun vi vj wr => ∃ (i j : Nat), a ≤ i ∧ i ≤ j ∧ j ≤ m ∧ vi = .int .i64 i ∧ vj = .int .i64 j ∧ St w0 wr (.box g 37 (L.cellsOf l ++ R) :: rs)) (fun i j _ => (intOf j).toNat - (intOf i).toNat)
  case atStart => exact ⟨a, m, by omega, by omega, by omega, rfl, rfl, st⟩
  case round =>
    clear st
    obtain ⟨i, j, hmi, hij, hjb, rfl, rfl, st⟩ := hrel
    by_cases hlt : i < j
    · obtain ⟨h, hh⟩ : ∃ h, h = (i + j) / 2 := ⟨_, rfl⟩
      have hav := Lib.hid (avg_wrap (i := i) (j := j) hh (by omega) (by omega))
      have hih : i ≤ h := by omega
      have hhj : h < j := by omega
      clear hh
      have hhn : h < n := by omega
      have hmn : m < n := by omega
      have hq1 : Hid (h < l.length) := Lib.hid (by rw [HL.out]; omega)
      have hq2 : Hid (m < l.length) := Lib.hid (by rw [HL.out]; omega)
      go_wp2_with (refine WL.out ?_; (repeat ((refine WL.op ?_ ?_; (exact rfl); intro K hK; (first | ((((with_reducible apply ow_assign); exact rfl)); (go_simp <;> (try simp (disch := omega) only [wrap_id, sub_left, zac]) <;> rfl)) | ((with_reducible apply ow_eval); (go_simp <;> (try simp (disch := omega) only [wrap_id, sub_left, zac]) <;> rfl); ((with_reducible apply up_value)))); refine WL.next hK (by simp only [Act.put, zpt, zsz, zss]; exact rfl) ?_; clear hK K))); (try refine WL.nil ?_))
      rw [hav.out]
      refine wp_region_plan 12 (by kernel_rfl) (by kernel_rfl) ?_; replace st := st.drew; generalize World.drew _ = W at st ⊢
      iterate 4 (apply Plan.val'; (focus (intro x0 x1 x2 x3 x4 x5 x6 x7 x8 x9 x10 x11 w1 hb; (try simp only [depF, fillA, Act.put, zta, ztz, zpt, zsz, zss, zl0, zls]); (repeat (rintro rfl)); have st := st.call hb; ((apply Yphi.run; (exact rfl); (go_simp <;> (try simp (disch := omega) only [wrap_id, sub_left, zac]) <;> rfl); exact rfl)))); (simp only [zca, zcn] <;> exact rfl))
      (apply Plan.val'; (focus (intro x0 x1 x2 x3 x4 x5 x6 x7 x8 x9 x10 x11 w1 hb; (try simp only [depF, fillA, Act.put, zta, ztz, zpt, zsz, zss, zl0, zls]); (repeat (rintro rfl)); have st := st.call hb; apply Yphi.loadN st; exact rfl; exact inferInstance; (exact rfl); exact rfl; (exact get0); (focus (exact L.cells_take _ _ _ (hq2.out))); exact rfl)); (simp only [zca, zcn] <;> exact rfl))
      iterate 3 (apply Plan.val'; (focus (intro x0 x1 x2 x3 x4 x5 x6 x7 x8 x9 x10 x11 w1 hb; (try simp only [depF, fillA, Act.put, zta, ztz, zpt, zsz, zss, zl0, zls]); (repeat (rintro rfl)); have st := st.call hb; ((apply Yphi.run; (exact rfl); (go_simp <;> (try simp (disch := omega) only [wrap_id, sub_left, zac]) <;> rfl); exact rfl)))); (simp only [zca, zcn] <;> exact rfl))
      (apply Plan.val'; (focus (intro x0 x1 x2 x3 x4 x5 x6 x7 x8 x9 x10 x11 w1 hb; (try simp only [depF, fillA, Act.put, zta, ztz, zpt, zsz, zss, zl0, zls]); (repeat (rintro rfl)); have st := st.call hb; apply Yphi.loadN st; exact rfl; exact inferInstance; (exact rfl); exact rfl; (exact get0); (focus (exact L.cells_take _ _ _ (hq1.out))); exact rfl)); (simp only [zca, zcn] <;> exact rfl))
      (apply Plan.val'; (focus (intro x0 x1 x2 x3 x4 x5 x6 x7 x8 x9 x10 x11 w1 hb; (try simp only [depF, fillA, Act.put, zta, ztz, zpt, zsz, zss, zl0, zls]); (repeat (rintro rfl)); have st := st.call hb; apply Yphi.call; (exact rfl); (go_simp <;> (try simp (disch := omega) only [wrap_id, sub_left, zac]) <;> rfl); exact rfl; refine (byRank_any (L.ax l m) (L.ax l h) _).mono ?_; rintro e w' ⟨rfl, hb'⟩; exact ⟨_, rfl, hb', rfl⟩)); (simp only [zca, zcn] <;> exact rfl))
      iterate 2 (apply Plan.val'; (focus (intro x0 x1 x2 x3 x4 x5 x6 x7 x8 x9 x10 x11 w1 hb; (try simp only [depF, fillA, Act.put, zta, ztz, zpt, zsz, zss, zl0, zls]); (repeat (rintro rfl)); have st := st.call hb; ((apply Yphi.run; (exact rfl); (go_simp <;> (try simp (disch := omega) only [wrap_id, sub_left, zac]) <;> rfl); exact rfl)))); (simp only [zca, zcn] <;> exact rfl))
      intro x0 x1 x2 x3 x4 x5 x6 x7 x8 x9 x10 x11 lo hi w1 hb hap
      rintro rfl rfl rfl rfl rfl rfl rfl rfl rfl rfl rfl rfl
      simp only [allPhi, fillA, Act.put, zta, ztz, zpt, zsz, zss, zda, zdz]
      have st := st.call hb
      clear hap hb
      by_cases hx : L.cmp (L.ax l m) (L.ax l h) < 0
      · simp only [decide_eq_true hx, Bool.not_true]
        go_wp2_with (refine WL.out ?_; (repeat (fail)); (try refine WL.nil ?_))
        exact ⟨⟨i, h, by omega, by omega, by omega, rfl, rfl, st⟩, by simp [intOf]; omega⟩
      · simp only [decide_eq_false hx, Bool.not_false]
        go_wp2_with (refine WL.out ?_; (repeat ((refine WL.op ?_ ?_; (exact rfl); intro K hK; (first | ((((with_reducible apply ow_assign); exact rfl)); (go_simp <;> (try simp (disch := omega) only [wrap_id, sub_left, zac]) <;> rfl)) | ((with_reducible apply ow_eval); (go_simp <;> (try simp (disch := omega) only [wrap_id, sub_left, zac]) <;> rfl); ((with_reducible apply up_value)))); refine WL.next hK (by simp only [Act.put, zpt, zsz, zss]; exact rfl) ?_; clear hK K))); (try refine WL.nil ?_))
        exact ⟨⟨h + 1, j, by omega, by omega, by omega, by go_num, rfl, st⟩, by simp [intOf]; omega⟩
    · have hin : i ≤ n := by omega
      go_wp2_with (refine WL.out ?_; (repeat ((refine WL.op ?_ ?_; (exact rfl); intro K hK; (((with_reducible apply ow_eval); (go_simp <;> (try simp (disch := omega) only [wrap_id, sub_left, zac]) <;> rfl); ((with_reducible apply up_value)))); refine WL.next hK (by simp only [Act.put, zpt, zsz, zss]; exact rfl) ?_; clear hK K))); (try refine WL.nil ?_))
      go_loopw [17] (fun vk wr => ∃ (k : Nat) (M : List L.Ace), i ≤ k ∧ k ≤ m ∧ vk = .int .i64 k ∧ St w0 wr (.box g 37 (L.cellsOf M ++ R) :: rs) ∧ Hid (M.length = n)) (fun k _ => (intOf k).toNat)
      case atStart => exact ⟨m, l, by omega, by omega, rfl, st, HL⟩
      case round =>
        clear st HL
        obtain ⟨k, M, hik, hkm, rfl, st, hM⟩ := hrel
        by_cases hlt2 : i < k
        · obtain ⟨r, rfl⟩ : ∃ r, k = r + 1 := ⟨k - 1, by omega⟩
          have hp : Hid (r + 1 < M.length) := Lib.hid (by rw [hM.out]; omega)
          have hq : Hid (r < M.length) := Lib.hid (by rw [hM.out]; omega)
          have hrn : r < n := by omega
          have hI0 : (0 : Int) ≤ (r : Int) + 1 := by omega
          have hI1 : (r : Int) + 1 < (n : Int) := by omega
          go_wp2_with (refine WL.out ?_; (repeat ((refine WL.op ?_ ?_; (exact rfl); intro K hK; (((with_reducible apply ow_eval); (go_simp <;> (try simp (disch := omega) only [wrap_id, sub_left, zac]) <;> rfl); ((with_reducible apply up_value)))); refine WL.next hK (by simp only [Act.put, zpt, zsz, zss]; exact rfl) ?_; clear hK K))); (try refine WL.nil ?_))
          (refine wp_region_late_st 16 15 g ((L.cellsOf M ++ R).take ((r + 1) * 4) ++ (L.ax M (r)).cells ++ (L.cellsOf M ++ R).drop ((r + 1) * 4 + 4)) st (by kernel_rfl) (by kernel_rfl) (by decide) ?_; clear st; intro W2 st; (iterate 9 (apply Late.free; exact rfl; (focus (intro x0 x1 x2 x3 x4 x5 x6 x7 x8 x9 x10 x11 x12 x13 x14 x15; (try simp only [depL, fillA, Act.put, List.getD_cons_succ, List.getD_cons_zero, zta, ztz, zpt, zsz, zss, zl0, zls]); (repeat (first | rintro rfl | intro _)); apply YX.run; (exact rfl); (go_simp <;> (try simp (disch := omega) only [wrap_id, sub_left, zac]) <;> rfl); exact rfl)); (simp only [zca, zcn] <;> exact rfl))); (apply Late.pre; exact rfl; (kernel_rfl); (focus (intro x0 x1 x2 x3 x4 x5 x6 x7 x8 x9 x10 x11 x12 x13 x14 x15; (try simp only [depL, fillA, Act.put, List.getD_cons_succ, List.getD_cons_zero, zta, ztz, zpt, zsz, zss, zl0, zls]); (repeat (rintro rfl)); apply YX.loadN st; exact rfl; exact inferInstance; (exact rfl); exact rfl; (exact get0); (focus ((exact L.cells_take _ _ _ (hq.out)))); exact rfl)); (simp only [zca, zcn] <;> exact rfl)); (iterate 3 (apply Late.free; exact rfl; (focus (intro x0 x1 x2 x3 x4 x5 x6 x7 x8 x9 x10 x11 x12 x13 x14 x15; (try simp only [depL, fillA, Act.put, List.getD_cons_succ, List.getD_cons_zero, zta, ztz, zpt, zsz, zss, zl0, zls]); (repeat (first | rintro rfl | intro _)); apply YX.run; (exact rfl); (go_simp <;> (try simp (disch := omega) only [wrap_id, sub_left, zac]) <;> rfl); exact rfl)); (simp only [zca, zcn] <;> exact rfl))); (apply Late.pre; exact rfl; (kernel_rfl); (focus (intro x0 x1 x2 x3 x4 x5 x6 x7 x8 x9 x10 x11 x12 x13 x14 x15; (try simp only [depL, fillA, Act.put, List.getD_cons_succ, List.getD_cons_zero, zta, ztz, zpt, zsz, zss, zl0, zls]); (repeat (rintro rfl)); apply YX.loadN st; exact rfl; exact inferInstance; (exact rfl); exact rfl; (exact get0); (focus ((exact L.cells_take _ _ _ (hp.out)))); exact rfl)); (simp only [zca, zcn] <;> exact rfl)); (apply Late.free; exact rfl; (focus (intro x0 x1 x2 x3 x4 x5 x6 x7 x8 x9 x10 x11 x12 x13 x14 x15; (try simp only [depL, fillA, Act.put, List.getD_cons_succ, List.getD_cons_zero, zta, ztz, zpt, zsz, zss, zl0, zls]); (repeat (first | rintro rfl | intro _)); apply YX.run; (exact rfl); (go_simp <;> (try simp (disch := omega) only [wrap_id, sub_left, zac]) <;> rfl); exact rfl)); (simp only [zca, zcn] <;> exact rfl)); (apply Late.store; exact rfl; (focus (intro x0 x1 x2 x3 x4 x5 x6 x7 x8 x9 x10 x11 x12 x13 x14 x15; (try simp only [depL, fillA, Act.put, List.getD_cons_succ, List.getD_cons_zero, zta, ztz, zpt, zsz, zss, zl0, zls]); (repeat (first | rintro rfl | intro _)); apply YS.storeN st; exact rfl; exact inferInstance; (exact rfl); exact rfl; (exact get0); exact rfl; exact rfl; exact rfl; (focus (rw [List.length_append, L.cellsOf_length, hM.out]; omega)))); (simp only [zca, zcn] <;> exact rfl)); have st2 := st.store (o := (r + 1) * 4) (n := 4) (vs := (L.ax M (r)).cells) (i := 0) rfl; rw [L.cells_set M R (r + 1) (L.ax M (r)) hp.out] at st2 ⊢; replace st := st2; clear st2; generalize W2.setRow _ _ = W3 at st ⊢; (try simp only [List.set_cons_zero] at st); refine Late.fin ?_; simp only [allPhi, fillA, Act.put, zta, ztz, zpt, zsz, zss, zda, zdz])
          go_wp2_with (refine WL.out ?_; (repeat ((refine WL.op ?_ ?_; (exact rfl); intro K hK; (first | ((((with_reducible apply ow_assign); exact rfl)); (go_simp <;> (try simp (disch := omega) only [wrap_id, sub_left, zac]) <;> rfl)) | ((with_reducible apply ow_storeN' st); exact rfl; exact inferInstance; exact rfl; (exact get0); exact rfl; exact rfl; exact rfl; (focus (rw [List.length_append, L.cellsOf_length, List.length_set, hM.out]; omega)); (focus (exact congrArg (fun x => Res.box g 37 x :: rs) (L.cells_set _ R (r) (L.ax M (r + 1)) (by rw [List.length_set]; exact hq.out)))); (try clear st); intro w' st) | ((with_reducible apply ow_eval); (go_simp <;> (try simp (disch := omega) only [wrap_id, sub_left, zac]) <;> rfl); ((with_reducible apply up_value)))); refine WL.next hK (by simp only [Act.put, zpt, zsz, zss]; exact rfl) ?_; clear hK K))); (try refine WL.nil ?_))
          exact ⟨⟨r, _, by omega, by omega, by go_num, st, Lib.hid (by rw [List.length_set, List.length_set]; exact hM.out)⟩, by simp [intOf]⟩
        · go_wp2_with (refine WL.out ?_; (repeat ((refine WL.op ?_ ?_; (exact rfl); intro K hK; (((with_reducible apply ow_eval); (go_simp <;> (try simp (disch := omega) only [wrap_id, sub_left, zac]) <;> rfl); ((with_reducible apply up_value)))); refine WL.next hK (by simp only [Act.put, zpt, zsz, zss]; exact rfl) ?_; clear hK K))); (try refine WL.nil ?_))
          refine bodyPost_ret (results_none rfl _ _ _) rfl ?_
          exact ⟨M, rfl, st, hM.out⟩
end Go.Proofs.YtppjhccdgbheiaaGreatDoor
namespace Go.Proofs.YtppjhccdgbheiaaGreatDoor
open Go.RowKit Go.Hp
def Left {w0 : World} (rs : List Res) (g n : Nat) (R : List Value) (e : Ending) (w' : World) : Prop := ∃ M, e = .returned (.tuple #[]) ∧ St w0 w' (.box g 37 (L.cellsOf M ++ R) :: rs) ∧ M.length = n
theorem rotate_int {w0 : World} {rs : List Res} (X Y Z : Int) (g n c a m b : Nat) (l : List L.Ace) (R : List Value) (w : World) (st : St w0 w (.box g 37 (L.cellsOf l ++ R) :: rs)) (hl : l.length = n) (hc : n ≤ c) (hn : n ≤ 1000) (F : Value) (hX : X = a) (hY : Y = m) (hZ : Z = b) (ham : a < m) (hmb : m < b) (hb : b ≤ n) :
    Calls Tryz.prog 171 #[.slice (some ⟨g, 0, none⟩) n c, .int .i64 X, .int .i64 Y, .int .i64 Z, F] w (Left (w0 := w0) rs g n R) := by
  subst hX; subst hY; subst hZ
  exact rotate_any g n c a m b l R w st hl ham hmb hb hc hn F
set_option maxRecDepth 8000 in
set_option maxHeartbeats 8000000 in
theorem symMerge_mid {w0 : World} {rs : List Res} (g n c a m b : Nat) (l : List L.Ace) (R : List Value) (w : World) (st : St w0 w (.box g 37 (L.cellsOf l ++ R) :: rs)) (hl : l.length = n) (ham : a + 1 < m) (hmb : m + 1 < b) (hbn : b ≤ n) (hc : n ≤ c) (hn : n ≤ 1000)
    (IH : ∀ (X Y Z : Int) (a' m' b' : Nat) (M : List L.Ace) (W : World), St w0 W (.box g 37 (L.cellsOf M ++ R) :: rs) → M.length = n → X = a' → Y = m' → Z = b' → a' < m' → m' < b' → b' ≤ n → b' - a' < b - a → Calls Tryz.prog 163 #[.slice (some ⟨g, 0, none⟩) n c, .int .i64 X, .int .i64 Y, .int .i64 Z, .func (.func 111) #[] #[]] W (Left (w0 := w0) rs g n R)) :
    Calls Tryz.prog 163 #[.slice (some ⟨g, 0, none⟩) n c, .int .i64 a, .int .i64 m, .int .i64 b, .func (.func 111) #[] #[]] w (Left (w0 := w0) rs g n R) := by
  have HL := Lib.hid hl
  clear hl
  have HIH := Lib.hid IH
  clear IH
  have e0 : ((m : Int) - (a : Int) == 1) = false := by simp; omega
  have e1 : ((b : Int) - (m : Int) == 1) = false := by simp; omega
  obtain ⟨d, hd⟩ : ∃ d, d = (a + b) / 2 := ⟨_, rfl⟩
  have hdv := Lib.hid (avg_wrap (i := a) (j := b) hd (by omega) (by omega))
  have hd1 : a < d := by omega
  have hd2 : d < b := by omega
  have hd3 : 2 * d ≤ a + b := by omega
  have hd4 : a + b ≤ 2 * d + 1 := by omega
  clear hd
  obtain ⟨s0, r0, h1, h2, h3, h4, h5⟩ : ∃ s0 r0 : Nat, (d < m → (s0 : Int) = (d : Int) + (m : Int) - (b : Int) ∧ r0 = d) ∧ (m ≤ d → s0 = a ∧ r0 = m) ∧ s0 ≤ r0 ∧ a ≤ s0 ∧ r0 ≤ d := by
    by_cases h : d < m
    · exact ⟨d + m - b, d, fun _ => ⟨by omega, rfl⟩, fun h' => by omega, by omega, by omega, by omega⟩
    · exact ⟨a, m, fun h' => by omega, fun _ => ⟨rfl, rfl⟩, by omega, by omega, by omega⟩
  have H1 := Lib.hid h1
  have H2 := Lib.hid h2
  have hway : (d < m ∧ r0 = d ∧ s0 + b = d + m) ∨ (m ≤ d ∧ s0 = a ∧ r0 = m) := by
    by_cases h : d < m
    · exact .inl ⟨h, (h1 h).2, by have := (h1 h).1; omega⟩
    · exact .inr ⟨by omega, h2 (by omega)⟩
  have HWAY := Lib.hid hway
  clear h1 h2 hway
  have hs1 : Hid (d + m ≤ s0 + b ∧ r0 ≤ m) := Lib.hid (by
    by_cases h : d < m
    · have := H1.out h; omega
    · have := H2.out (by omega); omega)
  go_enter Tryz.func163, Tryz.ntmps163
  go_upto_region 25 with (refine WL.out ?_; (repeat ((refine WL.op ?_ ?_; (exact rfl); intro K hK; (first | ((first | ((with_reducible apply ow_move); exact rfl) | ((with_reducible apply ow_assign); exact rfl)); (go_simp <;> (try simp (disch := omega) only [wrap_id, sub_left, zac]) <;> rfl)) | ((with_reducible apply ow_eval); (go_simp <;> (try simp (disch := omega) only [wrap_id, sub_left, zac]) <;> rfl); ((with_reducible apply up_value)))); refine WL.next hK (by simp only [Act.put, zpt, zsz, zss]; exact rfl) ?_; clear hK K))); (try refine WL.nil ?_))
  rw [hdv.out]
  go_wp2_with (refine WL.out ?_; (repeat ((refine WL.op ?_ ?_; (exact rfl); intro K hK; (first | ((((with_reducible apply ow_assign); exact rfl)); (go_simp <;> (try simp (disch := omega) only [wrap_id, sub_left, zac]) <;> rfl)) | ((with_reducible apply ow_eval); (go_simp <;> (try simp (disch := omega) only [wrap_id, sub_left, zac]) <;> rfl); ((with_reducible apply up_value)))); refine WL.next hK (by simp only [Act.put, zpt, zsz, zss]; exact rfl) ?_; clear hK K))); (try refine WL.nil ?_))
  all_goals
    go_loopw [20, 21] (fun vs vr wr => ∃ (s r : Nat), s0 ≤ s ∧ s ≤ r ∧ r ≤ r0 ∧ vs = .int .i64 s ∧ vr = .int .i64 r ∧ St w0 wr (.box g 37 (L.cellsOf l ++ R) :: rs)) (fun s r _ => (intOf r).toNat - (intOf s).toNat)
    case atStart =>
      refine ⟨s0, r0, Nat.le_refl _, h3, Nat.le_refl _, congrArg (Value.int .i64) ?_, congrArg (Value.int .i64) ?_, st⟩
      all_goals
        by_cases h : d < m
        · have := H1.out h; omega
        · have := H2.out (by omega); omega
    case round =>
      clear st
      obtain ⟨s, r, hs0, hsr, hr0, rfl, rfl, st⟩ := hrel
      have hs2 := hs1.out.1
      have hs3 := hs1.out.2
      by_cases hlt : s < r
      · obtain ⟨h, hh⟩ : ∃ h, h = (s + r) / 2 := ⟨_, rfl⟩
        have hav := Lib.hid (avg_wrap (i := s) (j := r) hh (by omega) (by omega))
        have hsh : s ≤ h := by omega
        have hhr : h < r := by omega
        clear hh
        have hhn : h < n := by omega
        obtain ⟨q, hQ, hqn⟩ : ∃ q : Nat, (d : Int) + (m : Int) - 1 - (h : Int) = (q : Int) ∧ q < n := ⟨d + m - 1 - h, by omega, by omega⟩
        have hq1 : Hid (q < l.length) := Lib.hid (by rw [HL.out]; omega)
        have hq2 : Hid (h < l.length) := Lib.hid (by rw [HL.out]; omega)
        go_wp2_with (refine WL.out ?_; (repeat ((refine WL.op ?_ ?_; (exact rfl); intro K hK; (first | ((((with_reducible apply ow_assign); exact rfl)); (go_simp <;> (try simp (disch := omega) only [wrap_id, sub_left, zac]) <;> rfl)) | ((with_reducible apply ow_eval); (go_simp <;> (try simp (disch := omega) only [wrap_id, sub_left, zac]) <;> rfl); ((with_reducible apply up_value)))); refine WL.next hK (by simp only [Act.put, zpt, zsz, zss]; exact rfl) ?_; clear hK K))); (try refine WL.nil ?_))
        rw [hav.out]
        refine wp_region_plan 14 (by kernel_rfl) (by kernel_rfl) ?_; replace st := st.drew; generalize World.drew _ = W at st ⊢
        iterate 6 (apply Plan.val'; (focus (intro x0 x1 x2 x3 x4 x5 x6 x7 x8 x9 x10 x11 x12 x13 w1 hb; (try simp only [depF, fillA, Act.put, zta, ztz, zpt, zsz, zss, zl0, zls]); (repeat (rintro rfl)); have st := st.call hb; ((apply Yphi.run; (exact rfl); (go_simp <;> (try simp (disch := omega) only [wrap_id, sub_left, zac]) <;> rfl); exact rfl)))); (simp only [zca, zcn] <;> exact rfl))
        (apply Plan.val'; (focus (intro x0 x1 x2 x3 x4 x5 x6 x7 x8 x9 x10 x11 x12 x13 w1 hb; (try simp only [depF, fillA, Act.put, zta, ztz, zpt, zsz, zss, zl0, zls]); (repeat (rintro rfl)); have st := st.call hb; apply Yphi.loadN st; exact rfl; exact inferInstance; (exact rfl); exact rfl; (exact get0); (focus (exact L.cells_take _ _ _ (hq1.out))); exact rfl)); (simp only [zca, zcn] <;> exact rfl))
        iterate 3 (apply Plan.val'; (focus (intro x0 x1 x2 x3 x4 x5 x6 x7 x8 x9 x10 x11 x12 x13 w1 hb; (try simp only [depF, fillA, Act.put, zta, ztz, zpt, zsz, zss, zl0, zls]); (repeat (rintro rfl)); have st := st.call hb; ((apply Yphi.run; (exact rfl); (go_simp <;> (try simp (disch := omega) only [wrap_id, sub_left, zac]) <;> rfl); exact rfl)))); (simp only [zca, zcn] <;> exact rfl))
        (apply Plan.val'; (focus (intro x0 x1 x2 x3 x4 x5 x6 x7 x8 x9 x10 x11 x12 x13 w1 hb; (try simp only [depF, fillA, Act.put, zta, ztz, zpt, zsz, zss, zl0, zls]); (repeat (rintro rfl)); have st := st.call hb; apply Yphi.loadN st; exact rfl; exact inferInstance; (exact rfl); exact rfl; (exact get0); (focus (exact L.cells_take _ _ _ (hq2.out))); exact rfl)); (simp only [zca, zcn] <;> exact rfl))
        (apply Plan.val'; (focus (intro x0 x1 x2 x3 x4 x5 x6 x7 x8 x9 x10 x11 x12 x13 w1 hb; (try simp only [depF, fillA, Act.put, zta, ztz, zpt, zsz, zss, zl0, zls]); (repeat (rintro rfl)); have st := st.call hb; apply Yphi.call; (exact rfl); (go_simp <;> (try simp (disch := omega) only [wrap_id, sub_left, zac]) <;> rfl); exact rfl; refine (byRank_any (L.ax l q) (L.ax l h) _).mono ?_; rintro e w' ⟨rfl, hb'⟩; exact ⟨_, rfl, hb', rfl⟩)); (simp only [zca, zcn] <;> exact rfl))
        iterate 2 (apply Plan.val'; (focus (intro x0 x1 x2 x3 x4 x5 x6 x7 x8 x9 x10 x11 x12 x13 w1 hb; (try simp only [depF, fillA, Act.put, zta, ztz, zpt, zsz, zss, zl0, zls]); (repeat (rintro rfl)); have st := st.call hb; ((apply Yphi.run; (exact rfl); (go_simp <;> (try simp (disch := omega) only [wrap_id, sub_left, zac]) <;> rfl); exact rfl)))); (simp only [zca, zcn] <;> exact rfl))
        intro x0 x1 x2 x3 x4 x5 x6 x7 x8 x9 x10 x11 x12 x13 lo hi w1 hb hap
        rintro rfl rfl rfl rfl rfl rfl rfl rfl rfl rfl rfl rfl rfl rfl
        simp only [allPhi, fillA, Act.put, zta, ztz, zpt, zsz, zss, zda, zdz]
        have st := st.call hb
        clear hap hb
        by_cases hx : L.cmp (L.ax l q) (L.ax l h) < 0
        · simp only [decide_eq_true hx, Bool.not_true]
          go_wp2_with (refine WL.out ?_; (repeat (fail)); (try refine WL.nil ?_))
          exact ⟨⟨s, h, by omega, by omega, by omega, rfl, rfl, st⟩, by simp [intOf]; omega⟩
        · simp only [decide_eq_false hx, Bool.not_false]
          go_wp2_with (refine WL.out ?_; (repeat ((refine WL.op ?_ ?_; (exact rfl); intro K hK; (first | ((((with_reducible apply ow_assign); exact rfl)); (go_simp <;> (try simp (disch := omega) only [wrap_id, sub_left, zac]) <;> rfl)) | ((with_reducible apply ow_eval); (go_simp <;> (try simp (disch := omega) only [wrap_id, sub_left, zac]) <;> rfl); ((with_reducible apply up_value)))); refine WL.next hK (by simp only [Act.put, zpt, zsz, zss]; exact rfl) ?_; clear hK K))); (try refine WL.nil ?_))
          exact ⟨⟨h + 1, r, by omega, by omega, by omega, by go_num, rfl, st⟩, by simp [intOf]; omega⟩
      · have hM := HL
        clear HL
        have hsd : s ≤ d := by omega
        have hsm : s ≤ m := by omega
        by_cases c1 : s < m
        · have f1 : (d : Int) < (d : Int) + (m : Int) - (s : Int) := by omega
          by_cases c2 : s < d
          · have f2 : (m : Int) < (d : Int) + (m : Int) - (s : Int) := by omega
            by_cases c3 : a < s
            · by_cases c4 : d + m < s + b
              · have f3 : (d : Int) + (m : Int) - (s : Int) < (b : Int) := by omega
                first | (exfalso; have := HWAY.out; omega) | (go_wp2_with (refine WL.out ?_; (repeat ((refine WL.op ?_ ?_; (exact rfl); intro K hK; (first | ((first | ((with_reducible apply ow_move); exact rfl) | ((with_reducible apply ow_assign); exact rfl)); (go_simp <;> (try simp (disch := omega) only [wrap_id, sub_left, zac]) <;> rfl)) | ((with_reducible apply ow_eval); (go_simp <;> (try simp (disch := omega) only [wrap_id, sub_left, zac]) <;> rfl); first | (with_reducible apply up_value) | ((with_reducible apply up_enter); first | (go_at_call 171; (refine (rotate_int _ _ _ g n c s m (d + m - s) _ R _ st hM.out hc hn _ ?_ ?_ ?_ ?_ ?_ ?_).mono ?_); (focus (rfl)); (focus (rfl)); (focus (omega)); (focus (omega)); (focus (omega)); (focus (omega)); rintro e w' ⟨M', rfl, st', hM1⟩; replace st := st'; clear st'; replace hM := Lib.hid hM1; clear hM1; refine ⟨_, rfl, ?_⟩) | (go_at_call 163; (refine (HIH.out _ _ _ a s d _ _ st hM.out ?_ ?_ ?_ ?_ ?_ ?_ ?_).mono ?_); (focus (rfl)); (focus (rfl)); (focus (rfl)); (focus (omega)); (focus (omega)); (focus (omega)); (focus (omega)); rintro e w' ⟨M', rfl, st', hM1⟩; replace st := st'; clear st'; replace hM := Lib.hid hM1; clear hM1; refine ⟨_, rfl, ?_⟩) | (go_at_call 163; (refine (HIH.out _ _ _ d (d + m - s) b _ _ st hM.out ?_ ?_ ?_ ?_ ?_ ?_ ?_).mono ?_); (focus (rfl)); (focus (omega)); (focus (rfl)); (focus (omega)); (focus (omega)); (focus (omega)); (focus (omega)); rintro e w' ⟨M', rfl, st', hM1⟩; replace st := st'; clear st'; replace hM := Lib.hid hM1; clear hM1; refine ⟨_, rfl, ?_⟩)))); refine WL.next hK (by simp only [Act.put, zpt, zsz, zss]; exact rfl) ?_; clear hK K))); (try refine WL.nil ?_)); all_goals (go_end0; exact ⟨_, rfl, st, hM.out⟩))
              · have f3 : (b : Int) ≤ (d : Int) + (m : Int) - (s : Int) := by omega
                first | (exfalso; have := HWAY.out; omega) | (go_wp2_with (refine WL.out ?_; (repeat ((refine WL.op ?_ ?_; (exact rfl); intro K hK; (first | ((first | ((with_reducible apply ow_move); exact rfl) | ((with_reducible apply ow_assign); exact rfl)); (go_simp <;> (try simp (disch := omega) only [wrap_id, sub_left, zac]) <;> rfl)) | ((with_reducible apply ow_eval); (go_simp <;> (try simp (disch := omega) only [wrap_id, sub_left, zac]) <;> rfl); first | (with_reducible apply up_value) | ((with_reducible apply up_enter); first | (go_at_call 171; (refine (rotate_int _ _ _ g n c s m (d + m - s) _ R _ st hM.out hc hn _ ?_ ?_ ?_ ?_ ?_ ?_).mono ?_); (focus (rfl)); (focus (rfl)); (focus (omega)); (focus (omega)); (focus (omega)); (focus (omega)); rintro e w' ⟨M', rfl, st', hM1⟩; replace st := st'; clear st'; replace hM := Lib.hid hM1; clear hM1; refine ⟨_, rfl, ?_⟩) | (go_at_call 163; (refine (HIH.out _ _ _ a s d _ _ st hM.out ?_ ?_ ?_ ?_ ?_ ?_ ?_).mono ?_); (focus (rfl)); (focus (rfl)); (focus (rfl)); (focus (omega)); (focus (omega)); (focus (omega)); (focus (omega)); rintro e w' ⟨M', rfl, st', hM1⟩; replace st := st'; clear st'; replace hM := Lib.hid hM1; clear hM1; refine ⟨_, rfl, ?_⟩)))); refine WL.next hK (by simp only [Act.put, zpt, zsz, zss]; exact rfl) ?_; clear hK K))); (try refine WL.nil ?_)); all_goals (go_end0; exact ⟨_, rfl, st, hM.out⟩))
            · by_cases c4 : d + m < s + b
              · have f3 : (d : Int) + (m : Int) - (s : Int) < (b : Int) := by omega
                first | (exfalso; have := HWAY.out; omega) | (go_wp2_with (refine WL.out ?_; (repeat (first | (refine WL.op ?_ ?_; (exact rfl); intro K hK; (first | ((first | ((with_reducible apply ow_move); exact rfl) | ((with_reducible apply ow_assign); exact rfl)); (go_simp <;> (try simp (disch := omega) only [wrap_id, sub_left, zac]) <;> rfl)) | ((with_reducible apply ow_eval); (go_simp <;> (try simp (disch := omega) only [wrap_id, sub_left, zac]) <;> rfl); first | (with_reducible apply up_value) | ((with_reducible apply up_enter); first | (go_at_call 171; (refine (rotate_int _ _ _ g n c s m (d + m - s) _ R _ st hM.out hc hn _ ?_ ?_ ?_ ?_ ?_ ?_).mono ?_); (focus (rfl)); (focus (rfl)); (focus (omega)); (focus (omega)); (focus (omega)); (focus (omega)); rintro e w' ⟨M', rfl, st', hM1⟩; replace st := st'; clear st'; replace hM := Lib.hid hM1; clear hM1; refine ⟨_, rfl, ?_⟩) | (go_at_call 163; (refine (HIH.out _ _ _ d (d + m - s) b _ _ st hM.out ?_ ?_ ?_ ?_ ?_ ?_ ?_).mono ?_); (focus (rfl)); (focus (omega)); (focus (rfl)); (focus (omega)); (focus (omega)); (focus (omega)); (focus (omega)); rintro e w' ⟨M', rfl, st', hM1⟩; replace st := st'; clear st'; replace hM := Lib.hid hM1; clear hM1; refine ⟨_, rfl, ?_⟩)))); refine WL.next hK (by simp only [Act.put, zpt, zsz, zss]; exact rfl) ?_; clear hK K) | (refine WL.skip ?_ (by simp only [Act.put, zpt, zsz, zss]; exact rfl) ?_; (exact rfl)))); (try refine WL.nil ?_)); all_goals (go_end0; exact ⟨_, rfl, st, hM.out⟩))
              · have f3 : (b : Int) ≤ (d : Int) + (m : Int) - (s : Int) := by omega
                first | (exfalso; have := HWAY.out; omega) | (go_wp2_with (refine WL.out ?_; (repeat (first | (refine WL.op ?_ ?_; (exact rfl); intro K hK; (first | ((first | ((with_reducible apply ow_move); exact rfl) | ((with_reducible apply ow_assign); exact rfl)); (go_simp <;> (try simp (disch := omega) only [wrap_id, sub_left, zac]) <;> rfl)) | ((with_reducible apply ow_eval); (go_simp <;> (try simp (disch := omega) only [wrap_id, sub_left, zac]) <;> rfl); first | (with_reducible apply up_value) | ((with_reducible apply up_enter); ((go_at_call 171; (refine (rotate_int _ _ _ g n c s m (d + m - s) _ R _ st hM.out hc hn _ ?_ ?_ ?_ ?_ ?_ ?_).mono ?_); (focus (rfl)); (focus (rfl)); (focus (omega)); (focus (omega)); (focus (omega)); (focus (omega)); rintro e w' ⟨M', rfl, st', hM1⟩; replace st := st'; clear st'; replace hM := Lib.hid hM1; clear hM1; refine ⟨_, rfl, ?_⟩))))); refine WL.next hK (by simp only [Act.put, zpt, zsz, zss]; exact rfl) ?_; clear hK K) | (refine WL.skip ?_ (by simp only [Act.put, zpt, zsz, zss]; exact rfl) ?_; (exact rfl)))); (try refine WL.nil ?_)); all_goals (go_end0; exact ⟨_, rfl, st, hM.out⟩))
          · have f2 : (d : Int) + (m : Int) - (s : Int) ≤ (m : Int) := by omega
            have c3 : a < s := by omega
            have f3 : (d : Int) + (m : Int) - (s : Int) < (b : Int) := by omega
            first | (exfalso; have := HWAY.out; omega) | (go_wp2_with (refine WL.out ?_; (repeat ((refine WL.op ?_ ?_; (exact rfl); intro K hK; (first | ((first | ((with_reducible apply ow_move); exact rfl) | ((with_reducible apply ow_assign); exact rfl)); (go_simp <;> (try simp (disch := omega) only [wrap_id, sub_left, zac]) <;> rfl)) | ((with_reducible apply ow_eval); (go_simp <;> (try simp (disch := omega) only [wrap_id, sub_left, zac]) <;> rfl); first | (with_reducible apply up_value) | ((with_reducible apply up_enter); ((go_at_call 163; (refine (HIH.out _ _ _ d (d + m - s) b _ _ st hM.out ?_ ?_ ?_ ?_ ?_ ?_ ?_).mono ?_); (focus (rfl)); (focus (omega)); (focus (rfl)); (focus (omega)); (focus (omega)); (focus (omega)); (focus (omega)); rintro e w' ⟨M', rfl, st', hM1⟩; replace st := st'; clear st'; replace hM := Lib.hid hM1; clear hM1; refine ⟨_, rfl, ?_⟩))))); refine WL.next hK (by simp only [Act.put, zpt, zsz, zss]; exact rfl) ?_; clear hK K))); (try refine WL.nil ?_)); all_goals (go_end0; exact ⟨_, rfl, st, hM.out⟩))
        · have f1 : (d : Int) + (m : Int) - (s : Int) ≤ (d : Int) := by omega
          have c3 : a < s := by omega
          by_cases c2 : s < d
          · first | (exfalso; have := HWAY.out; omega) | (go_wp2_with (refine WL.out ?_; (repeat (first | (refine WL.op ?_ ?_; (exact rfl); intro K hK; (first | ((first | ((with_reducible apply ow_move); exact rfl) | ((with_reducible apply ow_assign); exact rfl)); (go_simp <;> (try simp (disch := omega) only [wrap_id, sub_left, zac]) <;> rfl)) | ((with_reducible apply ow_eval); (go_simp <;> (try simp (disch := omega) only [wrap_id, sub_left, zac]) <;> rfl); first | (with_reducible apply up_value) | ((with_reducible apply up_enter); ((go_at_call 163; (refine (HIH.out _ _ _ a s d _ _ st hM.out ?_ ?_ ?_ ?_ ?_ ?_ ?_).mono ?_); (focus (rfl)); (focus (rfl)); (focus (rfl)); (focus (omega)); (focus (omega)); (focus (omega)); (focus (omega)); rintro e w' ⟨M', rfl, st', hM1⟩; replace st := st'; clear st'; replace hM := Lib.hid hM1; clear hM1; refine ⟨_, rfl, ?_⟩))))); refine WL.next hK (by simp only [Act.put, zpt, zsz, zss]; exact rfl) ?_; clear hK K) | (refine WL.skip ?_ (by simp only [Act.put, zpt, zsz, zss]; exact rfl) ?_; (first | exact rfl | (simp [Region.wanted, yielded, *] <;> done))))); (try refine WL.nil ?_)); all_goals (go_end0; exact ⟨_, rfl, st, hM.out⟩))
          · first | (exfalso; have := HWAY.out; omega) | (go_wp2_with (refine WL.out ?_; (repeat (first | (refine WL.op ?_ ?_; (exact rfl); intro K hK; (first | ((first | ((with_reducible apply ow_move); exact rfl) | ((with_reducible apply ow_assign); exact rfl)); (go_simp <;> (try simp (disch := omega) only [wrap_id, sub_left, zac]) <;> rfl)) | ((with_reducible apply ow_eval); (go_simp <;> (try simp (disch := omega) only [wrap_id, sub_left, zac]) <;> rfl); ((with_reducible apply up_value)))); refine WL.next hK (by simp only [Act.put, zpt, zsz, zss]; exact rfl) ?_; clear hK K) | (refine WL.skip ?_ (by simp only [Act.put, zpt, zsz, zss]; exact rfl) ?_; (first | exact rfl | (simp [Region.wanted, yielded, *] <;> done))))); (try refine WL.nil ?_)); all_goals (go_end0; exact ⟨_, rfl, st, hM.out⟩))
end Go.Proofs.YtppjhccdgbheiaaGreatDoor
namespace Go.Proofs.YtppjhccdgbheiaaGreatDoor
open Go.RowKit Go.Hp
theorem symMerge_all : ∀ (k : Nat) {w0 : World} {rs : List Res} (X Y Z : Int) (g n c a m b : Nat) (l : List L.Ace) (R : List Value) (w : World), St w0 w (.box g 37 (L.cellsOf l ++ R) :: rs) → l.length = n → X = a → Y = m → Z = b → a < m → m < b → b ≤ n → n ≤ c → n ≤ 1000 → b - a ≤ k →
    Calls Tryz.prog 163 #[.slice (some ⟨g, 0, none⟩) n c, .int .i64 X, .int .i64 Y, .int .i64 Z, .func (.func 111) #[] #[]] w (Left (w0 := w0) rs g n R)
  | 0, _, _, _, _, _, _, _, _, _, _, _, _, _, _, _, _, _, _, _, h1, h2, _, _, _, h3 => by omega
  | k + 1, w0, rs, X, Y, Z, g, n, c, a, m, b, l, R, w, st, hl, hX, hY, hZ, ham, hmb, hbn, hc, hn, hk => by
    subst hX; subst hY; subst hZ
    by_cases h1 : m = a + 1
    · exact symMerge_left g n c a m b l R w st hl h1 hmb hbn hc hn
    · by_cases h2 : b = m + 1
      · exact symMerge_right g n c a m b l R w st hl (by omega) h2 hbn hc hn
      · exact symMerge_mid g n c a m b l R w st hl (by omega) (by omega) hbn hc hn (fun X Y Z a' m' b' M W st' hM hX hY hZ h3 h4 h5 h6 => symMerge_all k X Y Z g n c a' m' b' M R W st' hM hX hY hZ h3 h4 h5 hc hn (by omega))
theorem symMerge_int {w0 : World} {rs : List Res} (X Y Z : Int) (g n c a m b : Nat) (l : List L.Ace) (R : List Value) (w : World) (st : St w0 w (.box g 37 (L.cellsOf l ++ R) :: rs)) (hl : l.length = n) (hc : n ≤ c) (hn : n ≤ 1000) (hX : X = a) (hY : Y = m) (hZ : Z = b) (ham : a < m) (hmb : m < b) (hbn : b ≤ n) :
    Calls Tryz.prog 163 #[.slice (some ⟨g, 0, none⟩) n c, .int .i64 X, .int .i64 Y, .int .i64 Z, .func (.func 111) #[] #[]] w (Left (w0 := w0) rs g n R) :=
  symMerge_all (b - a) X Y Z g n c a m b l R w st hl hX hY hZ ham hmb hbn hc hn (Nat.le_refl _)
theorem insertion_int {w0 : World} {rs : List Res} (X Y : Int) (g n c a b : Nat) (l : List L.Ace) (R : List Value) (w : World) (st : St w0 w (.box g 37 (L.cellsOf l ++ R) :: rs)) (hl : l.length = n) (hc : n ≤ c) (hn : n ≤ 1000) (h0 : 0 < n) (hX : X = a) (hY : Y = b) (ha : a ≤ n) (hb : b ≤ n) :
    Calls Tryz.prog 162 #[.slice (some ⟨g, 0, none⟩) n c, .int .i64 X, .int .i64 Y, .func (.func 111) #[] #[]] w (Left (w0 := w0) rs g n R) := by
  subst hX; subst hY
  exact (insertionSort_any g n c a b l R w st hl ha hb hc hn h0).mono fun e w' ⟨M, h1, h2, h3, _⟩ => ⟨M, h1, h2, h3⟩
set_option maxHeartbeats 4000000 in
theorem stable_great {w0 : World} {rs : List Res} (g n c : Nat) (l : List L.Ace) (R : List Value) (w : World) (st : St w0 w (.box g 37 (L.cellsOf l ++ R) :: rs)) (hl : l.length = n) (hc : n ≤ c) (hn : n ≤ 1000) (h0 : 20 < n) :
    Calls Tryz.prog 150 #[.slice (some ⟨g, 0, none⟩) n c, .int .i64 n, .func (.func 111) #[] #[]] w (Left (w0 := w0) rs g n R) := by
  have HL := Lib.hid hl
  clear hl
  go_enter Tryz.func150, Tryz.ntmps150
  go_wp2_with (refine WL.out ?_; (repeat (fail)); (try refine WL.nil ?_))
  go_loopw [7, 8] (fun va vb wr => ∃ (p : Nat) (M : List L.Ace), p ≤ n ∧ va = .int .i64 p ∧ vb = .int .i64 (p + 20) ∧ St w0 wr (.box g 37 (L.cellsOf M ++ R) :: rs) ∧ Hid (M.length = n)) (fun va _ _ => n - (intOf va).toNat)
  case atStart => exact ⟨0, l, by omega, rfl, by go_num, st, HL⟩
  case round =>
    clear st HL
    obtain ⟨p, M, hp, rfl, rfl, st, hM⟩ := hrel
    by_cases hpn : p + 20 ≤ n
    · have hI : (p : Int) + 20 ≤ (n : Int) := by omega
      go_wp2_with (refine WL.out ?_; (repeat ((refine WL.op ?_ ?_; (exact rfl); intro K hK; (first | ((((with_reducible apply ow_assign); exact rfl)); (go_simp <;> (try simp (disch := omega) only [wrap_id, sub_left, zac]) <;> rfl)) | ((with_reducible apply ow_eval); (go_simp <;> (try simp (disch := omega) only [wrap_id, sub_left, zac]) <;> rfl); first | (with_reducible apply up_value) | ((with_reducible apply up_enter); ((go_at_call 162; (refine (insertion_int _ _ g n c p (p + 20) M R _ st hM.out hc hn (by omega) ?_ ?_ ?_ ?_).mono ?_); (focus rfl); (focus omega); (focus omega); (focus omega); rintro e w' ⟨M', rfl, st', hM1⟩; replace st := st'; clear st'; replace hM := Lib.hid hM1; clear hM1; refine ⟨_, rfl, ?_⟩))))); refine WL.next hK (by simp only [Act.put, zpt, zsz, zss]; exact rfl) ?_; clear hK K))); (try refine WL.nil ?_))
      exact ⟨⟨p + 20, M', by omega, by go_num, congrArg (Value.int .i64) (by omega), st, hM⟩, by simp [intOf]; omega⟩
    · have hI : (n : Int) < (p : Int) + 20 := by omega
      go_wp2_with (refine WL.out ?_; (repeat ((refine WL.op ?_ ?_; (exact rfl); intro K hK; (((with_reducible apply ow_eval); (go_simp <;> (try simp (disch := omega) only [wrap_id, sub_left, zac]) <;> rfl); first | (with_reducible apply up_value) | ((with_reducible apply up_enter); ((go_at_call 162; (refine (insertion_int _ _ g n c p n M R _ st hM.out hc hn (by omega) ?_ ?_ ?_ ?_).mono ?_); (focus rfl); (focus rfl); (focus omega); (focus omega); rintro e w' ⟨M', rfl, st', hM1⟩; replace st := st'; clear st'; replace hM := Lib.hid hM1; clear hM1; refine ⟨_, rfl, ?_⟩))))); refine WL.next hK (by simp only [Act.put, zpt, zsz, zss]; exact rfl) ?_; clear hK K))); (try refine WL.nil ?_))
      go_loopw [6] (fun v wr => ∃ (s : Nat) (M : List L.Ace), 20 ≤ s ∧ s ≤ 2000 ∧ v = .int .i64 s ∧ St w0 wr (.box g 37 (L.cellsOf M ++ R) :: rs) ∧ Hid (M.length = n)) (fun v _ => n - (intOf v).toNat)
      case atStart => exact ⟨20, M', by omega, by omega, rfl, st, hM⟩
      case round =>
        clear st hM hI hpn hp
        obtain ⟨s, M, hs1, hs2, rfl, st, hM⟩ := hrel
        by_cases hsn : s < n
        · go_wp2_with (refine WL.out ?_; (repeat ((refine WL.op ?_ ?_; (exact rfl); intro K hK; (first | ((((with_reducible apply ow_assign); exact rfl)); (go_simp <;> (try simp (disch := omega) only [wrap_id, sub_left, zac]) <;> rfl)) | ((with_reducible apply ow_eval); (go_simp <;> (try simp (disch := omega) only [wrap_id, sub_left, zac]) <;> rfl); ((with_reducible apply up_value)))); refine WL.next hK (by simp only [Act.put, zpt, zsz, zss]; exact rfl) ?_; clear hK K))); (try refine WL.nil ?_))
          go_loopw [7, 8] (fun va vb wr => ∃ (p : Nat) (M : List L.Ace), p ≤ n ∧ va = .int .i64 p ∧ vb = .int .i64 (p + 2 * s) ∧ St w0 wr (.box g 37 (L.cellsOf M ++ R) :: rs) ∧ Hid (M.length = n)) (fun va _ _ => n - (intOf va).toNat)
          case atStart => exact ⟨0, M, by omega, rfl, congrArg (Value.int .i64) (by omega), st, hM⟩
          case round =>
            clear st hM
            obtain ⟨p, M, hp, rfl, rfl, st, hM⟩ := hrel
            by_cases hps : p + 2 * s ≤ n
            · have hI : (p : Int) + 2 * (s : Int) ≤ (n : Int) := by omega
              go_wp2_with (refine WL.out ?_; (repeat ((refine WL.op ?_ ?_; (exact rfl); intro K hK; (first | ((first | ((with_reducible apply ow_move); exact rfl) | ((with_reducible apply ow_assign); exact rfl)); (go_simp <;> (try simp (disch := omega) only [wrap_id, sub_left, zac]) <;> rfl)) | ((with_reducible apply ow_eval); (go_simp <;> (try simp (disch := omega) only [wrap_id, sub_left, zac]) <;> rfl); first | (with_reducible apply up_value) | ((with_reducible apply up_enter); ((go_at_call 163; (refine (symMerge_int _ _ _ g n c p (p + s) (p + 2 * s) M R _ st hM.out hc hn ?_ ?_ ?_ ?_ ?_ ?_).mono ?_); (focus rfl); (focus omega); (focus omega); (focus omega); (focus omega); (focus omega); rintro e w' ⟨M', rfl, st', hM1⟩; replace st := st'; clear st'; replace hM := Lib.hid hM1; clear hM1; refine ⟨_, rfl, ?_⟩))))); refine WL.next hK (by simp only [Act.put, zpt, zsz, zss]; exact rfl) ?_; clear hK K))); (try refine WL.nil ?_))
              exact ⟨⟨p + 2 * s, M', by omega, congrArg (Value.int .i64) (by omega), congrArg (Value.int .i64) (by omega), st, hM⟩, by simp [intOf]; omega⟩
            · have hI : (n : Int) < (p : Int) + 2 * (s : Int) := by omega
              by_cases hpm : p + s < n
              · have hI2 : (p : Int) + (s : Int) < (n : Int) := by omega
                go_wp2_with (refine WL.out ?_; (repeat ((refine WL.op ?_ ?_; (exact rfl); intro K hK; (first | ((((with_reducible apply ow_assign); exact rfl)); (go_simp <;> (try simp (disch := omega) only [wrap_id, sub_left, zac]) <;> rfl)) | ((with_reducible apply ow_eval); (go_simp <;> (try simp (disch := omega) only [wrap_id, sub_left, zac]) <;> rfl); first | (with_reducible apply up_value) | ((with_reducible apply up_enter); ((go_at_call 163; (refine (symMerge_int _ _ _ g n c p (p + s) n M R _ st hM.out hc hn ?_ ?_ ?_ ?_ ?_ ?_).mono ?_); (focus rfl); (focus omega); (focus rfl); (focus omega); (focus omega); (focus omega); rintro e w' ⟨M', rfl, st', hM1⟩; replace st := st'; clear st'; replace hM := Lib.hid hM1; clear hM1; refine ⟨_, rfl, ?_⟩))))); refine WL.next hK (by simp only [Act.put, zpt, zsz, zss]; exact rfl) ?_; clear hK K))); (try refine WL.nil ?_))
                exact ⟨⟨s * 2, M', by omega, by omega, congrArg (Value.int .i64) (by omega), st, hM⟩, by simp [intOf]; omega⟩
              · have hI2 : (n : Int) ≤ (p : Int) + (s : Int) := by omega
                go_wp2_with (refine WL.out ?_; (repeat ((refine WL.op ?_ ?_; (exact rfl); intro K hK; (first | ((((with_reducible apply ow_assign); exact rfl)); (go_simp <;> (try simp (disch := omega) only [wrap_id, sub_left, zac]) <;> rfl)) | ((with_reducible apply ow_eval); (go_simp <;> (try simp (disch := omega) only [wrap_id, sub_left, zac]) <;> rfl); ((with_reducible apply up_value)))); refine WL.next hK (by simp only [Act.put, zpt, zsz, zss]; exact rfl) ?_; clear hK K))); (try refine WL.nil ?_))
                exact ⟨⟨s * 2, M, by omega, by omega, congrArg (Value.int .i64) (by omega), st, hM⟩, by simp [intOf]; omega⟩
        · go_wp2_with (refine WL.out ?_; (repeat ((refine WL.op ?_ ?_; (exact rfl); intro K hK; (((with_reducible apply ow_eval); (go_simp <;> (try simp (disch := omega) only [wrap_id, sub_left, zac]) <;> rfl); ((with_reducible apply up_value)))); refine WL.next hK (by simp only [Act.put, zpt, zsz, zss]; exact rfl) ?_; clear hK K))); (try refine WL.nil ?_))
          go_end0
          exact ⟨M, rfl, st, hM.out⟩
end Go.Proofs.YtppjhccdgbheiaaGreatDoor
namespace Go.Proofs.YtppjhccdgbheiaaGreatDoor
open Go.RowKit Go.Hp
def Sorted (l M : List L.Ace) : Prop := M.length = l.length ∧ (l.length ≤ 20 → M = L.canon l)
def RetSorted (w : World) (l : List L.Ace) (e : Ending) (w' : World) : Prop := ∃ M A n c, e = .returned (.slice A n c) ∧ St w w' [aceRow (.slice A n c) n M] ∧ Sorted l M
theorem SortStable_great {w0 : World} {rs : List Res} (g n c : Nat) (l : List L.Ace) (R : List Value) (w : World) (st : St w0 w (.box g 37 (L.cellsOf l ++ R) :: rs)) (hl : l.length = n) (hc : n ≤ c) (hn : n ≤ 1000) (h0 : 20 < n) :
    Calls Tryz.prog 131 #[.slice (some ⟨g, 0, none⟩) n c, .func (.func 111) #[] #[]] w (Left (w0 := w0) rs g n R) := by
  have HL := Lib.hid hl
  clear hl
  go_enter Tryz.func131, Tryz.ntmps131
  go_wp2_with (refine WL.out ?_; (repeat ((refine WL.op ?_ ?_; (exact rfl); intro K hK; (first | ((((with_reducible apply ow_move); exact rfl)); (go_simp <;> (try simp (disch := omega) only [wrap_id, sub_left, zac]) <;> rfl)) | ((with_reducible apply ow_eval); (go_simp <;> (try simp (disch := omega) only [wrap_id, sub_left, zac]) <;> rfl); first | (with_reducible apply up_value) | ((with_reducible apply up_enter); ((go_at_call 150; refine (stable_great g n c l R _ st HL.out hc hn h0).mono ?_; rintro e w' ⟨M', rfl, st', hM1⟩; replace st := st'; clear st'; replace hM1 := Lib.hid hM1; refine ⟨_, rfl, ?_⟩))))); refine WL.next hK (by simp only [Act.put, zpt, zsz, zss]; exact rfl) ?_; clear hK K))); (try refine WL.nil ?_))
  go_end0
  exact ⟨M', rfl, st, hM1.out⟩
theorem SortRow_any {w0 : World} {rs : List Res} (A : Option Addr) (n c : Nat) (l : List L.Ace) (w : World) (st : St w0 w (aceRow (.slice A n c) n l :: rs)) (hn : n ≤ 1000) (hf : L.FOk l) :
    Calls Tryz.prog 131 #[.slice A n c, .func (.func 111) #[] #[]] w fun e w' => ∃ M, e = .returned (.tuple #[]) ∧ St w0 w' (aceRow (.slice A n c) n M :: rs) ∧ Sorted l M := by
  have e1 := St.len st (i := 0) rfl
  by_cases h20 : n ≤ 20
  · exact (SortRow_small A n c l w st h20 hf).mono fun e w' ⟨h1, h2⟩ => ⟨_, h1, h2, L.canon_length l, fun _ => rfl⟩
  · obtain ⟨g, R, rfl, hl, hcc, hnc, hcm, st⟩ := st.toBox (by omega)
    refine (SortStable_great g n c l R w st e1.symm hnc hn (by omega)).mono ?_
    rintro e w' ⟨M, rfl, st', hM1⟩
    refine ⟨M, rfl, ?_, by rw [hM1, e1], fun h => by omega⟩
    refine st'.ofBox (by rw [L.cellsOf_length, hM1]) ?_ hnc hcm
    rw [List.length_append, L.cellsOf_length, hM1]
    rw [List.length_append, L.cellsOf_length, ← e1] at hcc
    exact hcc
theorem SortedStable_any (Bs len cap B : Nat) (A : Option Addr) (zs : List L.Ace) (w : World) (hBs : Bs < w.heap.size) (hc : w.cell? ⟨Bs, 0, none⟩ = some (.slice A len cap)) (h1 : Aces w B A len zs) (hB : B ≤ w.heap.size) (hlen : len ≤ 1000) (hf : L.FOk zs) :
    Calls Tryz.prog 109 #[.func (.func 132) #[] #[.pointer (some ⟨Bs, 0, none⟩)], .func (.func 111) #[] #[]] w (RetSorted w zs) := by
  have e1 := Lib.hid h1.len
  have H1 := Lib.hid h1
  clear h1
  have HC := Lib.hid hc
  clear hc
  have HF := Lib.hid hf
  clear hf
  have st := St.start w
  go_enter Tryz.func109, Tryz.ntmps109
  go_wp2_with (refine WL.out ?_; (repeat ((refine WL.op ?_ ?_; (exact rfl); intro K hK; (first | ((((with_reducible apply ow_assign); exact rfl)); (go_simp <;> (try simp (disch := omega) only [wrap_id, sub_left, zac]) <;> rfl)) | ((with_reducible apply ow_eval); (go_simp <;> (try simp (disch := omega) only [wrap_id, sub_left, zac]) <;> rfl); (((with_reducible apply up_enter); first | (go_at_call 130; refine (Collect_any Bs len cap B A zs _ hBs HC.out H1.out hB (by omega)).mono ?_; rintro e w' ⟨A', n', c', rfl, st'⟩; replace st := st'; clear st'; have hn2 : n' ≤ 1000 := (by have h1 := St.len st (i := 0) rfl; have h2 := e1.out; omega); refine ⟨_, rfl, ?_⟩) | (go_at_call 131; refine (SortRow_any A' n' c' zs _ st hn2 HF.out).mono ?_; rintro e w' ⟨M, rfl, st', hM⟩; replace st := st'; clear st'; replace hM := Lib.hid hM; refine ⟨_, rfl, ?_⟩))))); refine WL.next hK (by simp only [Act.put, zpt, zsz, zss]; exact rfl) ?_; clear hK K))); (try refine WL.nil ?_))
  go_ret
  exact ⟨_, _, _, _, rfl, st, hM.out⟩
theorem canonical_any (A : Option Addr) (n c B : Nat) (l : List L.Ace) (w : World) (h1 : Aces w B A n l) (hB : B ≤ w.heap.size) (hn : n ≤ 1000) (hf : L.FOk l) :
    Calls Tryz.prog 77 #[.slice A n c] w (RetSorted w l) := by
  have e1 := Lib.hid h1.len
  have H1 := Lib.hid h1
  clear h1
  have HF := Lib.hid hf
  clear hf
  have st := St.start w
  go_enter Tryz.func77, Tryz.ntmps77
  go_wp2_with (refine WL.out ?_; (repeat ((refine WL.op ?_ ?_; (exact rfl); intro K hK; (first | ((((with_reducible apply ow_assign); exact rfl)); (go_simp <;> (try simp (disch := omega) only [wrap_id, sub_left, zac]) <;> rfl)) | ((with_reducible apply ow_eval); (go_simp <;> (try simp (disch := omega) only [wrap_id, sub_left, zac]) <;> rfl); (((with_reducible apply up_enter); first | (go_at_call 110; refine (Values_any A n c _).mono ?_; rintro e w' ⟨rfl, rfl⟩; have st := st.alloc [.slice A n c] 23; have hb0 := st.below; have hk : (w.alloc (.cells [Value.slice A n c].toArray 23)).cell? ⟨w.heap.size, 0, none⟩ = some (.slice A n c) := (st.cell (i := 0) rfl 0); have hsz : w.heap.size < (w.alloc (.cells [Value.slice A n c].toArray 23)).heap.size := (by simp); refine ⟨_, rfl, ?_⟩) | (go_at_call 109; refine (SortedStable_any w.heap.size n c B A l _ hsz hk (H1.out.below hb0 hB) (Nat.le_trans hB hb0.size) hn HF.out).mono ?_; rintro e w' ⟨M, A', n', c', rfl, st', hM⟩; replace st := st.join st'; clear st'; replace hM := Lib.hid hM; refine ⟨_, rfl, ?_⟩))))); refine WL.next hK (by simp only [Act.put, zpt, zsz, zss]; exact rfl) ?_; clear hK K))); (try refine WL.nil ?_))
  go_ret
  exact ⟨_, _, _, _, rfl, st.sub (by simp), hM.out⟩
end Go.Proofs.YtppjhccdgbheiaaGreatDoor
