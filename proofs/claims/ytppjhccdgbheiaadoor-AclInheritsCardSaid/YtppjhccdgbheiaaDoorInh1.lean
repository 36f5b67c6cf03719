/- For every input the law AclInherits (what a child inherits) returns true without a panic, and each argument reads behind the call as it read before: its tied card holds. Conditions: none but the row's own (the three listed tables of the standard library read as their text lays them). -/
import Derived.Test.YtppjhccdgbheiaaDoorBase3
import Derived.Test.YtppjhccdgbheiaaDoorRows
import Derived.Test.YtppjhccdgbheiaaDoorTie
import Derived.Test.YtppjhccdgbheiaaDoorCards
import Derived.SevenTiedAt
import Derived.Stop.Joined
set_option linter.all false
namespace Go.Proofs.YtppjhccdgbheiaaDoor
open Go.RowKit Go.Hp
namespace L
theorem same_refl : ∀ l : List Ace, same l l = true
  | [] => rfl
  | a :: l => by
    unfold same
    rw [same_refl l]
    simp [aeq]
theorem inheritedBy_acesErr {l : List Ace} {dir : Bool} {o g : Int} (h : rAcesErr l ≠ 0) : inheritedBy l dir o g = ([], rAcesErr l) := by
  have e : firstErr [acesErr l, holdersErr o g] = rAcesErr l := by
    rw [acesErr_eq]
    unfold firstErr
    rw [List.find?_cons_of_pos (by simpa using h)]
    rfl
  unfold inheritedBy
  rw [e, if_neg h]
theorem inheritedBy_pairErr {l : List Ace} {dir : Bool} {o g : Int} (h : rAcesErr l = 0) (h2 : rPairErr o g ≠ 0) : inheritedBy l dir o g = ([], rPairErr o g) := by
  have e : firstErr [acesErr l, holdersErr o g] = rPairErr o g := by
    rw [acesErr_eq, holders_eq, h]
    unfold firstErr
    rw [List.find?_cons_of_neg (by simp), List.find?_cons_of_pos (by simpa using h2)]
    rfl
  unfold inheritedBy
  rw [e, if_neg h2]
theorem racesErr_good {l : List Ace} (h : rAcesErr l = 0) : Good l := acesErr_good (by rw [acesErr_eq]; exact h)
theorem inheritedBy_ok {l : List Ace} {dir : Bool} {o g : Int} (h : rAcesErr l = 0) (h2 : rPairErr o g = 0) : inheritedBy l dir o g = if (rInherited dir o g l).length ≤ 16 then (rInherited dir o g l, 0) else ([], 16) := by
  have e : firstErr [acesErr l, holdersErr o g] = 0 := by
    rw [acesErr_eq, holders_eq, h, h2]
    rfl
  have hp := pair_ne h2
  have hi := inherited_eq dir hp.1 hp.2 (l := l) fun a ha => ⟨(racesErr_good h a ha).f0, (racesErr_good h a ha).f1⟩
  unfold inheritedBy
  rw [if_pos e, hi]
end L
def rowFrom (base : Nat) (l : List L.Ace) : Phi := fun _ _ v w => ∃ A n c, v = .slice A n c ∧ (aceRow v n l).holds base w
theorem rowFrom_stable (base : Nat) (l : List L.Ace) : (rowFrom base l).stable := by
  rintro lo hi v w1 w2 hb hh ⟨A, n, c, rfl, ho⟩
  exact ⟨A, n, c, rfl, Res.holds_keep ho hb.size fun k hk => hb.block k (Res.holds_lt ho hk).2⟩
def tupRow (base : Nat) (l : List L.Ace) (e : Int) : Phi := fun _ _ v w => ∃ A n c, v = .tuple #[.slice A n c, .int .i64 e] ∧ (aceRow (.slice A n c) n l).holds base w
theorem tupRow_stable (base : Nat) (l : List L.Ace) (e : Int) : (tupRow base l e).stable := by
  rintro lo hi v w1 w2 hb hh ⟨A, n, c, rfl, ho⟩
  exact ⟨A, n, c, rfl, Res.holds_keep ho hb.size fun k hk => hb.block k (Res.holds_lt ho hk).2⟩
theorem Yphi.fact {P : Program} {ops : Array Oper} {o : Oper} {a : Act} {w : World} {φ : Phi} {v : Value} {r : Result Next} (hw : Region.wanted o (yielded ops a.tmps) = true) (hr : (execOp a.eval o).run P w = r) (hv : r = .ok (.value v) w) (hφ : φ w.heap.size w.heap.size v w) : Yphi P ops o a w φ :=
  .inl ⟨hw, wp_value (hr.trans hv) ⟨v, rfl, Below.refl _ _, hφ⟩⟩
theorem InheritedBy_at {l m : List L.Ace} {dir : Bool} {o g E : Int} (h : L.inheritedBy l dir o g = (m, E)) (A : Option Addr) (n c B : Nat) (w : World) (h1 : Aces w B A n l) (hB1 : B ≤ w.heap.size) (hn : n ≤ 100) :
    Calls Tryd.prog 15 #[.slice A n c, .bool dir, .int .i64 o, .int .i64 g] w (RetAcesErr w (m, E)) := by
  rw [← h]
  exact InheritedBy_any dir o g A n c B l w h1 hB1 hn
set_option maxRecDepth 8000 in
set_option maxHeartbeats 4000000 in
theorem AclInherits_any (A : Option Addr) (n c B : Nat) (l : List L.Ace) (dir : Bool) (x y : Int) (w : World) (h1 : Aces w B A n l) (hB1 : B ≤ w.heap.size) (hm : n ≤ maxLen) :
    Calls Tryd.prog 4 #[.slice A n c, .bool dir, .agg #[.int .i64 x, .int .i64 y]] w fun e w' => e = .returned (.bool true) ∧ Below w.heap.size w w' := by
  have e1 := Lib.hid h1.len
  have H1 := Lib.hid h1
  clear h1
  unfold maxLen at hm
  have st := St.start w
  by_cases hn : n ≤ 20
  · by_cases ha : L.rAcesErr l = 0
    · by_cases hp : L.rPairErr x y = 0
      · have hg := Lib.hid (L.racesErr_good ha)
        have hF : Hid (∀ a ∈ l, 0 ≤ a.f ∧ a.f ≤ 31) := Lib.hid fun a ha => ⟨(hg.out a ha).f0, (hg.out a ha).f1⟩
        have hR := Lib.hid (L.inheritedBy_ok (dir := dir) ha hp)
        have HA := Lib.hid ha
        have HP := Lib.hid hp
        clear ha hp
        by_cases hl : (L.rInherited dir x y l).length ≤ 16
        · have hR2 := Lib.hid (hR.out.trans (if_pos hl))
          have hLn := Lib.hid hl
          clear hl
          go_enter Tryd.func4, Tryd.ntmps4
          go_wp2_with (refine WL.out ?_; (repeat ((refine WL.op ?_ ?_; (exact rfl); intro K hK; (first | ((((with_reducible apply ow_assign); exact rfl)); (go_simp <;> (try simp (disch := omega) only [wrap_id, sub_left, zac]) <;> rfl)) | ((((with_reducible apply ow_box st); exact rfl; (go_simp <;> (try simp (disch := omega) only [wrap_id, sub_left, zac]) <;> rfl); (go_simp <;> (try simp (disch := omega) only [wrap_id, sub_left, zac]) <;> rfl))); (try clear st); intro b w' st) | ((with_reducible apply ow_eval); (go_simp <;> (try simp (disch := omega) only [wrap_id, sub_left, zac]) <;> rfl); first | (with_reducible apply up_value) | ((with_reducible apply up_enter); ((go_at_call 8; refine (awake_any _).mono ?_; rintro e w' ⟨rfl, hb⟩; replace st := st.call hb; clear hb; refine ⟨_, rfl, ?_⟩))))); refine WL.next hK (by simp only [Act.put, zpt, zsz, zss]; exact rfl) ?_; clear hK K))); (try refine WL.nil ?_))
          refine wp_region_plan 12 (by kernel_rfl) (by kernel_rfl) ?_; replace st := st.drew; generalize World.drew _ = W at st ⊢
          (apply Plan.val'; (focus (intro x0 x1 x2 x3 x4 x5 x6 x7 x8 x9 x10 x11 w1 hb; (try simp only [depF, fillA, Act.put, zta, ztz, zpt, zsz, zss, zl0, zls]); (repeat (fail)); have st := st.call hb; ((apply Yphi.run; (exact rfl); (go_simp <;> (try simp (disch := omega) only [wrap_id, sub_left, zac]) <;> rfl); exact rfl)))); (simp only [zca, zcn] <;> exact rfl))
          (apply Plan.fact' (freshRow 23 4 (L.cellsOf (l))) (freshRow_stable _ _ _); (focus (intro x0 x1 x2 x3 x4 x5 x6 x7 x8 x9 x10 x11 w1 hb; (try simp only [depF, fillA, Act.put, zta, ztz, zpt, zsz, zss, zl0, zls]); (repeat (rintro rfl)); have st := st.call hb; apply Yphi.call; (exact rfl); (go_simp <;> (try simp (disch := omega) only [wrap_id, sub_left, zac]) <;> rfl); exact rfl; refine (CopyAces_any A n c B l _ (H1.out.st st hB1) (Nat.le_trans hB1 st.size) (by omega)).mono ?_; rintro e w' ⟨A', n', c', rfl, st'⟩; exact ⟨_, rfl, st'.below, freshRow_mk (st'.get (i := 0) rfl)⟩)); (simp only [zca, zcn] <;> exact rfl))
          iterate 5 (apply Plan.val'; (focus (intro x0 x1 x2 x3 x4 x5 x6 x7 x8 x9 x10 x11 w1 hb; (try simp only [depF, fillA, Act.put, zta, ztz, zpt, zsz, zss, zl0, zls]); (repeat (rintro rfl)); have st := st.call hb; (first | (apply Yphi.run; (exact rfl); (go_simp <;> (try simp (disch := omega) only [wrap_id, sub_left, zac]) <;> rfl); exact rfl) | (apply Yphi.load1 st; exact rfl; exact inferInstance; (exact rfl); exact rfl; (exact get0); exact rfl)))); (simp only [zca, zcn] <;> exact rfl))
          (apply Plan.fact' (tupRow W.heap.size (L.rInherited dir x y l) (0)) (tupRow_stable _ _ _); (focus (intro x0 x1 x2 x3 x4 x5 x6 x7 x8 x9 x10 x11 w1 hb; (try simp only [depF, fillA, Act.put, zta, ztz, zpt, zsz, zss, zl0, zls]); (repeat (first | rintro rfl | intro lo hi hlo hhi hphi)); have st := st.call hb; obtain ⟨A3, n3, c3, rfl, ho3, hk3⟩ := hphi; apply Yphi.call; (exact rfl); (go_simp <;> (try simp (disch := omega) only [wrap_id, sub_left, zac]) <;> rfl); exact rfl; refine (InheritedBy_at hR2.out A3 n3 c3 _ _ (Rd.aces (Rd.of_row ho3)) (Nat.le_refl _) (by have h3 := row_len (v := .slice A3 n3 c3) (n := n3) (l := l) ho3; have := e1.out; omega)).mono ?_; rintro e w' ⟨A', n', c', rfl, st'⟩; exact ⟨_, rfl, st'.below, ⟨A', n', c', rfl, Res.holds_mono (st'.get (i := 0) rfl) hb.size⟩⟩)); (simp only [zca, zcn] <;> exact rfl))
          (apply Plan.fact' (tupRow W.heap.size (L.rInherited dir x y l) (0)) (tupRow_stable _ _ _); (focus (intro x0 x1 x2 x3 x4 x5 x6 x7 x8 x9 x10 x11 w1 hb; (try simp only [depF, fillA, Act.put, zta, ztz, zpt, zsz, zss, zl0, zls]); (repeat (intro lo hi hlo hhi hphi)); have st := st.call hb; obtain ⟨A', n', c', rfl, ho⟩ := hphi; apply Yphi.fact; (exact rfl); (go_simp <;> (try simp (disch := omega) only [wrap_id, sub_left, zac]) <;> rfl); exact rfl; exact ⟨A', n', c', rfl, ho⟩)); (simp only [zca, zcn] <;> exact rfl))
          (apply Plan.fact' (rowFrom W.heap.size (L.rInherited dir x y l)) (rowFrom_stable _ _); (focus (intro x0 x1 x2 x3 x4 x5 x6 x7 x8 x9 x10 x11 w1 hb; (try simp only [depF, fillA, Act.put, zta, ztz, zpt, zsz, zss, zl0, zls]); (repeat (intro lo hi hlo hhi hphi)); have st := st.call hb; obtain ⟨A', n', c', rfl, ho⟩ := hphi; apply Yphi.fact; (exact rfl); (go_simp <;> (try simp (disch := omega) only [wrap_id, sub_left, zac]) <;> rfl); exact rfl; exact ⟨A', n', c', rfl, ho⟩)); (simp only [zca, zcn] <;> exact rfl))
          (apply Plan.val'; (focus (intro x0 x1 x2 x3 x4 x5 x6 x7 x8 x9 x10 x11 w1 hb; (try simp only [depF, fillA, Act.put, zta, ztz, zpt, zsz, zss, zl0, zls]); (repeat (intro lo hi hlo hhi hphi)); have st := st.call hb; obtain ⟨A', n', c', rfl, ho⟩ := hphi; apply Yphi.run; (exact rfl); (go_simp <;> (try simp (disch := omega) only [wrap_id, sub_left, zac]) <;> rfl); exact rfl)); (simp only [zca, zcn] <;> exact rfl))
          (apply Plan.fact' (rowFrom W.heap.size (L.rInherited dir x y l)) (rowFrom_stable _ _); (focus (intro x0 x1 x2 x3 x4 x5 x6 x7 x8 x9 x10 x11 w1 hb; (try simp only [depF, fillA, Act.put, zta, ztz, zpt, zsz, zss, zl0, zls]); (repeat (first | rintro rfl | intro lo hi hlo hhi hphi)); have st := st.call hb; obtain ⟨A', n', c', rfl, ho⟩ := hphi; apply Yphi.fact; (exact rfl); (go_simp <;> (try simp (disch := omega) only [wrap_id, sub_left, zac]) <;> rfl); exact rfl; exact ⟨A', n', c', rfl, ho⟩)); (simp only [zca, zcn] <;> exact rfl))
          intro x0 x1 x2 x3 x4 x5 x6 x7 x8 x9 x10 x11 lo hi w1 hb hap
          rintro rfl - - - rfl rfl rfl rfl rfl - - - - - - - - - rfl - - ⟨A9, n9, c9, rfl, ho9⟩
          simp only [allPhi, fillA, Act.put, zta, ztz, zpt, zsz, zss, zda, zdz]
          have st := rows_one st hb ho9 (Nat.le_refl _)
          clear ho9 hap hb
          have l9 := Lib.hid (St.len st (i := 0) rfl)
          have h9 : n9 ≤ 16 := by have := l9.out; have := hLn.out; omega
          go_wp2_with (refine WL.out ?_; (repeat ((refine WL.op ?_ ?_; (exact rfl); intro K hK; (first | ((first | ((with_reducible apply ow_move); exact rfl) | ((with_reducible apply ow_assign); exact rfl)); (go_simp <;> (try simp (disch := omega) only [wrap_id, sub_left, zac]) <;> rfl)) | ((((with_reducible apply ow_load1 st); exact rfl; exact inferInstance; exact rfl; (exact get1))); exact rfl) | ((with_reducible apply ow_eval); (go_simp <;> (try simp (disch := omega) only [wrap_id, sub_left, zac]) <;> rfl); first | (with_reducible apply up_value) | ((with_reducible apply up_enter); first | (go_at_call 17; refine (AcesErr_any A n c B l _ (H1.out.st st hB1) (Nat.le_trans hB1 st.size) (by omega)).mono ?_; rintro e w' ⟨rfl, hb⟩; replace st := st.call hb; clear hb; rw [HA.out]; refine ⟨_, rfl, ?_⟩) | (go_at_call 18; refine (rPairErr_any _ _ _).mono ?_; rintro e w' ⟨rfl, rfl⟩; rw [HP.out]; refine ⟨_, rfl, ?_⟩) | (go_at_call 19; refine (rInherited_any dir x y A n c B l _ (H1.out.st st hB1) (Nat.le_trans hB1 st.size) (by omega) hF.out).mono ?_; rintro e w' ⟨A8, n8, c8, rfl, st'⟩; replace st := st.join st'; clear st'; simp only [List.cons_append, List.nil_append] at st; have l8 := Lib.hid (St.len st (i := 0) rfl); have h8 : (n8 : Int) ≤ 16 := (by have := l8.out; have := hLn.out; omega); refine ⟨_, rfl, ?_⟩) | (go_at_call 20; refine (SameAces_any _ _ _ _ _ _ _ _ _ _ _ (St.aces st (i := 1) rfl) (St.aces st (i := 0) rfl) (Nat.le_refl _) (Nat.le_refl _) (by omega) (by omega)).mono ?_; rintro e w' ⟨rfl, hb⟩; replace st := st.call hb; clear hb; rw [L.same_refl]; refine ⟨_, rfl, ?_⟩)))); refine WL.next hK (by simp only [Act.put, zpt, zsz, zss]; exact rfl) ?_; clear hK K))); (try refine WL.nil ?_))
          go_ret
          exact ⟨rfl, st.below⟩
        · have hR2 := Lib.hid (hR.out.trans (if_neg hl))
          have hLn := Lib.hid hl
          clear hl
          go_enter Tryd.func4, Tryd.ntmps4
          go_wp2_with (refine WL.out ?_; (repeat ((refine WL.op ?_ ?_; (exact rfl); intro K hK; (first | ((((with_reducible apply ow_assign); exact rfl)); (go_simp <;> (try simp (disch := omega) only [wrap_id, sub_left, zac]) <;> rfl)) | ((((with_reducible apply ow_box st); exact rfl; (go_simp <;> (try simp (disch := omega) only [wrap_id, sub_left, zac]) <;> rfl); (go_simp <;> (try simp (disch := omega) only [wrap_id, sub_left, zac]) <;> rfl))); (try clear st); intro b w' st) | ((with_reducible apply ow_eval); (go_simp <;> (try simp (disch := omega) only [wrap_id, sub_left, zac]) <;> rfl); first | (with_reducible apply up_value) | ((with_reducible apply up_enter); ((go_at_call 8; refine (awake_any _).mono ?_; rintro e w' ⟨rfl, hb⟩; replace st := st.call hb; clear hb; refine ⟨_, rfl, ?_⟩))))); refine WL.next hK (by simp only [Act.put, zpt, zsz, zss]; exact rfl) ?_; clear hK K))); (try refine WL.nil ?_))
          refine wp_region_plan 12 (by kernel_rfl) (by kernel_rfl) ?_; replace st := st.drew; generalize World.drew _ = W at st ⊢
          (apply Plan.val'; (focus (intro x0 x1 x2 x3 x4 x5 x6 x7 x8 x9 x10 x11 w1 hb; (try simp only [depF, fillA, Act.put, zta, ztz, zpt, zsz, zss, zl0, zls]); (repeat (fail)); have st := st.call hb; ((apply Yphi.run; (exact rfl); (go_simp <;> (try simp (disch := omega) only [wrap_id, sub_left, zac]) <;> rfl); exact rfl)))); (simp only [zca, zcn] <;> exact rfl))
          (apply Plan.fact' (freshRow 23 4 (L.cellsOf (l))) (freshRow_stable _ _ _); (focus (intro x0 x1 x2 x3 x4 x5 x6 x7 x8 x9 x10 x11 w1 hb; (try simp only [depF, fillA, Act.put, zta, ztz, zpt, zsz, zss, zl0, zls]); (repeat (rintro rfl)); have st := st.call hb; apply Yphi.call; (exact rfl); (go_simp <;> (try simp (disch := omega) only [wrap_id, sub_left, zac]) <;> rfl); exact rfl; refine (CopyAces_any A n c B l _ (H1.out.st st hB1) (Nat.le_trans hB1 st.size) (by omega)).mono ?_; rintro e w' ⟨A', n', c', rfl, st'⟩; exact ⟨_, rfl, st'.below, freshRow_mk (st'.get (i := 0) rfl)⟩)); (simp only [zca, zcn] <;> exact rfl))
          iterate 5 (apply Plan.val'; (focus (intro x0 x1 x2 x3 x4 x5 x6 x7 x8 x9 x10 x11 w1 hb; (try simp only [depF, fillA, Act.put, zta, ztz, zpt, zsz, zss, zl0, zls]); (repeat (rintro rfl)); have st := st.call hb; (first | (apply Yphi.run; (exact rfl); (go_simp <;> (try simp (disch := omega) only [wrap_id, sub_left, zac]) <;> rfl); exact rfl) | (apply Yphi.load1 st; exact rfl; exact inferInstance; (exact rfl); exact rfl; (exact get0); exact rfl)))); (simp only [zca, zcn] <;> exact rfl))
          (apply Plan.fact' (tupRow W.heap.size ([]) (16)) (tupRow_stable _ _ _); (focus (intro x0 x1 x2 x3 x4 x5 x6 x7 x8 x9 x10 x11 w1 hb; (try simp only [depF, fillA, Act.put, zta, ztz, zpt, zsz, zss, zl0, zls]); (repeat (first | rintro rfl | intro lo hi hlo hhi hphi)); have st := st.call hb; obtain ⟨A3, n3, c3, rfl, ho3, hk3⟩ := hphi; apply Yphi.call; (exact rfl); (go_simp <;> (try simp (disch := omega) only [wrap_id, sub_left, zac]) <;> rfl); exact rfl; refine (InheritedBy_at hR2.out A3 n3 c3 _ _ (Rd.aces (Rd.of_row ho3)) (Nat.le_refl _) (by have h3 := row_len (v := .slice A3 n3 c3) (n := n3) (l := l) ho3; have := e1.out; omega)).mono ?_; rintro e w' ⟨A', n', c', rfl, st'⟩; exact ⟨_, rfl, st'.below, ⟨A', n', c', rfl, Res.holds_mono (st'.get (i := 0) rfl) hb.size⟩⟩)); (simp only [zca, zcn] <;> exact rfl))
          (apply Plan.fact' (tupRow W.heap.size ([]) (16)) (tupRow_stable _ _ _); (focus (intro x0 x1 x2 x3 x4 x5 x6 x7 x8 x9 x10 x11 w1 hb; (try simp only [depF, fillA, Act.put, zta, ztz, zpt, zsz, zss, zl0, zls]); (repeat (intro lo hi hlo hhi hphi)); have st := st.call hb; obtain ⟨A', n', c', rfl, ho⟩ := hphi; apply Yphi.fact; (exact rfl); (go_simp <;> (try simp (disch := omega) only [wrap_id, sub_left, zac]) <;> rfl); exact rfl; exact ⟨A', n', c', rfl, ho⟩)); (simp only [zca, zcn] <;> exact rfl))
          (apply Plan.fact' (rowFrom W.heap.size ([])) (rowFrom_stable _ _); (focus (intro x0 x1 x2 x3 x4 x5 x6 x7 x8 x9 x10 x11 w1 hb; (try simp only [depF, fillA, Act.put, zta, ztz, zpt, zsz, zss, zl0, zls]); (repeat (intro lo hi hlo hhi hphi)); have st := st.call hb; obtain ⟨A', n', c', rfl, ho⟩ := hphi; apply Yphi.fact; (exact rfl); (go_simp <;> (try simp (disch := omega) only [wrap_id, sub_left, zac]) <;> rfl); exact rfl; exact ⟨A', n', c', rfl, ho⟩)); (simp only [zca, zcn] <;> exact rfl))
          (apply Plan.val'; (focus (intro x0 x1 x2 x3 x4 x5 x6 x7 x8 x9 x10 x11 w1 hb; (try simp only [depF, fillA, Act.put, zta, ztz, zpt, zsz, zss, zl0, zls]); (repeat (intro lo hi hlo hhi hphi)); have st := st.call hb; obtain ⟨A', n', c', rfl, ho⟩ := hphi; apply Yphi.run; (exact rfl); (go_simp <;> (try simp (disch := omega) only [wrap_id, sub_left, zac]) <;> rfl); exact rfl)); (simp only [zca, zcn] <;> exact rfl))
          (apply Plan.fact' (rowFrom W.heap.size ([])) (rowFrom_stable _ _); (focus (intro x0 x1 x2 x3 x4 x5 x6 x7 x8 x9 x10 x11 w1 hb; (try simp only [depF, fillA, Act.put, zta, ztz, zpt, zsz, zss, zl0, zls]); (repeat (first | rintro rfl | intro lo hi hlo hhi hphi)); have st := st.call hb; obtain ⟨A', n', c', rfl, ho⟩ := hphi; apply Yphi.fact; (exact rfl); (go_simp <;> (try simp (disch := omega) only [wrap_id, sub_left, zac]) <;> rfl); exact rfl; exact ⟨A', n', c', rfl, ho⟩)); (simp only [zca, zcn] <;> exact rfl))
          intro x0 x1 x2 x3 x4 x5 x6 x7 x8 x9 x10 x11 lo hi w1 hb hap
          rintro rfl - - - rfl rfl rfl rfl rfl - - - - - - - - - rfl - - ⟨A9, n9, c9, rfl, ho9⟩
          simp only [allPhi, fillA, Act.put, zta, ztz, zpt, zsz, zss, zda, zdz]
          have st := rows_one st hb ho9 (Nat.le_refl _)
          clear ho9 hap hb
          have l9 := Lib.hid (St.len st (i := 0) rfl)
          obtain rfl : n9 = 0 := l9.out
          go_wp2_with (refine WL.out ?_; (repeat ((refine WL.op ?_ ?_; (exact rfl); intro K hK; (first | ((first | ((with_reducible apply ow_move); exact rfl) | ((with_reducible apply ow_assign); exact rfl)); (go_simp <;> (try simp (disch := omega) only [wrap_id, sub_left, zac]) <;> rfl)) | ((((with_reducible apply ow_load1 st); exact rfl; exact inferInstance; exact rfl; (exact get1))); exact rfl) | ((with_reducible apply ow_eval); (go_simp <;> (try simp (disch := omega) only [wrap_id, sub_left, zac]) <;> rfl); first | (with_reducible apply up_value) | ((with_reducible apply up_enter); first | (go_at_call 17; refine (AcesErr_any A n c B l _ (H1.out.st st hB1) (Nat.le_trans hB1 st.size) (by omega)).mono ?_; rintro e w' ⟨rfl, hb⟩; replace st := st.call hb; clear hb; rw [HA.out]; refine ⟨_, rfl, ?_⟩) | (go_at_call 18; refine (rPairErr_any _ _ _).mono ?_; rintro e w' ⟨rfl, rfl⟩; rw [HP.out]; refine ⟨_, rfl, ?_⟩) | (go_at_call 19; refine (rInherited_any dir x y A n c B l _ (H1.out.st st hB1) (Nat.le_trans hB1 st.size) (by omega) hF.out).mono ?_; rintro e w' ⟨A8, n8, c8, rfl, st'⟩; replace st := st.join st'; clear st'; simp only [List.cons_append, List.nil_append] at st; have l8 := Lib.hid (St.len st (i := 0) rfl); have h8 : (16 : Int) < (n8 : Int) := (by have := l8.out; have := hLn.out; omega); refine ⟨_, rfl, ?_⟩)))); refine WL.next hK (by simp only [Act.put, zpt, zsz, zss]; exact rfl) ?_; clear hK K))); (try refine WL.nil ?_))
          go_ret
          exact ⟨rfl, st.below⟩
      · have HA := Lib.hid ha
        have hR2 := Lib.hid (L.inheritedBy_pairErr (dir := dir) ha hp)
        obtain ⟨V, hV⟩ : ∃ V, L.rPairErr x y = V := ⟨_, rfl⟩
        rw [hV] at hp hR2
        have hv0 : (V == 0) = false := by simpa using hp
        have HV := Lib.hid hV
        clear ha hp hV
        go_enter Tryd.func4, Tryd.ntmps4
        go_wp2_with (refine WL.out ?_; (repeat ((refine WL.op ?_ ?_; (exact rfl); intro K hK; (first | ((((with_reducible apply ow_assign); exact rfl)); (go_simp <;> (try simp (disch := omega) only [wrap_id, sub_left, zac]) <;> rfl)) | ((((with_reducible apply ow_box st); exact rfl; (go_simp <;> (try simp (disch := omega) only [wrap_id, sub_left, zac]) <;> rfl); (go_simp <;> (try simp (disch := omega) only [wrap_id, sub_left, zac]) <;> rfl))); (try clear st); intro b w' st) | ((with_reducible apply ow_eval); (go_simp <;> (try simp (disch := omega) only [wrap_id, sub_left, zac]) <;> rfl); first | (with_reducible apply up_value) | ((with_reducible apply up_enter); ((go_at_call 8; refine (awake_any _).mono ?_; rintro e w' ⟨rfl, hb⟩; replace st := st.call hb; clear hb; refine ⟨_, rfl, ?_⟩))))); refine WL.next hK (by simp only [Act.put, zpt, zsz, zss]; exact rfl) ?_; clear hK K))); (try refine WL.nil ?_))
        refine wp_region_plan 12 (by kernel_rfl) (by kernel_rfl) ?_; replace st := st.drew; generalize World.drew _ = W at st ⊢
        (apply Plan.val'; (focus (intro x0 x1 x2 x3 x4 x5 x6 x7 x8 x9 x10 x11 w1 hb; (try simp only [depF, fillA, Act.put, zta, ztz, zpt, zsz, zss, zl0, zls]); (repeat (fail)); have st := st.call hb; ((apply Yphi.run; (exact rfl); (go_simp <;> (try simp (disch := omega) only [wrap_id, sub_left, zac]) <;> rfl); exact rfl)))); (simp only [zca, zcn] <;> exact rfl))
        (apply Plan.fact' (freshRow 23 4 (L.cellsOf (l))) (freshRow_stable _ _ _); (focus (intro x0 x1 x2 x3 x4 x5 x6 x7 x8 x9 x10 x11 w1 hb; (try simp only [depF, fillA, Act.put, zta, ztz, zpt, zsz, zss, zl0, zls]); (repeat (rintro rfl)); have st := st.call hb; apply Yphi.call; (exact rfl); (go_simp <;> (try simp (disch := omega) only [wrap_id, sub_left, zac]) <;> rfl); exact rfl; refine (CopyAces_any A n c B l _ (H1.out.st st hB1) (Nat.le_trans hB1 st.size) (by omega)).mono ?_; rintro e w' ⟨A', n', c', rfl, st'⟩; exact ⟨_, rfl, st'.below, freshRow_mk (st'.get (i := 0) rfl)⟩)); (simp only [zca, zcn] <;> exact rfl))
        iterate 5 (apply Plan.val'; (focus (intro x0 x1 x2 x3 x4 x5 x6 x7 x8 x9 x10 x11 w1 hb; (try simp only [depF, fillA, Act.put, zta, ztz, zpt, zsz, zss, zl0, zls]); (repeat (rintro rfl)); have st := st.call hb; (first | (apply Yphi.run; (exact rfl); (go_simp <;> (try simp (disch := omega) only [wrap_id, sub_left, zac]) <;> rfl); exact rfl) | (apply Yphi.load1 st; exact rfl; exact inferInstance; (exact rfl); exact rfl; (exact get0); exact rfl)))); (simp only [zca, zcn] <;> exact rfl))
        (apply Plan.fact' (tupRow W.heap.size ([]) (V)) (tupRow_stable _ _ _); (focus (intro x0 x1 x2 x3 x4 x5 x6 x7 x8 x9 x10 x11 w1 hb; (try simp only [depF, fillA, Act.put, zta, ztz, zpt, zsz, zss, zl0, zls]); (repeat (first | rintro rfl | intro lo hi hlo hhi hphi)); have st := st.call hb; obtain ⟨A3, n3, c3, rfl, ho3, hk3⟩ := hphi; apply Yphi.call; (exact rfl); (go_simp <;> (try simp (disch := omega) only [wrap_id, sub_left, zac]) <;> rfl); exact rfl; refine (InheritedBy_at hR2.out A3 n3 c3 _ _ (Rd.aces (Rd.of_row ho3)) (Nat.le_refl _) (by have h3 := row_len (v := .slice A3 n3 c3) (n := n3) (l := l) ho3; have := e1.out; omega)).mono ?_; rintro e w' ⟨A', n', c', rfl, st'⟩; exact ⟨_, rfl, st'.below, ⟨A', n', c', rfl, Res.holds_mono (st'.get (i := 0) rfl) hb.size⟩⟩)); (simp only [zca, zcn] <;> exact rfl))
        (apply Plan.fact' (tupRow W.heap.size ([]) (V)) (tupRow_stable _ _ _); (focus (intro x0 x1 x2 x3 x4 x5 x6 x7 x8 x9 x10 x11 w1 hb; (try simp only [depF, fillA, Act.put, zta, ztz, zpt, zsz, zss, zl0, zls]); (repeat (intro lo hi hlo hhi hphi)); have st := st.call hb; obtain ⟨A', n', c', rfl, ho⟩ := hphi; apply Yphi.fact; (exact rfl); (go_simp <;> (try simp (disch := omega) only [wrap_id, sub_left, zac]) <;> rfl); exact rfl; exact ⟨A', n', c', rfl, ho⟩)); (simp only [zca, zcn] <;> exact rfl))
        (apply Plan.fact' (rowFrom W.heap.size ([])) (rowFrom_stable _ _); (focus (intro x0 x1 x2 x3 x4 x5 x6 x7 x8 x9 x10 x11 w1 hb; (try simp only [depF, fillA, Act.put, zta, ztz, zpt, zsz, zss, zl0, zls]); (repeat (intro lo hi hlo hhi hphi)); have st := st.call hb; obtain ⟨A', n', c', rfl, ho⟩ := hphi; apply Yphi.fact; (exact rfl); (go_simp <;> (try simp (disch := omega) only [wrap_id, sub_left, zac]) <;> rfl); exact rfl; exact ⟨A', n', c', rfl, ho⟩)); (simp only [zca, zcn] <;> exact rfl))
        (apply Plan.val'; (focus (intro x0 x1 x2 x3 x4 x5 x6 x7 x8 x9 x10 x11 w1 hb; (try simp only [depF, fillA, Act.put, zta, ztz, zpt, zsz, zss, zl0, zls]); (repeat (intro lo hi hlo hhi hphi)); have st := st.call hb; obtain ⟨A', n', c', rfl, ho⟩ := hphi; apply Yphi.run; (exact rfl); (go_simp <;> (try simp (disch := omega) only [wrap_id, sub_left, zac]) <;> rfl); exact rfl)); (simp only [zca, zcn] <;> exact rfl))
        (apply Plan.fact' (rowFrom W.heap.size ([])) (rowFrom_stable _ _); (focus (intro x0 x1 x2 x3 x4 x5 x6 x7 x8 x9 x10 x11 w1 hb; (try simp only [depF, fillA, Act.put, zta, ztz, zpt, zsz, zss, zl0, zls]); (repeat (first | rintro rfl | intro lo hi hlo hhi hphi)); have st := st.call hb; obtain ⟨A', n', c', rfl, ho⟩ := hphi; apply Yphi.fact; (exact rfl); (go_simp <;> (try simp (disch := omega) only [wrap_id, sub_left, zac]) <;> rfl); exact rfl; exact ⟨A', n', c', rfl, ho⟩)); (simp only [zca, zcn] <;> exact rfl))
        intro x0 x1 x2 x3 x4 x5 x6 x7 x8 x9 x10 x11 lo hi w1 hb hap
        rintro rfl - - - rfl rfl rfl rfl rfl - - - - - - - - - rfl - - ⟨A9, n9, c9, rfl, ho9⟩
        simp only [allPhi, fillA, Act.put, zta, ztz, zpt, zsz, zss, zda, zdz]
        have st := rows_one st hb ho9 (Nat.le_refl _)
        clear ho9 hap hb
        have l9 := Lib.hid (St.len st (i := 0) rfl)
        obtain rfl : n9 = 0 := l9.out
        go_wp2_with (refine WL.out ?_; (repeat ((refine WL.op ?_ ?_; (exact rfl); intro K hK; (first | ((first | ((with_reducible apply ow_move); exact rfl) | ((with_reducible apply ow_assign); exact rfl)); (go_simp <;> (try simp (disch := omega) only [wrap_id, sub_left, zac]) <;> rfl)) | ((((with_reducible apply ow_load1 st); exact rfl; exact inferInstance; exact rfl; (exact get1))); exact rfl) | ((with_reducible apply ow_eval); (go_simp <;> (try simp (disch := omega) only [wrap_id, sub_left, zac]) <;> rfl); first | (with_reducible apply up_value) | ((with_reducible apply up_enter); first | (go_at_call 17; refine (AcesErr_any A n c B l _ (H1.out.st st hB1) (Nat.le_trans hB1 st.size) (by omega)).mono ?_; rintro e w' ⟨rfl, hb⟩; replace st := st.call hb; clear hb; rw [HA.out]; refine ⟨_, rfl, ?_⟩) | (go_at_call 18; refine (rPairErr_any _ _ _).mono ?_; rintro e w' ⟨rfl, rfl⟩; rw [HV.out]; refine ⟨_, rfl, ?_⟩)))); refine WL.next hK (by simp only [Act.put, zpt, zsz, zss]; exact rfl) ?_; clear hK K))); (try refine WL.nil ?_))
        go_ret
        exact ⟨rfl, st.below⟩
    · have hR2 := Lib.hid (L.inheritedBy_acesErr (dir := dir) (o := x) (g := y) ha)
      obtain ⟨V, hV⟩ : ∃ V, L.rAcesErr l = V := ⟨_, rfl⟩
      rw [hV] at ha hR2
      have hv0 : (V == 0) = false := by simpa using ha
      have HV := Lib.hid hV
      clear ha hV
      go_enter Tryd.func4, Tryd.ntmps4
      go_wp2_with (refine WL.out ?_; (repeat ((refine WL.op ?_ ?_; (exact rfl); intro K hK; (first | ((((with_reducible apply ow_assign); exact rfl)); (go_simp <;> (try simp (disch := omega) only [wrap_id, sub_left, zac]) <;> rfl)) | ((((with_reducible apply ow_box st); exact rfl; (go_simp <;> (try simp (disch := omega) only [wrap_id, sub_left, zac]) <;> rfl); (go_simp <;> (try simp (disch := omega) only [wrap_id, sub_left, zac]) <;> rfl))); (try clear st); intro b w' st) | ((with_reducible apply ow_eval); (go_simp <;> (try simp (disch := omega) only [wrap_id, sub_left, zac]) <;> rfl); first | (with_reducible apply up_value) | ((with_reducible apply up_enter); ((go_at_call 8; refine (awake_any _).mono ?_; rintro e w' ⟨rfl, hb⟩; replace st := st.call hb; clear hb; refine ⟨_, rfl, ?_⟩))))); refine WL.next hK (by simp only [Act.put, zpt, zsz, zss]; exact rfl) ?_; clear hK K))); (try refine WL.nil ?_))
      refine wp_region_plan 12 (by kernel_rfl) (by kernel_rfl) ?_; replace st := st.drew; generalize World.drew _ = W at st ⊢
      (apply Plan.val'; (focus (intro x0 x1 x2 x3 x4 x5 x6 x7 x8 x9 x10 x11 w1 hb; (try simp only [depF, fillA, Act.put, zta, ztz, zpt, zsz, zss, zl0, zls]); (repeat (fail)); have st := st.call hb; ((apply Yphi.run; (exact rfl); (go_simp <;> (try simp (disch := omega) only [wrap_id, sub_left, zac]) <;> rfl); exact rfl)))); (simp only [zca, zcn] <;> exact rfl))
      (apply Plan.fact' (freshRow 23 4 (L.cellsOf (l))) (freshRow_stable _ _ _); (focus (intro x0 x1 x2 x3 x4 x5 x6 x7 x8 x9 x10 x11 w1 hb; (try simp only [depF, fillA, Act.put, zta, ztz, zpt, zsz, zss, zl0, zls]); (repeat (rintro rfl)); have st := st.call hb; apply Yphi.call; (exact rfl); (go_simp <;> (try simp (disch := omega) only [wrap_id, sub_left, zac]) <;> rfl); exact rfl; refine (CopyAces_any A n c B l _ (H1.out.st st hB1) (Nat.le_trans hB1 st.size) (by omega)).mono ?_; rintro e w' ⟨A', n', c', rfl, st'⟩; exact ⟨_, rfl, st'.below, freshRow_mk (st'.get (i := 0) rfl)⟩)); (simp only [zca, zcn] <;> exact rfl))
      iterate 5 (apply Plan.val'; (focus (intro x0 x1 x2 x3 x4 x5 x6 x7 x8 x9 x10 x11 w1 hb; (try simp only [depF, fillA, Act.put, zta, ztz, zpt, zsz, zss, zl0, zls]); (repeat (rintro rfl)); have st := st.call hb; (first | (apply Yphi.run; (exact rfl); (go_simp <;> (try simp (disch := omega) only [wrap_id, sub_left, zac]) <;> rfl); exact rfl) | (apply Yphi.load1 st; exact rfl; exact inferInstance; (exact rfl); exact rfl; (exact get0); exact rfl)))); (simp only [zca, zcn] <;> exact rfl))
      (apply Plan.fact' (tupRow W.heap.size ([]) (V)) (tupRow_stable _ _ _); (focus (intro x0 x1 x2 x3 x4 x5 x6 x7 x8 x9 x10 x11 w1 hb; (try simp only [depF, fillA, Act.put, zta, ztz, zpt, zsz, zss, zl0, zls]); (repeat (first | rintro rfl | intro lo hi hlo hhi hphi)); have st := st.call hb; obtain ⟨A3, n3, c3, rfl, ho3, hk3⟩ := hphi; apply Yphi.call; (exact rfl); (go_simp <;> (try simp (disch := omega) only [wrap_id, sub_left, zac]) <;> rfl); exact rfl; refine (InheritedBy_at hR2.out A3 n3 c3 _ _ (Rd.aces (Rd.of_row ho3)) (Nat.le_refl _) (by have h3 := row_len (v := .slice A3 n3 c3) (n := n3) (l := l) ho3; have := e1.out; omega)).mono ?_; rintro e w' ⟨A', n', c', rfl, st'⟩; exact ⟨_, rfl, st'.below, ⟨A', n', c', rfl, Res.holds_mono (st'.get (i := 0) rfl) hb.size⟩⟩)); (simp only [zca, zcn] <;> exact rfl))
      (apply Plan.fact' (tupRow W.heap.size ([]) (V)) (tupRow_stable _ _ _); (focus (intro x0 x1 x2 x3 x4 x5 x6 x7 x8 x9 x10 x11 w1 hb; (try simp only [depF, fillA, Act.put, zta, ztz, zpt, zsz, zss, zl0, zls]); (repeat (intro lo hi hlo hhi hphi)); have st := st.call hb; obtain ⟨A', n', c', rfl, ho⟩ := hphi; apply Yphi.fact; (exact rfl); (go_simp <;> (try simp (disch := omega) only [wrap_id, sub_left, zac]) <;> rfl); exact rfl; exact ⟨A', n', c', rfl, ho⟩)); (simp only [zca, zcn] <;> exact rfl))
      (apply Plan.fact' (rowFrom W.heap.size ([])) (rowFrom_stable _ _); (focus (intro x0 x1 x2 x3 x4 x5 x6 x7 x8 x9 x10 x11 w1 hb; (try simp only [depF, fillA, Act.put, zta, ztz, zpt, zsz, zss, zl0, zls]); (repeat (intro lo hi hlo hhi hphi)); have st := st.call hb; obtain ⟨A', n', c', rfl, ho⟩ := hphi; apply Yphi.fact; (exact rfl); (go_simp <;> (try simp (disch := omega) only [wrap_id, sub_left, zac]) <;> rfl); exact rfl; exact ⟨A', n', c', rfl, ho⟩)); (simp only [zca, zcn] <;> exact rfl))
      (apply Plan.val'; (focus (intro x0 x1 x2 x3 x4 x5 x6 x7 x8 x9 x10 x11 w1 hb; (try simp only [depF, fillA, Act.put, zta, ztz, zpt, zsz, zss, zl0, zls]); (repeat (intro lo hi hlo hhi hphi)); have st := st.call hb; obtain ⟨A', n', c', rfl, ho⟩ := hphi; apply Yphi.run; (exact rfl); (go_simp <;> (try simp (disch := omega) only [wrap_id, sub_left, zac]) <;> rfl); exact rfl)); (simp only [zca, zcn] <;> exact rfl))
      (apply Plan.fact' (rowFrom W.heap.size ([])) (rowFrom_stable _ _); (focus (intro x0 x1 x2 x3 x4 x5 x6 x7 x8 x9 x10 x11 w1 hb; (try simp only [depF, fillA, Act.put, zta, ztz, zpt, zsz, zss, zl0, zls]); (repeat (first | rintro rfl | intro lo hi hlo hhi hphi)); have st := st.call hb; obtain ⟨A', n', c', rfl, ho⟩ := hphi; apply Yphi.fact; (exact rfl); (go_simp <;> (try simp (disch := omega) only [wrap_id, sub_left, zac]) <;> rfl); exact rfl; exact ⟨A', n', c', rfl, ho⟩)); (simp only [zca, zcn] <;> exact rfl))
      intro x0 x1 x2 x3 x4 x5 x6 x7 x8 x9 x10 x11 lo hi w1 hb hap
      rintro rfl - - - rfl rfl rfl rfl rfl - - - - - - - - - rfl - - ⟨A9, n9, c9, rfl, ho9⟩
      simp only [allPhi, fillA, Act.put, zta, ztz, zpt, zsz, zss, zda, zdz]
      have st := rows_one st hb ho9 (Nat.le_refl _)
      clear ho9 hap hb
      have l9 := Lib.hid (St.len st (i := 0) rfl)
      obtain rfl : n9 = 0 := l9.out
      go_wp2_with (refine WL.out ?_; (repeat ((refine WL.op ?_ ?_; (exact rfl); intro K hK; (first | ((first | ((with_reducible apply ow_move); exact rfl) | ((with_reducible apply ow_assign); exact rfl)); (go_simp <;> (try simp (disch := omega) only [wrap_id, sub_left, zac]) <;> rfl)) | ((with_reducible apply ow_eval); (go_simp <;> (try simp (disch := omega) only [wrap_id, sub_left, zac]) <;> rfl); first | (with_reducible apply up_value) | ((with_reducible apply up_enter); ((go_at_call 17; refine (AcesErr_any A n c B l _ (H1.out.st st hB1) (Nat.le_trans hB1 st.size) (by omega)).mono ?_; rintro e w' ⟨rfl, hb⟩; replace st := st.call hb; clear hb; rw [HV.out]; refine ⟨_, rfl, ?_⟩))))); refine WL.next hK (by simp only [Act.put, zpt, zsz, zss]; exact rfl) ?_; clear hK K))); (try refine WL.nil ?_))
      go_ret
      exact ⟨rfl, st.below⟩
  · have hI : (20 : Int) < (n : Int) := by omega
    go_enter Tryd.func4, Tryd.ntmps4
    go_wp2_with (refine WL.out ?_; (repeat ((refine WL.op ?_ ?_; (exact rfl); intro K hK; (first | ((((with_reducible apply ow_assign); exact rfl)); (go_simp <;> (try simp (disch := omega) only [wrap_id, sub_left, zac]) <;> rfl)) | ((((with_reducible apply ow_box st); exact rfl; (go_simp <;> (try simp (disch := omega) only [wrap_id, sub_left, zac]) <;> rfl); (go_simp <;> (try simp (disch := omega) only [wrap_id, sub_left, zac]) <;> rfl))); (try clear st); intro b w' st) | ((with_reducible apply ow_eval); (go_simp <;> (try simp (disch := omega) only [wrap_id, sub_left, zac]) <;> rfl); first | (with_reducible apply up_value) | ((with_reducible apply up_enter); ((go_at_call 8; refine (awake_any _).mono ?_; rintro e w' ⟨rfl, hb⟩; replace st := st.call hb; clear hb; refine ⟨_, rfl, ?_⟩))))); refine WL.next hK (by simp only [Act.put, zpt, zsz, zss]; exact rfl) ?_; clear hK K))); (try refine WL.nil ?_))
    go_ret
    exact ⟨rfl, st.below⟩
end Go.Proofs.YtppjhccdgbheiaaDoor
namespace Go.Proofs.YtppjhccdgbheiaaDoor
open Go.ChangeShapes Go.WideShapes Go.ChangeAt Go.WideElems Go.RowKit

theorem aclInherits_met (os : Os) (args : Array Value) : laidMetH Tryd.prog Rows.aclInheritsRow.laid ((World.doorLaid Tryd.prog 400 os).forCall (fun _ _ => 0) ⟨#[], args, []⟩).memory :=
  laidMetH_of_parts3 (fuel := 8) (laidMet_of_run' 8 (by kernel_rfl) (by kernel_rfl)) (by kernel_rfl) (by kernel_rfl)

set_option maxRecDepth 100000 in
theorem aclInherits_lifted (os : Os) (started : os.Started) (H : Type) (enc : TypeId × Value → H) :
    ReturnsInHanded {} Tryd.checked os 4 .any (fun w args => (Rows.aclInheritsSpec.pre enc Tryd.prog Tryd.f4 [] false w args ∧ laidMetH Tryd.prog Rows.aclInheritsRow.laid w) ∧ sizedMet enc Tryd.prog Tryd.f4 (OpenSpec.ofChange Rows.aclInheritsSpec) false w args)
      (Rows.aclInheritsSpec.post enc Tryd.prog Tryd.f4 false true false false) := by
  refine returnsInHanded_of_change_and (C := Tryd.checked) (X := fun w _ => laidMetH Tryd.prog Rows.aclInheritsRow.laid w) (fun _ _ _ hh h => h.of_heap hh) Tryd.own started (by kernel_rfl) Tryd.func4
    (ChangeSpec.witness_shaped (enc := enc) (C := Tryd.checked) (os := os) (X := fun w _ => laidMetH Tryd.prog Rows.aclInheritsRow.laid w) false (World.doorLaid Tryd.prog 400 os) #[.slice none 0 0, .bool false, .agg #[.int .i64 0, .int .i64 0]] 8 rfl (World.shaped_of_RefB (by kernel_rfl) (by kernel_rfl)) (by kernel_rfl) (by kernel_rfl) (by kernel_rfl) (aclInherits_met os _)) ?_
  intro W base args ds gs before hval0 hW _ _ hL _
  have hval : ∀ (j : Nat) t v, Tryd.f4.params[j]? = some t → args[j]? = some v → Value.okWide Tryd.prog W .any base t v := hval0
  have hW' := hW
  obtain ⟨p, q, hA0, hV, rfl, hfz, hnd⟩ := hW
  have hA : DataW.TrodAll enc Tryd.prog W 0 (fun _ => true) true Tryd.f4.params.toList args.toList ds p := hA0
  have hlt : ∀ x ∈ p, x.block < W.heap.size := fun x hx => hW'.lt x (List.mem_append_left _ hx)
  rw [Tryd.params4] at hA hval
  obtain ⟨v0, v1, v2, d0, d1, d2, p0, p1, p2, rfl, rfl, rfl, h0, h1, h2⟩ := trodAll_three hA
  obtain ⟨rfl, rfl⟩ := trodVars_none hV
  obtain ⟨A, n, c, l, rfl, hl, hm⟩ := open_acesV (hval 0 _ v0 rfl rfl) h0 (fun x hx => hlt x (List.mem_append_left _ (List.mem_append_left _ hx)))
  obtain ⟨dir, rfl, rfl, rfl⟩ := open_bool Tryd.underlying4 (hval 1 _ v1 rfl rfl) h1
  obtain ⟨x, y, rfl⟩ := open_pairV (hval 2 _ v2 rfl rfl) h2
  clear hA0 hval0
  refine (AclInherits_any A n c _ l dir x y W hl (Nat.le_refl _) hm).mono fun e W' ⟨he, hb⟩ => ?_
  subst he
  exact ⟨_, rfl, law_post Tryd.laidOut Tryd.underlying4 rfl (by kernel_rfl) rfl hW' (by rw [Tryd.params4]; intro t ht; simp at ht; rcases ht with rfl | rfl | rfl <;> exact ⟨by kernel_rfl, of_decide_eq_true (by kernel_rfl)⟩) hb⟩

theorem aclInherits_holds : Rows.AclInheritsSaid :=
  OpenClaim.holds_of_wide 4 Tryd.f4 rfl rfl rfl rfl rfl rfl rfl ⟨rfl, rfl, rfl, rfl, rfl⟩ rfl rfl rfl rfl rfl (by kernel_rfl) Tryd.func4 (by kernel_rfl)
    (of_decide_eq_true (by kernel_rfl)) (by unfold Func.isWrapper; ((rw [if_neg (by decide +kernel)]; exact ⟨rfl, rfl⟩)))
    (fun os started H enc _ => aclInherits_lifted os started H enc)
set_option maxRecDepth 100000 in
theorem aclInherits_card : Rows.AclInheritsCardSaid :=
  Claim7.holds_tied_plain_at .later [] [.data, .data, .data] true (true, "7b58f35dfa9e08ea00186690e530b63ca1eaa6542b58d38336e5d9b585ab7f7d") false
    aclInherits_holds (fun _ h => by cases h) (by kernel_rfl) (fun _ h => by cases h) aclInherits_row_tie rfl ⟨rfl, rfl⟩ (by kernel_rfl) rfl
    (fun f fn hf hfn => by
      obtain rfl : f = 4 := Option.some.inj ((show Tryd.prog.funcNamed Rows.aclInheritsRow.func = some 4 by kernel_rfl).symm.trans hf) |>.symm
      obtain rfl : fn = Tryd.f4 := (Option.some.inj (Tryd.func4.symm.trans hfn)).symm
      exact ⟨by kernel_rfl, fun j t ht => by
        rw [Tryd.params4] at ht
        have hm : t ∈ [24, 4, 38] := by simpa using Array.mem_of_getElem? ht
        have hall : ([24, 4, 38].all fun u => !Tryd.prog.wantsStandIn u) = true := by kernel_rfl
        exact (show Tryd.prog.wantsStandIn t = false by simpa using List.all_eq_true.1 hall t hm)⟩)
    (by kernel_rfl)
end Go.Proofs.YtppjhccdgbheiaaDoor
