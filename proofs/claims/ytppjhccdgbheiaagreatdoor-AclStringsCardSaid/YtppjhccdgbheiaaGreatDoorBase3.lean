/- Own text, part Base 3: walks of the package acl and of its reference, and the plain laws that they lean on; no statement of the seat is here. -/
import Derived.Test.YtppjhccdgbheiaaGreatDoorBase2
import Derived.Laws.IdiomStrings
import Derived.Lib.Builder
import Derived.Lib.UnsafeStr
import Derived.Laws.Externs
import Derived.Shelf.Strings.Builder1
import Derived.Shelf.Strings.Builder2
import Derived.Shelf.Strings.OnBuilder
import Derived.Shelf.Small.Strs
import Derived.Shelf.Strings.BuilderF
import Derived.Shelf.Strings.BuilderK
import Derived.Shelf.Utf8.RuneCount
import Derived.Shelf.Strings.Builder2Cap
import Derived.Shelf.Strconv.Itoa0
import Derived.Shelf.Strconv.Itoa1
import Derived.Shelf.LaysM
import Derived.Shelf.Strconv.Itoa2
import Derived.Shelf.Strconv.Itoa3
import Derived.Shelf.Strings.Search1
import Derived.Shelf.Strings.Search2
import Derived.Shelf.Strings.Search3
import Derived.Shelf.Strings.Cut
import Derived.Shelf.Strings.Count
import Derived.Shelf.Strings.Shaped
import Derived.Shelf.Strings.Split
import Derived.Shelf.Strings.SplitShaped
import Derived.Shelf.Unicode.Decode
import Derived.Shelf.Strings.RuneCount
import Derived.Shelf.Strings.Explode
import Derived.Shelf.Unicode.DecodeSlow
import Derived.Shelf.Unicode.DecodeAny
import Derived.Shelf.Strings.BuilderCap
import Derived.Test.YtppjhccdgbheiaaGreatDoorProg
import Derived.Test.YtppjhccdgbheiaaGreatDoorBase1
import Derived.ProofKit
import Derived.LaidMore
import Derived.OpenShut
import Derived.Deep.Slices
import Derived.Below
set_option linter.all false
namespace Go.Proofs.YtppjhccdgbheiaaGreatDoor
open Go.RowKit Go.Hp
namespace L
theorem hflags_tab : ∀ (dir : Bool) (f : Fin 32), 0 ≤ (hflags dir ((f.val : Nat) : Int)).1 ∧ (hflags dir ((f.val : Nat) : Int)).1 ≤ 31 ∧ 0 ≤ bor (hflags dir ((f.val : Nat) : Int)).1 8 ∧ bor (hflags dir ((f.val : Nat) : Int)).1 8 ≤ 31 := by decide +kernel
theorem hflags_ok (dir : Bool) {f : Int} (h0 : 0 ≤ f) (h1 : f ≤ 31) : 0 ≤ (hflags dir f).1 ∧ (hflags dir f).1 ≤ 31 ∧ 0 ≤ bor (hflags dir f).1 8 ∧ bor (hflags dir f).1 8 ≤ 31 := by
  have := hflags_tab dir ⟨f.toNat, by omega⟩
  simpa [Int.toNat_of_nonneg h0] using this
theorem inherit_FOk (dir : Bool) (o g : Int) {a : Ace} (h0 : 0 ≤ a.f) (h1 : a.f ≤ 31) : FOk (inherit dir o g a) := by
  have h := hflags_ok dir h0 h1
  intro x hx
  unfold inherit at hx
  split at hx
  · cases hx
  · split at hx
    · rw [List.mem_singleton.1 hx]; exact ⟨h.1, h.2.1⟩
    · split at hx
      · rw [List.mem_singleton.1 hx]; exact ⟨by show (0 : Int) ≤ 16; decide, by show (16 : Int) ≤ 31; decide⟩
      · rcases List.mem_cons.1 hx with rfl | hx
        · exact ⟨by show (0 : Int) ≤ 16; decide, by show (16 : Int) ≤ 31; decide⟩
        · rw [List.mem_singleton.1 hx]; exact ⟨h.2.2.1, h.2.2.2⟩
theorem inheritedOf_FOk (dir : Bool) (o g : Int) {l : List Ace} (h : FOk l) : FOk (inheritedOf dir o g l) := by
  intro x hx
  obtain ⟨a, ha, hx⟩ := List.mem_flatMap.1 hx
  exact inherit_FOk dir o g (h a ha).1 (h a ha).2 x hx
def below (dir : Bool) (o g : Int) (p : Bool) (own above : List Ace) : List Ace := (own.filter fun a => !inh a) ++ if p then [] else inheritedOf dir o g above
theorem below_FOk (dir : Bool) (o g : Int) (p : Bool) {own above : List Ace} (h1 : FOk own) (h2 : FOk above) : FOk (below dir o g p own above) := by
  intro x hx
  rcases List.mem_append.1 hx with hx | hx
  · exact h1 x (List.mem_filter.1 hx).1
  · split at hx
    · cases hx
    · exact inheritedOf_FOk dir o g h2 x hx
end L
section
variable {P : Program} {o : Oper} {a : Act} {w0 w : World} {rs : List Res} {Q : Exit → Act → World → Prop} {K : Act → World → Prop}
theorem ow_oldN {t n : Nat} {x : Operand} {b p : Nat} (vs : List Value) (st : St w0 w rs) (ho : o.op = .load t x) (hT : AggT P t n) (hx : a.eval x = .pointer (some ⟨b, p, none⟩)) (hb : b < w0.heap.size) (hn : vs.length = n) (hv : ∀ j v, vs[j]? = some v → w0.cell? ⟨b, p + j, none⟩ = some v)
    (h : K (a.put o.dst (.agg vs.toArray)) w) : OW P o a w K Q := by
  refine OW.mk (wp_value ?_ h)
  have := run_loadN (P := P) (t := t) (hT := hT) (w := w) (b := b) (o := p) hn (fun j v hj => by rw [st.old hb]; exact hv j v hj)
  simp [execOp, ho, hx, this]
end
set_option maxHeartbeats 2000000 in
theorem child1_any (dir : Bool) (o g : Int) (p : Bool) (bh : Nat) (A1 A2 : Option Addr) (n1 n2 c1 c2 B : Nat) (own above : List L.Ace) (w : World) (hbh : bh < w.heap.size) (hh : ∀ j v, [Value.bool dir, .int .i64 o, .int .i64 g][j]? = some v → w.cell? ⟨bh, 0 + j, none⟩ = some v)
    (h1 : Aces w B A1 n1 own) (h2 : Aces w B A2 n2 above) (hB1 : B ≤ w.heap.size) (hn1 : n1 ≤ 100) (hn2 : n2 ≤ 100) (hf1 : L.FOk own) (hf2 : L.FOk above) :
    Calls Tryz.prog 74 #[.slice A1 n1 c1, .slice A2 n2 c2, .bool p, .pointer (some ⟨bh, 0, none⟩)] w (RetSorted w (L.below dir o g p own above)) := by
  have e1 := Lib.hid h1.len
  have e2 := Lib.hid h2.len
  have H1 := Lib.hid h1
  have H2 := Lib.hid h2
  have HH := Lib.hid hh
  have HF1 := Lib.hid hf1
  have HF2 := Lib.hid hf2
  clear h1 h2 hh hf1 hf2
  have st := St.start w
  cases p with
  | true =>
    have hs : Hid (L.below dir o g true own above = own.filter fun a => !L.inh a) := Lib.hid (by unfold L.below; simp)
    go_enter Tryz.func74, Tryz.ntmps74
    go_wp2_with (refine WL.out ?_; (repeat ((refine WL.op ?_ ?_; (exact rfl); intro K hK; (first | ((((with_reducible apply ow_assign); exact rfl)); (go_simp <;> (try simp (disch := omega) only [wrap_id, sub_left, zac]) <;> rfl)) | ((with_reducible apply ow_eval); (go_simp <;> (try simp (disch := omega) only [wrap_id, sub_left, zac]) <;> rfl); first | (with_reducible apply up_value) | ((with_reducible apply up_enter); first | (go_at_call 55; refine (Clone_any A1 n1 c1 B own _ (H1.out.st st hB1) (Nat.le_trans hB1 st.size) (by omega)).mono ?_; rintro e w' ⟨A3, n3, c3, rfl, st'⟩; have hn3 : n3 ≤ 100 := (by have h1 := St.len st' (i := 0) rfl; have h2 := e1.out; omega); replace st := st.join st'; clear st'; simp only [List.cons_append, List.nil_append] at st; refine ⟨_, rfl, ?_⟩) | (go_at_call 75; refine (DeleteFunc_any _ _ _ own _ st hn3).mono ?_; rintro e w' ⟨A4, n4, c4, rfl, st'⟩; replace st := st'; clear st'; have hn4 : n4 ≤ 100 := (by have h1 := St.len st (i := 0) rfl; have h2 := List.length_filter_le (fun a => !L.inh a) own; have h3 := e1.out; omega); refine ⟨_, rfl, ?_⟩) | (go_at_call 77; refine (canonical_any _ _ _ _ _ _ (St.aces st (i := 0) rfl) (Nat.le_refl _) (by omega) (by rw [← hs.out]; exact L.below_FOk dir o g true HF1.out HF2.out)).mono ?_; rintro e w' ⟨M, A5, n5, c5, rfl, st', hM⟩; replace st := st.join st'; clear st'; replace hM := Lib.hid hM; simp only [List.cons_append, List.nil_append] at st; refine ⟨_, rfl, ?_⟩)))); refine WL.next hK (by simp only [Act.put, zpt, zsz, zss]; exact rfl) ?_; clear hK K))); (try refine WL.nil ?_))
    go_ret
    exact ⟨M, _, _, _, rfl, st.sub (.cons_cons _ (List.nil_sublist _)), by rw [hs.out]; exact hM.out⟩
  | false =>
    have hs : Hid (L.below dir o g false own above = (own.filter fun a => !L.inh a) ++ L.inheritedOf dir o g above) := Lib.hid (by unfold L.below; simp)
    go_enter Tryz.func74, Tryz.ntmps74
    go_wp2_with (refine WL.out ?_; (repeat ((refine WL.op ?_ ?_; (exact rfl); intro K hK; (first | ((first | ((with_reducible apply ow_move); exact rfl) | ((with_reducible apply ow_assign); exact rfl)); (go_simp <;> (try simp (disch := omega) only [wrap_id, sub_left, zac]) <;> rfl)) | ((with_reducible apply ow_oldN [.bool dir, .int .i64 o, .int .i64 g] st); exact rfl; exact inferInstance; exact rfl; assumption; exact rfl; exact HH.out) | ((with_reducible apply ow_append 1 st); exact rfl; exact inferInstance; exact rfl; exact rfl; exact rfl; exact st.rd (i := 0) rfl; (focus (exact cells_one _)); (focus (unfold maxLen; omega)); (focus omega); (try clear st); intro A' c' w' st; (try simp only [List.set_cons_zero, List.set_cons_succ, Nat.zero_add, List.nil_append] at st)) | ((with_reducible apply ow_eval); (go_simp <;> (try simp (disch := omega) only [wrap_id, sub_left, zac]) <;> rfl); first | (with_reducible apply up_value) | ((with_reducible apply up_enter); first | (go_at_call 55; refine (Clone_any A1 n1 c1 B own _ (H1.out.st st hB1) (Nat.le_trans hB1 st.size) (by omega)).mono ?_; rintro e w' ⟨A3, n3, c3, rfl, st'⟩; have hn3 : n3 ≤ 100 := (by have h1 := St.len st' (i := 0) rfl; have h2 := e1.out; omega); replace st := st.join st'; clear st'; simp only [List.cons_append, List.nil_append] at st; refine ⟨_, rfl, ?_⟩) | (go_at_call 75; refine (DeleteFunc_any _ _ _ own _ st hn3).mono ?_; rintro e w' ⟨A4, n4, c4, rfl, st'⟩; replace st := st'; clear st'; have hn4 : n4 ≤ 100 := (by have h1 := St.len st (i := 0) rfl; have h2 := List.length_filter_le (fun a => !L.inh a) own; have h3 := e1.out; omega); refine ⟨_, rfl, ?_⟩) | (go_at_call 48; refine (inherited_any dir o g A2 n2 c2 B above _ (H2.out.st st hB1) (Nat.le_trans hB1 st.size) hn2 HF2.out).mono ?_; rintro e w' ⟨A6, n6, c6, rfl, st'⟩; have hn6 : n6 ≤ 200 := (by have h1 := St.len st' (i := 0) rfl; have h2 := L.inherited_len dir o g above; have h3 := e2.out; omega); replace st := st.join st'; clear st'; simp only [List.cons_append, List.nil_append] at st; refine ⟨_, rfl, ?_⟩) | (go_at_call 77; replace st := st.tail; rw [← L.cellsOf_append, ← hs.out] at st; refine (canonical_any _ _ _ _ _ _ (St.aces st (i := 0) rfl) (Nat.le_refl _) (by omega) (L.below_FOk dir o g false HF1.out HF2.out)).mono ?_; rintro e w' ⟨M, A5, n5, c5, rfl, st', hM⟩; replace st := st.join st'; clear st'; replace hM := Lib.hid hM; simp only [List.cons_append, List.nil_append] at st; refine ⟨_, rfl, ?_⟩)))); refine WL.next hK (by simp only [Act.put, zpt, zsz, zss]; exact rfl) ?_; clear hK K))); (try refine WL.nil ?_))
    go_ret
    exact ⟨M, _, _, _, rfl, st.sub (.cons_cons _ (List.nil_sublist _)), hM.out⟩
end Go.Proofs.YtppjhccdgbheiaaGreatDoor
namespace Go.Proofs.YtppjhccdgbheiaaGreatDoor
open Go.RowKit Go.Hp
namespace L
def child (above own : Desc) (dir : Bool) : Desc × Int :=
  if (below dir own.o own.g own.p own.e above.e).length ≤ 16 ∧ (below dir own.o own.g own.p own.a above.a).length ≤ 16 then
    (⟨own.o, own.g, own.p, own.h || (above.h && !own.p), canon (below dir own.o own.g own.p own.e above.e), canon (below dir own.o own.g own.p own.a above.a)⟩, 0)
  else (Desc.none, 16)
end L
instance : ZeroT Tryz.prog 80 (.agg #[.bool false, .int .i64 0, .int .i64 0]) := ⟨fun _ => by kernel_rfl⟩
def RetDescErr (w : World) (p : L.Desc × Int) (e : Ending) (w' : World) : Prop := ∃ A1 n1 c1 A2 n2 c2, e = .returned (.tuple #[.agg #[.int .i64 p.1.o, .int .i64 p.1.g, .bool p.1.p, .bool p.1.h, .slice A1 n1 c1, .slice A2 n2 c2], .int .i64 p.2]) ∧ St w w' [aceRow (.slice A1 n1 c1) n1 p.1.e, aceRow (.slice A2 n2 c2) n2 p.1.a]
def sortedRow (l : List L.Ace) : Phi := fun lo hi v w => ∃ M, Sorted l M ∧ freshRow 37 4 (L.cellsOf M) lo hi v w
theorem sortedRow_stable (l : List L.Ace) : (sortedRow l).stable := by
  rintro lo hi v w1 w2 hb hh ⟨M, hM, hf⟩
  exact ⟨M, hM, freshRow_stable _ _ _ lo hi v w1 w2 hb hh hf⟩
theorem Sorted.small {l M : List L.Ace} {n : Nat} (h : Sorted l M) (hn : n = M.length) (h16 : n ≤ 16) : M = L.canon l := h.2 (by rw [← h.1]; omega)
set_option maxRecDepth 8000 in
set_option maxHeartbeats 4000000 in
theorem child_any (o g : Int) (p h : Bool) (le la : List L.Ace) (o' g' : Int) (p' h' : Bool) (le' la' : List L.Ace) (dir : Bool) (A1 A2 A1' A2' : Option Addr) (n1 n2 n1' n2' c1 c2 c1' c2' B : Nat) (w : World)
    (h1 : Aces w B A1 n1 le) (h2 : Aces w B A2 n2 la) (h1' : Aces w B A1' n1' le') (h2' : Aces w B A2' n2' la') (hB1 : B ≤ w.heap.size) (hn1 : n1 ≤ 100) (hn2 : n2 ≤ 100) (hn1' : n1' ≤ 100) (hn2' : n2' ≤ 100) (hf1 : L.FOk le) (hf2 : L.FOk la) (hf1' : L.FOk le') (hf2' : L.FOk la') :
    Calls Tryz.prog 45 #[.agg #[.int .i64 o', .int .i64 g', .bool p', .bool h', .slice A1' n1' c1', .slice A2' n2' c2'], .agg #[.int .i64 o, .int .i64 g, .bool p, .bool h, .slice A1 n1 c1, .slice A2 n2 c2], .bool dir] w
      (RetDescErr w (L.child ⟨o', g', p', h', le', la'⟩ ⟨o, g, p, h, le, la⟩ dir)) := by
  have H1 := Lib.hid h1
  have H2 := Lib.hid h2
  have H1' := Lib.hid h1'
  have H2' := Lib.hid h2'
  have HF1 := Lib.hid hf1
  have HF2 := Lib.hid hf2
  have HF1' := Lib.hid hf1'
  have HF2' := Lib.hid hf2'
  have L1 := Lib.hid (L.below_FOk dir o g p hf1 hf1')
  have hlen : ∀ (own above : List L.Ace) (n m : Nat), n = own.length → m = above.length → n ≤ 100 → m ≤ 100 → (L.below dir o g p own above).length ≤ 1000 := fun own above n m e1 e2 e3 e4 => by
    unfold L.below
    rw [List.length_append]
    have a1 := List.length_filter_le (fun a => !L.inh a) own
    have a2 := L.inherited_len dir o g above
    split <;> simp <;> omega
  have hle := hlen le le' n1 n1' h1.len h1'.len hn1 hn1'
  have hla := hlen la la' n2 n2' h2.len h2'.len hn2 hn2'
  clear h1 h2 h1' h2' hf1 hf2 hf1' hf2' hlen
  have st := St.start w
  rcases (show h = true ∨ (h = false ∧ h' = false) ∨ (h = false ∧ h' = true ∧ p = true) ∨ (h = false ∧ h' = true ∧ p = false) by cases h <;> cases h' <;> cases p <;> simp) with rfl | ⟨rfl, rfl⟩ | ⟨rfl, rfl, rfl⟩ | ⟨rfl, rfl, rfl⟩
  all_goals
    go_enter Tryz.func45, Tryz.ntmps45
    go_wp2_with (refine WL.out ?_; (repeat (first | (refine WL.op ?_ ?_; (exact rfl); intro K hK; (first | ((first | ((with_reducible apply ow_move); exact rfl) | ((with_reducible apply ow_assign); exact rfl)); (go_simp <;> (try simp (disch := omega) only [wrap_id, sub_left, zac]) <;> rfl)) | ((first | ((with_reducible apply ow_load1 st); exact rfl; exact inferInstance; exact rfl; (first | exact get1 | exact get3 | exact get4)) | ((with_reducible apply ow_loadN st); exact rfl; exact inferInstance; exact rfl; (exact get2); ((try simp only [zta, ztz, zda, zdz, zca, zcn, zan, zsz, zss]) <;> exact rfl))); exact rfl) | ((first | ((with_reducible apply ow_box st); exact rfl; (go_simp <;> (try simp (disch := omega) only [wrap_id, sub_left, zac]) <;> rfl); (go_simp <;> (try simp (disch := omega) only [wrap_id, sub_left, zac]) <;> rfl)) | ((with_reducible apply ow_alloc st); exact rfl; exact inferInstance; (go_simp <;> (try simp (disch := omega) only [wrap_id, sub_left, zac]) <;> rfl))); (try clear st); intro b w' st) | ((first | ((with_reducible apply ow_store1' st); exact rfl; exact inferInstance; exact rfl; (exact get0); (go_simp <;> (try simp (disch := omega) only [wrap_id, sub_left, zac]) <;> rfl)) | ((with_reducible apply ow_storeN' st); exact rfl; exact inferInstance; exact rfl; (exact get0); exact rfl)); exact rfl; exact rfl; (simp <;> done); ((try simp only [zta, ztz, zda, zdz, zca, zcn, zan, zsz, zss]) <;> exact rfl); (try clear st); intro w' st) | ((with_reducible apply ow_eval); (go_simp <;> (try simp (disch := omega) only [wrap_id, sub_left, zac]) <;> rfl); ((with_reducible apply up_value)))); refine WL.next hK (by simp only [Act.put, zpt, zsz, zss]; exact rfl) ?_; clear hK K) | (refine WL.skip ?_ (by simp only [Act.put, zpt, zsz, zss]; exact rfl) ?_; (exact rfl)))); (try refine WL.nil ?_))
    refine wp_region_plan 17 (by kernel_rfl) (by kernel_rfl) ?_; replace st := st.drew; generalize World.drew _ = W at st ⊢
    iterate 7 (apply Plan.val'; (focus (intro x0 x1 x2 x3 x4 x5 x6 x7 x8 x9 x10 x11 x12 x13 x14 x15 x16 w1 hb; (try simp only [depF, fillA, Act.put, zta, ztz, zpt, zsz, zss, zl0, zls]); (repeat (rintro rfl)); have st := st.call hb; (first | (apply Yphi.run; (exact rfl); (go_simp <;> (try simp (disch := omega) only [wrap_id, sub_left, zac]) <;> rfl); exact rfl) | (apply Yphi.load1 st; exact rfl; exact inferInstance; (exact rfl); exact rfl; (first | exact get3 | exact get4); exact rfl)))); (simp only [zca, zcn] <;> exact rfl))
    (apply Plan.fact' (sortedRow (L.below dir o g _ le le')) (sortedRow_stable _); (focus (intro x0 x1 x2 x3 x4 x5 x6 x7 x8 x9 x10 x11 x12 x13 x14 x15 x16 w1 hb; (try simp only [depF, fillA, Act.put, zta, ztz, zpt, zsz, zss, zl0, zls]); (repeat (rintro rfl)); have st := st.call hb; apply Yphi.call; (exact rfl); (go_simp <;> (try simp (disch := omega) only [wrap_id, sub_left, zac]) <;> rfl); exact rfl; refine (child1_any dir o g _ _ A1 A1' n1 n1' c1 c1' B le le' _ (Res.holds_lt (st.get (i := 1) rfl) rfl).2 (fun j v hj => (by rw [Nat.zero_add, st.cell (i := 1) rfl]; exact hj)) (H1.out.st st hB1) (H1'.out.st st hB1) (Nat.le_trans hB1 st.size) hn1 hn1' HF1.out HF1'.out).mono ?_; rintro e w' ⟨M, A', n', c', rfl, st', hM⟩; exact ⟨_, rfl, st'.below, M, hM, freshRow_mk (st'.get (i := 0) rfl)⟩)); (simp only [zca, zcn] <;> exact rfl))
    iterate 7 (apply Plan.val'; (focus (intro x0 x1 x2 x3 x4 x5 x6 x7 x8 x9 x10 x11 x12 x13 x14 x15 x16 w1 hb; (try simp only [depF, fillA, Act.put, zta, ztz, zpt, zsz, zss, zl0, zls]); (repeat (rintro rfl)); have st := st.call hb; (first | (apply Yphi.run; (exact rfl); (go_simp <;> (try simp (disch := omega) only [wrap_id, sub_left, zac]) <;> rfl); exact rfl) | (apply Yphi.load1 st; exact rfl; exact inferInstance; (exact rfl); exact rfl; (first | exact get3 | exact get4); exact rfl)))); (simp only [zca, zcn] <;> exact rfl))
    (apply Plan.fact' (sortedRow (L.below dir o g _ la la')) (sortedRow_stable _); (focus (intro x0 x1 x2 x3 x4 x5 x6 x7 x8 x9 x10 x11 x12 x13 x14 x15 x16 w1 hb; (try simp only [depF, fillA, Act.put, zta, ztz, zpt, zsz, zss, zl0, zls]); (repeat (first | rintro rfl | intro lo hi hlo hhi hphi)); have st := st.call hb; apply Yphi.call; (exact rfl); (go_simp <;> (try simp (disch := omega) only [wrap_id, sub_left, zac]) <;> rfl); exact rfl; refine (child1_any dir o g _ _ A2 A2' n2 n2' c2 c2' B la la' _ (Res.holds_lt (st.get (i := 1) rfl) rfl).2 (fun j v hj => (by rw [Nat.zero_add, st.cell (i := 1) rfl]; exact hj)) (H2.out.st st hB1) (H2'.out.st st hB1) (Nat.le_trans hB1 st.size) hn2 hn2' HF2.out HF2'.out).mono ?_; rintro e w' ⟨M, A', n', c', rfl, st', hM⟩; exact ⟨_, rfl, st'.below, M, hM, freshRow_mk (st'.get (i := 0) rfl)⟩)); (simp only [zca, zcn] <;> exact rfl))
    (apply Plan.val'; (focus (intro x0 x1 x2 x3 x4 x5 x6 x7 x8 x9 x10 x11 x12 x13 x14 x15 x16 w1 hb; (try simp only [depF, fillA, Act.put, zta, ztz, zpt, zsz, zss, zl0, zls]); (repeat (first | rintro rfl | intro lo hi hlo hhi hphi)); have st := st.call hb; ((apply Yphi.run; (exact rfl); (go_simp <;> (try simp (disch := omega) only [wrap_id, sub_left, zac]) <;> rfl); exact rfl)))); (simp only [zca, zcn] <;> exact rfl))
    intro x0 x1 x2 x3 x4 x5 x6 x7 x8 x9 x10 x11 x12 x13 x14 x15 x16 lo hi w1 hb hap
    rintro rfl rfl rfl rfl rfl rfl rfl hl1 _ ⟨M1, hM1, A3, n3, c3, rfl, ho1, hk1⟩ rfl rfl rfl rfl rfl rfl rfl hl2 _ ⟨M2, hM2, A4, n4, c4, rfl, ho2, hk2⟩ rfl
    simp only [allPhi, fillA, Act.put, zta, ztz, zpt, zsz, zss, zda, zdz]
    have st := rows_two st hb ho1 hk1 hl1 ho2 hk2 hl2 (hap 7 15 (by omega) (by omega) (by omega))
    clear ho1 hk1 hl1 ho2 hk2 hl2 hap hb
    have HM1 := Lib.hid hM1
    have HM2 := Lib.hid hM2
    have hm3 : n3 ≤ 1000 := by have := St.len st (i := 0) rfl; have := hM1.1; omega
    have hm4 : n4 ≤ 1000 := by have := St.len st (i := 1) rfl; have := hM2.1; omega
    clear hM1 hM2
    go_wp2_with (refine WL.out ?_; (repeat ((refine WL.op ?_ ?_; (exact rfl); intro K hK; (first | ((((with_reducible apply ow_store1' st); exact rfl; exact inferInstance; exact rfl; (exact get2); (go_simp <;> (try simp (disch := omega) only [wrap_id, sub_left, zac]) <;> rfl))); exact rfl; exact rfl; (simp <;> done); ((try simp only [zta, ztz, zda, zdz, zca, zcn, zan, zsz, zss]) <;> exact rfl); (try clear st); intro w' st) | ((with_reducible apply ow_eval); (go_simp <;> (try simp (disch := omega) only [wrap_id, sub_left, zac]) <;> rfl); ((with_reducible apply up_value)))); refine WL.next hK (by simp only [Act.put, zpt, zsz, zss]; exact rfl) ?_; clear hK K))); (try refine WL.nil ?_))
    refine wp_region_plan 6 (by kernel_rfl) (by kernel_rfl) ?_; replace st := st.drew; generalize World.drew _ = W at st ⊢
    iterate 2 (apply Plan.val'; (focus (intro x0 x1 x2 x3 x4 x5 w1 hb; (try simp only [depF, fillA, Act.put, zta, ztz, zpt, zsz, zss, zl0, zls]); (repeat (rintro rfl)); have st := st.call hb; (first | (apply Yphi.run; (exact rfl); (go_simp <;> (try simp (disch := omega) only [wrap_id, sub_left, zac]) <;> rfl); exact rfl) | (apply Yphi.load1 st; exact rfl; exact inferInstance; (exact rfl); exact rfl; (exact get2); exact rfl)))); (simp only [zca, zcn] <;> exact rfl))
    (apply Plan.val'; (focus (intro x0 x1 x2 x3 x4 x5 w1 hb; (try simp only [depF, fillA, Act.put, zta, ztz, zpt, zsz, zss, zl0, zls]); (repeat (rintro rfl)); have st := st.call hb; apply Yphi.call; (exact rfl); (go_simp <;> (try simp (disch := omega) only [wrap_id, sub_left, zac]) <;> rfl); exact rfl; refine (fullErr_any _ _ _ _ hm3).mono ?_; rintro e w' ⟨rfl, rfl⟩; exact ⟨_, rfl, Below.refl _ _, rfl⟩)); (simp only [zca, zcn] <;> exact rfl))
    iterate 2 (apply Plan.val'; (focus (intro x0 x1 x2 x3 x4 x5 w1 hb; (try simp only [depF, fillA, Act.put, zta, ztz, zpt, zsz, zss, zl0, zls]); (repeat (rintro rfl)); have st := st.call hb; (first | (apply Yphi.run; (exact rfl); (go_simp <;> (try simp (disch := omega) only [wrap_id, sub_left, zac]) <;> rfl); exact rfl) | (apply Yphi.load1 st; exact rfl; exact inferInstance; (exact rfl); exact rfl; (exact get2); exact rfl)))); (simp only [zca, zcn] <;> exact rfl))
    (apply Plan.val'; (focus (intro x0 x1 x2 x3 x4 x5 w1 hb; (try simp only [depF, fillA, Act.put, zta, ztz, zpt, zsz, zss, zl0, zls]); (repeat (rintro rfl)); have st := st.call hb; apply Yphi.call; (exact rfl); (go_simp <;> (try simp (disch := omega) only [wrap_id, sub_left, zac]) <;> rfl); exact rfl; refine (fullErr_any _ _ _ _ hm4).mono ?_; rintro e w' ⟨rfl, rfl⟩; exact ⟨_, rfl, Below.refl _ _, rfl⟩)); (simp only [zca, zcn] <;> exact rfl))
    intro x0 x1 x2 x3 x4 x5 lo hi w1 hb hap
    rintro rfl rfl rfl rfl rfl rfl
    simp only [allPhi, fillA, Act.put, zta, ztz, zpt, zsz, zss, zda, zdz]
    have st := st.call hb
    clear hap hb
    have a1 := Lib.hid (St.len st (i := 0) rfl)
    have a2 := Lib.hid (St.len st (i := 1) rfl)
    by_cases hx : n3 ≤ 16 ∧ n4 ≤ 16
    · have hE : Hid (L.firstErr [L.unles (decide (n3 ≤ 16)) 16, L.unles (decide (n4 ≤ 16)) 16] = 0) := Lib.hid (by rw [decide_eq_true hx.1, decide_eq_true hx.2]; rfl)
      have hX := Lib.hid hx
      clear hx
      go_wp2_with (refine WL.out ?_; (repeat ((refine WL.op ?_ ?_; (exact rfl); intro K hK; (first | ((((with_reducible apply ow_assign); exact rfl)); (go_simp <;> (try simp (disch := omega) only [wrap_id, sub_left, zac]) <;> rfl)) | ((((with_reducible apply ow_loadN st); exact rfl; exact inferInstance; exact rfl; (exact get3); ((try simp only [zta, ztz, zda, zdz, zca, zcn, zan, zsz, zss]) <;> exact rfl))); exact rfl) | ((((with_reducible apply ow_newSlice st); exact rfl; (go_simp <;> (try simp (disch := omega) only [wrap_id, sub_left, zac]) <;> rfl); exact rfl)); (try clear st); intro b w' st) | ((((with_reducible apply ow_storeN' st); exact rfl; exact inferInstance; exact rfl; (exact get5); exact rfl)); exact rfl; exact rfl; (simp <;> done); ((try simp only [zta, ztz, zda, zdz, zca, zcn, zan, zsz, zss]) <;> exact rfl); (try clear st); intro w' st) | ((with_reducible apply ow_eval); (go_simp <;> (try simp (disch := omega) only [wrap_id, sub_left, zac]) <;> rfl); first | (with_reducible apply up_value) | ((with_reducible apply up_enter); ((go_at_call 44; refine (first_st2 st).mono ?_; rintro e w' ⟨rfl, rfl⟩; rw [hE.out]; refine ⟨_, rfl, ?_⟩))))); refine WL.next hK (by simp only [Act.put, zpt, zsz, zss]; exact rfl) ?_; clear hK K))); (try refine WL.nil ?_))
      refine bodyPost_cell_tmp 5 st rfl inferInstance rfl rfl rfl rfl rfl ?_
      have hx := hX.out
      have k1 := HM1.out.small a1.out hx.1
      have k2 := HM2.out.small a2.out hx.2
      have l1 := HM1.out.1
      have l2 := HM2.out.1
      have m1 := a1.out
      have m2 := a2.out
      unfold L.child
      rw [if_pos ⟨by dsimp only; omega, by dsimp only; omega⟩]
      subst k1
      subst k2
      exact ⟨A3, n3, c3, A4, n4, c4, rfl, st.tail.sub (.cons_cons _ (.cons_cons _ (List.nil_sublist _)))⟩
    · have hE : Hid (L.firstErr [L.unles (decide (n3 ≤ 16)) 16, L.unles (decide (n4 ≤ 16)) 16] = 16) := Lib.hid (by
        by_cases h3 : n3 ≤ 16
        · have h4 : ¬ n4 ≤ 16 := fun h => hx ⟨h3, h⟩
          rw [decide_eq_true h3, decide_eq_false h4]; rfl
        · rw [decide_eq_false h3]; rfl)
      have hX := Lib.hid hx
      clear hx
      go_wp2_with (refine WL.out ?_; (repeat ((refine WL.op ?_ ?_; (exact rfl); intro K hK; (first | ((first | ((with_reducible apply ow_move); exact rfl) | ((with_reducible apply ow_assign); exact rfl)); (go_simp <;> (try simp (disch := omega) only [wrap_id, sub_left, zac]) <;> rfl)) | ((((with_reducible apply ow_newSlice st); exact rfl; (go_simp <;> (try simp (disch := omega) only [wrap_id, sub_left, zac]) <;> rfl); exact rfl)); (try clear st); intro b w' st) | ((((with_reducible apply ow_storeN' st); exact rfl; exact inferInstance; exact rfl; (exact get5); exact rfl)); exact rfl; exact rfl; (simp <;> done); ((try simp only [zta, ztz, zda, zdz, zca, zcn, zan, zsz, zss]) <;> exact rfl); (try clear st); intro w' st) | ((with_reducible apply ow_eval); (go_simp <;> (try simp (disch := omega) only [wrap_id, sub_left, zac]) <;> rfl); first | (with_reducible apply up_value) | ((with_reducible apply up_enter); ((go_at_call 44; refine (first_st2 st).mono ?_; rintro e w' ⟨rfl, rfl⟩; rw [hE.out]; refine ⟨_, rfl, ?_⟩))))); refine WL.next hK (by simp only [Act.put, zpt, zsz, zss]; exact rfl) ?_; clear hK K))); (try refine WL.nil ?_))
      refine bodyPost_cell_tmp 5 st rfl inferInstance rfl rfl rfl rfl rfl ?_
      have hx := hX.out
      have l1 := HM1.out.1
      have l2 := HM2.out.1
      have m1 := a1.out
      have m2 := a2.out
      unfold L.child
      rw [if_neg (by dsimp only; omega)]
      exact ⟨none, 0, 0, none, 0, 0, rfl, ((st.sub (List.nil_sublist _)).nilRow _ _).nilRow _ _⟩
theorem child_desc (d' d : L.Desc) (dir : Bool) (A1 A2 A1' A2' : Option Addr) (n1 n2 n1' n2' c1 c2 c1' c2' B : Nat) (w : World)
    (h1 : Aces w B A1 n1 d.e) (h2 : Aces w B A2 n2 d.a) (h1' : Aces w B A1' n1' d'.e) (h2' : Aces w B A2' n2' d'.a) (hB1 : B ≤ w.heap.size) (hn1 : n1 ≤ 100) (hn2 : n2 ≤ 100) (hn1' : n1' ≤ 100) (hn2' : n2' ≤ 100) (hf1 : L.FOk d.e) (hf2 : L.FOk d.a) (hf1' : L.FOk d'.e) (hf2' : L.FOk d'.a) :
    Calls Tryz.prog 45 #[.agg #[.int .i64 d'.o, .int .i64 d'.g, .bool d'.p, .bool d'.h, .slice A1' n1' c1', .slice A2' n2' c2'], .agg #[.int .i64 d.o, .int .i64 d.g, .bool d.p, .bool d.h, .slice A1 n1 c1, .slice A2 n2 c2], .bool dir] w (RetDescErr w (L.child d' d dir)) :=
  child_any d.o d.g d.p d.h d.e d.a d'.o d'.g d'.p d'.h d'.e d'.a dir A1 A2 A1' A2' n1 n2 n1' n2' c1 c2 c1' c2' B w h1 h2 h1' h2' hB1 hn1 hn2 hn1' hn2' hf1 hf2 hf1' hf2'
end Go.Proofs.YtppjhccdgbheiaaGreatDoor
namespace Go.Proofs.YtppjhccdgbheiaaGreatDoor
open Go.RowKit Go.Hp
namespace L
theorem Good.fok {l : List Ace} (h : Good l) : FOk l := fun a ha => ⟨(h a ha).f0, (h a ha).f1⟩
theorem audit_ok {n i : Nat} {a : Ace} (h : auditErr n i a = 0) : aErr a = 0 := firstErr_zero h _ (List.mem_cons_self ..)
theorem Desc.err_head {d : Desc} (h : d.err.2 = 0) : d.headErr = 0 := by
  unfold Desc.err at h
  split at h
  · assumption
  · exact h
theorem Desc.err_good {d : Desc} (h : d.err.2 = 0) : Good (d.e ++ d.a) := by
  have h0 := Desc.err_head h
  unfold Desc.err at h
  rw [if_pos h0] at h
  intro a ha
  obtain ⟨j, hj⟩ := List.mem_iff_getElem?.1 ha
  exact aErr_ok (audit_ok (each_zero _ 0 _ h j a hj))
theorem Desc.err_e {d : Desc} (h : d.err.2 = 0) : Good d.e := fun a ha => Desc.err_good h a (List.mem_append_left _ ha)
theorem Desc.err_a {d : Desc} (h : d.err.2 = 0) : Good d.a := fun a ha => Desc.err_good h a (List.mem_append_right _ ha)
def childOf (d' d : Desc) (dir : Bool) : Desc × Int := if firstErr [d'.err.2, d.err.2] = 0 then child d' d dir else (Desc.none, firstErr [d'.err.2, d.err.2])
end L
set_option maxRecDepth 8000 in
set_option maxHeartbeats 4000000 in
theorem ChildOf_any (d' d : L.Desc) (dir : Bool) (A1 A2 A1' A2' : Option Addr) (n1 n2 n1' n2' c1 c2 c1' c2' B : Nat) (w : World)
    (h1 : Aces w B A1 n1 d.e) (h2 : Aces w B A2 n2 d.a) (h1' : Aces w B A1' n1' d'.e) (h2' : Aces w B A2' n2' d'.a) (hB1 : B ≤ w.heap.size) (hn1 : n1 ≤ 100) (hn2 : n2 ≤ 100) (hn1' : n1' ≤ 100) (hn2' : n2' ≤ 100) :
    Calls Tryz.prog 25 #[.agg #[.int .i64 d'.o, .int .i64 d'.g, .bool d'.p, .bool d'.h, .slice A1' n1' c1', .slice A2' n2' c2'], .agg #[.int .i64 d.o, .int .i64 d.g, .bool d.p, .bool d.h, .slice A1 n1 c1, .slice A2 n2 c2], .bool dir] w (RetDescErr w (L.childOf d' d dir)) := by
  have H1 := Lib.hid h1
  have H2 := Lib.hid h2
  have H1' := Lib.hid h1'
  have H2' := Lib.hid h2'
  clear h1 h2 h1' h2'
  have st := St.start w
  go_enter Tryz.func25, Tryz.ntmps25
  go_wp2_with (refine WL.out ?_; (repeat ((refine WL.op ?_ ?_; (exact rfl); intro K hK; (first | ((((with_reducible apply ow_assign); exact rfl)); (go_simp <;> (try simp (disch := omega) only [wrap_id, sub_left, zac]) <;> rfl)) | ((first | ((with_reducible apply ow_box st); exact rfl; (go_simp <;> (try simp (disch := omega) only [wrap_id, sub_left, zac]) <;> rfl); (go_simp <;> (try simp (disch := omega) only [wrap_id, sub_left, zac]) <;> rfl)) | ((with_reducible apply ow_alloc st); exact rfl; exact inferInstance; (go_simp <;> (try simp (disch := omega) only [wrap_id, sub_left, zac]) <;> rfl))); (try clear st); intro b w' st)); refine WL.next hK (by simp only [Act.put, zpt, zsz, zss]; exact rfl) ?_; clear hK K))); (try refine WL.nil ?_))
  refine wp_region_plan 4 (by kernel_rfl) (by kernel_rfl) ?_; replace st := st.drew; generalize World.drew _ = W at st ⊢
  (apply Plan.val'; (focus (intro x0 x1 x2 x3 w1 hb; (try simp only [depF, fillA, Act.put, zta, ztz, zpt, zsz, zss, zl0, zls]); (repeat (fail)); have st := st.call hb; ((apply Yphi.loadN st; exact rfl; exact inferInstance; (exact rfl); exact rfl; (exact get2); ((try simp only [zta, ztz, zda, zdz, zca, zcn, zan, zsz, zss]) <;> exact rfl); exact rfl)))); (simp only [zca, zcn] <;> exact rfl))
  (apply Plan.val'; (focus (intro x0 x1 x2 x3 w1 hb; (try simp only [depF, fillA, Act.put, zta, ztz, zpt, zsz, zss, zl0, zls]); (repeat (rintro rfl)); have st := st.call hb; apply Yphi.call; (exact rfl); (go_simp <;> (try simp (disch := omega) only [wrap_id, sub_left, zac]) <;> rfl); exact rfl; refine (descriptorErr_any d' A1' A2' n1' n2' c1' c2' B _ (H1'.out.st st hB1) (H2'.out.st st hB1) (Nat.le_trans hB1 st.size) hn1' hn2').mono ?_; rintro e w' ⟨rfl, hb'⟩; exact ⟨_, rfl, hb', rfl⟩)); (simp only [zca, zcn] <;> exact rfl))
  (apply Plan.val'; (focus (intro x0 x1 x2 x3 w1 hb; (try simp only [depF, fillA, Act.put, zta, ztz, zpt, zsz, zss, zl0, zls]); (repeat (fail)); have st := st.call hb; ((apply Yphi.loadN st; exact rfl; exact inferInstance; (exact rfl); exact rfl; (exact get1); ((try simp only [zta, ztz, zda, zdz, zca, zcn, zan, zsz, zss]) <;> exact rfl); exact rfl)))); (simp only [zca, zcn] <;> exact rfl))
  (apply Plan.val'; (focus (intro x0 x1 x2 x3 w1 hb; (try simp only [depF, fillA, Act.put, zta, ztz, zpt, zsz, zss, zl0, zls]); (repeat (rintro rfl)); have st := st.call hb; apply Yphi.call; (exact rfl); (go_simp <;> (try simp (disch := omega) only [wrap_id, sub_left, zac]) <;> rfl); exact rfl; refine (descriptorErr_any d A1 A2 n1 n2 c1 c2 B _ (H1.out.st st hB1) (H2.out.st st hB1) (Nat.le_trans hB1 st.size) hn1 hn2).mono ?_; rintro e w' ⟨rfl, hb'⟩; exact ⟨_, rfl, hb', rfl⟩)); (simp only [zca, zcn] <;> exact rfl))
  intro x0 x1 x2 x3 lo hi w1 hb hap
  rintro rfl rfl rfl rfl
  simp only [allPhi, fillA, Act.put, zta, ztz, zpt, zsz, zss, zda, zdz]
  have st := st.call hb
  clear hap hb
  by_cases hx : L.firstErr [d'.err.2, d.err.2] = 0
  · have hE := Lib.hid hx
    have hz := L.firstErr_zero hx
    have z1 : d'.err.2 = 0 := hz _ (List.mem_cons_self ..)
    have z2 : d.err.2 = 0 := hz _ (List.mem_cons_of_mem _ (List.mem_cons_self ..))
    have G1 := Lib.hid (L.Desc.err_e z1).fok
    have G2 := Lib.hid (L.Desc.err_a z1).fok
    have G3 := Lib.hid (L.Desc.err_e z2).fok
    have G4 := Lib.hid (L.Desc.err_a z2).fok
    clear hx hz z1 z2
    go_wp2_with (refine WL.out ?_; (repeat ((refine WL.op ?_ ?_; (exact rfl); intro K hK; (first | ((first | ((with_reducible apply ow_move); exact rfl) | ((with_reducible apply ow_assign); exact rfl)); (go_simp <;> (try simp (disch := omega) only [wrap_id, sub_left, zac]) <;> rfl)) | ((((with_reducible apply ow_loadN st); exact rfl; exact inferInstance; exact rfl; (first | exact get2 | exact get3); ((try simp only [zta, ztz, zda, zdz, zca, zcn, zan, zsz, zss]) <;> exact rfl))); exact rfl) | ((((with_reducible apply ow_newSlice st); exact rfl; (go_simp <;> (try simp (disch := omega) only [wrap_id, sub_left, zac]) <;> rfl); exact rfl)); (try clear st); intro b w' st) | ((((with_reducible apply ow_storeN' st); exact rfl; exact inferInstance; exact rfl; (exact get3); exact rfl)); exact rfl; exact rfl; (simp <;> done); ((try simp only [zta, ztz, zda, zdz, zca, zcn, zan, zsz, zss]) <;> exact rfl); (try clear st); intro w' st) | ((with_reducible apply ow_eval); (go_simp <;> (try simp (disch := omega) only [wrap_id, sub_left, zac]) <;> rfl); first | (with_reducible apply up_value) | ((with_reducible apply up_enter); first | (go_at_call 44; refine (first_st2 st).mono ?_; rintro e w' ⟨rfl, rfl⟩; rw [hE.out]; refine ⟨_, rfl, ?_⟩) | (go_at_call 45; refine (child_desc d' d dir A1 A2 A1' A2' n1 n2 n1' n2' c1 c2 c1' c2' B _ (H1.out.st st hB1) (H2.out.st st hB1) (H1'.out.st st hB1) (H2'.out.st st hB1) (Nat.le_trans hB1 st.size) hn1 hn2 hn1' hn2' G3.out G4.out G1.out G2.out).mono ?_; rintro e w' ⟨A3, n3, c3, A4, n4, c4, rfl, st'⟩; replace st := st.join st'; clear st'; simp only [List.cons_append, List.nil_append] at st; refine ⟨_, rfl, ?_⟩)))); refine WL.next hK (by simp only [Act.put, zpt, zsz, zss]; exact rfl) ?_; clear hK K))); (try refine WL.nil ?_))
    refine bodyPost_cell_tmp 3 st rfl inferInstance rfl rfl rfl rfl rfl ?_
    unfold L.childOf
    rw [if_pos hE.out]
    exact ⟨A3, n3, c3, A4, n4, c4, rfl, st.sub (.cons_cons _ (.cons_cons _ (List.nil_sublist _)))⟩
  · have hE := Lib.hid hx
    have hb : (L.firstErr [d'.err.2, d.err.2] == 0) = false := by simpa using hx
    obtain ⟨E, hE2⟩ : ∃ E, L.firstErr [d'.err.2, d.err.2] = E := ⟨_, rfl⟩
    rw [hE2] at hb
    have HE2 := Lib.hid hE2
    clear hx hE2
    go_wp2_with (refine WL.out ?_; (repeat ((refine WL.op ?_ ?_; (exact rfl); intro K hK; (first | ((first | ((with_reducible apply ow_move); exact rfl) | ((with_reducible apply ow_assign); exact rfl)); (go_simp <;> (try simp (disch := omega) only [wrap_id, sub_left, zac]) <;> rfl)) | ((((with_reducible apply ow_newSlice st); exact rfl; (go_simp <;> (try simp (disch := omega) only [wrap_id, sub_left, zac]) <;> rfl); exact rfl)); (try clear st); intro b w' st) | ((((with_reducible apply ow_storeN' st); exact rfl; exact inferInstance; exact rfl; (exact get1); exact rfl)); exact rfl; exact rfl; (simp <;> done); ((try simp only [zta, ztz, zda, zdz, zca, zcn, zan, zsz, zss]) <;> exact rfl); (try clear st); intro w' st) | ((with_reducible apply ow_eval); (go_simp <;> (try simp (disch := omega) only [wrap_id, sub_left, zac]) <;> rfl); first | (with_reducible apply up_value) | ((with_reducible apply up_enter); ((go_at_call 44; refine (first_st2 st).mono ?_; rintro e w' ⟨rfl, rfl⟩; rw [HE2.out]; refine ⟨_, rfl, ?_⟩))))); refine WL.next hK (by simp only [Act.put, zpt, zsz, zss]; exact rfl) ?_; clear hK K))); (try refine WL.nil ?_))
    refine bodyPost_cell_tmp 1 st rfl inferInstance rfl rfl rfl rfl rfl ?_
    unfold L.childOf
    rw [if_neg hE.out, HE2.out]
    exact ⟨none, 0, 0, none, 0, 0, rfl, ((st.sub (List.nil_sublist _)).nilRow _ _).nilRow _ _⟩
end Go.Proofs.YtppjhccdgbheiaaGreatDoor
namespace Go.Proofs.YtppjhccdgbheiaaGreatDoor
open Go.RowKit Go.Hp
namespace L
def b8 (n : Int) : UInt8 := UInt8.ofNat (n % 256).toNat
theorem b8_toNat (n : Int) : (((b8 n).toNat : Nat) : Int) = n % 256 := by
  unfold b8
  rw [UInt8.toNat_ofNat']
  omega
theorem b8_wrap (n : Int) : IntKind.u8.wrap n = (((b8 n).toNat : Nat) : Int) := by
  rw [b8_toNat]
  simp [IntKind.wrap, IntKind.bits, IntKind.signed]
theorem b8_mod {n m : Int} (h : n % 256 = m % 256) : b8 n = b8 m := by unfold b8; rw [h]
def le16 (n : Int) : List UInt8 := [b8 n, b8 (n / 256)]
def le32 (n : Int) : List UInt8 := [b8 n, b8 (n / 256), b8 (n / 65536), b8 (n / 16777216)]
def byt (l : List UInt8) : List Value := l.map fun b => .int .u8 ((b.toNat : Nat) : Int)
theorem byt_append (l m : List UInt8) : byt (l ++ m) = byt l ++ byt m := List.map_append ..
theorem byt_length (l : List UInt8) : (byt l).length = l.length := List.length_map ..
theorem byt_two (x y : Int) : ([.int .u8 (IntKind.u8.wrap x), .int .u8 (IntKind.u8.wrap y)] : List Value) = byt [b8 x, b8 y] := by
  rw [b8_wrap, b8_wrap]; rfl
theorem byt_four (x y z u : Int) : ([.int .u8 (IntKind.u8.wrap x), .int .u8 (IntKind.u8.wrap y), .int .u8 (IntKind.u8.wrap z), .int .u8 (IntKind.u8.wrap u)] : List Value) = byt [b8 x, b8 y, b8 z, b8 u] := by
  rw [b8_wrap, b8_wrap, b8_wrap, b8_wrap]; rfl
end L
instance : SliceT Tryz.prog 81 5 (.int .u8 0) 1 1 := ⟨by kernel_rfl, by kernel_rfl, rfl, by decide⟩
abbrev byteRow (v : Value) (n : Nat) (l : List UInt8) : Res := .row 5 1 v n (L.byt l)
theorem bytes_one (l : List UInt8) : ∀ u ∈ L.byt l, u.oneCell' = true := by
  intro u hu
  obtain ⟨b, _, rfl⟩ := List.mem_map.1 hu
  rfl
theorem byteRow_len {w w0 : World} {rs : List Res} {i n : Nat} {v : Value} {l : List UInt8} (st : St w0 w rs) (hi : rs[i]? = some (byteRow v n l)) : n = l.length := by
  have := (st.get hi).1
  rw [L.byt_length] at this
  omega
set_option maxHeartbeats 1000000 in
theorem append16_any {w0 : World} {rs : List Res} (i : Nat) (A : Option Addr) (n c : Nat) (l : List UInt8) (x : Int) (w : World) (st : St w0 w rs) (hi : rs[i]? = some (byteRow (.slice A n c) n l)) (hn : n ≤ 100000) :
    Calls Tryz.prog 52 #[.slice A n c, .int .u16 x] w fun e w' => ∃ A' c', e = .returned (.slice A' (n + 2) c') ∧ St w0 w' (rs.set i (byteRow (.slice A' (n + 2) c') (n + 2) (l ++ L.le16 x))) := by
  have HI := Lib.hid hi
  clear hi
  go_enter Tryz.func52, Tryz.ntmps52
  go_wp2_with (refine WL.out ?_; (repeat ((refine WL.op ?_ ?_; (exact rfl); intro K hK; (first | ((first | ((with_reducible apply ow_move); exact rfl) | ((with_reducible apply ow_assign); exact rfl)); (go_simp <;> (try simp (disch := omega) only [wrap_id, sub_left, zac]) <;> rfl)) | ((((with_reducible apply ow_newSlice st); exact rfl; (go_simp <;> (try simp (disch := omega) only [wrap_id, sub_left, zac]) <;> rfl); exact rfl)); (try clear st); intro b w' st) | ((with_reducible apply ow_append (i + 1) st); exact rfl; exact inferInstance; exact (HI.out); exact rfl; exact rfl; exact st.rdBox (i := 0) (n := 2) (size := 1) rfl rfl; (focus ((simp [Value.oneCell']; done))); (focus (unfold maxLen; omega)); (focus omega); (try clear st); intro A' c' w' st; (try simp only [List.set_cons_zero, List.set_cons_succ, Nat.zero_add, List.nil_append] at st)) | ((with_reducible apply ow_eval); (go_simp <;> (try simp (disch := omega) only [wrap_id, sub_left, zac]) <;> rfl); ((with_reducible apply up_value)))); refine WL.next hK (by simp only [Act.put, zpt, zsz, zss]; exact rfl) ?_; clear hK K))); (try refine WL.nil ?_))
  go_ret
  rw [L.byt_two, ← L.byt_append] at st
  exact ⟨_, _, rfl, st.tail⟩
set_option maxHeartbeats 1000000 in
theorem append32_any {w0 : World} {rs : List Res} (i : Nat) (A : Option Addr) (n c : Nat) (l : List UInt8) (x : Int) (w : World) (st : St w0 w rs) (hi : rs[i]? = some (byteRow (.slice A n c) n l)) (hn : n ≤ 100000) :
    Calls Tryz.prog 50 #[.slice A n c, .int .u32 x] w fun e w' => ∃ A' c', e = .returned (.slice A' (n + 4) c') ∧ St w0 w' (rs.set i (byteRow (.slice A' (n + 4) c') (n + 4) (l ++ L.le32 x))) := by
  have HI := Lib.hid hi
  have hlt := (List.getElem?_eq_some_iff.1 hi).1
  clear hi
  go_enter Tryz.func50, Tryz.ntmps50
  go_wp2_with (refine WL.out ?_; (repeat ((refine WL.op ?_ ?_; (exact rfl); intro K hK; (first | ((first | ((with_reducible apply ow_move); exact rfl) | ((with_reducible apply ow_assign); exact rfl)); (go_simp <;> (try simp (disch := omega) only [wrap_id, sub_left, zac]) <;> rfl)) | ((((with_reducible apply ow_newSlice st); exact rfl; (go_simp <;> (try simp (disch := omega) only [wrap_id, sub_left, zac]) <;> rfl); exact rfl)); (try clear st); intro b w' st) | ((with_reducible apply ow_append (i + 1) st); exact rfl; exact inferInstance; exact (HJ.out); exact rfl; exact rfl; exact st.rdBox (i := 0) (n := 2) (size := 1) rfl rfl; (focus ((simp [Value.oneCell']; done))); (focus (unfold maxLen; omega)); (focus omega); (try clear st); intro A' c' w' st; (try simp only [List.set_cons_zero, List.set_cons_succ, Nat.zero_add, List.nil_append] at st)) | ((with_reducible apply ow_eval); (go_simp <;> (try simp (disch := omega) only [wrap_id, sub_left, zac]) <;> rfl); first | (with_reducible apply up_value) | ((with_reducible apply up_enter); ((go_at_call 52; refine (append16_any i A n c l (IntKind.u16.wrap x) _ st HI.out hn).mono ?_; rintro e w' ⟨A3, c3, rfl, st'⟩; replace st := st'; clear st'; have HJ := Lib.hid (show (rs.set i (byteRow (.slice A3 (n + 2) c3) (n + 2) (l ++ L.le16 (IntKind.u16.wrap x))))[i]? = some (byteRow (.slice A3 (n + 2) c3) (n + 2) (l ++ L.le16 (IntKind.u16.wrap x))) from List.getElem?_set_self hlt); refine ⟨_, rfl, ?_⟩))))); refine WL.next hK (by simp only [Act.put, zpt, zsz, zss]; exact rfl) ?_; clear hK K))); (try refine WL.nil ?_))
  go_ret
  rw [L.byt_two, ← L.byt_append, List.set_set, List.append_assoc] at st
  have e1 : L.le16 (IntKind.u16.wrap x) ++ [L.b8 (x / 65536), L.b8 (x / 16777216)] = L.le32 x := by
    have hw : IntKind.u16.wrap x = x % 65536 := by simp [IntKind.wrap, IntKind.bits, IntKind.signed]
    unfold L.le16 L.le32
    rw [hw, L.b8_mod (n := x % 65536) (m := x) (by omega), L.b8_mod (n := x % 65536 / 256) (m := x / 256) (by omega)]
    rfl
  rw [e1] at st
  exact ⟨_, _, rfl, st.tail⟩
end Go.Proofs.YtppjhccdgbheiaaGreatDoor
namespace Go.Hp
open Go.RowKit
section
variable {P : Program} {o : Oper} {a : Act} {w0 w : World} {rs : List Res} {Q : Exit → Act → World → Prop} {K : Act → World → Prop}
theorem ow_here4 {t : TypeId} {x : Operand} {b p : Nat} {v0 v1 v2 v3 : Value} (ho : o.op = .load t x) (hT : AggT P t 4) (hx : a.eval x = .pointer (some ⟨b, p, none⟩))
    (h0 : w.cell? ⟨b, p, none⟩ = some v0) (h1 : w.cell? ⟨b, p + 1, none⟩ = some v1) (h2 : w.cell? ⟨b, p + 2, none⟩ = some v2) (h3 : w.cell? ⟨b, p + 3, none⟩ = some v3)
    (h : K (a.put o.dst (.agg #[v0, v1, v2, v3])) w) : OW P o a w K Q := by
  refine OW.mk (wp_value ?_ h)
  have := run_loadN (P := P) (t := t) (hT := hT) (w := w) (b := b) (o := p) (vs := [v0, v1, v2, v3]) rfl (fun j v hj => by
    match j, hj with
    | 0, hj => exact h0.trans hj
    | 1, hj => exact h1.trans hj
    | 2, hj => exact h2.trans hj
    | 3, hj => exact h3.trans hj)
  simp [execOp, ho, hx, this]
theorem row_block {e size n c : Nat} {A : Option Addr} {xs : List Value} {B : Nat} (h : (Res.row e size (.slice A n c) n xs).holds B w) (hn : 0 < n) : ∃ g, A = some ⟨g, 0, none⟩ ∧ ∀ j u, xs[j]? = some u → w.cell? ⟨g, j, none⟩ = some u := by
  rcases h.2 with ⟨hv, h0⟩ | ⟨g, cap, cur, hv, hbase, hg, hnc, hcap, hsz, htake⟩
  · omega
  · injection hv with h1
    refine ⟨g, h1, fun j u hj => ?_⟩
    rw [cell_of_row w g j cur e (0, 0) hg]
    rw [← htake, List.getElem?_take] at hj
    split at hj
    · simpa using hj
    · cases hj
end
end Go.Hp
namespace Go.Proofs.YtppjhccdgbheiaaGreatDoor
open Go.RowKit Go.Hp
section
variable {o : Oper} {a : Act} {w0 w : World} {rs : List Res} {Q : Exit → Act → World → Prop} {K : Act → World → Prop}
theorem run_string {src e dst i n c : Nat} {P : Program} {A : Option Addr} {l : List UInt8} (hs : P.underlying src = some (.slice e)) (he : P.underlying e = some (.int .u8)) (hd : P.underlying dst = some .string) (st : St w0 w rs) (hi : rs[i]? = some (byteRow (.slice A n c) n l)) (hn : 0 < n) :
    (convert src dst (.slice A n c)).run P w = .ok (.string ⟨l.toArray⟩) w := by
  have hl := byteRow_len st hi
  obtain ⟨g, rfl, hc⟩ := row_block (st.get hi) hn
  subst hl
  refine run_convert_bytes_back w src dst e ⟨g, 0, none⟩ c l hs he hd fun j hj => ?_
  rw [add_lit, Nat.zero_add]
  exact hc j _ (by unfold L.byt; rw [List.getElem?_map, List.getElem?_eq_getElem hj]; rfl)
theorem ow_string {n c : Nat} {x : Operand} {A : Option Addr} {l : List UInt8} (i : Nat) (st : St w0 w rs) (ho : o.op = .convert 81 9 x) (hx : a.eval x = .slice A n c) (hi : rs[i]? = some (byteRow (.slice A n c) n l)) (hn : 0 < n)
    (h : K (a.put o.dst (.string ⟨l.toArray⟩)) w) : OW Tryz.prog o a w K Q := by
  refine OW.mk (wp_value ?_ h)
  have := run_string (P := Tryz.prog) (src := 81) (e := 5) (dst := 9) (by kernel_rfl) (by kernel_rfl) (by kernel_rfl) st hi hn
  simp [execOp, ho, hx, this]
end
namespace L
def encA (a : Ace) : List UInt8 := [b8 a.k, b8 a.f] ++ (le16 a.m ++ le32 a.w)
def encAces (l : List Ace) : List UInt8 := l.flatMap encA
theorem encAces_step (l : List Ace) (k : Nat) (h : k < l.length) : encAces (l.take (k + 1)) = encAces (l.take k) ++ encA (ax l k) := by
  rw [take_succ_ax l k h]; unfold encAces; rw [List.flatMap_append]; simp
def Desc.fl (d : Desc) : Int := bit d.p + 2 * bit d.h
def Desc.encHead (d : Desc) : List UInt8 := [1, b8 d.fl, b8 d.e.length, b8 d.a.length] ++ (le32 d.o ++ le32 d.g)
def Desc.enc (d : Desc) : List UInt8 := d.encHead ++ encAces (d.e ++ d.a)
theorem le16_wrap (n : Int) : le16 (IntKind.u16.wrap n) = le16 n := by
  have hw : IntKind.u16.wrap n = n % 65536 := by simp [IntKind.wrap, IntKind.bits, IntKind.signed]
  unfold le16
  rw [hw, b8_mod (n := n % 65536) (m := n) (by omega), b8_mod (n := n % 65536 / 256) (m := n / 256) (by omega)]
theorem le32_wrap (n : Int) : le32 (IntKind.u32.wrap n) = le32 n := by
  have hw : IntKind.u32.wrap n = n % 4294967296 := by simp [IntKind.wrap, IntKind.bits, IntKind.signed]
  unfold le32
  rw [hw, b8_mod (n := n % 4294967296) (m := n) (by omega), b8_mod (n := n % 4294967296 / 256) (m := n / 256) (by omega), b8_mod (n := n % 4294967296 / 65536) (m := n / 65536) (by omega), b8_mod (n := n % 4294967296 / 16777216) (m := n / 16777216) (by omega)]
theorem byt_head (F n m : Int) : ([.int .u8 1, .int .u8 (IntKind.u8.wrap F), .int .u8 (IntKind.u8.wrap n), .int .u8 (IntKind.u8.wrap m)] : List Value) = byt [1, b8 F, b8 n, b8 m] := by
  rw [b8_wrap, b8_wrap, b8_wrap]; rfl
theorem byt_head0 (n m : Int) : ([.int .u8 1, .int .u8 0, .int .u8 (IntKind.u8.wrap n), .int .u8 (IntKind.u8.wrap m)] : List Value) = byt [1, 0, b8 n, b8 m] := by
  rw [b8_wrap, b8_wrap]; rfl
theorem fl3 : b8 (bits BinOp.or IntKind.i64 (bits BinOp.or IntKind.i64 0 1) 2) = 3 := by decide +kernel
theorem fl1 : b8 (bits BinOp.or IntKind.i64 0 1) = 1 := by decide +kernel
theorem fl2 : b8 (bits BinOp.or IntKind.i64 0 2) = 2 := by decide +kernel
def strOf (l : List UInt8) : Value := .string ⟨l.toArray⟩
end L
def encRes (d : L.Desc) : List UInt8 × Int := if d.err.2 = 0 then (d.enc, 0) else ([], d.err.2)
set_option maxRecDepth 8000 in
set_option maxHeartbeats 4000000 in
theorem EncodeDescriptor_any (d : L.Desc) (A1 A2 : Option Addr) (n1 n2 c1 c2 B : Nat) (w : World) (h1 : Aces w B A1 n1 d.e) (h2 : Aces w B A2 n2 d.a) (hB1 : B ≤ w.heap.size) (hn1 : n1 ≤ 100) (hn2 : n2 ≤ 100) :
    Calls Tryz.prog 29 #[.agg #[.int .i64 d.o, .int .i64 d.g, .bool d.p, .bool d.h, .slice A1 n1 c1, .slice A2 n2 c2]] w fun e w' => e = .returned (.tuple #[L.strOf (encRes d).1, .int .i64 (encRes d).2]) ∧ Below w.heap.size w w' := by
  have e1 := Lib.hid h1.len
  have e2 := Lib.hid h2.len
  have H1 := Lib.hid h1
  have H2 := Lib.hid h2
  clear h1 h2
  have st := St.start w
  by_cases hx : d.err.2 = 0
  · have hE := Lib.hid hx
    clear hx
    obtain ⟨do_, dg, dp, dh, de, da⟩ := d
    rcases (show (dp = true ∧ dh = true) ∨ (dp = true ∧ dh = false) ∨ (dp = false ∧ dh = true) ∨ (dp = false ∧ dh = false) by cases dp <;> cases dh <;> simp) with ⟨rfl, rfl⟩ | ⟨rfl, rfl⟩ | ⟨rfl, rfl⟩ | ⟨rfl, rfl⟩
    · go_enter Tryz.func29, Tryz.ntmps29
      go_wp2_with (refine WL.out ?_; (repeat ((refine WL.op ?_ ?_; (exact rfl); intro K hK; (first | ((first | ((with_reducible apply ow_move); exact rfl) | ((with_reducible apply ow_assign); exact rfl)); (go_simp <;> (try simp (disch := omega) only [wrap_id, sub_left, zac]) <;> rfl)) | ((first | ((with_reducible apply ow_load1 st); exact rfl; exact inferInstance; exact rfl; (first | exact get0 | exact get1)) | ((with_reducible apply ow_loadN st); exact rfl; exact inferInstance; exact rfl; (exact get0); ((try simp only [zta, ztz, zda, zdz, zca, zcn, zan, zsz, zss]) <;> exact rfl))); exact rfl) | ((first | ((with_reducible apply ow_box st); exact rfl; (go_simp <;> (try simp (disch := omega) only [wrap_id, sub_left, zac]) <;> rfl); (go_simp <;> (try simp (disch := omega) only [wrap_id, sub_left, zac]) <;> rfl)) | ((with_reducible apply ow_newSlice st); exact rfl; (go_simp <;> (try simp (disch := omega) only [wrap_id, sub_left, zac]) <;> rfl); exact rfl)); (try clear st); intro b w' st) | ((with_reducible apply ow_eval); (go_simp <;> (try simp (disch := omega) only [wrap_id, sub_left, zac]) <;> rfl); first | (with_reducible apply up_value) | ((with_reducible apply up_enter); first | (go_at_call 37; refine (descriptorErr_any ⟨do_, dg, true, true, de, da⟩ A1 A2 n1 n2 c1 c2 B _ (H1.out.st st hB1) (H2.out.st st hB1) (Nat.le_trans hB1 st.size) hn1 hn2).mono ?_; rintro e w' ⟨rfl, hb⟩; replace st := st.call hb; clear hb; rw [hE.out]; refine ⟨_, rfl, ?_⟩) | (go_at_call 50; replace st := st.toRow (n := 4) (size := 1) rfl (by decide); (rw [L.byt_head] at st); refine (append32_any 0 _ _ _ _ _ _ st rfl (by omega)).mono ?_; rintro e w' ⟨A5, c5, rfl, st'⟩; replace st := st'; clear st'; simp only [List.set_cons_zero] at st; refine ⟨_, rfl, ?_⟩) | (go_at_call 50; refine (append32_any 0 _ _ _ _ _ _ st rfl (by omega)).mono ?_; rintro e w' ⟨A6, c6, rfl, st'⟩; replace st := st'; clear st'; simp only [List.set_cons_zero] at st; refine ⟨_, rfl, ?_⟩) | (go_at_call 51; refine (Concat_any _ n1 n2 c1 c2 B A1 A2 de da _ (Res.holds_lt (st.get (i := 0) rfl) rfl).2 (st.cell (i := 0) rfl 0) (st.cell (i := 0) rfl 1) (H1.out.st st hB1) (H2.out.st st hB1) (Nat.le_trans hB1 st.size) hn1 hn2).mono ?_; rintro e w' ⟨A0, m0, c0, rfl, st'⟩; replace st := st.join st'; clear st'; simp only [List.cons_append, List.nil_append] at st; refine ⟨_, rfl, ?_⟩)))); refine WL.next hK (by simp only [Act.put, zpt, zsz, zss]; exact rfl) ?_; clear hK K))); (try refine WL.nil ?_))
      rw [L.le32_wrap, L.le32_wrap] at st
      (try rw [L.fl3] at st)
      (try rw [L.fl1] at st)
      (try rw [L.fl2] at st)
      have hhd : (1 :: 3 :: L.b8 ↑n1 :: L.b8 ↑n2 :: (L.le32 do_ ++ L.le32 dg) : List UInt8) = L.Desc.encHead ⟨do_, dg, true, true, de, da⟩ := by
        unfold L.Desc.encHead
        rw [e1.out, e2.out]
        rfl
      rw [hhd] at st
      clear hhd
      replace st := (st.sub (rs' := [_, _]) (.cons_cons _ (.cons _ (.cons_cons _ (List.nil_sublist _))))).swap
      have hm : m0 ≤ 200 := by
        have h1 := St.len st (i := 1) rfl
        rw [List.length_append] at h1
        have := e1.out
        have := e2.out
        omega
      have em := Lib.hid (St.len st (i := 1) rfl)
      go_loopw [6, 50] (fun v i wr => ∃ (k N : Nat) (A' : Option Addr) (c' : Nat), k ≤ m0 ∧ 12 ≤ N ∧ N ≤ 12 + 8 * k ∧ i = .int .i64 k ∧ v = .slice A' N c' ∧ St w wr [byteRow (.slice A' N c') N (L.Desc.encHead ⟨do_, dg, true, true, de, da⟩ ++ L.encAces ((de ++ da).take k)), aceRow (.slice A0 m0 c0) m0 (de ++ da)]) (fun _ i _ => m0 - (intOf i).toNat)
      case atStart => exact ⟨0, 12, A6, c6, Nat.zero_le _, by omega, by omega, rfl, rfl, by rw [List.take_zero]; unfold L.encAces; rw [List.flatMap_nil, List.append_nil]; exact st⟩
      case round =>
        clear st
        obtain ⟨k, N, A', c', hk, hN0, hN1, rfl, rfl, st⟩ := hrel
        by_cases hlt : k < m0
        · have hst := Lib.hid (L.encAces_step (de ++ da) k (by rw [← em.out]; exact hlt))
          obtain ⟨b1, o1, rfl, hb1, hc⟩ := (St.aces st (i := 1) rfl).at_ (by omega)
          obtain ⟨f1, f2, f3, f4⟩ := hc k hlt
          clear hc hb1
          go_wp2_with (refine WL.out ?_; (repeat ((refine WL.op ?_ ?_; (exact rfl); intro K hK; (first | ((first | ((with_reducible apply ow_move); exact rfl) | ((with_reducible apply ow_assign); exact rfl)); (go_simp <;> (try simp (disch := omega) only [wrap_id, sub_left, zac]) <;> rfl)) | ((((with_reducible apply ow_load1 st); exact rfl; exact inferInstance; exact rfl; (first | exact get0 | exact get1))); exact rfl) | ((first | ((with_reducible apply ow_newSlice st); exact rfl; (go_simp <;> (try simp (disch := omega) only [wrap_id, sub_left, zac]) <;> rfl); exact rfl) | ((with_reducible apply ow_alloc st); exact rfl; exact inferInstance; (go_simp <;> (try simp (disch := omega) only [wrap_id, sub_left, zac]) <;> rfl))); (try clear st); intro b w' st) | ((((with_reducible apply ow_storeN' st); exact rfl; exact inferInstance; exact rfl; (exact get0); exact rfl)); exact rfl; exact rfl; (simp <;> done); ((try simp only [zta, ztz, zda, zdz, zca, zcn, zan, zsz, zss]) <;> exact rfl); (try clear st); intro w' st) | ((with_reducible apply ow_here4); exact rfl; exact inferInstance; exact rfl; assumption; assumption; assumption; assumption) | ((with_reducible apply ow_append (2) st); exact rfl; exact inferInstance; exact (rfl); exact rfl; exact rfl; exact st.rdBox (i := 0) (n := 2) (size := 1) rfl rfl; (focus ((simp [Value.oneCell']; done))); (focus (unfold maxLen; omega)); (focus omega); (try clear st); intro A' c' w' st; (try simp only [List.set_cons_zero, List.set_cons_succ, Nat.zero_add, List.nil_append] at st)) | ((with_reducible apply ow_eval); (go_simp <;> (try simp (disch := omega) only [wrap_id, sub_left, zac]) <;> rfl); first | (with_reducible apply up_value) | ((with_reducible apply up_enter); first | (go_at_call 52; (rw [L.byt_two, ← L.byt_append] at st); refine (append16_any 2 _ _ _ _ _ _ st rfl (by omega)).mono ?_; rintro e w' ⟨A8, c8, rfl, st'⟩; replace st := st'; clear st'; simp only [List.set_cons_zero, List.set_cons_succ] at st; refine ⟨_, rfl, ?_⟩) | (go_at_call 50; refine (append32_any 2 _ _ _ _ _ _ st rfl (by omega)).mono ?_; rintro e w' ⟨A9, c9, rfl, st'⟩; replace st := st'; clear st'; simp only [List.set_cons_zero, List.set_cons_succ] at st; refine ⟨_, rfl, ?_⟩)))); refine WL.next hK (by simp only [Act.put, zpt, zsz, zss]; exact rfl) ?_; clear hK K))); (try refine WL.nil ?_))
          rw [L.le16_wrap, L.le32_wrap] at st
          refine ⟨⟨k + 1, _, _, _, by omega, ?_, ?_, by go_num, rfl, ?_⟩, by simp [intOf]; omega⟩
          · omega
          · omega
          · rw [hst.out]
            unfold L.encA
            simp only [List.append_assoc] at st ⊢
            exact st.tail.tail
        · have hs' : Hid ((de ++ da).take k = de ++ da) := Lib.hid (List.take_of_length_le (by rw [← em.out]; omega))
          rw [hs'.out] at st
          go_wp2_with (refine WL.out ?_; (repeat ((refine WL.op ?_ ?_; (exact rfl); intro K hK; (first | ((((with_reducible apply ow_assign); exact rfl)); (go_simp <;> (try simp (disch := omega) only [wrap_id, sub_left, zac]) <;> rfl)) | ((with_reducible apply ow_string 0 st); exact rfl; exact rfl; exact rfl; (focus omega)) | ((with_reducible apply ow_eval); (go_simp <;> (try simp (disch := omega) only [wrap_id, sub_left, zac]) <;> rfl); ((with_reducible apply up_value)))); refine WL.next hK (by simp only [Act.put, zpt, zsz, zss]; exact rfl) ?_; clear hK K))); (try refine WL.nil ?_))
          go_ret2
          unfold encRes
          rw [if_pos hE.out]
          exact ⟨rfl, st.below⟩
    · go_enter Tryz.func29, Tryz.ntmps29
      go_wp2_with (refine WL.out ?_; (repeat ((refine WL.op ?_ ?_; (exact rfl); intro K hK; (first | ((first | ((with_reducible apply ow_move); exact rfl) | ((with_reducible apply ow_assign); exact rfl)); (go_simp <;> (try simp (disch := omega) only [wrap_id, sub_left, zac]) <;> rfl)) | ((first | ((with_reducible apply ow_load1 st); exact rfl; exact inferInstance; exact rfl; (first | exact get0 | exact get1)) | ((with_reducible apply ow_loadN st); exact rfl; exact inferInstance; exact rfl; (exact get0); ((try simp only [zta, ztz, zda, zdz, zca, zcn, zan, zsz, zss]) <;> exact rfl))); exact rfl) | ((first | ((with_reducible apply ow_box st); exact rfl; (go_simp <;> (try simp (disch := omega) only [wrap_id, sub_left, zac]) <;> rfl); (go_simp <;> (try simp (disch := omega) only [wrap_id, sub_left, zac]) <;> rfl)) | ((with_reducible apply ow_newSlice st); exact rfl; (go_simp <;> (try simp (disch := omega) only [wrap_id, sub_left, zac]) <;> rfl); exact rfl)); (try clear st); intro b w' st) | ((with_reducible apply ow_eval); (go_simp <;> (try simp (disch := omega) only [wrap_id, sub_left, zac]) <;> rfl); first | (with_reducible apply up_value) | ((with_reducible apply up_enter); first | (go_at_call 37; refine (descriptorErr_any ⟨do_, dg, true, false, de, da⟩ A1 A2 n1 n2 c1 c2 B _ (H1.out.st st hB1) (H2.out.st st hB1) (Nat.le_trans hB1 st.size) hn1 hn2).mono ?_; rintro e w' ⟨rfl, hb⟩; replace st := st.call hb; clear hb; rw [hE.out]; refine ⟨_, rfl, ?_⟩) | (go_at_call 50; replace st := st.toRow (n := 4) (size := 1) rfl (by decide); (rw [L.byt_head] at st); refine (append32_any 0 _ _ _ _ _ _ st rfl (by omega)).mono ?_; rintro e w' ⟨A5, c5, rfl, st'⟩; replace st := st'; clear st'; simp only [List.set_cons_zero] at st; refine ⟨_, rfl, ?_⟩) | (go_at_call 50; refine (append32_any 0 _ _ _ _ _ _ st rfl (by omega)).mono ?_; rintro e w' ⟨A6, c6, rfl, st'⟩; replace st := st'; clear st'; simp only [List.set_cons_zero] at st; refine ⟨_, rfl, ?_⟩) | (go_at_call 51; refine (Concat_any _ n1 n2 c1 c2 B A1 A2 de da _ (Res.holds_lt (st.get (i := 0) rfl) rfl).2 (st.cell (i := 0) rfl 0) (st.cell (i := 0) rfl 1) (H1.out.st st hB1) (H2.out.st st hB1) (Nat.le_trans hB1 st.size) hn1 hn2).mono ?_; rintro e w' ⟨A0, m0, c0, rfl, st'⟩; replace st := st.join st'; clear st'; simp only [List.cons_append, List.nil_append] at st; refine ⟨_, rfl, ?_⟩)))); refine WL.next hK (by simp only [Act.put, zpt, zsz, zss]; exact rfl) ?_; clear hK K))); (try refine WL.nil ?_))
      rw [L.le32_wrap, L.le32_wrap] at st
      (try rw [L.fl3] at st)
      (try rw [L.fl1] at st)
      (try rw [L.fl2] at st)
      have hhd : (1 :: 1 :: L.b8 ↑n1 :: L.b8 ↑n2 :: (L.le32 do_ ++ L.le32 dg) : List UInt8) = L.Desc.encHead ⟨do_, dg, true, false, de, da⟩ := by
        unfold L.Desc.encHead
        rw [e1.out, e2.out]
        rfl
      rw [hhd] at st
      clear hhd
      replace st := (st.sub (rs' := [_, _]) (.cons_cons _ (.cons _ (.cons_cons _ (List.nil_sublist _))))).swap
      have hm : m0 ≤ 200 := by
        have h1 := St.len st (i := 1) rfl
        rw [List.length_append] at h1
        have := e1.out
        have := e2.out
        omega
      have em := Lib.hid (St.len st (i := 1) rfl)
      go_loopw [6, 50] (fun v i wr => ∃ (k N : Nat) (A' : Option Addr) (c' : Nat), k ≤ m0 ∧ 12 ≤ N ∧ N ≤ 12 + 8 * k ∧ i = .int .i64 k ∧ v = .slice A' N c' ∧ St w wr [byteRow (.slice A' N c') N (L.Desc.encHead ⟨do_, dg, true, false, de, da⟩ ++ L.encAces ((de ++ da).take k)), aceRow (.slice A0 m0 c0) m0 (de ++ da)]) (fun _ i _ => m0 - (intOf i).toNat)
      case atStart => exact ⟨0, 12, A6, c6, Nat.zero_le _, by omega, by omega, rfl, rfl, by rw [List.take_zero]; unfold L.encAces; rw [List.flatMap_nil, List.append_nil]; exact st⟩
      case round =>
        clear st
        obtain ⟨k, N, A', c', hk, hN0, hN1, rfl, rfl, st⟩ := hrel
        by_cases hlt : k < m0
        · have hst := Lib.hid (L.encAces_step (de ++ da) k (by rw [← em.out]; exact hlt))
          obtain ⟨b1, o1, rfl, hb1, hc⟩ := (St.aces st (i := 1) rfl).at_ (by omega)
          obtain ⟨f1, f2, f3, f4⟩ := hc k hlt
          clear hc hb1
          go_wp2_with (refine WL.out ?_; (repeat ((refine WL.op ?_ ?_; (exact rfl); intro K hK; (first | ((first | ((with_reducible apply ow_move); exact rfl) | ((with_reducible apply ow_assign); exact rfl)); (go_simp <;> (try simp (disch := omega) only [wrap_id, sub_left, zac]) <;> rfl)) | ((((with_reducible apply ow_load1 st); exact rfl; exact inferInstance; exact rfl; (first | exact get0 | exact get1))); exact rfl) | ((first | ((with_reducible apply ow_newSlice st); exact rfl; (go_simp <;> (try simp (disch := omega) only [wrap_id, sub_left, zac]) <;> rfl); exact rfl) | ((with_reducible apply ow_alloc st); exact rfl; exact inferInstance; (go_simp <;> (try simp (disch := omega) only [wrap_id, sub_left, zac]) <;> rfl))); (try clear st); intro b w' st) | ((((with_reducible apply ow_storeN' st); exact rfl; exact inferInstance; exact rfl; (exact get0); exact rfl)); exact rfl; exact rfl; (simp <;> done); ((try simp only [zta, ztz, zda, zdz, zca, zcn, zan, zsz, zss]) <;> exact rfl); (try clear st); intro w' st) | ((with_reducible apply ow_here4); exact rfl; exact inferInstance; exact rfl; assumption; assumption; assumption; assumption) | ((with_reducible apply ow_append (2) st); exact rfl; exact inferInstance; exact (rfl); exact rfl; exact rfl; exact st.rdBox (i := 0) (n := 2) (size := 1) rfl rfl; (focus ((simp [Value.oneCell']; done))); (focus (unfold maxLen; omega)); (focus omega); (try clear st); intro A' c' w' st; (try simp only [List.set_cons_zero, List.set_cons_succ, Nat.zero_add, List.nil_append] at st)) | ((with_reducible apply ow_eval); (go_simp <;> (try simp (disch := omega) only [wrap_id, sub_left, zac]) <;> rfl); first | (with_reducible apply up_value) | ((with_reducible apply up_enter); first | (go_at_call 52; (rw [L.byt_two, ← L.byt_append] at st); refine (append16_any 2 _ _ _ _ _ _ st rfl (by omega)).mono ?_; rintro e w' ⟨A8, c8, rfl, st'⟩; replace st := st'; clear st'; simp only [List.set_cons_zero, List.set_cons_succ] at st; refine ⟨_, rfl, ?_⟩) | (go_at_call 50; refine (append32_any 2 _ _ _ _ _ _ st rfl (by omega)).mono ?_; rintro e w' ⟨A9, c9, rfl, st'⟩; replace st := st'; clear st'; simp only [List.set_cons_zero, List.set_cons_succ] at st; refine ⟨_, rfl, ?_⟩)))); refine WL.next hK (by simp only [Act.put, zpt, zsz, zss]; exact rfl) ?_; clear hK K))); (try refine WL.nil ?_))
          rw [L.le16_wrap, L.le32_wrap] at st
          refine ⟨⟨k + 1, _, _, _, by omega, ?_, ?_, by go_num, rfl, ?_⟩, by simp [intOf]; omega⟩
          · omega
          · omega
          · rw [hst.out]
            unfold L.encA
            simp only [List.append_assoc] at st ⊢
            exact st.tail.tail
        · have hs' : Hid ((de ++ da).take k = de ++ da) := Lib.hid (List.take_of_length_le (by rw [← em.out]; omega))
          rw [hs'.out] at st
          go_wp2_with (refine WL.out ?_; (repeat ((refine WL.op ?_ ?_; (exact rfl); intro K hK; (first | ((((with_reducible apply ow_assign); exact rfl)); (go_simp <;> (try simp (disch := omega) only [wrap_id, sub_left, zac]) <;> rfl)) | ((with_reducible apply ow_string 0 st); exact rfl; exact rfl; exact rfl; (focus omega)) | ((with_reducible apply ow_eval); (go_simp <;> (try simp (disch := omega) only [wrap_id, sub_left, zac]) <;> rfl); ((with_reducible apply up_value)))); refine WL.next hK (by simp only [Act.put, zpt, zsz, zss]; exact rfl) ?_; clear hK K))); (try refine WL.nil ?_))
          go_ret2
          unfold encRes
          rw [if_pos hE.out]
          exact ⟨rfl, st.below⟩
    · go_enter Tryz.func29, Tryz.ntmps29
      go_wp2_with (refine WL.out ?_; (repeat ((refine WL.op ?_ ?_; (exact rfl); intro K hK; (first | ((first | ((with_reducible apply ow_move); exact rfl) | ((with_reducible apply ow_assign); exact rfl)); (go_simp <;> (try simp (disch := omega) only [wrap_id, sub_left, zac]) <;> rfl)) | ((first | ((with_reducible apply ow_load1 st); exact rfl; exact inferInstance; exact rfl; (first | exact get0 | exact get1)) | ((with_reducible apply ow_loadN st); exact rfl; exact inferInstance; exact rfl; (exact get0); ((try simp only [zta, ztz, zda, zdz, zca, zcn, zan, zsz, zss]) <;> exact rfl))); exact rfl) | ((first | ((with_reducible apply ow_box st); exact rfl; (go_simp <;> (try simp (disch := omega) only [wrap_id, sub_left, zac]) <;> rfl); (go_simp <;> (try simp (disch := omega) only [wrap_id, sub_left, zac]) <;> rfl)) | ((with_reducible apply ow_newSlice st); exact rfl; (go_simp <;> (try simp (disch := omega) only [wrap_id, sub_left, zac]) <;> rfl); exact rfl)); (try clear st); intro b w' st) | ((with_reducible apply ow_eval); (go_simp <;> (try simp (disch := omega) only [wrap_id, sub_left, zac]) <;> rfl); first | (with_reducible apply up_value) | ((with_reducible apply up_enter); first | (go_at_call 37; refine (descriptorErr_any ⟨do_, dg, false, true, de, da⟩ A1 A2 n1 n2 c1 c2 B _ (H1.out.st st hB1) (H2.out.st st hB1) (Nat.le_trans hB1 st.size) hn1 hn2).mono ?_; rintro e w' ⟨rfl, hb⟩; replace st := st.call hb; clear hb; rw [hE.out]; refine ⟨_, rfl, ?_⟩) | (go_at_call 50; replace st := st.toRow (n := 4) (size := 1) rfl (by decide); (rw [L.byt_head] at st); refine (append32_any 0 _ _ _ _ _ _ st rfl (by omega)).mono ?_; rintro e w' ⟨A5, c5, rfl, st'⟩; replace st := st'; clear st'; simp only [List.set_cons_zero] at st; refine ⟨_, rfl, ?_⟩) | (go_at_call 50; refine (append32_any 0 _ _ _ _ _ _ st rfl (by omega)).mono ?_; rintro e w' ⟨A6, c6, rfl, st'⟩; replace st := st'; clear st'; simp only [List.set_cons_zero] at st; refine ⟨_, rfl, ?_⟩) | (go_at_call 51; refine (Concat_any _ n1 n2 c1 c2 B A1 A2 de da _ (Res.holds_lt (st.get (i := 0) rfl) rfl).2 (st.cell (i := 0) rfl 0) (st.cell (i := 0) rfl 1) (H1.out.st st hB1) (H2.out.st st hB1) (Nat.le_trans hB1 st.size) hn1 hn2).mono ?_; rintro e w' ⟨A0, m0, c0, rfl, st'⟩; replace st := st.join st'; clear st'; simp only [List.cons_append, List.nil_append] at st; refine ⟨_, rfl, ?_⟩)))); refine WL.next hK (by simp only [Act.put, zpt, zsz, zss]; exact rfl) ?_; clear hK K))); (try refine WL.nil ?_))
      rw [L.le32_wrap, L.le32_wrap] at st
      (try rw [L.fl3] at st)
      (try rw [L.fl1] at st)
      (try rw [L.fl2] at st)
      have hhd : (1 :: 2 :: L.b8 ↑n1 :: L.b8 ↑n2 :: (L.le32 do_ ++ L.le32 dg) : List UInt8) = L.Desc.encHead ⟨do_, dg, false, true, de, da⟩ := by
        unfold L.Desc.encHead
        rw [e1.out, e2.out]
        rfl
      rw [hhd] at st
      clear hhd
      replace st := (st.sub (rs' := [_, _]) (.cons_cons _ (.cons _ (.cons_cons _ (List.nil_sublist _))))).swap
      have hm : m0 ≤ 200 := by
        have h1 := St.len st (i := 1) rfl
        rw [List.length_append] at h1
        have := e1.out
        have := e2.out
        omega
      have em := Lib.hid (St.len st (i := 1) rfl)
      go_loopw [6, 50] (fun v i wr => ∃ (k N : Nat) (A' : Option Addr) (c' : Nat), k ≤ m0 ∧ 12 ≤ N ∧ N ≤ 12 + 8 * k ∧ i = .int .i64 k ∧ v = .slice A' N c' ∧ St w wr [byteRow (.slice A' N c') N (L.Desc.encHead ⟨do_, dg, false, true, de, da⟩ ++ L.encAces ((de ++ da).take k)), aceRow (.slice A0 m0 c0) m0 (de ++ da)]) (fun _ i _ => m0 - (intOf i).toNat)
      case atStart => exact ⟨0, 12, A6, c6, Nat.zero_le _, by omega, by omega, rfl, rfl, by rw [List.take_zero]; unfold L.encAces; rw [List.flatMap_nil, List.append_nil]; exact st⟩
      case round =>
        clear st
        obtain ⟨k, N, A', c', hk, hN0, hN1, rfl, rfl, st⟩ := hrel
        by_cases hlt : k < m0
        · have hst := Lib.hid (L.encAces_step (de ++ da) k (by rw [← em.out]; exact hlt))
          obtain ⟨b1, o1, rfl, hb1, hc⟩ := (St.aces st (i := 1) rfl).at_ (by omega)
          obtain ⟨f1, f2, f3, f4⟩ := hc k hlt
          clear hc hb1
          go_wp2_with (refine WL.out ?_; (repeat ((refine WL.op ?_ ?_; (exact rfl); intro K hK; (first | ((first | ((with_reducible apply ow_move); exact rfl) | ((with_reducible apply ow_assign); exact rfl)); (go_simp <;> (try simp (disch := omega) only [wrap_id, sub_left, zac]) <;> rfl)) | ((((with_reducible apply ow_load1 st); exact rfl; exact inferInstance; exact rfl; (first | exact get0 | exact get1))); exact rfl) | ((first | ((with_reducible apply ow_newSlice st); exact rfl; (go_simp <;> (try simp (disch := omega) only [wrap_id, sub_left, zac]) <;> rfl); exact rfl) | ((with_reducible apply ow_alloc st); exact rfl; exact inferInstance; (go_simp <;> (try simp (disch := omega) only [wrap_id, sub_left, zac]) <;> rfl))); (try clear st); intro b w' st) | ((((with_reducible apply ow_storeN' st); exact rfl; exact inferInstance; exact rfl; (exact get0); exact rfl)); exact rfl; exact rfl; (simp <;> done); ((try simp only [zta, ztz, zda, zdz, zca, zcn, zan, zsz, zss]) <;> exact rfl); (try clear st); intro w' st) | ((with_reducible apply ow_here4); exact rfl; exact inferInstance; exact rfl; assumption; assumption; assumption; assumption) | ((with_reducible apply ow_append (2) st); exact rfl; exact inferInstance; exact (rfl); exact rfl; exact rfl; exact st.rdBox (i := 0) (n := 2) (size := 1) rfl rfl; (focus ((simp [Value.oneCell']; done))); (focus (unfold maxLen; omega)); (focus omega); (try clear st); intro A' c' w' st; (try simp only [List.set_cons_zero, List.set_cons_succ, Nat.zero_add, List.nil_append] at st)) | ((with_reducible apply ow_eval); (go_simp <;> (try simp (disch := omega) only [wrap_id, sub_left, zac]) <;> rfl); first | (with_reducible apply up_value) | ((with_reducible apply up_enter); first | (go_at_call 52; (rw [L.byt_two, ← L.byt_append] at st); refine (append16_any 2 _ _ _ _ _ _ st rfl (by omega)).mono ?_; rintro e w' ⟨A8, c8, rfl, st'⟩; replace st := st'; clear st'; simp only [List.set_cons_zero, List.set_cons_succ] at st; refine ⟨_, rfl, ?_⟩) | (go_at_call 50; refine (append32_any 2 _ _ _ _ _ _ st rfl (by omega)).mono ?_; rintro e w' ⟨A9, c9, rfl, st'⟩; replace st := st'; clear st'; simp only [List.set_cons_zero, List.set_cons_succ] at st; refine ⟨_, rfl, ?_⟩)))); refine WL.next hK (by simp only [Act.put, zpt, zsz, zss]; exact rfl) ?_; clear hK K))); (try refine WL.nil ?_))
          rw [L.le16_wrap, L.le32_wrap] at st
          refine ⟨⟨k + 1, _, _, _, by omega, ?_, ?_, by go_num, rfl, ?_⟩, by simp [intOf]; omega⟩
          · omega
          · omega
          · rw [hst.out]
            unfold L.encA
            simp only [List.append_assoc] at st ⊢
            exact st.tail.tail
        · have hs' : Hid ((de ++ da).take k = de ++ da) := Lib.hid (List.take_of_length_le (by rw [← em.out]; omega))
          rw [hs'.out] at st
          go_wp2_with (refine WL.out ?_; (repeat ((refine WL.op ?_ ?_; (exact rfl); intro K hK; (first | ((((with_reducible apply ow_assign); exact rfl)); (go_simp <;> (try simp (disch := omega) only [wrap_id, sub_left, zac]) <;> rfl)) | ((with_reducible apply ow_string 0 st); exact rfl; exact rfl; exact rfl; (focus omega)) | ((with_reducible apply ow_eval); (go_simp <;> (try simp (disch := omega) only [wrap_id, sub_left, zac]) <;> rfl); ((with_reducible apply up_value)))); refine WL.next hK (by simp only [Act.put, zpt, zsz, zss]; exact rfl) ?_; clear hK K))); (try refine WL.nil ?_))
          go_ret2
          unfold encRes
          rw [if_pos hE.out]
          exact ⟨rfl, st.below⟩
    · go_enter Tryz.func29, Tryz.ntmps29
      go_wp2_with (refine WL.out ?_; (repeat ((refine WL.op ?_ ?_; (exact rfl); intro K hK; (first | ((first | ((with_reducible apply ow_move); exact rfl) | ((with_reducible apply ow_assign); exact rfl)); (go_simp <;> (try simp (disch := omega) only [wrap_id, sub_left, zac]) <;> rfl)) | ((first | ((with_reducible apply ow_load1 st); exact rfl; exact inferInstance; exact rfl; (first | exact get0 | exact get1)) | ((with_reducible apply ow_loadN st); exact rfl; exact inferInstance; exact rfl; (exact get0); ((try simp only [zta, ztz, zda, zdz, zca, zcn, zan, zsz, zss]) <;> exact rfl))); exact rfl) | ((first | ((with_reducible apply ow_box st); exact rfl; (go_simp <;> (try simp (disch := omega) only [wrap_id, sub_left, zac]) <;> rfl); (go_simp <;> (try simp (disch := omega) only [wrap_id, sub_left, zac]) <;> rfl)) | ((with_reducible apply ow_newSlice st); exact rfl; (go_simp <;> (try simp (disch := omega) only [wrap_id, sub_left, zac]) <;> rfl); exact rfl)); (try clear st); intro b w' st) | ((with_reducible apply ow_eval); (go_simp <;> (try simp (disch := omega) only [wrap_id, sub_left, zac]) <;> rfl); first | (with_reducible apply up_value) | ((with_reducible apply up_enter); first | (go_at_call 37; refine (descriptorErr_any ⟨do_, dg, false, false, de, da⟩ A1 A2 n1 n2 c1 c2 B _ (H1.out.st st hB1) (H2.out.st st hB1) (Nat.le_trans hB1 st.size) hn1 hn2).mono ?_; rintro e w' ⟨rfl, hb⟩; replace st := st.call hb; clear hb; rw [hE.out]; refine ⟨_, rfl, ?_⟩) | (go_at_call 50; replace st := st.toRow (n := 4) (size := 1) rfl (by decide); (rw [L.byt_head] at st); refine (append32_any 0 _ _ _ _ _ _ st rfl (by omega)).mono ?_; rintro e w' ⟨A5, c5, rfl, st'⟩; replace st := st'; clear st'; simp only [List.set_cons_zero] at st; refine ⟨_, rfl, ?_⟩) | (go_at_call 50; refine (append32_any 0 _ _ _ _ _ _ st rfl (by omega)).mono ?_; rintro e w' ⟨A6, c6, rfl, st'⟩; replace st := st'; clear st'; simp only [List.set_cons_zero] at st; refine ⟨_, rfl, ?_⟩) | (go_at_call 51; refine (Concat_any _ n1 n2 c1 c2 B A1 A2 de da _ (Res.holds_lt (st.get (i := 0) rfl) rfl).2 (st.cell (i := 0) rfl 0) (st.cell (i := 0) rfl 1) (H1.out.st st hB1) (H2.out.st st hB1) (Nat.le_trans hB1 st.size) hn1 hn2).mono ?_; rintro e w' ⟨A0, m0, c0, rfl, st'⟩; replace st := st.join st'; clear st'; simp only [List.cons_append, List.nil_append] at st; refine ⟨_, rfl, ?_⟩)))); refine WL.next hK (by simp only [Act.put, zpt, zsz, zss]; exact rfl) ?_; clear hK K))); (try refine WL.nil ?_))
      rw [L.le32_wrap, L.le32_wrap] at st
      (try rw [L.fl3] at st)
      (try rw [L.fl1] at st)
      (try rw [L.fl2] at st)
      have hhd : (1 :: L.b8 0 :: L.b8 ↑n1 :: L.b8 ↑n2 :: (L.le32 do_ ++ L.le32 dg) : List UInt8) = L.Desc.encHead ⟨do_, dg, false, false, de, da⟩ := by
        unfold L.Desc.encHead
        rw [e1.out, e2.out]
        rfl
      rw [hhd] at st
      clear hhd
      replace st := (st.sub (rs' := [_, _]) (.cons_cons _ (.cons _ (.cons_cons _ (List.nil_sublist _))))).swap
      have hm : m0 ≤ 200 := by
        have h1 := St.len st (i := 1) rfl
        rw [List.length_append] at h1
        have := e1.out
        have := e2.out
        omega
      have em := Lib.hid (St.len st (i := 1) rfl)
      go_loopw [6, 50] (fun v i wr => ∃ (k N : Nat) (A' : Option Addr) (c' : Nat), k ≤ m0 ∧ 12 ≤ N ∧ N ≤ 12 + 8 * k ∧ i = .int .i64 k ∧ v = .slice A' N c' ∧ St w wr [byteRow (.slice A' N c') N (L.Desc.encHead ⟨do_, dg, false, false, de, da⟩ ++ L.encAces ((de ++ da).take k)), aceRow (.slice A0 m0 c0) m0 (de ++ da)]) (fun _ i _ => m0 - (intOf i).toNat)
      case atStart => exact ⟨0, 12, A6, c6, Nat.zero_le _, by omega, by omega, rfl, rfl, by rw [List.take_zero]; unfold L.encAces; rw [List.flatMap_nil, List.append_nil]; exact st⟩
      case round =>
        clear st
        obtain ⟨k, N, A', c', hk, hN0, hN1, rfl, rfl, st⟩ := hrel
        by_cases hlt : k < m0
        · have hst := Lib.hid (L.encAces_step (de ++ da) k (by rw [← em.out]; exact hlt))
          obtain ⟨b1, o1, rfl, hb1, hc⟩ := (St.aces st (i := 1) rfl).at_ (by omega)
          obtain ⟨f1, f2, f3, f4⟩ := hc k hlt
          clear hc hb1
          go_wp2_with (refine WL.out ?_; (repeat ((refine WL.op ?_ ?_; (exact rfl); intro K hK; (first | ((first | ((with_reducible apply ow_move); exact rfl) | ((with_reducible apply ow_assign); exact rfl)); (go_simp <;> (try simp (disch := omega) only [wrap_id, sub_left, zac]) <;> rfl)) | ((((with_reducible apply ow_load1 st); exact rfl; exact inferInstance; exact rfl; (first | exact get0 | exact get1))); exact rfl) | ((first | ((with_reducible apply ow_newSlice st); exact rfl; (go_simp <;> (try simp (disch := omega) only [wrap_id, sub_left, zac]) <;> rfl); exact rfl) | ((with_reducible apply ow_alloc st); exact rfl; exact inferInstance; (go_simp <;> (try simp (disch := omega) only [wrap_id, sub_left, zac]) <;> rfl))); (try clear st); intro b w' st) | ((((with_reducible apply ow_storeN' st); exact rfl; exact inferInstance; exact rfl; (exact get0); exact rfl)); exact rfl; exact rfl; (simp <;> done); ((try simp only [zta, ztz, zda, zdz, zca, zcn, zan, zsz, zss]) <;> exact rfl); (try clear st); intro w' st) | ((with_reducible apply ow_here4); exact rfl; exact inferInstance; exact rfl; assumption; assumption; assumption; assumption) | ((with_reducible apply ow_append (2) st); exact rfl; exact inferInstance; exact (rfl); exact rfl; exact rfl; exact st.rdBox (i := 0) (n := 2) (size := 1) rfl rfl; (focus ((simp [Value.oneCell']; done))); (focus (unfold maxLen; omega)); (focus omega); (try clear st); intro A' c' w' st; (try simp only [List.set_cons_zero, List.set_cons_succ, Nat.zero_add, List.nil_append] at st)) | ((with_reducible apply ow_eval); (go_simp <;> (try simp (disch := omega) only [wrap_id, sub_left, zac]) <;> rfl); first | (with_reducible apply up_value) | ((with_reducible apply up_enter); first | (go_at_call 52; (rw [L.byt_two, ← L.byt_append] at st); refine (append16_any 2 _ _ _ _ _ _ st rfl (by omega)).mono ?_; rintro e w' ⟨A8, c8, rfl, st'⟩; replace st := st'; clear st'; simp only [List.set_cons_zero, List.set_cons_succ] at st; refine ⟨_, rfl, ?_⟩) | (go_at_call 50; refine (append32_any 2 _ _ _ _ _ _ st rfl (by omega)).mono ?_; rintro e w' ⟨A9, c9, rfl, st'⟩; replace st := st'; clear st'; simp only [List.set_cons_zero, List.set_cons_succ] at st; refine ⟨_, rfl, ?_⟩)))); refine WL.next hK (by simp only [Act.put, zpt, zsz, zss]; exact rfl) ?_; clear hK K))); (try refine WL.nil ?_))
          rw [L.le16_wrap, L.le32_wrap] at st
          refine ⟨⟨k + 1, _, _, _, by omega, ?_, ?_, by go_num, rfl, ?_⟩, by simp [intOf]; omega⟩
          · omega
          · omega
          · rw [hst.out]
            unfold L.encA
            simp only [List.append_assoc] at st ⊢
            exact st.tail.tail
        · have hs' : Hid ((de ++ da).take k = de ++ da) := Lib.hid (List.take_of_length_le (by rw [← em.out]; omega))
          rw [hs'.out] at st
          go_wp2_with (refine WL.out ?_; (repeat ((refine WL.op ?_ ?_; (exact rfl); intro K hK; (first | ((((with_reducible apply ow_assign); exact rfl)); (go_simp <;> (try simp (disch := omega) only [wrap_id, sub_left, zac]) <;> rfl)) | ((with_reducible apply ow_string 0 st); exact rfl; exact rfl; exact rfl; (focus omega)) | ((with_reducible apply ow_eval); (go_simp <;> (try simp (disch := omega) only [wrap_id, sub_left, zac]) <;> rfl); ((with_reducible apply up_value)))); refine WL.next hK (by simp only [Act.put, zpt, zsz, zss]; exact rfl) ?_; clear hK K))); (try refine WL.nil ?_))
          go_ret2
          unfold encRes
          rw [if_pos hE.out]
          exact ⟨rfl, st.below⟩
  · have hE : Hid ((L.firstErr [d.err.2] == 0) = (L.firstErr [d.err.2] == 0)) := Lib.hid rfl
    clear hE
    have hb : (d.err.2 == 0) = false := by simpa using hx
    obtain ⟨E, hE2⟩ : ∃ E, d.err.2 = E := ⟨_, rfl⟩
    rw [hE2] at hb hx
    have HE2 := Lib.hid hE2
    have hX := Lib.hid hx
    clear hE2 hx
    go_enter Tryz.func29, Tryz.ntmps29
    go_wp2_with (refine WL.out ?_; (repeat ((refine WL.op ?_ ?_; (exact rfl); intro K hK; (first | ((((with_reducible apply ow_assign); exact rfl)); (go_simp <;> (try simp (disch := omega) only [wrap_id, sub_left, zac]) <;> rfl)) | ((((with_reducible apply ow_loadN st); exact rfl; exact inferInstance; exact rfl; (exact get0); ((try simp only [zta, ztz, zda, zdz, zca, zcn, zan, zsz, zss]) <;> exact rfl))); exact rfl) | ((((with_reducible apply ow_box st); exact rfl; (go_simp <;> (try simp (disch := omega) only [wrap_id, sub_left, zac]) <;> rfl); (go_simp <;> (try simp (disch := omega) only [wrap_id, sub_left, zac]) <;> rfl))); (try clear st); intro b w' st) | ((with_reducible apply ow_eval); (go_simp <;> (try simp (disch := omega) only [wrap_id, sub_left, zac]) <;> rfl); first | (with_reducible apply up_value) | ((with_reducible apply up_enter); ((go_at_call 37; refine (descriptorErr_any d A1 A2 n1 n2 c1 c2 B _ (H1.out.st st hB1) (H2.out.st st hB1) (Nat.le_trans hB1 st.size) hn1 hn2).mono ?_; rintro e w' ⟨rfl, hb⟩; replace st := st.call hb; clear hb; rw [HE2.out]; refine ⟨_, rfl, ?_⟩))))); refine WL.next hK (by simp only [Act.put, zpt, zsz, zss]; exact rfl) ?_; clear hK K))); (try refine WL.nil ?_))
    go_ret2
    unfold encRes
    rw [if_neg (by rw [HE2.out]; exact hX.out), HE2.out]
    exact ⟨rfl, st.below⟩
end Go.Proofs.YtppjhccdgbheiaaGreatDoor
namespace Go.Proofs.YtppjhccdgbheiaaGreatDoor
open Go.RowKit Go.Hp
instance : OneT Tryz.prog 120 := ⟨fun _ => by kernel_rfl, fun _ => by kernel_rfl⟩
instance : ZeroT Tryz.prog 122 (.agg #[.pointer none, .slice none 0 0]) := ⟨fun _ => by kernel_rfl⟩
instance : AggT Tryz.prog 122 2 := ⟨fun _ => by kernel_rfl, fun _ => by kernel_rfl⟩
theorem sizeBuilder : (Tryz.prog.info? 122).map (·.size) = some 2 := by kernel_rfl
theorem liesBuilder : liesAt Tryz.prog Tryz.prog.depth 122 (2 / Tryz.prog.cellsOf 122) 0 122 1 = true := by kernel_rfl
set_option maxHeartbeats 1000000 in
theorem copyCheck_fresh {w0 : World} {rs : List Res} (b : Nat) (v : Value) (w : World) (st : St w0 w (.box b 122 [.pointer none, v] :: rs)) :
    Calls Tryz.prog 120 #[.pointer (some ⟨b, 0, none⟩)] w fun e w' => e = .returned (.tuple #[]) ∧ St w0 w' (.box b 122 [.pointer (some ⟨b, 0, none⟩), v] :: rs) := by
  obtain ⟨j, hj, hjs⟩ := Option.map_eq_some_iff.1 sizeBuilder
  have hsh : w.shape? b = some (122, 2) := by simp [World.shape?, st.blk (i := 0) rfl]
  have k1 : (convert 120 166 (.pointer (some ⟨b, 0, none⟩))).run Tryz.prog w = .ok (.pointer (some ⟨b, 0, none⟩)) w :=
    Lib.run_to_unsafe (P := Tryz.prog) (w := w) ⟨b, 0, none⟩ (by kernel_rfl) (by kernel_rfl) hj (by rw [hjs]; decide) hsh (Nat.zero_lt_succ 1)
  have k2 : (callFunc 139 #[.pointer (some ⟨b, 0, none⟩)]).run Tryz.prog w = .ok (.value (.pointer (some ⟨b, 0, none⟩))) w := by
    rw [run_callFunc_extern Tryz.func139 (by kernel_rfl) (by kernel_rfl) (by kernel_rfl) (e := Extern.AbiNoEscape.same) (by kernel_rfl), Lib.run_noEscape]
    rfl
  have k3 : (convert 166 120 (.pointer (some ⟨b, 0, none⟩))).run Tryz.prog w = .ok (.pointer (some ⟨b, 0, none⟩)) w :=
    Lib.run_from_unsafe (P := Tryz.prog) (w := w) ⟨b, 0, none⟩ (by kernel_rfl) (by kernel_rfl) hj hsh liesBuilder
  clear hj hjs hsh
  go_enter Tryz.func120, Tryz.ntmps120
  go_wp2_with (refine WL.out ?_; (repeat ((refine WL.op ?_ ?_; (exact rfl); intro K hK; (first | ((((with_reducible apply ow_load1 st); exact rfl; exact inferInstance; exact rfl; (exact get0))); exact rfl) | ((((with_reducible apply ow_store1' st); exact rfl; exact inferInstance; exact rfl; (exact get0); (go_simp <;> (try simp (disch := omega) only [wrap_id, sub_left, zac]) <;> rfl))); exact rfl; exact rfl; (simp <;> done); ((try simp only [zta, ztz, zda, zdz, zca, zcn, zan, zsz, zss]) <;> exact rfl); (try clear st); intro w' st) | ((with_reducible apply ow_eval); (go_simp <;> (try simp (disch := omega) only [wrap_id, sub_left, zac]) <;> rfl); ((with_reducible apply up_value)))); refine WL.next hK (by simp only [Act.put, zpt, zsz, zss]; exact rfl) ?_; clear hK K))); (try refine WL.nil ?_))
  go_end0
  exact ⟨rfl, st⟩
set_option maxHeartbeats 1000000 in
theorem copyCheck_used {w0 : World} {rs : List Res} (b : Nat) (v : Value) (w : World) (st : St w0 w (.box b 122 [.pointer (some ⟨b, 0, none⟩), v] :: rs)) :
    Calls Tryz.prog 120 #[.pointer (some ⟨b, 0, none⟩)] w fun e w' => e = .returned (.tuple #[]) ∧ St w0 w' (.box b 122 [.pointer (some ⟨b, 0, none⟩), v] :: rs) := by
  obtain ⟨j, hj, hjs⟩ := Option.map_eq_some_iff.1 sizeBuilder
  have k1 : (binOp .neq 120 (.pointer (some ⟨b, 0, none⟩)) (.pointer (some ⟨b, 0, none⟩))).run Tryz.prog w = .ok (.bool false) w := Lib.run_neq_ptr_same (P := Tryz.prog) (w := w) ⟨b, 0, none⟩ (by kernel_rfl) hj
  clear hj hjs
  go_enter Tryz.func120, Tryz.ntmps120
  go_wp2_with (refine WL.out ?_; (repeat ((refine WL.op ?_ ?_; (exact rfl); intro K hK; (first | ((((with_reducible apply ow_move); exact rfl)); (go_simp <;> (try simp (disch := omega) only [wrap_id, sub_left, zac]) <;> rfl)) | ((((with_reducible apply ow_load1 st); exact rfl; exact inferInstance; exact rfl; (exact get0))); exact rfl) | ((with_reducible apply ow_eval); (go_simp <;> (try simp (disch := omega) only [wrap_id, sub_left, zac]) <;> rfl); ((with_reducible apply up_value)))); refine WL.next hK (by simp only [Act.put, zpt, zsz, zss]; exact rfl) ?_; clear hK K))); (try refine WL.nil ?_))
  go_end0
  exact ⟨rfl, st⟩
def Own0 (b : Nat) (p : Value) : Prop := p = .pointer none ∨ p = .pointer (some ⟨b, 0, none⟩)
theorem copyCheck_any {w0 : World} {rs : List Res} (b : Nat) (p v : Value) (hp : Own0 b p) (w : World) (st : St w0 w (.box b 122 [p, v] :: rs)) :
    Calls Tryz.prog 120 #[.pointer (some ⟨b, 0, none⟩)] w fun e w' => e = .returned (.tuple #[]) ∧ St w0 w' (.box b 122 [.pointer (some ⟨b, 0, none⟩), v] :: rs) := by
  rcases hp with rfl | rfl
  · exact copyCheck_fresh b v w st
  · exact copyCheck_used b v w st
set_option maxHeartbeats 1000000 in
theorem WriteByte_any {w0 : World} {rs : List Res} (b : Nat) (p : Value) (A : Option Addr) (n c : Nat) (l : List UInt8) (x : UInt8) (hp : Own0 b p) (w : World) (st : St w0 w (.box b 122 [p, .slice A n c] :: byteRow (.slice A n c) n l :: rs)) (hn : n ≤ 100000) :
    Calls Tryz.prog 94 #[.pointer (some ⟨b, 0, none⟩), .int .u8 ((x.toNat : Nat) : Int)] w fun e w' => e = .returned .nilIface ∧ ∃ A' c', St w0 w' (.box b 122 [.pointer (some ⟨b, 0, none⟩), .slice A' (n + 1) c'] :: byteRow (.slice A' (n + 1) c') (n + 1) (l ++ [x]) :: rs) := by
  have HP := Lib.hid hp
  clear hp
  go_enter Tryz.func94, Tryz.ntmps94
  go_wp2_with (refine WL.out ?_; (repeat ((refine WL.op ?_ ?_; (exact rfl); intro K hK; (first | ((((with_reducible apply ow_move); exact rfl)); (go_simp <;> (try simp (disch := omega) only [wrap_id, sub_left, zac]) <;> rfl)) | ((((with_reducible apply ow_load1 st); exact rfl; exact inferInstance; exact rfl; (exact get0))); exact rfl) | ((((with_reducible apply ow_newSlice st); exact rfl; (go_simp <;> (try simp (disch := omega) only [wrap_id, sub_left, zac]) <;> rfl); exact rfl)); (try clear st); intro b w' st) | ((((with_reducible apply ow_store1' st); exact rfl; exact inferInstance; exact rfl; (exact get1); (go_simp <;> (try simp (disch := omega) only [wrap_id, sub_left, zac]) <;> rfl))); exact rfl; exact rfl; (simp <;> done); ((try simp only [zta, ztz, zda, zdz, zca, zcn, zan, zsz, zss]) <;> exact rfl); (try clear st); intro w' st) | ((with_reducible apply ow_append (2) st); exact rfl; exact inferInstance; exact (rfl); exact rfl; exact rfl; exact st.rdBox (i := 0) (n := 1) (size := 1) rfl rfl; (focus ((simp [Value.oneCell']; done))); (focus (unfold maxLen; omega)); (focus omega); (try clear st); intro A' c' w' st; (try simp only [List.set_cons_zero, List.set_cons_succ, Nat.zero_add, List.nil_append] at st)) | ((with_reducible apply ow_eval); (go_simp <;> (try simp (disch := omega) only [wrap_id, sub_left, zac]) <;> rfl); first | (with_reducible apply up_value) | ((with_reducible apply up_enter); ((go_at_call 120; refine (copyCheck_any b p _ HP.out _ st).mono ?_; rintro e w' ⟨rfl, st'⟩; replace st := st'; clear st'; refine ⟨_, rfl, ?_⟩))))); refine WL.next hK (by simp only [Act.put, zpt, zsz, zss]; exact rfl) ?_; clear hK K))); (try refine WL.nil ?_))
  trace_state
  go_ret
  exact ⟨rfl, _, _, by unfold byteRow; rw [L.byt_append]; exact st.tail⟩
theorem St.builder {w0 w : World} {rs : List Res} {b n c : Nat} {p : Value} {A : Option Addr} {l : List UInt8} (hp : Own0 b p) (st : St w0 w (.box b 122 [p, .slice A n c] :: byteRow (.slice A n c) n l :: rs)) : Lib.IsBuilder 122 5 w0.heap.size b (Lib.byteCells l) w := by
  have h1 := st.get (i := 0) rfl
  have h2 := st.get (i := 1) rfl
  have hl := byteRow_len st (i := 1) rfl
  have hne : (Value.slice A n c).ownBlock ≠ some b := by
    intro h
    exact (List.pairwise_cons.1 st.apart).1 _ (List.mem_cons_self ..) b rfl h
  have key : ∀ q, q = p → Lib.BuilderAt 122 5 w0.heap.size b q (Lib.byteCells l) w := fun q hq => by
    subst hq
    refine ⟨h1.1, .slice A n c, h1.2, ?_, hne⟩
    rw [Lib.byteCells_length, ← hl]
    exact h2
  rcases hp with rfl | rfl
  · exact .inl (key _ rfl)
  · exact .inr (key _ rfl)
end Go.Proofs.YtppjhccdgbheiaaGreatDoor
namespace Go.Proofs
open Go.Shelf
def Tryz.lays169_ren : Go.Shelf.Ren := ⟨fun | 169 => 95 | n => n, fun | 70 => 120 | 9 => 9 | 0 => 0 | 72 => 122 | 37 => 81 | 127 => 154 | 3 => 3 | 5 => 5 | n => n, fun | n => n⟩
theorem Tryz.lays169 : Go.Proofs.Lays.n169 Tryz.prog Tryz.lays169_ren := {
  mixed := by kernel_rfl
  f169 := Tryz.func95.trans (congrArg some (by kernel_rfl))
  t0 := Tryz.underlying0
  a0 := Tryz.isAgg0
  z0 := Tryz.sizeOf0
  v0 := Tryz.zeroValue0
  t3 := Tryz.underlying3
  a3 := Tryz.isAgg3
  z3 := Tryz.sizeOf3
  v3 := Tryz.zeroValue3
  t9 := Tryz.underlying9
  a9 := Tryz.isAgg9
  z9 := Tryz.sizeOf9
  v9 := Tryz.zeroValue9
  t37 := Tryz.underlying81
  a37 := Tryz.isAgg81
  z37 := Tryz.sizeOf81
  v37 := Tryz.zeroValue81
  t70 := Tryz.underlying120
  a70 := Tryz.isAgg120
  z70 := Tryz.sizeOf120
  v70 := Tryz.zeroValue120
  t72 := Tryz.underlying122
  a72 := Tryz.isAgg122
  z72 := Tryz.sizeOf122
  v72 := Tryz.zeroValue122
  t127 := Tryz.underlying154
  a127 := Tryz.isAgg154
  z127 := Tryz.sizeOf154
  v127 := Tryz.zeroValue154 }
theorem Tryz.Builder_Extra_169 : Builder.Extra Tryz.prog Tryz.lays169_ren := {
  sizeBuilder := by kernel_rfl
  liesBuilder := by kernel_rfl
  t5 := Tryz.underlying5
  a5 := Tryz.isAgg5
  z5 := Tryz.sizeOf5
  v5 := Tryz.zeroValue5
  infoByte := by kernel_rfl
  cellsByte := by kernel_rfl
  sizeByte := by kernel_rfl
  neB5 := by decide }
open Go.RowKit in
theorem Tryz.Builder_String_any (B b : Nat) (l : List UInt8) (w : World) (h : Lib.IsBuilder 122 5 B b (Lib.byteCells l) w) (hBw : B ≤ w.heap.size) :
    Calls Tryz.prog 95 #[.pointer (some ⟨b, 0, none⟩)] w fun e w' => e = .returned (.string ⟨l.toArray⟩) ∧ Below B w w' := Any.Builder_String_any Tryz.lays169 Tryz.Builder_Extra_169 B b l w h hBw
def Tryz.lays156_ren : Go.Shelf.Ren := ⟨fun | 156 => 65 | 165 => 96 | 166 => 97 | 169 => 95 | 240 => 120 | 241 => 121 | 276 => 139 | 277 => 140 | n => n, fun | 31 => 94 | 9 => 9 | 3 => 3 | 4 => 4 | 0 => 0 | 20 => 20 | 72 => 122 | 76 => 128 | 70 => 120 | 37 => 81 | 75 => 124 | 127 => 154 | 164 => 166 | 5 => 5 | 80 => 126 | n => n, fun | n => n⟩
theorem Tryz.lays156 : Go.Proofs.Lays.n156 Tryz.prog Tryz.lays156_ren := {
  mixed := by kernel_rfl
  f156 := Tryz.func65.trans (congrArg some (by kernel_rfl))
  f165 := Tryz.func96.trans (congrArg some (by kernel_rfl))
  f166 := Tryz.func97.trans (congrArg some (by kernel_rfl))
  f169 := Tryz.func95.trans (congrArg some (by kernel_rfl))
  f240 := Tryz.func120.trans (congrArg some (by kernel_rfl))
  f241 := Tryz.func121.trans (congrArg some (by kernel_rfl))
  f276 := Tryz.func139.trans (congrArg some (by kernel_rfl))
  f277 := Tryz.func140.trans (congrArg some (by kernel_rfl))
  t0 := Tryz.underlying0
  a0 := Tryz.isAgg0
  z0 := Tryz.sizeOf0
  v0 := Tryz.zeroValue0
  t3 := Tryz.underlying3
  a3 := Tryz.isAgg3
  z3 := Tryz.sizeOf3
  v3 := Tryz.zeroValue3
  t4 := Tryz.underlying4
  a4 := Tryz.isAgg4
  z4 := Tryz.sizeOf4
  v4 := Tryz.zeroValue4
  t9 := Tryz.underlying9
  a9 := Tryz.isAgg9
  z9 := Tryz.sizeOf9
  v9 := Tryz.zeroValue9
  t20 := Tryz.underlying20
  a20 := Tryz.isAgg20
  z20 := Tryz.sizeOf20
  v20 := Tryz.zeroValue20
  t31 := Tryz.underlying94
  a31 := Tryz.isAgg94
  z31 := Tryz.sizeOf94
  v31 := Tryz.zeroValue94
  t37 := Tryz.underlying81
  a37 := Tryz.isAgg81
  z37 := Tryz.sizeOf81
  v37 := Tryz.zeroValue81
  t70 := Tryz.underlying120
  a70 := Tryz.isAgg120
  z70 := Tryz.sizeOf120
  v70 := Tryz.zeroValue120
  t72 := Tryz.underlying122
  a72 := Tryz.isAgg122
  z72 := Tryz.sizeOf122
  v72 := Tryz.zeroValue122
  t75 := Tryz.underlying124
  a75 := Tryz.isAgg124
  z75 := Tryz.sizeOf124
  v75 := Tryz.zeroValue124
  t76 := Tryz.underlying128
  a76 := Tryz.isAgg128
  z76 := Tryz.sizeOf128
  v76 := Tryz.zeroValue128
  t127 := Tryz.underlying154
  a127 := Tryz.isAgg154
  z127 := Tryz.sizeOf154
  v127 := Tryz.zeroValue154
  t164 := Tryz.underlying166
  a164 := Tryz.isAgg166
  z164 := Tryz.sizeOf166
  v164 := Tryz.zeroValue166 }
theorem Tryz.Builder_Extra_156 : Builder.Extra Tryz.prog Tryz.lays156_ren := {
  sizeBuilder := by kernel_rfl
  liesBuilder := by kernel_rfl
  t5 := Tryz.underlying5
  a5 := Tryz.isAgg5
  z5 := Tryz.sizeOf5
  v5 := Tryz.zeroValue5
  infoByte := by kernel_rfl
  cellsByte := by kernel_rfl
  sizeByte := by kernel_rfl
  neB5 := by decide }
open Go.RowKit in
theorem Tryz.strings_Join_none (a : Option Addr) (c : Nat) (sep : ByteArray) (w : World) :
    Calls Tryz.prog 65 #[.slice a 0 c, .string sep] w fun e w' => e = .returned (.string ⟨#[]⟩) ∧ w' = w := Any.strings_Join_none Tryz.lays156 Tryz.Builder_Extra_156 a c sep w
open Go.RowKit in
theorem Tryz.strings_Join (bk o c : Nat) (xs : List ByteArray) (sep : ByteArray) (w : World) (hcells : ∀ (j : Nat) x, xs[j]? = some x → w.cell? ⟨bk, o + j, none⟩ = some (.string x)) (hbk : bk < w.heap.size) (hN : xs.length ≤ 140737488355328) (hcap : xs.length ≤ c) (hlen : (Lib.join (xs.map (·.data.toList)) sep.data.toList).length ≤ 140737488355328) :
    Calls Tryz.prog 65 #[.slice (some ⟨bk, o, none⟩) xs.length c, .string sep] w fun e w' => e = .returned (.string ⟨(Lib.join (xs.map (·.data.toList)) sep.data.toList).toArray⟩) ∧ Below w.heap.size w w' := Any.strings_Join Tryz.lays156 Tryz.Builder_Extra_156 bk o c xs sep w hcells hbk hN hcap hlen
def Tryz.lays171_ren : Go.Shelf.Ren := ⟨fun | 171 => 38 | 243 => 63 | 246 => 93 | 283 => 116 | 284 => 117 | 285 => 118 | 286 => 119 | 129 => 135 | 317 => 134 | 318 => 136 | 319 => 137 | 320 => 138 | 337 => 151 | 338 => 152 | n => n, fun | 3 => 3 | 9 => 9 | 2 => 2 | 4 => 4 | 171 => 148 | 0 => 0 | 53 => 149 | 37 => 81 | 5 => 5 | 173 => 152 | 212 => 163 | 51 => 83 | 20 => 20 | 213 => 164 | 46 => 113 | 232 => 189 | 233 => 190 | n => n, fun | 17 => 0 | 18 => 4 | 19 => 5 | n => n⟩
theorem Tryz.lays171 : Go.Proofs.Lays.n171 Tryz.prog Tryz.lays171_ren := {
  mixed := by kernel_rfl
  f129 := Tryz.func135.trans (congrArg some (by kernel_rfl))
  f171 := Tryz.func38.trans (congrArg some (by kernel_rfl))
  f243 := Tryz.func63.trans (congrArg some (by kernel_rfl))
  f246 := Tryz.func93.trans (congrArg some (by kernel_rfl))
  f283 := Tryz.func116.trans (congrArg some (by kernel_rfl))
  f284 := Tryz.func117.trans (congrArg some (by kernel_rfl))
  f285 := Tryz.func118.trans (congrArg some (by kernel_rfl))
  f286 := Tryz.func119.trans (congrArg some (by kernel_rfl))
  f317 := Tryz.func134.trans (congrArg some (by kernel_rfl))
  f318 := Tryz.func136.trans (congrArg some (by kernel_rfl))
  f319 := Tryz.func137.trans (congrArg some (by kernel_rfl))
  f320 := Tryz.func138.trans (congrArg some (by kernel_rfl))
  f337 := Tryz.func151.trans (congrArg some (by kernel_rfl))
  f338 := Tryz.func152.trans (congrArg some (by kernel_rfl))
  t0 := Tryz.underlying0
  a0 := Tryz.isAgg0
  z0 := Tryz.sizeOf0
  v0 := Tryz.zeroValue0
  t2 := Tryz.underlying2
  a2 := Tryz.isAgg2
  z2 := Tryz.sizeOf2
  v2 := Tryz.zeroValue2
  t3 := Tryz.underlying3
  a3 := Tryz.isAgg3
  z3 := Tryz.sizeOf3
  v3 := Tryz.zeroValue3
  t4 := Tryz.underlying4
  a4 := Tryz.isAgg4
  z4 := Tryz.sizeOf4
  v4 := Tryz.zeroValue4
  t5 := Tryz.underlying5
  a5 := Tryz.isAgg5
  z5 := Tryz.sizeOf5
  v5 := Tryz.zeroValue5
  t9 := Tryz.underlying9
  a9 := Tryz.isAgg9
  z9 := Tryz.sizeOf9
  v9 := Tryz.zeroValue9
  t20 := Tryz.underlying20
  a20 := Tryz.isAgg20
  z20 := Tryz.sizeOf20
  v20 := Tryz.zeroValue20
  t37 := Tryz.underlying81
  a37 := Tryz.isAgg81
  z37 := Tryz.sizeOf81
  v37 := Tryz.zeroValue81
  t46 := Tryz.underlying113
  a46 := Tryz.isAgg113
  z46 := Tryz.sizeOf113
  v46 := Tryz.zeroValue113
  t51 := Tryz.underlying83
  a51 := Tryz.isAgg83
  z51 := Tryz.sizeOf83
  v51 := Tryz.zeroValue83
  t53 := Tryz.underlying149
  a53 := Tryz.isAgg149
  z53 := Tryz.sizeOf149
  v53 := Tryz.zeroValue149
  t171 := Tryz.underlying148
  a171 := Tryz.isAgg148
  z171 := Tryz.sizeOf148
  v171 := Tryz.zeroValue148
  t173 := Tryz.underlying152
  a173 := Tryz.isAgg152
  z173 := Tryz.sizeOf152
  v173 := Tryz.zeroValue152
  t212 := Tryz.underlying163
  a212 := Tryz.isAgg163
  z212 := Tryz.sizeOf163
  v212 := Tryz.zeroValue163
  t213 := Tryz.underlying164
  a213 := Tryz.isAgg164
  z213 := Tryz.sizeOf164
  t232 := Tryz.underlying189
  a232 := Tryz.isAgg189
  z232 := Tryz.sizeOf189
  v232 := Tryz.zeroValue189
  t233 := Tryz.underlying190
  a233 := Tryz.isAgg190
  z233 := Tryz.sizeOf190
  v233 := Tryz.zeroValue190
  g17 := by kernel_rfl
  g18 := by kernel_rfl
  g19 := by kernel_rfl }
open Go.RowKit Go.Sort Go.Lib in
theorem Tryz.strconv_Itoa_small (i : Nat) (hi : i < 100) (w : World) :
    Calls Tryz.prog 38 #[.int .i64 i] w fun e w' => e = .returned (.string ⟨(Lib.decDigits i).toArray⟩) ∧ w' = w := Any.strconv_Itoa_small Tryz.lays171 i hi w
end Go.Proofs
namespace Go.Proofs.YtppjhccdgbheiaaGreatDoor
open Go.RowKit Go.Hp
namespace L
def bitAt (n : Int) (k : Nat) : Bool := bits BinOp.and IntKind.i64 (n / 2 ^ k) 1 == 1
def lets (n : Int) : Nat → List UInt8 → List UInt8
  | _, [] => []
  | i, c :: r => if bitAt n i then c :: lets n (i + 1) r else lets n (i + 1) r
theorem lets_snoc (n : Int) (c : UInt8) : ∀ (l : List UInt8) (i : Nat), lets n i (l ++ [c]) = lets n i l ++ if bitAt n (i + l.length) then [c] else []
  | [], i => by simp [lets]
  | a :: l, i => by
    have ih := lets_snoc n c l (i + 1)
    rw [List.cons_append]
    unfold lets
    rw [ih, List.length_cons, show i + 1 + l.length = i + (l.length + 1) by omega]
    split <;> simp
theorem lets_len (n : Int) : ∀ (l : List UInt8) (i : Nat), (lets n i l).length ≤ l.length
  | [], _ => by simp [lets]
  | a :: l, i => by
    have ih := lets_len n l (i + 1)
    unfold lets
    split <;> simp <;> omega
theorem take_byte (s : ByteArray) (k : Nat) (h : k < s.size) : s.data.toList.take (k + 1) = s.data.toList.take k ++ [s[k]] := by
  rw [List.take_succ_eq_append_getElem (by simpa using h)]; rfl
theorem lets_step (n : Int) (s : ByteArray) (k : Nat) (h : k < s.size) : lets n 0 (s.data.toList.take (k + 1)) = lets n 0 (s.data.toList.take k) ++ if bitAt n k then [s[k]] else [] := by
  rw [take_byte s k h, lets_snoc, Nat.zero_add, List.length_take]
  congr 2
  have : min k s.data.toList.length = k := by
    have : s.data.toList.length = s.size := Array.length_toList
    omega
  rw [this]
def letters (n : Int) (s : ByteArray) : List UInt8 := lets n 0 s.data.toList
end L
set_option maxHeartbeats 1000000 in
theorem letters_any (n : Int) (s : ByteArray) (w : World) (h0 : 0 ≤ n) (h1 : n ≤ 1000) (hs : s.size ≤ 20) :
    Calls Tryz.prog 64 #[.int .i64 n, .string s] w fun e w' => e = .returned (.string ⟨(L.letters n s).toArray⟩) ∧ Below w.heap.size w w' := by
  have st := St.start w
  go_enter Tryz.func64, Tryz.ntmps64
  go_wp2_with (refine WL.out ?_; (repeat ((refine WL.op ?_ ?_; (exact rfl); intro K hK; (first | ((((with_reducible apply ow_move); exact rfl)); (go_simp <;> (try simp (disch := omega) only [wrap_id, sub_left, zac]) <;> rfl)) | ((((with_reducible apply ow_alloc st); exact rfl; exact inferInstance; (go_simp <;> (try simp (disch := omega) only [wrap_id, sub_left, zac]) <;> rfl))); (try clear st); intro b w' st) | ((with_reducible apply ow_eval); (go_simp <;> (try simp (disch := omega) only [wrap_id, sub_left, zac]) <;> rfl); ((with_reducible apply up_value)))); refine WL.next hK (by simp only [Act.put, zpt, zsz, zss]; exact rfl) ?_; clear hK K))); (try refine WL.nil ?_))
  rename Nat => b
  replace st := (st.nilRow 5 1).swap
  go_loopw [9] (fun i wr => ∃ (k n' c' : Nat) (p : Value) (A' : Option Addr), k ≤ s.size ∧ n' ≤ k ∧ i = .int .i64 k ∧ Hid (Own0 b p) ∧ St w wr [.box b 122 [p, .slice A' n' c'], byteRow (.slice A' n' c') n' (L.lets n 0 (s.data.toList.take k))]) (fun i _ => s.size - (intOf i).toNat)
  case atStart => exact ⟨0, 0, 0, .pointer none, none, Nat.zero_le _, Nat.le_refl _, rfl, .inl rfl, by rw [List.take_zero]; exact st⟩
  case round =>
    clear st
    obtain ⟨k, n', c', p, A', hk, hn', rfl, hp, st⟩ := hrel
    by_cases hlt : k < s.size
    · have hst := Lib.hid (L.lets_step n s k hlt)
      by_cases hx : (bits BinOp.and IntKind.i64 (n / 2 ^ k) 1 == 1) = true
      · have hs' : Hid (L.lets n 0 (s.data.toList.take (k + 1)) = L.lets n 0 (s.data.toList.take k) ++ [s[k]]) := Lib.hid (by rw [hst.out, if_pos (show L.bitAt n k = true from hx)])
        go_wp2_with (refine WL.out ?_; (repeat ((refine WL.op ?_ ?_; (exact rfl); intro K hK; (first | ((((with_reducible apply ow_move); exact rfl)); (go_simp <;> (try simp (disch := omega) only [wrap_id, sub_left, zac]) <;> rfl)) | ((with_reducible apply ow_eval); (go_simp <;> (try simp (disch := omega) only [wrap_id, sub_left, zac]) <;> rfl); first | (with_reducible apply up_value) | ((with_reducible apply up_enter); ((go_at_call 94; refine (WriteByte_any b p A' n' c' _ _ hp.out _ st (by omega)).mono ?_; rintro e w' ⟨rfl, A5, c5, st'⟩; replace st := st'; clear st'; refine ⟨_, rfl, ?_⟩))))); refine WL.next hK (by simp only [Act.put, zpt, zsz, zss]; exact rfl) ?_; clear hK K))); (try refine WL.nil ?_))
        exact ⟨⟨k + 1, n' + 1, c5, _, A5, by omega, by omega, by go_num, .inr rfl, by rw [hs'.out]; exact st⟩, by simp [intOf]; omega⟩
      · simp only [Bool.not_eq_true] at hx
        have hs' : Hid (L.lets n 0 (s.data.toList.take (k + 1)) = L.lets n 0 (s.data.toList.take k)) := Lib.hid (by rw [hst.out, if_neg (by rw [show L.bitAt n k = false from hx]; decide), List.append_nil])
        go_wp2_with (refine WL.out ?_; (repeat ((refine WL.op ?_ ?_; (exact rfl); intro K hK; (first | ((((with_reducible apply ow_move); exact rfl)); (go_simp <;> (try simp (disch := omega) only [wrap_id, sub_left, zac]) <;> rfl)) | ((with_reducible apply ow_eval); (go_simp <;> (try simp (disch := omega) only [wrap_id, sub_left, zac]) <;> rfl); ((with_reducible apply up_value)))); refine WL.next hK (by simp only [Act.put, zpt, zsz, zss]; exact rfl) ?_; clear hK K))); (try refine WL.nil ?_))
        exact ⟨⟨k + 1, n', c', p, A', by omega, by omega, by go_num, hp, by rw [hs'.out]; exact st⟩, by simp [intOf]; omega⟩
    · have hs' : Hid (L.lets n 0 (s.data.toList.take k) = L.letters n s) := Lib.hid (by
        unfold L.letters
        rw [List.take_of_length_le]
        have : s.data.toList.length = s.size := Array.length_toList
        omega)
      rw [hs'.out] at st
      have hbl := Lib.hid (St.builder hp.out st)
      have hsz := Lib.hid st.size
      go_wp2_with (refine WL.out ?_; (repeat ((refine WL.op ?_ ?_; (exact rfl); intro K hK; (first | ((((with_reducible apply ow_assign); exact rfl)); (go_simp <;> (try simp (disch := omega) only [wrap_id, sub_left, zac]) <;> rfl)) | ((with_reducible apply ow_eval); (go_simp <;> (try simp (disch := omega) only [wrap_id, sub_left, zac]) <;> rfl); first | (with_reducible apply up_value) | ((with_reducible apply up_enter); ((go_at_call 95; refine (Tryz.Builder_String_any _ b (L.letters n s) _ hbl.out hsz.out).mono ?_; rintro e w' ⟨rfl, hb⟩; refine ⟨_, rfl, ?_⟩))))); refine WL.next hK (by simp only [Act.put, zpt, zsz, zss]; exact rfl) ?_; clear hK K))); (try refine WL.nil ?_))
      go_ret
      exact ⟨rfl, st.below.trans hb⟩
end Go.Proofs.YtppjhccdgbheiaaGreatDoor
namespace Go.Proofs.YtppjhccdgbheiaaGreatDoor
open Go.RowKit Go.Hp
namespace L
def FL : ByteArray := ⟨#[102, 100, 110, 111, 105]⟩
def RL : ByteArray := ⟨#[114, 119, 97, 108, 99, 120, 115, 116, 107]⟩
def kindL (k : Int) : List UInt8 := if k = 0 then [65] else if k = 1 then [68] else [85]
def fmtAce (a : Ace) : List UInt8 := [40] ++ Lib.join [kindL a.k, letters a.f FL, letters a.m RL, Lib.itoa a.w] [59] ++ [41]
def fmtAces (l : List Ace) : List UInt8 := l.flatMap fmtAce
theorem fmtAces_step (l : List Ace) (k : Nat) (h : k < l.length) : fmtAces (l.take (k + 1)) = fmtAces (l.take k) ++ fmtAce (ax l k) := by
  rw [take_succ_ax l k h]; unfold fmtAces; rw [List.flatMap_append]; simp
theorem str_append (x y : List UInt8) : (⟨x.toArray⟩ : ByteArray) ++ ⟨y.toArray⟩ = ⟨(x ++ y).toArray⟩ := by
  apply ByteArray.ext
  simp
theorem digits_len : ∀ u : Nat, (Lib.decDigits u).length ≤ u + 1 := by
  intro u
  induction u using Nat.strongRecOn with
  | _ u ih =>
    rw [Lib.decDigits]
    split
    · simp
    · have := ih (u / 10) (by omega)
      simp; omega
theorem itoa_len {n : Int} (h0 : 0 ≤ n) (h1 : n ≤ 999) : (Lib.itoa n).length ≤ 1000 := by
  unfold Lib.itoa
  rw [if_neg (by omega)]
  have := digits_len n.toNat
  omega
theorem letters_len (n : Int) (s : ByteArray) : (letters n s).length ≤ s.size := by
  unfold letters
  have h1 := lets_len n s.data.toList 0
  have h2 : s.data.toList.length = s.size := Array.length_toList
  omega
theorem kindL_len (k : Int) : (kindL k).length = 1 := by unfold kindL; split <;> (try rfl) <;> split <;> rfl
theorem fmt_len {a : Ace} (h0 : 0 ≤ a.w) (h1 : a.w ≤ 999) : (Lib.join [kindL a.k, letters a.f FL, letters a.m RL, Lib.itoa a.w] [59]).length ≤ 1100 := by
  have a1 := itoa_len h0 h1
  have a2 := letters_len a.f FL
  have a3 := letters_len a.m RL
  have a4 := kindL_len a.k
  have e2 : FL.size = 5 := rfl
  have e3 : RL.size = 9 := rfl
  simp [Lib.join, List.intercalate]
  omega
end L
theorem L.fmtAce_len {a : L.Ace} (h0 : 0 ≤ a.w) (h1 : a.w ≤ 999) : (L.fmtAce a).length ≤ 1102 := by
  have := L.fmt_len h0 h1
  unfold L.fmtAce
  simp only [List.length_append, List.length_cons, List.length_nil]
  omega
theorem L.fmtAces_len : ∀ {l : List L.Ace}, L.Good l → (L.fmtAces l).length ≤ 1102 * l.length
  | [], _ => by simp [L.fmtAces]
  | a :: l, h => by
    have ih := L.fmtAces_len (l := l) fun x hx => h x (List.mem_cons_of_mem _ hx)
    have ha := h a (List.mem_cons_self ..)
    have := L.fmtAce_len (a := a) (by have := ha.w0; omega) ha.w1
    have e : L.fmtAces (a :: l) = L.fmtAce a ++ L.fmtAces l := by unfold L.fmtAces; rw [List.flatMap_cons]
    rw [e, List.length_append, List.length_cons]
    omega
section
variable {P : Program} {o : Oper} {a : Act} {w : World} {Q : Exit → Act → World → Prop} {K : Act → World → Prop}
theorem ow_cat {t ty : TypeId} {x y : Operand} {l m : List UInt8} (ho : o.op = .binOp .add t x y ty) (hx : a.eval x = .string ⟨l.toArray⟩) (hy : a.eval y = .string ⟨m.toArray⟩) (hlen : (l ++ m).length ≤ 1000000000)
    (h : K (a.put o.dst (.string ⟨(l ++ m).toArray⟩)) w) : OW P o a w K Q := by
  refine OW.mk (wp_value (w' := w) ?_ h)
  have h1 : ((⟨l.toArray⟩ : ByteArray).size + (⟨m.toArray⟩ : ByteArray).size : Nat) = (l ++ m).length := by
    show l.toArray.size + m.toArray.size = _
    simp
  have h2 : ¬ ((((⟨l.toArray⟩ : ByteArray).size + (⟨m.toArray⟩ : ByteArray).size : Nat) : Int) > IntKind.i64.max) := by
    rw [h1]
    have : IntKind.i64.max = 9223372036854775807 := by decide
    rw [this]
    omega
  have h3 : (Op.stringOp .add (⟨l.toArray⟩ : ByteArray) ⟨m.toArray⟩).run P w = .ok (.string ⟨(l ++ m).toArray⟩) w := by
    unfold Op.stringOp
    simp only [if_neg h2, L.str_append]
    rfl
  simp [execOp, ho, hx, hy, binOp_string_add, h3, eqGuard]
end
theorem join4_st {w0 w : World} {rs : List Res} {b t : Nat} {x0 : ByteArray} {kl y1 y2 y3 : List UInt8} (st : St w0 w (.box b t [.string x0, .string ⟨y1.toArray⟩, .string ⟨y2.toArray⟩, .string ⟨y3.toArray⟩] :: rs)) (hx : x0 = ⟨kl.toArray⟩) (hlen : (Lib.join [kl, y1, y2, y3] [59]).length ≤ 1100) :
    Calls Tryz.prog 65 #[.slice (some ⟨b, 0, none⟩) 4 4, .string ⟨#[59]⟩] w fun e w' => e = .returned (.string ⟨(Lib.join [kl, y1, y2, y3] [59]).toArray⟩) ∧ Below w.heap.size w w' := by
  subst hx
  have h := Tryz.strings_Join b 0 4 [⟨kl.toArray⟩, ⟨y1.toArray⟩, ⟨y2.toArray⟩, ⟨y3.toArray⟩] ⟨#[59]⟩ w (fun j x hj => by
    rw [Nat.zero_add, st.cell (i := 0) rfl]
    match j, hj with
    | 0, hj => cases hj; rfl
    | 1, hj => cases hj; rfl
    | 2, hj => cases hj; rfl
    | 3, hj => cases hj; rfl) (Res.holds_lt (st.get (i := 0) rfl) rfl).2 (by simp) (by simp) (by
      have e : ([(⟨kl.toArray⟩ : ByteArray), ⟨y1.toArray⟩, ⟨y2.toArray⟩, ⟨y3.toArray⟩].map fun x => x.data.toList) = [kl, y1, y2, y3] := by simp
      rw [e]
      exact Nat.le_trans hlen (by decide))
  have e : ([(⟨kl.toArray⟩ : ByteArray), ⟨y1.toArray⟩, ⟨y2.toArray⟩, ⟨y3.toArray⟩].map fun x => x.data.toList) = [kl, y1, y2, y3] := by simp
  rw [e] at h
  exact h
def ItoaAt (w : World) (n : Int) : Prop := ∀ W, Below w.heap.size w W → Calls Tryz.prog 38 #[.int .i64 n] W fun e w' => e = .returned (.string ⟨(Lib.itoa n).toArray⟩) ∧ Below W.heap.size W w'
set_option maxRecDepth 8000 in
set_option maxHeartbeats 4000000 in
theorem formatAces_any (A : Option Addr) (n c B : Nat) (l : List L.Ace) (w : World) (h1 : Aces w B A n l) (hB1 : B ≤ w.heap.size) (hn : n ≤ 100) (hg : L.Good l) (hi : ∀ a ∈ l, ItoaAt w a.w) :
    Calls Tryz.prog 39 #[.slice A n c] w fun e w' => e = .returned (.string ⟨(L.fmtAces l).toArray⟩) ∧ Below w.heap.size w w' := by
  have e1 := Lib.hid h1.len
  have H1 := Lib.hid h1
  have HG := Lib.hid hg
  have HI := Lib.hid hi
  clear h1 hg hi
  have st := St.start w
  go_enter Tryz.func39, Tryz.ntmps39
  go_wp2_with (refine WL.out ?_; (repeat ((refine WL.op ?_ ?_; (exact rfl); intro K hK; (first | ((((with_reducible apply ow_move); exact rfl)); (go_simp <;> (try simp (disch := omega) only [wrap_id, sub_left, zac]) <;> rfl)) | ((with_reducible apply ow_eval); (go_simp <;> (try simp (disch := omega) only [wrap_id, sub_left, zac]) <;> rfl); ((with_reducible apply up_value)))); refine WL.next hK (by simp only [Act.put, zpt, zsz, zss]; exact rfl) ?_; clear hK K))); (try refine WL.nil ?_))
  go_loopw [3, 9] (fun v i wr => ∃ k : Nat, k ≤ n ∧ i = .int .i64 k ∧ v = .string ⟨(L.fmtAces (l.take k)).toArray⟩ ∧ St w wr []) (fun _ i _ => n - (intOf i).toNat)
  case atStart => exact ⟨0, Nat.zero_le _, rfl, rfl, st⟩
  case round =>
    clear st
    obtain ⟨k, hk, rfl, rfl, st⟩ := hrel
    by_cases hlt : k < n
    · have hst := Lib.hid (L.fmtAces_step l k (by rw [← e1.out]; omega))
      have hgk := HG.out.ax (k := k) (by rw [← e1.out]; omega)
      have hk0 := hgk.k0
      have hk1 := hgk.k1
      have hf0 := hgk.f0
      have hf1 := hgk.f1
      have hm0 := hgk.m0
      have hm1 := hgk.m1
      have hw0 := hgk.w0
      have hw1 := hgk.w1
      have hln := Lib.hid (L.fmt_len (a := L.ax l k) (by omega) hw1)
      have hcl : (Lib.join [L.kindL (L.ax l k).k, L.letters (L.ax l k).f ⟨#[102, 100, 110, 111, 105]⟩, L.letters (L.ax l k).m ⟨#[114, 119, 97, 108, 99, 120, 115, 116, 107]⟩, Lib.itoa (L.ax l k).w] [59]).length ≤ 1100 := hln.out
      have hpl : (L.fmtAces (l.take k)).length ≤ 1000000 := by
        have h1 := L.fmtAces_len (l := l.take k) fun x hx => HG.out x (List.mem_of_mem_take hx)
        have h2 := List.length_take_le k l
        omega
      have hit := Lib.hid (HI.out (L.ax l k) (by rw [L.ax_eq l k (by rw [← e1.out]; omega)]; exact List.getElem_mem _))
      obtain ⟨b1, o1, rfl, hb1, hc⟩ := H1.out.at_ (by omega)
      have hb1 := Nat.lt_of_lt_of_le hb1 hB1
      obtain ⟨f1, f2, f3, f4⟩ := hc k hlt
      clear hc hgk
      rcases (show (L.ax l k).k = 0 ∨ (L.ax l k).k = 1 ∨ (L.ax l k).k = 2 by omega) with hk | hk | hk
      all_goals
        have hK2 := Lib.hid hk
        rw [hk] at f1
        clear hk hk0 hk1
        go_wp2_with (refine WL.out ?_; (repeat ((refine WL.op ?_ ?_; (exact rfl); intro K hK; (first | ((((with_reducible apply ow_alloc st); exact rfl; exact inferInstance; (go_simp <;> (try simp (disch := omega) only [wrap_id, sub_left, zac]) <;> rfl))); (try clear st); intro b w' st) | ((((with_reducible apply ow_storeN' st); exact rfl; exact inferInstance; exact rfl; (exact get0); exact rfl)); exact rfl; exact rfl; (simp <;> done); ((try simp only [zta, ztz, zda, zdz, zca, zcn, zan, zsz, zss]) <;> exact rfl); (try clear st); intro w' st) | ((with_reducible apply ow_old4 st); exact rfl; exact inferInstance; exact rfl; assumption; assumption; assumption; assumption; assumption) | ((with_reducible apply ow_eval); (go_simp <;> (try simp (disch := omega) only [wrap_id, sub_left, zac]) <;> rfl); ((with_reducible apply up_value)))); refine WL.next hK (by simp only [Act.put, zpt, zsz, zss]; exact rfl) ?_; clear hK K))); (try refine WL.nil ?_))
        refine wp_region_plan 15 (by kernel_rfl) (by kernel_rfl) ?_; replace st := st.drew; generalize World.drew _ = W at st ⊢
        iterate 8 (apply Plan.val'; (focus (intro x0 x1 x2 x3 x4 x5 x6 x7 x8 x9 x10 x11 x12 x13 x14 w1 hb; (try simp only [depF, fillA, Act.put, zta, ztz, zpt, zsz, zss, zl0, zls]); (repeat (rintro rfl)); have st := st.call hb; (first | (apply Yphi.run; (exact rfl); (go_simp <;> (try simp (disch := omega) only [wrap_id, sub_left, zac]) <;> rfl); exact rfl) | (apply Yphi.load1 st; exact rfl; exact inferInstance; (exact rfl); exact rfl; (exact get0); exact rfl)))); (simp only [zca, zcn] <;> exact rfl))
        (apply Plan.val'; (focus (intro x0 x1 x2 x3 x4 x5 x6 x7 x8 x9 x10 x11 x12 x13 x14 w1 hb; (try simp only [depF, fillA, Act.put, zta, ztz, zpt, zsz, zss, zl0, zls]); (repeat (rintro rfl)); have st := st.call hb; apply Yphi.call; (exact rfl); (go_simp <;> (try simp (disch := omega) only [wrap_id, sub_left, zac]) <;> rfl); exact rfl; refine (letters_any (L.ax l k).f ⟨#[102, 100, 110, 111, 105]⟩ _ hf0 (by omega) (by decide)).mono ?_; rintro e w' ⟨rfl, hb'⟩; exact ⟨_, rfl, hb', rfl⟩)); (simp only [zca, zcn] <;> exact rfl))
        iterate 2 (apply Plan.val'; (focus (intro x0 x1 x2 x3 x4 x5 x6 x7 x8 x9 x10 x11 x12 x13 x14 w1 hb; (try simp only [depF, fillA, Act.put, zta, ztz, zpt, zsz, zss, zl0, zls]); (repeat (rintro rfl)); have st := st.call hb; (first | (apply Yphi.run; (exact rfl); (go_simp <;> (try simp (disch := omega) only [wrap_id, sub_left, zac]) <;> rfl); exact rfl) | (apply Yphi.load1 st; exact rfl; exact inferInstance; (exact rfl); exact rfl; (exact get0); exact rfl)))); (simp only [zca, zcn] <;> exact rfl))
        (apply Plan.val'; (focus (intro x0 x1 x2 x3 x4 x5 x6 x7 x8 x9 x10 x11 x12 x13 x14 w1 hb; (try simp only [depF, fillA, Act.put, zta, ztz, zpt, zsz, zss, zl0, zls]); (repeat (rintro rfl)); have st := st.call hb; apply Yphi.call; (exact rfl); (go_simp <;> (try simp (disch := omega) only [wrap_id, sub_left, zac]) <;> rfl); exact rfl; refine (letters_any (L.ax l k).m ⟨#[114, 119, 97, 108, 99, 120, 115, 116, 107]⟩ _ (by omega) (by omega) (by decide)).mono ?_; rintro e w' ⟨rfl, hb'⟩; exact ⟨_, rfl, hb', rfl⟩)); (simp only [zca, zcn] <;> exact rfl))
        iterate 2 (apply Plan.val'; (focus (intro x0 x1 x2 x3 x4 x5 x6 x7 x8 x9 x10 x11 x12 x13 x14 w1 hb; (try simp only [depF, fillA, Act.put, zta, ztz, zpt, zsz, zss, zl0, zls]); (repeat (rintro rfl)); have st := st.call hb; (first | (apply Yphi.run; (exact rfl); (go_simp <;> (try simp (disch := omega) only [wrap_id, sub_left, zac]) <;> rfl); exact rfl) | (apply Yphi.load1 st; exact rfl; exact inferInstance; (exact rfl); exact rfl; (exact get0); exact rfl)))); (simp only [zca, zcn] <;> exact rfl))
        (apply Plan.val'; (focus (intro x0 x1 x2 x3 x4 x5 x6 x7 x8 x9 x10 x11 x12 x13 x14 w1 hb; (try simp only [depF, fillA, Act.put, zta, ztz, zpt, zsz, zss, zl0, zls]); (repeat (rintro rfl)); have st := st.call hb; apply Yphi.call; (exact rfl); (go_simp <;> (try simp (disch := omega) only [wrap_id, sub_left, zac]) <;> rfl); exact rfl; refine (hit.out _ st.below).mono ?_; rintro e w' ⟨rfl, hb'⟩; exact ⟨_, rfl, hb', rfl⟩)); (simp only [zca, zcn] <;> exact rfl))
        intro x0 x1 x2 x3 x4 x5 x6 x7 x8 x9 x10 x11 x12 x13 x14 lo hi w1 hb hap
        rintro rfl rfl rfl rfl rfl rfl rfl rfl rfl rfl rfl rfl rfl rfl rfl
        simp only [allPhi, fillA, Act.put, zta, ztz, zpt, zsz, zss, zda, zdz]
        have st := st.call hb
        clear hap hb
        go_wp2_with (refine WL.out ?_; (repeat ((refine WL.op ?_ ?_; (exact rfl); intro K hK; (first | ((first | ((with_reducible apply ow_move); exact rfl) | ((with_reducible apply ow_assign); exact rfl)); (go_simp <;> (try simp (disch := omega) only [wrap_id, sub_left, zac]) <;> rfl)) | ((((with_reducible apply ow_newSlice st); exact rfl; (go_simp <;> (try simp (disch := omega) only [wrap_id, sub_left, zac]) <;> rfl); exact rfl)); (try clear st); intro b w' st) | ((with_reducible apply ow_cat); exact rfl; exact rfl; exact rfl; (focus (simp only [List.length_append, List.length_cons, List.length_nil]; omega))) | ((with_reducible apply ow_eval); (go_simp <;> (try simp (disch := omega) only [wrap_id, sub_left, zac]) <;> rfl); first | (with_reducible apply up_value) | ((with_reducible apply up_enter); ((go_at_call 65; refine (join4_st (kl := L.kindL (L.ax l k).k) st (by rw [hK2.out]; decide +kernel) hln.out).mono ?_; rintro e w' ⟨rfl, hb⟩; replace st := st.call hb; clear hb; refine ⟨_, rfl, ?_⟩))))); refine WL.next hK (by simp only [Act.put, zpt, zsz, zss]; exact rfl) ?_; clear hK K))); (try refine WL.nil ?_))
        exact ⟨⟨k + 1, by omega, by go_num, by rw [hst.out]; rfl, st.sub (List.nil_sublist _)⟩, by simp [intOf]; omega⟩
    · have hs' : Hid (l.take k = l) := Lib.hid (List.take_of_length_le (by rw [← e1.out]; omega))
      go_wp2_with (refine WL.out ?_; (repeat ((refine WL.op ?_ ?_; (exact rfl); intro K hK; (((with_reducible apply ow_eval); (go_simp <;> (try simp (disch := omega) only [wrap_id, sub_left, zac]) <;> rfl); ((with_reducible apply up_value)))); refine WL.next hK (by simp only [Act.put, zpt, zsz, zss]; exact rfl) ?_; clear hK K))); (try refine WL.nil ?_))
      go_ret
      exact ⟨by rw [hs'.out]; rfl, st.below⟩
end Go.Proofs.YtppjhccdgbheiaaGreatDoor
namespace Go.Proofs.YtppjhccdgbheiaaGreatDoor
open Go.RowKit Go.Hp
theorem Yphi.cat {P : Program} {ops : Array Oper} {o : Oper} {a : Act} {w : World} {t ty : TypeId} {x y : Operand} {l m : List UInt8} (hw : Region.wanted o (yielded ops a.tmps) = true) (ho : o.op = .binOp .add t x y ty) (hx : a.eval x = .string ⟨l.toArray⟩) (hy : a.eval y = .string ⟨m.toArray⟩) (hlen : (l ++ m).length ≤ 1000000000) :
    Yphi P ops o a w (isV (.string ⟨(l ++ m).toArray⟩)) :=
  .inl ⟨hw, (ow_cat ho hx hy hlen ⟨_, rfl, Below.refl _ _, rfl⟩).out⟩
theorem ItoaAt.mono {w w' : World} {n : Int} (h : ItoaAt w n) (hb : Below w.heap.size w w') : ItoaAt w' n := fun W hW => h W (hb.trans (hW.mono hb.size))
namespace L
theorem Desc.err_holders {d : Desc} (h : d.err.2 = 0) : (4 ≤ d.o ∧ d.o ≤ 999) ∧ (4 ≤ d.g ∧ d.g ≤ 999) := by
  have h0 := Desc.err_head h
  have h1 := firstErr_zero h0 _ (List.mem_cons_self ..)
  have h2 := unles_zero h1 (by decide)
  simp only [isHolder, isIdentity, isCreator, within, Bool.and_eq_true, Bool.or_eq_true, decide_eq_true_eq, Bool.not_eq_true', Bool.or_eq_false_iff, beq_eq_false_iff_ne, bne_iff_ne] at h2
  omega
def Desc.mid (d : Desc) : List UInt8 := if d.h then (if d.p then [59, 68, 58, 80] else [59, 68, 58]) else if d.p then [59, 80] else []
def Desc.fmt (d : Desc) : List UInt8 := ((([79, 58] ++ Lib.itoa d.o) ++ [59, 71, 58]) ++ Lib.itoa d.g) ++ d.mid ++ fmtAces d.e ++ if d.a.length = 0 then [] else [59, 83, 58] ++ fmtAces d.a
end L
def fmtRes (d : L.Desc) : List UInt8 × Int := if d.err.2 = 0 then (d.fmt, 0) else ([], d.err.2)
set_option maxRecDepth 8000 in
set_option maxHeartbeats 4000000 in
theorem FormatDescriptor_any (d : L.Desc) (A1 A2 : Option Addr) (n1 n2 c1 c2 B : Nat) (w : World) (h1 : Aces w B A1 n1 d.e) (h2 : Aces w B A2 n2 d.a) (hB1 : B ≤ w.heap.size) (hn1 : n1 ≤ 100) (hn2 : n2 ≤ 100) (ho : ItoaAt w d.o) (hg : ItoaAt w d.g) (hi : ∀ a ∈ d.e ++ d.a, ItoaAt w a.w) :
    Calls Tryz.prog 21 #[.agg #[.int .i64 d.o, .int .i64 d.g, .bool d.p, .bool d.h, .slice A1 n1 c1, .slice A2 n2 c2]] w fun e w' => e = .returned (.tuple #[L.strOf (fmtRes d).1, .int .i64 (fmtRes d).2]) ∧ Below w.heap.size w w' := by
  have e1 := Lib.hid h1.len
  have e2 := Lib.hid h2.len
  have H1 := Lib.hid h1
  have H2 := Lib.hid h2
  have HO := Lib.hid ho
  have HG := Lib.hid hg
  have HI := Lib.hid hi
  clear h1 h2 ho hg hi
  have st := St.start w
  by_cases hx : d.err.2 = 0
  · have hE := Lib.hid hx
    have G1 := Lib.hid (L.Desc.err_e hx)
    have G2 := Lib.hid (L.Desc.err_a hx)
    have hh := L.Desc.err_holders hx
    have li1 := L.itoa_len (n := d.o) (by omega) (by omega)
    have li2 := L.itoa_len (n := d.g) (by omega) (by omega)
    have lf1 : (L.fmtAces d.e).length ≤ 1000000 := by have := L.fmtAces_len G1.out; have := e1.out; omega
    have lf2 : (L.fmtAces d.a).length ≤ 1000000 := by have := L.fmtAces_len G2.out; have := e2.out; omega
    clear hx hh
    obtain ⟨do_, dg, dp, dh, de, da⟩ := d
    rcases (show (dp = true ∧ dh = true) ∨ (dp = true ∧ dh = false) ∨ (dp = false ∧ dh = true) ∨ (dp = false ∧ dh = false) by cases dp <;> cases dh <;> simp) with ⟨rfl, rfl⟩ | ⟨rfl, rfl⟩ | ⟨rfl, rfl⟩ | ⟨rfl, rfl⟩
    all_goals
      by_cases h0 : 0 < n2
      all_goals
        go_enter Tryz.func21, Tryz.ntmps21
        go_wp2_with (refine WL.out ?_; (repeat ((refine WL.op ?_ ?_; (exact rfl); intro K hK; (first | ((((with_reducible apply ow_assign); exact rfl)); (go_simp <;> (try simp (disch := omega) only [wrap_id, sub_left, zac]) <;> rfl)) | ((((with_reducible apply ow_loadN st); exact rfl; exact inferInstance; exact rfl; (exact get0); ((try simp only [zta, ztz, zda, zdz, zca, zcn, zan, zsz, zss]) <;> exact rfl))); exact rfl) | ((((with_reducible apply ow_box st); exact rfl; (go_simp <;> (try simp (disch := omega) only [wrap_id, sub_left, zac]) <;> rfl); (go_simp <;> (try simp (disch := omega) only [wrap_id, sub_left, zac]) <;> rfl))); (try clear st); intro b w' st) | ((with_reducible apply ow_eval); (go_simp <;> (try simp (disch := omega) only [wrap_id, sub_left, zac]) <;> rfl); first | (with_reducible apply up_value) | ((with_reducible apply up_enter); ((go_at_call 37; refine (descriptorErr_any ⟨do_, dg, _, _, de, da⟩ A1 A2 n1 n2 c1 c2 B _ (H1.out.st st hB1) (H2.out.st st hB1) (Nat.le_trans hB1 st.size) hn1 hn2).mono ?_; rintro e w' ⟨rfl, hb⟩; replace st := st.call hb; clear hb; rw [hE.out]; refine ⟨_, rfl, ?_⟩))))); refine WL.next hK (by simp only [Act.put, zpt, zsz, zss]; exact rfl) ?_; clear hK K))); (try refine WL.nil ?_))
        refine wp_region_plan 10 (by kernel_rfl) (by kernel_rfl) ?_; replace st := st.drew; generalize World.drew _ = W at st ⊢
        iterate 2 (apply Plan.val'; (focus (intro x0 x1 x2 x3 x4 x5 x6 x7 x8 x9 w1 hb; (try simp only [depF, fillA, Act.put, zta, ztz, zpt, zsz, zss, zl0, zls]); (repeat (rintro rfl)); have st := st.call hb; (first | (apply Yphi.run; (exact rfl); (go_simp <;> (try simp (disch := omega) only [wrap_id, sub_left, zac]) <;> rfl); exact rfl) | (apply Yphi.load1 st; exact rfl; exact inferInstance; (exact rfl); exact rfl; (exact get0); exact rfl)))); (simp only [zca, zcn] <;> exact rfl))
        (apply Plan.val'; (focus (intro x0 x1 x2 x3 x4 x5 x6 x7 x8 x9 w1 hb; (try simp only [depF, fillA, Act.put, zta, ztz, zpt, zsz, zss, zl0, zls]); (repeat (rintro rfl)); have st := st.call hb; apply Yphi.call; (exact rfl); (go_simp <;> (try simp (disch := omega) only [wrap_id, sub_left, zac]) <;> rfl); exact rfl; refine (HO.out _ st.below).mono ?_; rintro e w' ⟨rfl, hb'⟩; exact ⟨_, rfl, hb', rfl⟩)); (simp only [zca, zcn] <;> exact rfl))
        iterate 2 (apply Plan.val'; (focus (intro x0 x1 x2 x3 x4 x5 x6 x7 x8 x9 w1 hb; (try simp only [depF, fillA, Act.put, zta, ztz, zpt, zsz, zss, zl0, zls]); (repeat (rintro rfl)); have st := st.call hb; apply Yphi.cat; (exact rfl); exact rfl; exact rfl; exact rfl; (focus (simp only [List.length_append, List.length_cons, List.length_nil]; omega)))); (simp only [zca, zcn] <;> exact rfl))
        iterate 2 (apply Plan.val'; (focus (intro x0 x1 x2 x3 x4 x5 x6 x7 x8 x9 w1 hb; (try simp only [depF, fillA, Act.put, zta, ztz, zpt, zsz, zss, zl0, zls]); (repeat (rintro rfl)); have st := st.call hb; (first | (apply Yphi.run; (exact rfl); (go_simp <;> (try simp (disch := omega) only [wrap_id, sub_left, zac]) <;> rfl); exact rfl) | (apply Yphi.load1 st; exact rfl; exact inferInstance; (exact rfl); exact rfl; (exact get0); exact rfl)))); (simp only [zca, zcn] <;> exact rfl))
        (apply Plan.val'; (focus (intro x0 x1 x2 x3 x4 x5 x6 x7 x8 x9 w1 hb; (try simp only [depF, fillA, Act.put, zta, ztz, zpt, zsz, zss, zl0, zls]); (repeat (rintro rfl)); have st := st.call hb; apply Yphi.call; (exact rfl); (go_simp <;> (try simp (disch := omega) only [wrap_id, sub_left, zac]) <;> rfl); exact rfl; refine (HG.out _ st.below).mono ?_; rintro e w' ⟨rfl, hb'⟩; exact ⟨_, rfl, hb', rfl⟩)); (simp only [zca, zcn] <;> exact rfl))
        (apply Plan.val'; (focus (intro x0 x1 x2 x3 x4 x5 x6 x7 x8 x9 w1 hb; (try simp only [depF, fillA, Act.put, zta, ztz, zpt, zsz, zss, zl0, zls]); (repeat (rintro rfl)); have st := st.call hb; apply Yphi.cat; (exact rfl); exact rfl; exact rfl; exact rfl; (focus (simp only [List.length_append, List.length_cons, List.length_nil]; omega)))); (simp only [zca, zcn] <;> exact rfl))
        (apply Plan.val'; (focus (intro x0 x1 x2 x3 x4 x5 x6 x7 x8 x9 w1 hb; (try simp only [depF, fillA, Act.put, zta, ztz, zpt, zsz, zss, zl0, zls]); (repeat (first | rintro rfl | intro _)); have st := st.call hb; ((apply Yphi.run; (exact rfl); (go_simp <;> (try simp (disch := omega) only [wrap_id, sub_left, zac]) <;> rfl); exact rfl)))); (simp only [zca, zcn] <;> exact rfl))
        intro x0 x1 x2 x3 x4 x5 x6 x7 x8 x9 lo hi w1 hb hap
        rintro rfl rfl rfl rfl rfl rfl rfl rfl rfl rfl
        simp only [allPhi, fillA, Act.put, zta, ztz, zpt, zsz, zss, zda, zdz]
        have st := st.call hb
        clear hap hb
        go_wp2_with (refine WL.out ?_; (repeat (first | (refine WL.op ?_ ?_; (exact rfl); intro K hK; (first | ((first | ((with_reducible apply ow_move); exact rfl) | ((with_reducible apply ow_assign); exact rfl)); (go_simp <;> (try simp (disch := omega) only [wrap_id, sub_left, zac]) <;> rfl)) | ((((with_reducible apply ow_load1 st); exact rfl; exact inferInstance; exact rfl; (exact get0))); exact rfl) | ((with_reducible apply ow_cat); exact rfl; exact rfl; exact rfl; (focus (simp only [List.length_append, List.length_cons, List.length_nil]; omega))) | ((with_reducible apply ow_eval); (go_simp <;> (try simp (disch := omega) only [wrap_id, sub_left, zac]) <;> rfl); first | (with_reducible apply up_value) | ((with_reducible apply up_enter); first | (go_at_call 39; ((with_reducible refine (formatAces_any A1 n1 c1 B de _ ?_ ?_ ?_ ?_ ?_).mono ?_); exact (H1.out.st st hB1); exact (Nat.le_trans hB1 st.size); exact hn1; exact G1.out; exact (fun a ha => (HI.out a (List.mem_append_left _ ha)).mono st.below)); rintro e w' ⟨rfl, hb⟩; replace st := st.call hb; clear hb; refine ⟨_, rfl, ?_⟩) | (go_at_call 39; ((with_reducible refine (formatAces_any A2 n2 c2 B da _ ?_ ?_ ?_ ?_ ?_).mono ?_); exact (H2.out.st st hB1); exact (Nat.le_trans hB1 st.size); exact hn2; exact G2.out; exact (fun a ha => (HI.out a (List.mem_append_right _ ha)).mono st.below)); rintro e w' ⟨rfl, hb⟩; replace st := st.call hb; clear hb; refine ⟨_, rfl, ?_⟩)))); refine WL.next hK (by simp only [Act.put, zpt, zsz, zss]; exact rfl) ?_; clear hK K) | (refine WL.skip ?_ (by simp only [Act.put, zpt, zsz, zss]; exact rfl) ?_; (exact rfl)))); (try refine WL.nil ?_))
        go_ret2
        unfold fmtRes
        rw [if_pos hE.out]
        refine ⟨?_, st.below⟩
        refine congrArg (fun l : List UInt8 => Ending.returned (.tuple #[.string ⟨l.toArray⟩, .int .i64 0])) (?_ : _ = L.Desc.fmt ⟨do_, dg, _, _, de, da⟩)
        unfold L.Desc.fmt L.Desc.mid
        have hz : (da.length = 0) = (n2 = 0) := by rw [e2.out]
        simp only [hz]
        first | (rw [if_neg (show ¬ n2 = 0 by omega)]; simp; done) | (rw [if_pos (show n2 = 0 by omega)]; simp; done)
  · have hb : (d.err.2 == 0) = false := by simpa using hx
    obtain ⟨E, hE2⟩ : ∃ E, d.err.2 = E := ⟨_, rfl⟩
    rw [hE2] at hb hx
    have HE2 := Lib.hid hE2
    have hX := Lib.hid hx
    clear hE2 hx
    go_enter Tryz.func21, Tryz.ntmps21
    go_wp2_with (refine WL.out ?_; (repeat ((refine WL.op ?_ ?_; (exact rfl); intro K hK; (first | ((((with_reducible apply ow_assign); exact rfl)); (go_simp <;> (try simp (disch := omega) only [wrap_id, sub_left, zac]) <;> rfl)) | ((((with_reducible apply ow_loadN st); exact rfl; exact inferInstance; exact rfl; (exact get0); ((try simp only [zta, ztz, zda, zdz, zca, zcn, zan, zsz, zss]) <;> exact rfl))); exact rfl) | ((((with_reducible apply ow_box st); exact rfl; (go_simp <;> (try simp (disch := omega) only [wrap_id, sub_left, zac]) <;> rfl); (go_simp <;> (try simp (disch := omega) only [wrap_id, sub_left, zac]) <;> rfl))); (try clear st); intro b w' st) | ((with_reducible apply ow_eval); (go_simp <;> (try simp (disch := omega) only [wrap_id, sub_left, zac]) <;> rfl); first | (with_reducible apply up_value) | ((with_reducible apply up_enter); ((go_at_call 37; refine (descriptorErr_any d A1 A2 n1 n2 c1 c2 B _ (H1.out.st st hB1) (H2.out.st st hB1) (Nat.le_trans hB1 st.size) hn1 hn2).mono ?_; rintro e w' ⟨rfl, hb⟩; replace st := st.call hb; clear hb; rw [HE2.out]; refine ⟨_, rfl, ?_⟩))))); refine WL.next hK (by simp only [Act.put, zpt, zsz, zss]; exact rfl) ?_; clear hK K))); (try refine WL.nil ?_))
    go_ret2
    unfold fmtRes
    rw [if_neg (by rw [HE2.out]; exact hX.out), HE2.out]
    exact ⟨rfl, st.below⟩
end Go.Proofs.YtppjhccdgbheiaaGreatDoor
namespace Go.Proofs.YtppjhccdgbheiaaGreatDoor
open Go.RowKit Go.Hp
namespace L
def above : Desc := ⟨10, 20, false, true, [⟨0, 3, 1, 1⟩, ⟨1, 1, 2, 11⟩, ⟨0, 11, 34, 2⟩], []⟩
def own : Desc := ⟨12, 21, false, true, [⟨0, 0, 256, 12⟩], []⟩
end L
set_option maxHeartbeats 1000000 in
theorem Above_any (w : World) : Calls Tryz.prog 26 #[] w (RetDesc w L.above) := by
  have st := St.start w
  go_enter Tryz.func26, Tryz.ntmps26
  go_wp2_with (refine WL.out ?_; (repeat ((refine WL.op ?_ ?_; (exact rfl); intro K hK; (first | ((first | ((with_reducible apply ow_newSlice st); exact rfl; (go_simp <;> (try simp (disch := omega) only [wrap_id, sub_left, zac]) <;> rfl); exact rfl) | ((with_reducible apply ow_alloc st); exact rfl; exact inferInstance; (go_simp <;> (try simp (disch := omega) only [wrap_id, sub_left, zac]) <;> rfl))); (try clear st); intro b w' st) | ((((with_reducible apply ow_storeN' st); exact rfl; exact inferInstance; exact rfl; (exact get1); exact rfl)); exact rfl; exact rfl; (simp <;> done); ((try simp only [zta, ztz, zda, zdz, zca, zcn, zan, zsz, zss]) <;> exact rfl); (try clear st); intro w' st) | ((with_reducible apply ow_eval); (go_simp <;> (try simp (disch := omega) only [wrap_id, sub_left, zac]) <;> rfl); ((with_reducible apply up_value)))); refine WL.next hK (by simp only [Act.put, zpt, zsz, zss]; exact rfl) ?_; clear hK K))); (try refine WL.nil ?_))
  exact bodyPost_cell 1 st rfl inferInstance rfl rfl rfl rfl ⟨_, _, _, none, 0, 0, rfl, ((st.sub (.cons_cons _ (List.nil_sublist _))).toRow (n := 3) (size := 4) rfl (by decide)).nilRow _ _ |>.swap⟩
theorem Own_any (w : World) : Calls Tryz.prog 27 #[] w (RetDesc w L.own) := by
  have st := St.start w
  go_enter Tryz.func27, Tryz.ntmps27
  go_wp2_with (refine WL.out ?_; (repeat ((refine WL.op ?_ ?_; (exact rfl); intro K hK; (first | ((first | ((with_reducible apply ow_newSlice st); exact rfl; (go_simp <;> (try simp (disch := omega) only [wrap_id, sub_left, zac]) <;> rfl); exact rfl) | ((with_reducible apply ow_alloc st); exact rfl; exact inferInstance; (go_simp <;> (try simp (disch := omega) only [wrap_id, sub_left, zac]) <;> rfl))); (try clear st); intro b w' st) | ((((with_reducible apply ow_storeN' st); exact rfl; exact inferInstance; exact rfl; (exact get1); exact rfl)); exact rfl; exact rfl; (simp <;> done); ((try simp only [zta, ztz, zda, zdz, zca, zcn, zan, zsz, zss]) <;> exact rfl); (try clear st); intro w' st) | ((with_reducible apply ow_eval); (go_simp <;> (try simp (disch := omega) only [wrap_id, sub_left, zac]) <;> rfl); ((with_reducible apply up_value)))); refine WL.next hK (by simp only [Act.put, zpt, zsz, zss]; exact rfl) ?_; clear hK K))); (try refine WL.nil ?_))
  exact bodyPost_cell 1 st rfl inferInstance rfl rfl rfl rfl ⟨_, _, _, none, 0, 0, rfl, ((st.sub (.cons_cons _ (List.nil_sublist _))).toRow (n := 1) (size := 4) rfl (by decide)).nilRow _ _ |>.swap⟩
namespace L
def kid : Desc := ⟨12, 21, false, true, [⟨0, 0, 256, 12⟩, ⟨1, 16, 2, 11⟩, ⟨0, 16, 1, 1⟩, ⟨0, 16, 34, 12⟩], []⟩
end L
theorem childOf_ex : L.childOf L.above L.own false = (L.kid, 0) := by kernel_rfl
theorem inheritedBy_ex : L.inheritedBy L.above.e true 12 21 = ([⟨0, 19, 1, 1⟩, ⟨1, 25, 2, 11⟩, ⟨0, 16, 34, 12⟩, ⟨0, 27, 34, 2⟩], 0) := by kernel_rfl
theorem itoa_small {w : World} {n : Int} (h0 : 0 ≤ n) (h1 : n < 100) : ItoaAt w n := by
  intro W _
  obtain ⟨i, rfl⟩ : ∃ i : Nat, n = i := ⟨n.toNat, by omega⟩
  refine (Tryz.strconv_Itoa_small i (by omega) W).mono ?_
  rintro e w' ⟨rfl, rfl⟩
  refine ⟨?_, Below.refl _ _⟩
  unfold Lib.itoa
  rw [if_neg (by omega), Int.toNat_natCast]
theorem fmt_ex : fmtRes L.kid = ([79, 58, 49, 50, 59, 71, 58, 50, 49, 59, 68, 58, 40, 65, 59, 59, 107, 59, 49, 50, 41, 40, 68, 59, 105, 59, 119, 59, 49, 49, 41, 40, 65, 59, 105, 59, 114, 59, 49, 41, 40, 65, 59, 105, 59, 119, 120, 59, 49, 50, 41], 0) := by kernel_rfl
theorem enc_ex : (encRes L.kid).1.length = 44 ∧ (encRes L.kid).2 = 0 := by constructor <;> kernel_rfl
theorem kid_small : ∀ a ∈ L.kid.e ++ L.kid.a, 0 ≤ a.w ∧ a.w < 100 := by
  intro a ha
  simp only [L.kid, List.append_nil, List.mem_cons, List.not_mem_nil, or_false] at ha
  rcases ha with rfl | rfl | rfl | rfl <;> exact ⟨by decide, by decide⟩
def L.encS : ByteArray := ⟨(encRes L.kid).1.toArray⟩
theorem encS_size : L.encS.size = 44 := by
  have := enc_ex.1
  show (encRes L.kid).1.toArray.size = 44
  simpa using this
theorem enc_str : L.strOf (encRes L.kid).1 = .string L.encS := rfl
set_option maxRecDepth 8000 in
set_option maxHeartbeats 4000000 in
theorem awake_any (w : World) : Calls Tryz.prog 6 #[] w fun e w' => e = .returned (.bool true) ∧ Below w.heap.size w w' := by
  have st := St.start w
  have hfld : ∀ (x0 x1 x2 x3 x4 x5 : Value) (W : World), (Instr.field 25 (.agg #[x0, x1, x2, x3, x4, x5]) 4).run Tryz.prog W = .ok x4 W := fun _ _ _ _ _ _ _ => by kernel_rfl
  go_enter Tryz.func6, Tryz.ntmps6
  go_wp2_with (refine WL.out ?_; (repeat ((refine WL.op ?_ ?_; (exact rfl); intro K hK; (first | ((first | ((with_reducible apply ow_move); exact rfl) | ((with_reducible apply ow_assign); exact rfl)); (go_simp <;> (try simp (disch := omega) only [wrap_id, sub_left, zac]) <;> rfl)) | ((((with_reducible apply ow_loadN st); exact rfl; exact inferInstance; exact rfl; (exact get1); ((try simp only [zta, ztz, zda, zdz, zca, zcn, zan, zsz, zss]) <;> exact rfl))); exact rfl) | ((first | ((with_reducible apply ow_newSlice st); exact rfl; (go_simp <;> (try simp (disch := omega) only [wrap_id, sub_left, zac]) <;> rfl); exact rfl) | ((with_reducible apply ow_alloc st); exact rfl; exact inferInstance; (go_simp <;> (try simp (disch := omega) only [wrap_id, sub_left, zac]) <;> rfl))); (try clear st); intro b w' st) | ((((with_reducible apply ow_storeN' st); exact rfl; exact inferInstance; exact rfl; (exact get0); exact rfl)); exact rfl; exact rfl; (simp <;> done); ((try simp only [zta, ztz, zda, zdz, zca, zcn, zan, zsz, zss]) <;> exact rfl); (try clear st); intro w' st) | ((with_reducible apply ow_eval); (go_simp <;> (try simp (disch := omega) only [wrap_id, sub_left, zac]) <;> rfl); first | (with_reducible apply up_value) | ((with_reducible apply up_enter); first | (go_at_call 26; refine (Above_any _).mono ?_; rintro e w' ⟨A1, n1, c1, A2, n2, c2, rfl, st'⟩; replace st := st.join st'; clear st'; simp only [List.cons_append, List.nil_append] at st; refine ⟨_, rfl, ?_⟩) | (go_at_call 27; refine (Own_any _).mono ?_; rintro e w' ⟨A3, n3, c3, A4, n4, c4, rfl, st'⟩; replace st := st.join st'; clear st'; simp only [List.cons_append, List.nil_append] at st; refine ⟨_, rfl, ?_⟩) | (go_at_call 25; refine (ChildOf_any L.above L.own false _ _ _ _ _ _ _ _ _ _ _ _ _ _ (St.aces st (i := 0) rfl) (St.aces st (i := 1) rfl) (St.aces st (i := 2) rfl) (St.aces st (i := 3) rfl) (Nat.le_refl _) (by rw [St.len st (i := 0) rfl]; decide) (by rw [St.len st (i := 1) rfl]; decide) (by rw [St.len st (i := 2) rfl]; decide) (by rw [St.len st (i := 3) rfl]; decide)).mono ?_; rw [childOf_ex]; rintro e w' ⟨A5, n5, c5, A6, n6, c6, rfl, st'⟩; replace st := st.join st'; clear st'; simp only [List.cons_append, List.nil_append] at st; replace st := st.sub (rs' := [_, _]) (.cons_cons _ (.cons_cons _ (List.nil_sublist _))); refine ⟨_, rfl, ?_⟩) | (go_at_call 28; refine (InheritedBy_any true 12 21 _ _ _ _ L.above.e _ (St.aces st (i := 0) rfl) (Nat.le_refl _) (by rw [St.len st (i := 0) rfl]; decide)).mono ?_; rw [inheritedBy_ex]; rintro e w' ⟨A7, n7, c7, rfl, st'⟩; replace st := st.join st'; clear st'; simp only [List.cons_append, List.nil_append] at st; replace st := st.sub (rs' := [_, _, _, _]) (.cons_cons _ (.cons _ (.cons _ (.cons_cons _ (.cons_cons _ (.cons_cons _ (List.nil_sublist _))))))); refine ⟨_, rfl, ?_⟩) | (go_at_call 21; refine (FormatDescriptor_any L.kid _ _ _ _ _ _ _ _ (St.aces st (i := 2) rfl) (St.aces st (i := 3) rfl) (Nat.le_refl _) (by rw [St.len st (i := 2) rfl]; decide) (by rw [St.len st (i := 3) rfl]; decide) (itoa_small (by decide) (by decide)) (itoa_small (by decide) (by decide)) (fun a ha => itoa_small (kid_small a ha).1 (kid_small a ha).2)).mono ?_; rw [fmt_ex]; dsimp only [L.strOf]; rintro e w' ⟨rfl, hb⟩; replace st := st.call hb; clear hb; refine ⟨_, rfl, ?_⟩) | (go_at_call 29; refine (EncodeDescriptor_any L.kid _ _ _ _ _ _ _ _ (St.aces st (i := 2) rfl) (St.aces st (i := 3) rfl) (Nat.le_refl _) (by rw [St.len st (i := 2) rfl]; decide) (by rw [St.len st (i := 3) rfl]; decide)).mono ?_; rw [enc_ex.2, enc_str]; rintro e w' ⟨rfl, hb⟩; replace st := st.call hb; clear hb; have hsz := encS_size; refine ⟨_, rfl, ?_⟩) | (go_at_call 30; refine (SameAces_any _ _ _ _ _ _ _ _ _ [⟨0, 19, 1, 1⟩, ⟨1, 25, 2, 11⟩, ⟨0, 16, 34, 12⟩, ⟨0, 27, 34, 2⟩] _ (St.aces st (i := 1) rfl) (Rd.aces (l := [⟨0, 19, 1, 1⟩, ⟨1, 25, 2, 11⟩, ⟨0, 16, 34, 12⟩, ⟨0, 27, 34, 2⟩]) (st.rdBox (i := 0) (n := 4) (size := 4) rfl rfl)) (Nat.le_refl _) (Nat.le_refl _) (by rw [St.len st (i := 1) rfl]; decide) (by decide)).mono ?_; rw [show L.same [⟨0, 19, 1, 1⟩, ⟨1, 25, 2, 11⟩, ⟨0, 16, 34, 12⟩, ⟨0, 27, 34, 2⟩] [⟨0, 19, 1, 1⟩, ⟨1, 25, 2, 11⟩, ⟨0, 16, 34, 12⟩, ⟨0, 27, 34, 2⟩] = true from (by kernel_rfl)]; rintro e w' ⟨rfl, hb⟩; replace st := st.call hb; clear hb; refine ⟨_, rfl, ?_⟩)))); refine WL.next hK (by simp only [Act.put, zpt, zsz, zss]; exact rfl) ?_; clear hK K))); (try refine WL.nil ?_))
  go_ret
  exact ⟨rfl, st.below⟩
end Go.Proofs.YtppjhccdgbheiaaGreatDoor
namespace Go.Proofs.YtppjhccdgbheiaaGreatDoor
open Go.ChangeShapes Go.WideShapes Go.ChangeAt Go.RowKit Go.Deep

theorem Tryz.own : ownKnob Tryz.prog.godebug = none := by kernel_rfl
theorem Tryz.laidOut : laidOutB Tryz.prog = true := by kernel_rfl

section
variable {H : Type} {enc : TypeId × Value → H} {P : Program} {W W' : World}
theorem reads_again (hl : laidOutB P = true) (hb : Below W.heap.size W W') : ∀ (ts : List TypeId) (vs : List Value) (ds : List (DataW H)) (ps : List MemPlace),
    (∀ t ∈ ts, P.readableRec t = true ∧ t < P.types.size) → DataW.TrodAll enc P W 0 (fun _ => true) true ts vs ds ps → (∀ x ∈ ps, x.block < W.heap.size) →
    DataW.TrodAll enc P W' 0 (fun b => decide (b < W.heap.size)) true ts vs ds ps
  | [], [], [], _, _, h, _ => h
  | t :: ts, v :: vs, d :: ds, ps, ht, h, hlt => by
    obtain ⟨p, q, h1, h2, rfl⟩ := h
    have hp := ht t (List.mem_cons_self ..)
    exact ⟨p, q, Below.trod hl hp.1 hp.2 h1 hb (fun x hx => hlt x (List.mem_append_left _ hx)), reads_again hl hb ts vs ds q (fun u hu => ht u (List.mem_cons_of_mem _ hu)) h2 (fun x hx => hlt x (List.mem_append_right _ hx)), rfl⟩

theorem law_post {f : Func} {s : ChangeSpec} {args : Array Value} {ds gs : List (DataW H)} {before : List MemPlace} {tb : TypeId} (hl : laidOutB P = true) (htb : P.underlying tb = some .bool) (hs : s.vars = [])
    (hf : f.resultTypes = #[tb]) (hr : s.fn H (ds ++ gs) = { results := [.lit (.bool true)], args := ds }) (hW : DataW.Whole enc P f.params.toList s.vars false W args.toList ds gs before)
    (hts : ∀ t ∈ f.params.toList, P.readableRec t = true ∧ t < P.types.size) (hb : Below W.heap.size W W') : s.post enc P f false true false false W args (.bool true) W' := by
  have hlt : ∀ p ∈ before, p.block < W.heap.size := fun p hp => hW.lt p hp
  have hW' := hW
  obtain ⟨p, q, hA, hV, rfl, _, _⟩ := hW'
  rw [hs] at hV
  obtain ⟨rfl, rfl⟩ := trodVars_none hV
  refine ⟨ds, [], _, [], p, [], hW, ?_, ?_, ?_, World.keptBut_mono (fun x hx => ⟨hx, ?_⟩) (hb.frame (· ∈ p ++ [])), fun h => by cases h⟩
  · rw [hr, hf]
    exact trodAll_mk1 (shut_bool htb true)
  · rw [hr]
    exact reads_again hl hb _ _ _ _ hts hA (fun x hx => hlt x (List.mem_append_left _ hx))
  · rw [hr, hs]
    exact rfl
  · rw [List.append_nil] at hx
    exact Or.inr (Or.inl hx)
end

theorem add_at (b o i : Nat) : (⟨b, o, none⟩ : Addr).add i = ⟨b, o + i, none⟩ := by
  unfold Addr.add
  by_cases h : i = 0
  · subst h; rfl
  · rw [if_neg h]
set_option maxRecDepth 100000
theorem list_of {p : Nat → L.Ace → Prop} : ∀ n : Nat, (∀ i, i < n → ∃ a, p i a) → ∃ l : List L.Ace, l.length = n ∧ ∀ i, i < n → p i (L.ax l i)
  | 0, _ => ⟨[], rfl, fun _ h => absurd h (by omega)⟩
  | n + 1, h => by
    obtain ⟨l, hl, hp⟩ := list_of n fun i hi => h i (by omega)
    obtain ⟨a, ha⟩ := h n (by omega)
    refine ⟨l ++ [a], by simp [hl], fun i hi => ?_⟩
    by_cases e : i = n
    · subst e
      unfold L.ax
      rw [List.getElem?_append_right (by omega)]
      simpa [hl] using ha
    · have := hp i (by omega)
      unfold L.ax at this ⊢
      rwa [List.getElem?_append_left (by omega)]

section
variable {H : Type} {enc : TypeId × Value → H} {W : World} {held : Bool}
theorem open_aces {fuel : Nat} {cs : List Value} {x : DataW H × List MemPlace} (h : DataW.trod enc Tryz.prog W 0 (fun _ => true) held fuel 23 cs = some x) (hlt : ∀ p ∈ x.2, p.block < W.heap.size) :
    ∃ A n c l, cs = [.slice A n c] ∧ Aces W W.heap.size A n l ∧ n ≤ maxLen := by
  rcases open_slice Tryz.underlying23 h with ⟨hc, _⟩ | ⟨a, len, cap, m, fu, D, Pl, hc, _, hle, hcap, hm, hx, hat⟩
  · exact ⟨none, 0, 0, [], hc, ⟨rfl, fun h => absurd h (by omega)⟩, Nat.zero_le _⟩
  · have hm' : m = cap := by simpa using hm
    subst hm'
    have hC : Tryz.prog.cellsOf 37 = 4 := by kernel_rfl
    have hcell : ∀ i, i < len → ∃ e : L.Ace, W.cell? (a.add (i * 4)) = some (.int .i64 e.k) ∧ W.cell? ((a.add (i * 4)).add 1) = some (.int .i64 e.f) ∧
        W.cell? ((a.add (i * 4)).add 2) = some (.int .i64 e.m) ∧ W.cell? ((a.add (i * 4)).add 3) = some (.int .i64 e.w) := by
      intro i hi
      obtain ⟨cs', hcs, ht⟩ := hat i (by omega)
      rw [hC] at hcs
      obtain ⟨_, hl, hcl⟩ := World.cells?_some hcs
      obtain ⟨xs, n, _, _, _, hxl, hf⟩ := DataW.trod_struct Tryz.underlying37 ht
      match cs', hl with
      | [c0, c1, c2, c3], _ =>
        have h0 : DataW.trod enc Tryz.prog W 0 (fun _ => true) held n 3 (List.take (Tryz.prog.cellsOf 3) (List.drop 0 [c0, c1, c2, c3])) = xs[0]? := hf 0 _ rfl
        have h1 : DataW.trod enc Tryz.prog W 0 (fun _ => true) held n 3 (List.take (Tryz.prog.cellsOf 3) (List.drop 1 [c0, c1, c2, c3])) = xs[1]? := hf 1 _ rfl
        have h2 : DataW.trod enc Tryz.prog W 0 (fun _ => true) held n 3 (List.take (Tryz.prog.cellsOf 3) (List.drop 2 [c0, c1, c2, c3])) = xs[2]? := hf 2 _ rfl
        have h3 : DataW.trod enc Tryz.prog W 0 (fun _ => true) held n 3 (List.take (Tryz.prog.cellsOf 3) (List.drop 3 [c0, c1, c2, c3])) = xs[3]? := hf 3 _ rfl
        have hC1 : Tryz.prog.cellsOf 3 = 1 := by kernel_rfl
        rw [hC1] at h0 h1 h2 h3
        match xs, hxl with
        | [y0, y1, y2, y3], _ =>
          obtain ⟨n0, e0, _, _⟩ := DataW.trod_int Tryz.underlying3 (x := y0) h0
          obtain ⟨n1, e1, _, _⟩ := DataW.trod_int Tryz.underlying3 (x := y1) h1
          obtain ⟨n2, e2, _, _⟩ := DataW.trod_int Tryz.underlying3 (x := y2) h2
          obtain ⟨n3, e3, _, _⟩ := DataW.trod_int Tryz.underlying3 (x := y3) h3
          simp at e0 e1 e2 e3
          subst e0 e1 e2 e3
          refine ⟨⟨n0, n1, n2, n3⟩, ?_, hcl 1 (by omega), hcl 2 (by omega), hcl 3 (by omega)⟩
          have := hcl 0 (by omega)
          simpa [Addr.add] using this
    obtain ⟨l, hl, hp⟩ := list_of len hcell
    refine ⟨some a, len, m, l, hc, ⟨hl.symm, fun hn => ?_⟩, by omega⟩
    have hs : a.spot = none := by
      have := World.cell?_spot (hp 0 hn).1
      simpa [Addr.add] using this
    obtain ⟨b, o, sp⟩ := a
    simp only at hs
    subst hs
    refine ⟨b, o, rfl, ?_, fun k hk => ?_⟩
    · have : MemPlace.cell b o ∈ x.2 := by
        rw [hx]
        refine List.mem_append_left _ ?_
        rw [hC]
        exact List.mem_map.2 ⟨0, by simp; omega, rfl⟩
      exact hlt _ this
    · have hh := hp k hk
      simp only [add_at] at hh
      exact hh

theorem open_acesV {v : Value} {d : DataW H} {p : List MemPlace} {r : Reach} {b0 : Nat} (hv : Value.okWide Tryz.prog W r b0 23 v) (h : DataW.Trod enc Tryz.prog W 0 (fun _ => true) held 23 v d p) (hlt : ∀ x ∈ p, x.block < W.heap.size) :
    ∃ A n c l, v = .slice A n c ∧ Aces W W.heap.size A n l ∧ n ≤ maxLen := by
  obtain ⟨a, len, cap, rfl⟩ := okWide_slice Tryz.underlying23 hv
  obtain ⟨fuel, hf⟩ := h
  obtain ⟨A, n, c, l, hc, hA, hm⟩ := open_aces hf hlt
  simp [Value.cells] at hc
  obtain ⟨rfl, rfl, rfl⟩ := hc
  exact ⟨_, _, _, l, rfl, hA, hm⟩

theorem open_aceV {v : Value} {d : DataW H} {p : List MemPlace} {r : Reach} {b0 : Nat} (hv : Value.okWide Tryz.prog W r b0 37 v) (h : DataW.Trod enc Tryz.prog W 0 (fun _ => true) held 37 v d p) :
    ∃ k f m w : Int, v = .agg #[.int .i64 k, .int .i64 f, .int .i64 m, .int .i64 w] := by
  obtain ⟨cs, rfl, hsz⟩ := okWide_struct Tryz.underlying37 hv
  obtain ⟨fuel, hf⟩ := h
  obtain ⟨xs, n, _, _, _, hxl, hg⟩ := DataW.trod_struct Tryz.underlying37 hf
  have hC : Tryz.prog.cellsOf 37 = 4 := by kernel_rfl
  have hC1 : Tryz.prog.cellsOf 3 = 1 := by kernel_rfl
  rw [hC] at hsz
  obtain ⟨l⟩ := cs
  match l, hsz, xs, hxl with
  | [c0, c1, c2, c3], _, [y0, y1, y2, y3], _ =>
    have h0 : DataW.trod enc Tryz.prog W 0 (fun _ => true) held n 3 (List.take (Tryz.prog.cellsOf 3) (List.drop 0 [c0, c1, c2, c3])) = some y0 := hg 0 _ rfl
    have h1 : DataW.trod enc Tryz.prog W 0 (fun _ => true) held n 3 (List.take (Tryz.prog.cellsOf 3) (List.drop 1 [c0, c1, c2, c3])) = some y1 := hg 1 _ rfl
    have h2 : DataW.trod enc Tryz.prog W 0 (fun _ => true) held n 3 (List.take (Tryz.prog.cellsOf 3) (List.drop 2 [c0, c1, c2, c3])) = some y2 := hg 2 _ rfl
    have h3 : DataW.trod enc Tryz.prog W 0 (fun _ => true) held n 3 (List.take (Tryz.prog.cellsOf 3) (List.drop 3 [c0, c1, c2, c3])) = some y3 := hg 3 _ rfl
    rw [hC1] at h0 h1 h2 h3
    obtain ⟨n0, e0, _, _⟩ := DataW.trod_int Tryz.underlying3 (x := y0) h0
    obtain ⟨n1, e1, _, _⟩ := DataW.trod_int Tryz.underlying3 (x := y1) h1
    obtain ⟨n2, e2, _, _⟩ := DataW.trod_int Tryz.underlying3 (x := y2) h2
    obtain ⟨n3, e3, _, _⟩ := DataW.trod_int Tryz.underlying3 (x := y3) h3
    simp at e0 e1 e2 e3
    subst e0 e1 e2 e3
    exact ⟨n0, n1, n2, n3, rfl⟩

theorem open_descV {v : Value} {d : DataW H} {p : List MemPlace} {r : Reach} {b0 : Nat} (hv : Value.okWide Tryz.prog W r b0 25 v) (h : DataW.Trod enc Tryz.prog W 0 (fun _ => true) held 25 v d p) (hlt : ∀ x ∈ p, x.block < W.heap.size) :
    ∃ (A1 A2 : Option Addr) (n1 n2 c1 c2 : Nat) (D : L.Desc), v = .agg #[.int .i64 D.o, .int .i64 D.g, .bool D.p, .bool D.h, .slice A1 n1 c1, .slice A2 n2 c2] ∧ Aces W W.heap.size A1 n1 D.e ∧ Aces W W.heap.size A2 n2 D.a ∧ n1 ≤ maxLen ∧ n2 ≤ maxLen := by
  obtain ⟨cs, rfl, hsz⟩ := okWide_struct Tryz.underlying25 hv
  obtain ⟨fuel, hf⟩ := h
  obtain ⟨xs, n, _, hx, _, hxl, hg⟩ := DataW.trod_struct Tryz.underlying25 hf
  have hC : Tryz.prog.cellsOf 25 = 6 := by kernel_rfl
  have hC1 : Tryz.prog.cellsOf 3 = 1 := by kernel_rfl
  have hC2 : Tryz.prog.cellsOf 4 = 1 := by kernel_rfl
  have hC3 : Tryz.prog.cellsOf 23 = 1 := by kernel_rfl
  rw [hC] at hsz
  obtain ⟨l⟩ := cs
  match l, hsz, xs, hxl with
  | [c0, c1, c2, c3, c4, c5], _, [y0, y1, y2, y3, y4, y5], _ =>
    simp only [Prod.mk.injEq] at hx
    have hp := hx.2
    have h0 : DataW.trod enc Tryz.prog W 0 (fun _ => true) held n 3 (List.take (Tryz.prog.cellsOf 3) (List.drop 0 [c0, c1, c2, c3, c4, c5])) = some y0 := hg 0 _ rfl
    have h1 : DataW.trod enc Tryz.prog W 0 (fun _ => true) held n 3 (List.take (Tryz.prog.cellsOf 3) (List.drop 1 [c0, c1, c2, c3, c4, c5])) = some y1 := hg 1 _ rfl
    have h2 : DataW.trod enc Tryz.prog W 0 (fun _ => true) held n 4 (List.take (Tryz.prog.cellsOf 4) (List.drop 2 [c0, c1, c2, c3, c4, c5])) = some y2 := hg 2 _ rfl
    have h3 : DataW.trod enc Tryz.prog W 0 (fun _ => true) held n 4 (List.take (Tryz.prog.cellsOf 4) (List.drop 3 [c0, c1, c2, c3, c4, c5])) = some y3 := hg 3 _ rfl
    have h4 : DataW.trod enc Tryz.prog W 0 (fun _ => true) held n 23 (List.take (Tryz.prog.cellsOf 23) (List.drop 4 [c0, c1, c2, c3, c4, c5])) = some y4 := hg 4 _ rfl
    have h5 : DataW.trod enc Tryz.prog W 0 (fun _ => true) held n 23 (List.take (Tryz.prog.cellsOf 23) (List.drop 5 [c0, c1, c2, c3, c4, c5])) = some y5 := hg 5 _ rfl
    rw [hC1] at h0 h1
    rw [hC2] at h2 h3
    rw [hC3] at h4 h5
    obtain ⟨n0, e0, _, _⟩ := DataW.trod_int Tryz.underlying3 (x := y0) h0
    obtain ⟨n1, e1, _, _⟩ := DataW.trod_int Tryz.underlying3 (x := y1) h1
    obtain ⟨b2, e2, _⟩ := DataW.trod_bool Tryz.underlying4 (x := y2) h2
    obtain ⟨b3, e3, _⟩ := DataW.trod_bool Tryz.underlying4 (x := y3) h3
    obtain ⟨A4, n4, k4, l4, e4, ha4, hm4⟩ := open_aces (x := y4) h4 (fun x hx => hlt x (by rw [hp]; simp [hx]))
    obtain ⟨A5, n5, k5, l5, e5, ha5, hm5⟩ := open_aces (x := y5) h5 (fun x hx => hlt x (by rw [hp]; simp [hx]))
    simp at e0 e1 e2 e3 e4 e5
    subst e0 e1 e2 e3 e4 e5
    exact ⟨A4, A5, n4, n5, k4, k5, ⟨n0, n1, b2, b3, l4, l5⟩, rfl, ha4, ha5, hm4, hm5⟩
end
end Go.Proofs.YtppjhccdgbheiaaGreatDoor
namespace Go.Proofs.YtppjhccdgbheiaaGreatDoor
open Go.RowKit Go.Hp
namespace L
theorem isIdentity_who (n : Int) : isIdentity n = isWho n := by
  unfold isIdentity isWho isUser; rfl
theorem aErr_eq (a : Ace) : aErr a = rErr a := by
  unfold aErr rErr aceErr rAceErr
  rw [isIdentity_who]
  cases within a.k 0 2 <;> cases within a.f 0 31 <;> cases within a.m 1 511 <;> cases isWho a.w <;> rfl
theorem isHolder_eq (n : Int) : isHolder n = rHolder n := by
  rw [Bool.eq_iff_iff]
  simp [isHolder, rHolder, isIdentity, isUser, isCreator, within]
  omega
theorem holders_eq (o g : Int) : holdersErr o g = rPairErr o g := by
  unfold holdersErr rPairErr
  rw [isHolder_eq, isHolder_eq]
  cases rHolder o <;> cases rHolder g <;> rfl
theorem each_snd (E : Ace → Int) : ∀ (l : List Ace) (i : Nat), (each (fun _ a => E a) i l).2 = firstErr (l.map E)
  | [], _ => rfl
  | a :: l, i => by
    unfold each
    have ih := each_snd E l (i + 1)
    by_cases h : E a = 0
    · rw [if_pos h, ih]
      unfold firstErr
      rw [List.map_cons, List.find?_cons_of_neg (by simp [h])]
    · rw [if_neg h]
      unfold firstErr
      rw [List.map_cons, List.find?_cons_of_pos (by simp [h])]
      rfl
theorem acesErr_eq (l : List Ace) : acesErr l = rAcesErr l := by
  unfold acesErr rAcesErr
  split
  · rfl
  · rw [each_snd]
    have : (aErr : Ace → Int) = rErr := funext aErr_eq
    rw [this]
theorem audit_eq (n i : Nat) (a : Ace) : auditErr n i a = rAuditErr n i a := by
  unfold auditErr rAuditErr
  rw [aErr_eq]
  unfold firstErr unles
  by_cases h : rErr a = 0
  · simp [h]
    split <;> simp_all
  · simp [h]
theorem Desc.err_eq (d : Desc) : d.err = d.rErrs := by
  have haud : (fun i a => auditErr d.e.length i a) = fun i a => rAuditErr d.e.length i a := funext fun i => funext fun a => audit_eq _ _ _
  unfold Desc.err Desc.rErrs Desc.headErr
  rw [holders_eq, haud]
  by_cases h0 : rPairErr d.o d.g = 0
  · rw [if_pos h0, h0]
    by_cases h1 : 16 < d.e.length ∨ 16 < d.a.length
    · rw [if_pos h1]
      have : decide (max d.e.length d.a.length ≤ 16) = false := by simp; omega
      rw [this]
      simp [firstErr, unles]
    · rw [if_neg h1]
      have : decide (max d.e.length d.a.length ≤ 16) = true := by simp; omega
      rw [this]
      by_cases h2 : 0 < d.e.length ∧ d.h = false
      · rw [if_pos h2]
        have : (d.h || decide (d.e.length = 0)) = false := by rw [h2.2]; simp; intro h; rw [h] at h2; simp at h2
        rw [this]
        simp [firstErr, unles]
      · rw [if_neg h2]
        have : (d.h || decide (d.e.length = 0)) = true := by
          cases hh : d.h with
          | true => rfl
          | false =>
            have : ¬ 0 < d.e.length := fun h => h2 ⟨h, hh⟩
            simp; exact List.eq_nil_of_length_eq_zero (by omega)
        rw [this]
        simp [firstErr, unles]
  · rw [if_neg h0]
    have : firstErr [rPairErr d.o d.g, unles (decide (max d.e.length d.a.length ≤ 16)) 8, unles (d.h || decide (d.e.length = 0)) 3] = rPairErr d.o d.g := by
      unfold firstErr
      rw [List.find?_cons_of_pos (by simpa using h0)]; rfl
    rw [this, if_neg h0]
theorem hflags_eq : ∀ (dir : Bool) (f : Fin 32), hflags dir ((f.val : Nat) : Int) =
    (match dir, has ((f.val : Nat) : Int) 1, has ((f.val : Nat) : Int) 2, has ((f.val : Nat) : Int) 4 with
     | false, fi, _, _ => (16, fi)
     | true, _, true, true => (16, true)
     | true, fi, true, false => (16 + onOf fi true false, true)
     | true, true, false, false => (25, true)
     | true, _, false, _ => (0, false)) := by decide +kernel
theorem hflags_at (dir : Bool) {f : Int} (h0 : 0 ≤ f) (h1 : f ≤ 31) : hflags dir f =
    (match dir, has f 1, has f 2, has f 4 with
     | false, fi, _, _ => (16, fi)
     | true, _, true, true => (16, true)
     | true, fi, true, false => (16 + onOf fi true false, true)
     | true, true, false, false => (25, true)
     | true, _, false, _ => (0, false)) := by
  have := hflags_eq dir ⟨f.toNat, by omega⟩
  simpa only [Int.toNat_of_nonneg h0] using this
theorem inherit_eq (dir : Bool) {o g : Int} {a : Ace} (h0 : 0 ≤ a.f) (h1 : a.f ≤ 31) (ho : o ≠ 2 ∧ o ≠ 3) (hg : g ≠ 2 ∧ g ≠ 3) : inherit dir o g a = rInherit dir o g a := by
  unfold inherit rInherit
  rw [hflags_at dir h0 h1]
  have e1 : band 16 8 = 0 := by decide +kernel
  have e2 : band 17 8 = 0 := by decide +kernel
  have e3 : band 18 8 = 0 := by decide +kernel
  have e4 : band 19 8 = 0 := by decide +kernel
  have e5 : band 25 8 = 8 := by decide +kernel
  have e6 : bor 18 8 = 26 := by decide +kernel
  have e7 : bor 19 8 = 27 := by decide +kernel
  by_cases c2 : a.w = 2
  · have : isCreator a.w = true := by rw [c2]; rfl
    cases dir <;> cases has a.f 1 <;> cases has a.f 2 <;> cases has a.f 4 <;> simp_all [inh1, onOf, holder]
  · by_cases c3 : a.w = 3
    · have : isCreator a.w = true := by rw [c3]; rfl
      cases dir <;> cases has a.f 1 <;> cases has a.f 2 <;> cases has a.f 4 <;> simp_all [inh1, onOf, holder]
    · have : isCreator a.w = false := by simp [isCreator, c2, c3]
      cases dir <;> cases has a.f 1 <;> cases has a.f 2 <;> cases has a.f 4 <;> simp_all [inh1, onOf, holder]
theorem inherited_eq (dir : Bool) {o g : Int} (ho : o ≠ 2 ∧ o ≠ 3) (hg : g ≠ 2 ∧ g ≠ 3) : ∀ {l : List Ace}, (∀ a ∈ l, 0 ≤ a.f ∧ a.f ≤ 31) → inheritedOf dir o g l = rInherited dir o g l
  | [], _ => rfl
  | a :: l, h => by
    have ih := inherited_eq dir ho hg (l := l) fun x hx => h x (List.mem_cons_of_mem _ hx)
    have ha := h a (List.mem_cons_self ..)
    unfold inheritedOf rInherited at *
    rw [List.flatMap_cons, List.flatMap_cons, ih, inherit_eq dir ha.1 ha.2 ho hg]
theorem rHolder_ne {n : Int} (h : rHolder n = true) : n ≠ 2 ∧ n ≠ 3 := by
  simp [rHolder, isUser, within] at h
  omega
theorem pair_ne {o g : Int} (h : rPairErr o g = 0) : (o ≠ 2 ∧ o ≠ 3) ∧ (g ≠ 2 ∧ g ≠ 3) := by
  unfold rPairErr at h
  cases h1 : rHolder o with
  | false => rw [h1] at h; simp at h
  | true =>
    cases h2 : rHolder g with
    | false => rw [h1, h2] at h; simp at h
    | true => exact ⟨rHolder_ne h1, rHolder_ne h2⟩
end L
end Go.Proofs.YtppjhccdgbheiaaGreatDoor
