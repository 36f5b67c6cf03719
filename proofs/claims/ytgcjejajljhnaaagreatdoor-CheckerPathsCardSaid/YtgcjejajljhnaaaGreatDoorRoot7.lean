/- Own text, part Root 7: walks of the package acl and of its reference, and the plain laws that they lean on; no statement of the seat is here. -/
import Derived.Test.YtgcjejajljhnaaaGreatDoorRoot6
import Derived.Test.YtgcjejajljhnaaaGreatDoorRoot5
import Derived.Test.YtgcjejajljhnaaaGreatDoorRoot2
import Derived.HandedShaped
import Derived.Handed
import Derived.Stop.LaidErr
import Derived.MakeChecks
import Derived.Stop.Joined
import Derived.Test.YtgcjejajljhnaaaGreatDoorProg
import Derived.ProofKit
import Derived.LaidMore
import Derived.OpenShut
import Derived.Deep.Slices
import Derived.Below
import Derived.Test.YtgcjejajljhnaaaGreatDoorRoot1
set_option linter.all false
namespace Go.Proofs.YtgcjejajljhnaaaGreatDoor
open Go.Ex Ck
set_option maxRecDepth 100000
set_option maxHeartbeats 400000
theorem flat_nil {n : Nat} {f : Nat → List AV} (h : n = 0) : (List.range n).flatMap f = [] := by subst h; rfl
theorem storeC_nil {s s' : St} {b off : Nat} {cs : List AV} (h : cs = []) (h2 : storeC s b off [] = .ok s') : storeC s b off cs = .ok s' := by subst h; exact h2
theorem contL_flatM {α : Type} {enc : α → List AV} (he : ∀ x, cont.contL (enc x) = true) (l : List α) : cont.contL (l.flatMap enc) = true := contL_flat he l
set_option maxHeartbeats 4000000
theorem rOwn_k (v : Pt) (i : Int) (hn : v.rs.length ≤ 100000) : Ex.PureC Tryz.prog 73 [aPts v, ib i] (bb (wi i 0 (v.rs.length - 1) && Ck.own (Ck.rc v i))) := by
  refine Ex.PureC.of kmix rfl ?_
  cases h : wi i 0 (v.rs.length - 1)
  · (conv => whnf); (repeat (first | (refine Ex.KIf.f ?_ ?_; assumption; conv => whnf) | (refine Ex.KIf.f rfl ?_; conv => whnf) | (refine Ex.Need.mk ?_ ?_; ((constructor <;> omega)); conv => whnf) | ((refine Ex.KCall.pure (bwithin_k _ _ _) ?_); conv => whnf)))
    (refine .z [] ?_; conv => whnf); (repeat' (exact rfl)) <;> (try (conv => whnf)) <;> (repeat' (fail)) <;> (fail)
  · have h2 : 0 ≤ i ∧ i < v.rs.length := by simp [wi] at h; omega
    unfold Ck.own
    cases hu : (Ck.rc v i).u
    · have hu' : (at_ Rc.o v.rs i.toNat).u = false := hu
      (conv => whnf); (repeat (first | (refine Ex.KIf.t ?_ ?_; assumption; conv => whnf) | (refine Ex.KIf.f ?_ ?_; assumption; conv => whnf) | (refine Ex.Need.mk ?_ ?_; (first | trivial | (constructor <;> omega)); conv => whnf) | ((refine Ex.KCall.pure (bwithin_k _ _ _) ?_); conv => whnf)))
      (refine .z [] ?_; conv => whnf); (repeat' (exact rfl)) <;> (try (conv => whnf)) <;> (repeat' (fail)) <;> (fail)
    · have hu' : (at_ Rc.o v.rs i.toNat).u = true := hu
      (conv => whnf); (repeat (first | (refine Ex.KIf.t ?_ ?_; assumption; conv => whnf) | (refine Ex.Need.mk ?_ ?_; (first | trivial | (constructor <;> omega)); conv => whnf) | ((refine Ex.KCall.pure (bwithin_k _ _ _) ?_); conv => whnf)))
      (refine .z [] ?_; conv => whnf); (repeat' (exact rfl)) <;> (try (conv => whnf)) <;> (repeat' (fail)) <;> (fail)
theorem CopyRuns_k (l : List Run) (hl : l.length ≤ 100000) : Ex.PureC Tryz.prog 48 [LS 2 aRun Run.o l] (LS 2 aRun Run.o l) := by
  refine Ex.PureC.of kmix rfl ?_
  by_cases h0 : l.length = 0
  · obtain rfl : l = [] := List.eq_nil_of_length_eq_zero h0
    (conv => whnf); (repeat (first | (refine Ex.KIf.t rfl ?_; conv => whnf) | (refine Ex.Need.mk ?_ ?_; (trivial); conv => whnf)))
    refine .z [0] ?_
    exact Wz.ownS rfl (by simp) rfl (Nat.le_refl _) (fun i hi => absurd hi (Nat.not_lt_zero _)) rfl (fun i hi => absurd hi (Nat.not_lt_zero _))
  · have hb : Nat.ble (0 + l.length) 0 = false := by cases h : Nat.ble (0 + l.length) 0 with | false => rfl | true => have := Nat.le_of_ble_eq_true h; omega
    (conv => whnf); (repeat (first | (refine Ex.KIf.f ?_ ?_; assumption; conv => whnf) | (refine Ex.Need.mk ?_ ?_; (omega); conv => whnf) | (refine Ex.Need.mk (fun _ _ => rfl) ?_; conv => whnf)))
    refine .z [1] ?_
    exact Wz.list (fun _ => rfl) (fun _ => rfl) rfl (by simp) (Nat.zero_add _) (by exact flat_range aRun Run.o l)
theorem CopyInts_k (l : List Int) (hl : l.length ≤ 100000) : Ex.PureC Tryz.prog 49 [LS 1 aI 0 l] (LS 1 aI 0 l) := by
  refine Ex.PureC.of kmix rfl ?_
  by_cases h0 : l.length = 0
  · obtain rfl : l = [] := List.eq_nil_of_length_eq_zero h0
    (conv => whnf); (repeat (first | (refine Ex.KIf.t rfl ?_; conv => whnf) | (refine Ex.Need.mk ?_ ?_; (trivial); conv => whnf)))
    refine .z [0] ?_
    exact Wz.ownS rfl (by simp) rfl (Nat.le_refl _) (fun i hi => absurd hi (Nat.not_lt_zero _)) rfl (fun i hi => absurd hi (Nat.not_lt_zero _))
  · have hb : Nat.ble (0 + l.length) 0 = false := by cases h : Nat.ble (0 + l.length) 0 with | false => rfl | true => have := Nat.le_of_ble_eq_true h; omega
    (conv => whnf); (repeat (first | (refine Ex.KIf.f ?_ ?_; assumption; conv => whnf) | (refine Ex.Need.mk ?_ ?_; (omega); conv => whnf) | (refine Ex.Need.mk (fun _ _ => rfl) ?_; conv => whnf)))
    refine .z [1] ?_
    exact Wz.list (fun _ => rfl) (fun _ => rfl) rfl (by simp) (Nat.zero_add _) (by exact flat_range aI 0 l)
structure Fit' (v : Pt) : Prop where
  al : v.al.length ≤ 100000
  rs : v.rs.length ≤ 100000
  ds : v.ds.length ≤ 100000
  ns : ∀ x ∈ v.rs, x.ns.length ≤ 100000
  ss : ∀ x ∈ v.rs, x.ss.length ≤ 100000
  es : ∀ x ∈ v.rs, x.es.length ≤ 100000
  rr : ∀ x ∈ v.rs, ∀ y ∈ x.ss, y.r.length ≤ 100000
theorem Copy_k (v : Pt) (hf : Fit' v) : Ex.PureC Tryz.prog 13 [aPts v] (aPts v) := by
  refine Ex.PureC.of kmix rfl ?_
  have h1 := hf.al
  have h2 := hf.rs
  have h3 := hf.ds
  (conv => whnf); (repeat (first | ((refine Ex.KCall.pure (CopyRuns_k v.al hf.al) ?_); conv => whnf) | ((refine Ex.KCall.pure (CopyInts_k v.ds hf.ds) ?_); conv => whnf)))
  refine WLoop.inv kmix (D := Nat) (fun d => v.rs.length - d) (fun d => d ≤ v.rs.length)
    (fun d => slots [(1, .ptr 0 0), (2, .ptr 1 0), (3, .ptr 2 0), (4, ib d)] 79)
    (fun d => heapOf (match d with
      | 0 => [.row (aPt v) 26 0, .row [ib 0, .sc (.slice none 0 0), .sc (.slice none 0 0), .sc (.slice none 0 0), tb []] 26 0, .row [ib v.c, LS 2 aRun Run.o v.al, .sc (.slice none 0 0), LS 1 aI 0 v.ds, tb v.mp] 26 0]
      | k + 1 => [.row (aPt v) 26 0, .row [ib 0, .sc (.slice none 0 0), .sc (.slice none 0 0), .sc (.slice none 0 0), tb []] 26 0, .row [ib v.c, LS 2 aRun Run.o v.al, .so 3 0 (k + 1) 0, LS 1 aI 0 v.ds, tb v.mp] 26 0, .row ((v.rs.take (k + 1)).flatMap aRc) 66 10])) 0 (Nat.zero_le _) ?_ ?_
  · (refine Ex.Weak.of [0, 1, 2] [] rfl rfl ?_ ?_ <;> (repeat' (first | exact True.intro | refine And.intro ?_ ?_)) <;> (conv => whnf) <;> (repeat' (exact rfl)) <;> ((exact Or.inr ⟨rfl, rfl⟩)))
  · intro d hd
    cases d with
      | zero =>
        conv => whnf
        refine KIf.dec (fun h => ?_) (fun h => ?_)
        · have hlt : 0 < v.rs.length := by omega
          have hm : (at_ Rc.o v.rs 0) ∈ v.rs := at_mem Rc.o v.rs 0 hlt
          have h4 := hf.ns _ hm
          have h5 := hf.es _ hm
          have h6 := hf.ss _ hm
          have e0 : (↑(0 : Nat) : Int).toNat = 0 := rfl
          by_cases hn : (at_ Rc.o v.rs 0).ns.length = 0
          · have hb : (at_ Rc.o v.rs 0).ns = [] := List.eq_nil_of_length_eq_zero hn
            have hc : Nat.ble (0 + (at_ Rc.o v.rs 0).ns.length) 0 = true := by rw [hb]; rfl
            by_cases he : (at_ Rc.o v.rs 0).es.length = 0
            · have hb2 : (at_ Rc.o v.rs 0).es = [] := List.eq_nil_of_length_eq_zero he
              have hc2 : Nat.ble (0 + (at_ Rc.o v.rs 0).es.length) 0 = true := by rw [hb2]; rfl
              (conv => whnf); (repeat (first | (refine Ex.KIf.t ?_ ?_; assumption; conv => whnf) | (refine Ex.Need.mk ?_ ?_; (first | trivial | (simp only [Int.toNat_natCast]; (omega))); conv => whnf) | (refine RK.of (storeC_nil (flat_nil hn) rfl) ?_; conv => whnf) | (refine RK.of (storeC_nil (flat_nil he) rfl) ?_; conv => whnf)))
              refine WLoop.inv kmix (D := Nat) (fun m => (at_ Rc.o v.rs 0).ss.length - m) (fun m => m ≤ (at_ Rc.o v.rs 0).ss.length)
                (fun m => slots [(1, .ptr 0 0), (2, .ptr 1 0), (3, .ptr 2 0), (4, ib (0 : Nat)), (5, .ptr 3 0), (6, ib m)] 79)
                (fun m => heapOf (match m with
                  | 0 => [.row (aPt v) 26 0, .row [ib 0, .sc (.slice none 0 0), .sc (.slice none 0 0), .sc (.slice none 0 0), tb []] 26 0, .row [ib v.c, LS 2 aRun Run.o v.al, .sc (.slice none 0 0), LS 1 aI 0 v.ds, tb v.mp] 26 0, .row [bb (at_ Rc.o v.rs 0).u, ib (at_ Rc.o v.rs 0).q, ib (at_ Rc.o v.rs 0).k, ib (at_ Rc.o v.rs 0).b.r, ib (at_ Rc.o v.rs 0).b.q, ib (at_ Rc.o v.rs 0).ln, ib (at_ Rc.o v.rs 0).ds, LS 3 aNm Nm.o (at_ Rc.o v.rs 0).ns, .sc (.slice none 0 0), LS 4 aEn En.o (at_ Rc.o v.rs 0).es] 66 0]
                  | m + 1 => [.row (aPt v) 26 0, .row [ib 0, .sc (.slice none 0 0), .sc (.slice none 0 0), .sc (.slice none 0 0), tb []] 26 0, .row [ib v.c, LS 2 aRun Run.o v.al, .sc (.slice none 0 0), LS 1 aI 0 v.ds, tb v.mp] 26 0, .row [bb (at_ Rc.o v.rs 0).u, ib (at_ Rc.o v.rs 0).q, ib (at_ Rc.o v.rs 0).k, ib (at_ Rc.o v.rs 0).b.r, ib (at_ Rc.o v.rs 0).b.q, ib (at_ Rc.o v.rs 0).ln, ib (at_ Rc.o v.rs 0).ds, LS 3 aNm Nm.o (at_ Rc.o v.rs 0).ns, .so 4 0 (m + 1) 0, LS 4 aEn En.o (at_ Rc.o v.rs 0).es] 66 0, .row (((at_ Rc.o v.rs 0).ss.take (m + 1)).flatMap aSm) 80 2])) 0 (Nat.zero_le _) ?_ ?_
              · refine Weak.of [0, 1, 2, 3] [4, 5] rfl rfl ?_ ?_
                · (repeat' (first | exact True.intro | refine And.intro ?_ ?_)) <;> (first | exact rfl | (first | exact Or.inr ⟨rfl, rfl⟩ | (refine Or.inl ⟨rfl, ?_⟩; (repeat' (first | exact True.intro | exact (by first | exact Wv.mt hb (Nat.zero_add _) rfl (by simp) | exact Wv.mt hb2 (Nat.zero_add _) rfl (by simp)) | exact rfl | refine And.intro ?_ ?_)) <;> (try (conv => whnf)) <;> (repeat' (fail)) <;> (fail))))
                · (repeat' (first | exact True.intro | exact rfl | refine And.intro ?_ ?_)) <;> (try (conv => whnf)) <;> (repeat' (fail))
              · clear hn he hb hb2
                intro m hm2
                cases m with
                | zero =>
                  (conv => whnf); (repeat ((refine Ex.Need.mk ?_ ?_; (trivial); conv => whnf)))
                  refine KIf.dec (fun hm3 => ?_) (fun hm3 => ?_)
                  · have hm4 : 0 < (at_ Rc.o v.rs 0).ss.length := by simp only [Int.toNat_natCast] at hm3; omega
                    have h7 := hf.rr _ hm _ (at_mem Sm.o _ 0 hm4)
                    (conv => whnf); (repeat (first | (refine Ex.NCase.s (Nat.succ_ne_zero _) ?_; conv => whnf) | (refine Ex.Need.mk (p := Ex.okDraw _ = true) ?_ ?_; decide +kernel; conv => whnf) | (refine Ex.Need.mk ?_ ?_; (first | trivial | omega); conv => whnf) | ((refine Ex.DCall.pure (CopyRuns_k _ h7) ?_); conv => whnf)))
                    refine ⟨1, by omega, by dsimp only; omega, ?_⟩
                    refine Weak.of [0, 1, 2, 3, 6] [] rfl rfl ?_ ?_
                    · (repeat' (first | exact True.intro | refine And.intro ?_ ?_)) <;> (first | exact rfl | exact WRow.snoc (l := []) (x := aSm (at_ Sm.o (at_ Rc.o v.rs 0).ss 0)) (take_gd aSm Sm.o (at_ Rc.o v.rs 0).ss 0 hm4) rfl rfl (Wvl_refl rfl) | (first | exact Or.inr ⟨rfl, rfl⟩ | (refine Or.inl ⟨rfl, ?_⟩; (repeat' (first | exact True.intro | exact rfl | refine And.intro ?_ ?_)) <;> (try (conv => whnf)) <;> (repeat' (fail)) <;> ((intro _ _; rfl)))))
                    · (repeat' (first | exact True.intro | exact rfl | refine And.intro ?_ ?_)) <;> (try (conv => whnf)) <;> (repeat' (fail))
                  · have hm4 : 0 = (at_ Rc.o v.rs 0).ss.length := by simp only [Int.toNat_natCast] at hm3; omega
                    (conv => whnf); (repeat (first | (refine Ex.NCase.s (Nat.succ_ne_zero _) ?_; conv => whnf) | (refine Ex.Need.mk ?_ ?_; (first | trivial | omega); conv => whnf)))
                    refine ⟨1, hlt, by dsimp only; omega, ?_⟩
                    refine Weak.of [0, 1, 2, 5] [] rfl rfl ?_ ?_
                    · (repeat' (first | exact True.intro | refine And.intro ?_ ?_)) <;> (first | exact rfl | exact WRow.snoc (l := []) (x := aRc (at_ Rc.o v.rs 0)) (take_gd aRc Rc.o v.rs 0 hlt) rfl rfl (by (repeat' (first | exact True.intro | exact Wv_refl rfl | exact Wv.nil (List.eq_nil_of_length_eq_zero hm4.symm) | refine And.intro ?_ ?_))) | (first | exact Or.inr ⟨rfl, rfl⟩ | (refine Or.inl ⟨rfl, ?_⟩; (repeat' (first | exact True.intro | exact rfl | refine And.intro ?_ ?_)) <;> (try (conv => whnf)) <;> (repeat' (fail)) <;> ((intro _ _; rfl)))))
                    · (repeat' (first | exact True.intro | exact rfl | refine And.intro ?_ ?_)) <;> (try (conv => whnf)) <;> (repeat' (fail))
                | succ m =>
                  (conv => whnf); (repeat ((refine Ex.Need.mk ?_ ?_; (trivial); conv => whnf)))
                  refine KIf.dec (fun hm3 => ?_) (fun hm3 => ?_)
                  · have hm4 : (m + 1) < (at_ Rc.o v.rs 0).ss.length := by simp only [Int.toNat_natCast] at hm3; omega
                    have h7 := hf.rr _ hm _ (at_mem Sm.o _ (m + 1) hm4)
                    (conv => whnf); (repeat (first | (refine Ex.NCase.s (Nat.succ_ne_zero _) ?_; conv => whnf) | (refine Ex.Need.mk (p := Ex.okDraw _ = true) ?_ ?_; decide +kernel; conv => whnf) | (refine Ex.Need.mk ?_ ?_; (first | trivial | omega | (constructor <;> omega)); conv => whnf) | ((refine Ex.DCall.pure (CopyRuns_k _ h7) ?_); conv => whnf) | (refine Need.mk ?_ ?_; (focus (exact Ex.take_len (enc := aSm) (sz := 2) (fun _ => rfl) hm2)); conv => whnf)))
                    refine ⟨m + 2, by omega, by dsimp only; omega, ?_⟩
                    refine Weak.of [0, 1, 2, 3, 7] [] rfl rfl ?_ ?_
                    · (repeat' (first | exact True.intro | refine And.intro ?_ ?_)) <;> (first | exact rfl | exact WRow.snoc (x := aSm (at_ Sm.o (at_ Rc.o v.rs 0).ss (m + 1))) (take_gd aSm Sm.o (at_ Rc.o v.rs 0).ss (m + 1) hm4) (contL_flatM (fun _ => rfl) _) rfl (Wvl_refl rfl) | (first | exact Or.inr ⟨rfl, rfl⟩ | (refine Or.inl ⟨rfl, ?_⟩; (repeat' (first | exact True.intro | exact rfl | refine And.intro ?_ ?_)) <;> (try (conv => whnf)) <;> (repeat' (fail)) <;> ((intro _ _; rfl)))))
                    · (repeat' (first | exact True.intro | exact rfl | refine And.intro ?_ ?_)) <;> (try (conv => whnf)) <;> (repeat' (fail))
                  · have hm4 : (m + 1) = (at_ Rc.o v.rs 0).ss.length := by simp only [Int.toNat_natCast] at hm3; omega
                    (conv => whnf); (repeat (first | (refine Ex.NCase.s (Nat.succ_ne_zero _) ?_; conv => whnf) | (refine Ex.Need.mk ?_ ?_; (first | trivial | omega); conv => whnf)))
                    refine ⟨1, hlt, by dsimp only; omega, ?_⟩
                    refine Weak.of [0, 1, 2, 6] [4] rfl rfl ?_ ?_
                    · (repeat' (first | exact True.intro | refine And.intro ?_ ?_)) <;> (first | exact rfl | exact WRow.snoc (l := []) (x := aRc (at_ Rc.o v.rs 0)) (take_gd aRc Rc.o v.rs 0 hlt) rfl rfl (by (repeat' (first | exact True.intro | exact Wv_refl rfl | exact Wv.list (fun _ => rfl) (fun _ => rfl) rfl (by simp) hm4 (by rw [hm4, List.take_length]) | refine And.intro ?_ ?_))) | (first | exact Or.inr ⟨rfl, rfl⟩ | (refine Or.inl ⟨rfl, ?_⟩; (repeat' (first | exact True.intro | exact rfl | refine And.intro ?_ ?_)) <;> (try (conv => whnf)) <;> (repeat' (fail)) <;> ((intro _ _; rfl)))))
                    · (repeat' (first | exact True.intro | exact rfl | refine And.intro ?_ ?_)) <;> (try (conv => whnf)) <;> (repeat' (fail))
            · have hb2 : Nat.ble (0 + (at_ Rc.o v.rs 0).es.length) 0 = false := by cases h : Nat.ble (0 + (at_ Rc.o v.rs 0).es.length) 0 with | false => rfl | true => have := Nat.le_of_ble_eq_true h; omega
              (conv => whnf); (repeat (first | (refine Ex.KIf.t ?_ ?_; assumption; conv => whnf) | (refine Ex.KIf.f ?_ ?_; assumption; conv => whnf) | (refine Ex.Need.mk ?_ ?_; (first | trivial | (simp only [Int.toNat_natCast]; (omega))); conv => whnf) | (refine Ex.Need.mk (fun _ _ => rfl) ?_; conv => whnf) | (refine RK.of (storeC_nil (flat_nil hn) rfl) ?_; conv => whnf)))
              refine WLoop.inv kmix (D := Nat) (fun m => (at_ Rc.o v.rs 0).ss.length - m) (fun m => m ≤ (at_ Rc.o v.rs 0).ss.length)
                (fun m => slots [(1, .ptr 0 0), (2, .ptr 1 0), (3, .ptr 2 0), (4, ib (0 : Nat)), (5, .ptr 3 0), (6, ib m)] 79)
                (fun m => heapOf (match m with
                  | 0 => [.row (aPt v) 26 0, .row [ib 0, .sc (.slice none 0 0), .sc (.slice none 0 0), .sc (.slice none 0 0), tb []] 26 0, .row [ib v.c, LS 2 aRun Run.o v.al, .sc (.slice none 0 0), LS 1 aI 0 v.ds, tb v.mp] 26 0, .row [bb (at_ Rc.o v.rs 0).u, ib (at_ Rc.o v.rs 0).q, ib (at_ Rc.o v.rs 0).k, ib (at_ Rc.o v.rs 0).b.r, ib (at_ Rc.o v.rs 0).b.q, ib (at_ Rc.o v.rs 0).ln, ib (at_ Rc.o v.rs 0).ds, LS 3 aNm Nm.o (at_ Rc.o v.rs 0).ns, .sc (.slice none 0 0), LS 4 aEn En.o (at_ Rc.o v.rs 0).es] 66 0]
                  | m + 1 => [.row (aPt v) 26 0, .row [ib 0, .sc (.slice none 0 0), .sc (.slice none 0 0), .sc (.slice none 0 0), tb []] 26 0, .row [ib v.c, LS 2 aRun Run.o v.al, .sc (.slice none 0 0), LS 1 aI 0 v.ds, tb v.mp] 26 0, .row [bb (at_ Rc.o v.rs 0).u, ib (at_ Rc.o v.rs 0).q, ib (at_ Rc.o v.rs 0).k, ib (at_ Rc.o v.rs 0).b.r, ib (at_ Rc.o v.rs 0).b.q, ib (at_ Rc.o v.rs 0).ln, ib (at_ Rc.o v.rs 0).ds, LS 3 aNm Nm.o (at_ Rc.o v.rs 0).ns, .so 4 0 (m + 1) 0, LS 4 aEn En.o (at_ Rc.o v.rs 0).es] 66 0, .row (((at_ Rc.o v.rs 0).ss.take (m + 1)).flatMap aSm) 80 2])) 0 (Nat.zero_le _) ?_ ?_
              · refine Weak.of [0, 1, 2, 3] [4, 6] rfl rfl ?_ ?_
                · (repeat' (first | exact True.intro | refine And.intro ?_ ?_)) <;> (first | exact rfl | (first | exact Or.inr ⟨rfl, rfl⟩ | (refine Or.inl ⟨rfl, ?_⟩; (repeat' (first | exact True.intro | exact (by first | exact Wv.list (fun _ => rfl) (fun _ => rfl) rfl (by simp) (Nat.zero_add _) (flat_range _ _ _) | exact Wv.mt hb (Nat.zero_add _) rfl (by simp)) | exact rfl | refine And.intro ?_ ?_)) <;> (try (conv => whnf)) <;> (repeat' (fail)) <;> (fail))))
                · (repeat' (first | exact True.intro | exact rfl | refine And.intro ?_ ?_)) <;> (try (conv => whnf)) <;> (repeat' (fail))
              · clear hn he hb hb2
                intro m hm2
                cases m with
                | zero =>
                  (conv => whnf); (repeat ((refine Ex.Need.mk ?_ ?_; (trivial); conv => whnf)))
                  refine KIf.dec (fun hm3 => ?_) (fun hm3 => ?_)
                  · have hm4 : 0 < (at_ Rc.o v.rs 0).ss.length := by simp only [Int.toNat_natCast] at hm3; omega
                    have h7 := hf.rr _ hm _ (at_mem Sm.o _ 0 hm4)
                    (conv => whnf); (repeat (first | (refine Ex.NCase.s (Nat.succ_ne_zero _) ?_; conv => whnf) | (refine Ex.Need.mk (p := Ex.okDraw _ = true) ?_ ?_; decide +kernel; conv => whnf) | (refine Ex.Need.mk ?_ ?_; (first | trivial | omega); conv => whnf) | ((refine Ex.DCall.pure (CopyRuns_k _ h7) ?_); conv => whnf)))
                    refine ⟨1, by omega, by dsimp only; omega, ?_⟩
                    refine Weak.of [0, 1, 2, 3, 6] [] rfl rfl ?_ ?_
                    · (repeat' (first | exact True.intro | refine And.intro ?_ ?_)) <;> (first | exact rfl | exact WRow.snoc (l := []) (x := aSm (at_ Sm.o (at_ Rc.o v.rs 0).ss 0)) (take_gd aSm Sm.o (at_ Rc.o v.rs 0).ss 0 hm4) rfl rfl (Wvl_refl rfl) | (first | exact Or.inr ⟨rfl, rfl⟩ | (refine Or.inl ⟨rfl, ?_⟩; (repeat' (first | exact True.intro | exact rfl | refine And.intro ?_ ?_)) <;> (try (conv => whnf)) <;> (repeat' (fail)) <;> ((intro _ _; rfl)))))
                    · (repeat' (first | exact True.intro | exact rfl | refine And.intro ?_ ?_)) <;> (try (conv => whnf)) <;> (repeat' (fail))
                  · have hm4 : 0 = (at_ Rc.o v.rs 0).ss.length := by simp only [Int.toNat_natCast] at hm3; omega
                    (conv => whnf); (repeat (first | (refine Ex.NCase.s (Nat.succ_ne_zero _) ?_; conv => whnf) | (refine Ex.Need.mk ?_ ?_; (first | trivial | omega); conv => whnf)))
                    refine ⟨1, hlt, by dsimp only; omega, ?_⟩
                    refine Weak.of [0, 1, 2, 5] [] rfl rfl ?_ ?_
                    · (repeat' (first | exact True.intro | refine And.intro ?_ ?_)) <;> (first | exact rfl | exact WRow.snoc (l := []) (x := aRc (at_ Rc.o v.rs 0)) (take_gd aRc Rc.o v.rs 0 hlt) rfl rfl (by (repeat' (first | exact True.intro | exact Wv_refl rfl | exact Wv.nil (List.eq_nil_of_length_eq_zero hm4.symm) | refine And.intro ?_ ?_))) | (first | exact Or.inr ⟨rfl, rfl⟩ | (refine Or.inl ⟨rfl, ?_⟩; (repeat' (first | exact True.intro | exact rfl | refine And.intro ?_ ?_)) <;> (try (conv => whnf)) <;> (repeat' (fail)) <;> ((intro _ _; rfl)))))
                    · (repeat' (first | exact True.intro | exact rfl | refine And.intro ?_ ?_)) <;> (try (conv => whnf)) <;> (repeat' (fail))
                | succ m =>
                  (conv => whnf); (repeat ((refine Ex.Need.mk ?_ ?_; (trivial); conv => whnf)))
                  refine KIf.dec (fun hm3 => ?_) (fun hm3 => ?_)
                  · have hm4 : (m + 1) < (at_ Rc.o v.rs 0).ss.length := by simp only [Int.toNat_natCast] at hm3; omega
                    have h7 := hf.rr _ hm _ (at_mem Sm.o _ (m + 1) hm4)
                    (conv => whnf); (repeat (first | (refine Ex.NCase.s (Nat.succ_ne_zero _) ?_; conv => whnf) | (refine Ex.Need.mk (p := Ex.okDraw _ = true) ?_ ?_; decide +kernel; conv => whnf) | (refine Ex.Need.mk ?_ ?_; (first | trivial | omega | (constructor <;> omega)); conv => whnf) | ((refine Ex.DCall.pure (CopyRuns_k _ h7) ?_); conv => whnf) | (refine Need.mk ?_ ?_; (focus (exact Ex.take_len (enc := aSm) (sz := 2) (fun _ => rfl) hm2)); conv => whnf)))
                    refine ⟨m + 2, by omega, by dsimp only; omega, ?_⟩
                    refine Weak.of [0, 1, 2, 3, 7] [] rfl rfl ?_ ?_
                    · (repeat' (first | exact True.intro | refine And.intro ?_ ?_)) <;> (first | exact rfl | exact WRow.snoc (x := aSm (at_ Sm.o (at_ Rc.o v.rs 0).ss (m + 1))) (take_gd aSm Sm.o (at_ Rc.o v.rs 0).ss (m + 1) hm4) (contL_flatM (fun _ => rfl) _) rfl (Wvl_refl rfl) | (first | exact Or.inr ⟨rfl, rfl⟩ | (refine Or.inl ⟨rfl, ?_⟩; (repeat' (first | exact True.intro | exact rfl | refine And.intro ?_ ?_)) <;> (try (conv => whnf)) <;> (repeat' (fail)) <;> ((intro _ _; rfl)))))
                    · (repeat' (first | exact True.intro | exact rfl | refine And.intro ?_ ?_)) <;> (try (conv => whnf)) <;> (repeat' (fail))
                  · have hm4 : (m + 1) = (at_ Rc.o v.rs 0).ss.length := by simp only [Int.toNat_natCast] at hm3; omega
                    (conv => whnf); (repeat (first | (refine Ex.NCase.s (Nat.succ_ne_zero _) ?_; conv => whnf) | (refine Ex.Need.mk ?_ ?_; (first | trivial | omega); conv => whnf)))
                    refine ⟨1, hlt, by dsimp only; omega, ?_⟩
                    refine Weak.of [0, 1, 2, 6] [4] rfl rfl ?_ ?_
                    · (repeat' (first | exact True.intro | refine And.intro ?_ ?_)) <;> (first | exact rfl | exact WRow.snoc (l := []) (x := aRc (at_ Rc.o v.rs 0)) (take_gd aRc Rc.o v.rs 0 hlt) rfl rfl (by (repeat' (first | exact True.intro | exact Wv_refl rfl | exact Wv.list (fun _ => rfl) (fun _ => rfl) rfl (by simp) hm4 (by rw [hm4, List.take_length]) | refine And.intro ?_ ?_))) | (first | exact Or.inr ⟨rfl, rfl⟩ | (refine Or.inl ⟨rfl, ?_⟩; (repeat' (first | exact True.intro | exact rfl | refine And.intro ?_ ?_)) <;> (try (conv => whnf)) <;> (repeat' (fail)) <;> ((intro _ _; rfl)))))
                    · (repeat' (first | exact True.intro | exact rfl | refine And.intro ?_ ?_)) <;> (try (conv => whnf)) <;> (repeat' (fail))
          · have hb : Nat.ble (0 + (at_ Rc.o v.rs 0).ns.length) 0 = false := by cases h : Nat.ble (0 + (at_ Rc.o v.rs 0).ns.length) 0 with | false => rfl | true => have := Nat.le_of_ble_eq_true h; omega
            by_cases he : (at_ Rc.o v.rs 0).es.length = 0
            · have hb2 : (at_ Rc.o v.rs 0).es = [] := List.eq_nil_of_length_eq_zero he
              have hc2 : Nat.ble (0 + (at_ Rc.o v.rs 0).es.length) 0 = true := by rw [hb2]; rfl
              (conv => whnf); (repeat (first | (refine Ex.KIf.t ?_ ?_; assumption; conv => whnf) | (refine Ex.KIf.f ?_ ?_; assumption; conv => whnf) | (refine Ex.Need.mk ?_ ?_; (first | trivial | (simp only [Int.toNat_natCast]; (omega))); conv => whnf) | (refine Ex.Need.mk (fun _ _ => rfl) ?_; conv => whnf) | (refine RK.of (storeC_nil (flat_nil he) rfl) ?_; conv => whnf)))
              refine WLoop.inv kmix (D := Nat) (fun m => (at_ Rc.o v.rs 0).ss.length - m) (fun m => m ≤ (at_ Rc.o v.rs 0).ss.length)
                (fun m => slots [(1, .ptr 0 0), (2, .ptr 1 0), (3, .ptr 2 0), (4, ib (0 : Nat)), (5, .ptr 3 0), (6, ib m)] 79)
                (fun m => heapOf (match m with
                  | 0 => [.row (aPt v) 26 0, .row [ib 0, .sc (.slice none 0 0), .sc (.slice none 0 0), .sc (.slice none 0 0), tb []] 26 0, .row [ib v.c, LS 2 aRun Run.o v.al, .sc (.slice none 0 0), LS 1 aI 0 v.ds, tb v.mp] 26 0, .row [bb (at_ Rc.o v.rs 0).u, ib (at_ Rc.o v.rs 0).q, ib (at_ Rc.o v.rs 0).k, ib (at_ Rc.o v.rs 0).b.r, ib (at_ Rc.o v.rs 0).b.q, ib (at_ Rc.o v.rs 0).ln, ib (at_ Rc.o v.rs 0).ds, LS 3 aNm Nm.o (at_ Rc.o v.rs 0).ns, .sc (.slice none 0 0), LS 4 aEn En.o (at_ Rc.o v.rs 0).es] 66 0]
                  | m + 1 => [.row (aPt v) 26 0, .row [ib 0, .sc (.slice none 0 0), .sc (.slice none 0 0), .sc (.slice none 0 0), tb []] 26 0, .row [ib v.c, LS 2 aRun Run.o v.al, .sc (.slice none 0 0), LS 1 aI 0 v.ds, tb v.mp] 26 0, .row [bb (at_ Rc.o v.rs 0).u, ib (at_ Rc.o v.rs 0).q, ib (at_ Rc.o v.rs 0).k, ib (at_ Rc.o v.rs 0).b.r, ib (at_ Rc.o v.rs 0).b.q, ib (at_ Rc.o v.rs 0).ln, ib (at_ Rc.o v.rs 0).ds, LS 3 aNm Nm.o (at_ Rc.o v.rs 0).ns, .so 4 0 (m + 1) 0, LS 4 aEn En.o (at_ Rc.o v.rs 0).es] 66 0, .row (((at_ Rc.o v.rs 0).ss.take (m + 1)).flatMap aSm) 80 2])) 0 (Nat.zero_le _) ?_ ?_
              · refine Weak.of [0, 1, 2, 3] [5, 6] rfl rfl ?_ ?_
                · (repeat' (first | exact True.intro | refine And.intro ?_ ?_)) <;> (first | exact rfl | (first | exact Or.inr ⟨rfl, rfl⟩ | (refine Or.inl ⟨rfl, ?_⟩; (repeat' (first | exact True.intro | exact (by first | exact Wv.list (fun _ => rfl) (fun _ => rfl) rfl (by simp) (Nat.zero_add _) (flat_range _ _ _) | exact Wv.mt hb2 (Nat.zero_add _) rfl (by simp)) | exact rfl | refine And.intro ?_ ?_)) <;> (try (conv => whnf)) <;> (repeat' (fail)) <;> (fail))))
                · (repeat' (first | exact True.intro | exact rfl | refine And.intro ?_ ?_)) <;> (try (conv => whnf)) <;> (repeat' (fail))
              · clear hn he hb hb2
                intro m hm2
                cases m with
                | zero =>
                  (conv => whnf); (repeat ((refine Ex.Need.mk ?_ ?_; (trivial); conv => whnf)))
                  refine KIf.dec (fun hm3 => ?_) (fun hm3 => ?_)
                  · have hm4 : 0 < (at_ Rc.o v.rs 0).ss.length := by simp only [Int.toNat_natCast] at hm3; omega
                    have h7 := hf.rr _ hm _ (at_mem Sm.o _ 0 hm4)
                    (conv => whnf); (repeat (first | (refine Ex.NCase.s (Nat.succ_ne_zero _) ?_; conv => whnf) | (refine Ex.Need.mk (p := Ex.okDraw _ = true) ?_ ?_; decide +kernel; conv => whnf) | (refine Ex.Need.mk ?_ ?_; (first | trivial | omega); conv => whnf) | ((refine Ex.DCall.pure (CopyRuns_k _ h7) ?_); conv => whnf)))
                    refine ⟨1, by omega, by dsimp only; omega, ?_⟩
                    refine Weak.of [0, 1, 2, 3, 6] [] rfl rfl ?_ ?_
                    · (repeat' (first | exact True.intro | refine And.intro ?_ ?_)) <;> (first | exact rfl | exact WRow.snoc (l := []) (x := aSm (at_ Sm.o (at_ Rc.o v.rs 0).ss 0)) (take_gd aSm Sm.o (at_ Rc.o v.rs 0).ss 0 hm4) rfl rfl (Wvl_refl rfl) | (first | exact Or.inr ⟨rfl, rfl⟩ | (refine Or.inl ⟨rfl, ?_⟩; (repeat' (first | exact True.intro | exact rfl | refine And.intro ?_ ?_)) <;> (try (conv => whnf)) <;> (repeat' (fail)) <;> ((intro _ _; rfl)))))
                    · (repeat' (first | exact True.intro | exact rfl | refine And.intro ?_ ?_)) <;> (try (conv => whnf)) <;> (repeat' (fail))
                  · have hm4 : 0 = (at_ Rc.o v.rs 0).ss.length := by simp only [Int.toNat_natCast] at hm3; omega
                    (conv => whnf); (repeat (first | (refine Ex.NCase.s (Nat.succ_ne_zero _) ?_; conv => whnf) | (refine Ex.Need.mk ?_ ?_; (first | trivial | omega); conv => whnf)))
                    refine ⟨1, hlt, by dsimp only; omega, ?_⟩
                    refine Weak.of [0, 1, 2, 5] [] rfl rfl ?_ ?_
                    · (repeat' (first | exact True.intro | refine And.intro ?_ ?_)) <;> (first | exact rfl | exact WRow.snoc (l := []) (x := aRc (at_ Rc.o v.rs 0)) (take_gd aRc Rc.o v.rs 0 hlt) rfl rfl (by (repeat' (first | exact True.intro | exact Wv_refl rfl | exact Wv.nil (List.eq_nil_of_length_eq_zero hm4.symm) | refine And.intro ?_ ?_))) | (first | exact Or.inr ⟨rfl, rfl⟩ | (refine Or.inl ⟨rfl, ?_⟩; (repeat' (first | exact True.intro | exact rfl | refine And.intro ?_ ?_)) <;> (try (conv => whnf)) <;> (repeat' (fail)) <;> ((intro _ _; rfl)))))
                    · (repeat' (first | exact True.intro | exact rfl | refine And.intro ?_ ?_)) <;> (try (conv => whnf)) <;> (repeat' (fail))
                | succ m =>
                  (conv => whnf); (repeat ((refine Ex.Need.mk ?_ ?_; (trivial); conv => whnf)))
                  refine KIf.dec (fun hm3 => ?_) (fun hm3 => ?_)
                  · have hm4 : (m + 1) < (at_ Rc.o v.rs 0).ss.length := by simp only [Int.toNat_natCast] at hm3; omega
                    have h7 := hf.rr _ hm _ (at_mem Sm.o _ (m + 1) hm4)
                    (conv => whnf); (repeat (first | (refine Ex.NCase.s (Nat.succ_ne_zero _) ?_; conv => whnf) | (refine Ex.Need.mk (p := Ex.okDraw _ = true) ?_ ?_; decide +kernel; conv => whnf) | (refine Ex.Need.mk ?_ ?_; (first | trivial | omega | (constructor <;> omega)); conv => whnf) | ((refine Ex.DCall.pure (CopyRuns_k _ h7) ?_); conv => whnf) | (refine Need.mk ?_ ?_; (focus (exact Ex.take_len (enc := aSm) (sz := 2) (fun _ => rfl) hm2)); conv => whnf)))
                    refine ⟨m + 2, by omega, by dsimp only; omega, ?_⟩
                    refine Weak.of [0, 1, 2, 3, 7] [] rfl rfl ?_ ?_
                    · (repeat' (first | exact True.intro | refine And.intro ?_ ?_)) <;> (first | exact rfl | exact WRow.snoc (x := aSm (at_ Sm.o (at_ Rc.o v.rs 0).ss (m + 1))) (take_gd aSm Sm.o (at_ Rc.o v.rs 0).ss (m + 1) hm4) (contL_flatM (fun _ => rfl) _) rfl (Wvl_refl rfl) | (first | exact Or.inr ⟨rfl, rfl⟩ | (refine Or.inl ⟨rfl, ?_⟩; (repeat' (first | exact True.intro | exact rfl | refine And.intro ?_ ?_)) <;> (try (conv => whnf)) <;> (repeat' (fail)) <;> ((intro _ _; rfl)))))
                    · (repeat' (first | exact True.intro | exact rfl | refine And.intro ?_ ?_)) <;> (try (conv => whnf)) <;> (repeat' (fail))
                  · have hm4 : (m + 1) = (at_ Rc.o v.rs 0).ss.length := by simp only [Int.toNat_natCast] at hm3; omega
                    (conv => whnf); (repeat (first | (refine Ex.NCase.s (Nat.succ_ne_zero _) ?_; conv => whnf) | (refine Ex.Need.mk ?_ ?_; (first | trivial | omega); conv => whnf)))
                    refine ⟨1, hlt, by dsimp only; omega, ?_⟩
                    refine Weak.of [0, 1, 2, 6] [4] rfl rfl ?_ ?_
                    · (repeat' (first | exact True.intro | refine And.intro ?_ ?_)) <;> (first | exact rfl | exact WRow.snoc (l := []) (x := aRc (at_ Rc.o v.rs 0)) (take_gd aRc Rc.o v.rs 0 hlt) rfl rfl (by (repeat' (first | exact True.intro | exact Wv_refl rfl | exact Wv.list (fun _ => rfl) (fun _ => rfl) rfl (by simp) hm4 (by rw [hm4, List.take_length]) | refine And.intro ?_ ?_))) | (first | exact Or.inr ⟨rfl, rfl⟩ | (refine Or.inl ⟨rfl, ?_⟩; (repeat' (first | exact True.intro | exact rfl | refine And.intro ?_ ?_)) <;> (try (conv => whnf)) <;> (repeat' (fail)) <;> ((intro _ _; rfl)))))
                    · (repeat' (first | exact True.intro | exact rfl | refine And.intro ?_ ?_)) <;> (try (conv => whnf)) <;> (repeat' (fail))
            · have hb2 : Nat.ble (0 + (at_ Rc.o v.rs 0).es.length) 0 = false := by cases h : Nat.ble (0 + (at_ Rc.o v.rs 0).es.length) 0 with | false => rfl | true => have := Nat.le_of_ble_eq_true h; omega
              (conv => whnf); (repeat (first | (refine Ex.KIf.f ?_ ?_; assumption; conv => whnf) | (refine Ex.Need.mk ?_ ?_; (first | trivial | (simp only [Int.toNat_natCast]; (omega))); conv => whnf) | (refine Ex.Need.mk (fun _ _ => rfl) ?_; conv => whnf)))
              refine WLoop.inv kmix (D := Nat) (fun m => (at_ Rc.o v.rs 0).ss.length - m) (fun m => m ≤ (at_ Rc.o v.rs 0).ss.length)
                (fun m => slots [(1, .ptr 0 0), (2, .ptr 1 0), (3, .ptr 2 0), (4, ib (0 : Nat)), (5, .ptr 3 0), (6, ib m)] 79)
                (fun m => heapOf (match m with
                  | 0 => [.row (aPt v) 26 0, .row [ib 0, .sc (.slice none 0 0), .sc (.slice none 0 0), .sc (.slice none 0 0), tb []] 26 0, .row [ib v.c, LS 2 aRun Run.o v.al, .sc (.slice none 0 0), LS 1 aI 0 v.ds, tb v.mp] 26 0, .row [bb (at_ Rc.o v.rs 0).u, ib (at_ Rc.o v.rs 0).q, ib (at_ Rc.o v.rs 0).k, ib (at_ Rc.o v.rs 0).b.r, ib (at_ Rc.o v.rs 0).b.q, ib (at_ Rc.o v.rs 0).ln, ib (at_ Rc.o v.rs 0).ds, LS 3 aNm Nm.o (at_ Rc.o v.rs 0).ns, .sc (.slice none 0 0), LS 4 aEn En.o (at_ Rc.o v.rs 0).es] 66 0]
                  | m + 1 => [.row (aPt v) 26 0, .row [ib 0, .sc (.slice none 0 0), .sc (.slice none 0 0), .sc (.slice none 0 0), tb []] 26 0, .row [ib v.c, LS 2 aRun Run.o v.al, .sc (.slice none 0 0), LS 1 aI 0 v.ds, tb v.mp] 26 0, .row [bb (at_ Rc.o v.rs 0).u, ib (at_ Rc.o v.rs 0).q, ib (at_ Rc.o v.rs 0).k, ib (at_ Rc.o v.rs 0).b.r, ib (at_ Rc.o v.rs 0).b.q, ib (at_ Rc.o v.rs 0).ln, ib (at_ Rc.o v.rs 0).ds, LS 3 aNm Nm.o (at_ Rc.o v.rs 0).ns, .so 4 0 (m + 1) 0, LS 4 aEn En.o (at_ Rc.o v.rs 0).es] 66 0, .row (((at_ Rc.o v.rs 0).ss.take (m + 1)).flatMap aSm) 80 2])) 0 (Nat.zero_le _) ?_ ?_
              · refine Weak.of [0, 1, 2, 3] [5, 7] rfl rfl ?_ ?_
                · (repeat' (first | exact True.intro | refine And.intro ?_ ?_)) <;> (first | exact rfl | (first | exact Or.inr ⟨rfl, rfl⟩ | (refine Or.inl ⟨rfl, ?_⟩; (repeat' (first | exact True.intro | exact (by (exact Wv.list (fun _ => rfl) (fun _ => rfl) rfl (by simp) (Nat.zero_add _) (flat_range _ _ _))) | exact rfl | refine And.intro ?_ ?_)) <;> (try (conv => whnf)) <;> (repeat' (fail)) <;> (fail))))
                · (repeat' (first | exact True.intro | exact rfl | refine And.intro ?_ ?_)) <;> (try (conv => whnf)) <;> (repeat' (fail))
              · clear hn he hb hb2
                intro m hm2
                cases m with
                | zero =>
                  (conv => whnf); (repeat ((refine Ex.Need.mk ?_ ?_; (trivial); conv => whnf)))
                  refine KIf.dec (fun hm3 => ?_) (fun hm3 => ?_)
                  · have hm4 : 0 < (at_ Rc.o v.rs 0).ss.length := by simp only [Int.toNat_natCast] at hm3; omega
                    have h7 := hf.rr _ hm _ (at_mem Sm.o _ 0 hm4)
                    (conv => whnf); (repeat (first | (refine Ex.NCase.s (Nat.succ_ne_zero _) ?_; conv => whnf) | (refine Ex.Need.mk (p := Ex.okDraw _ = true) ?_ ?_; decide +kernel; conv => whnf) | (refine Ex.Need.mk ?_ ?_; (first | trivial | omega); conv => whnf) | ((refine Ex.DCall.pure (CopyRuns_k _ h7) ?_); conv => whnf)))
                    refine ⟨1, by omega, by dsimp only; omega, ?_⟩
                    refine Weak.of [0, 1, 2, 3, 6] [] rfl rfl ?_ ?_
                    · (repeat' (first | exact True.intro | refine And.intro ?_ ?_)) <;> (first | exact rfl | exact WRow.snoc (l := []) (x := aSm (at_ Sm.o (at_ Rc.o v.rs 0).ss 0)) (take_gd aSm Sm.o (at_ Rc.o v.rs 0).ss 0 hm4) rfl rfl (Wvl_refl rfl) | (first | exact Or.inr ⟨rfl, rfl⟩ | (refine Or.inl ⟨rfl, ?_⟩; (repeat' (first | exact True.intro | exact rfl | refine And.intro ?_ ?_)) <;> (try (conv => whnf)) <;> (repeat' (fail)) <;> ((intro _ _; rfl)))))
                    · (repeat' (first | exact True.intro | exact rfl | refine And.intro ?_ ?_)) <;> (try (conv => whnf)) <;> (repeat' (fail))
                  · have hm4 : 0 = (at_ Rc.o v.rs 0).ss.length := by simp only [Int.toNat_natCast] at hm3; omega
                    (conv => whnf); (repeat (first | (refine Ex.NCase.s (Nat.succ_ne_zero _) ?_; conv => whnf) | (refine Ex.Need.mk ?_ ?_; (first | trivial | omega); conv => whnf)))
                    refine ⟨1, hlt, by dsimp only; omega, ?_⟩
                    refine Weak.of [0, 1, 2, 5] [] rfl rfl ?_ ?_
                    · (repeat' (first | exact True.intro | refine And.intro ?_ ?_)) <;> (first | exact rfl | exact WRow.snoc (l := []) (x := aRc (at_ Rc.o v.rs 0)) (take_gd aRc Rc.o v.rs 0 hlt) rfl rfl (by (repeat' (first | exact True.intro | exact Wv_refl rfl | exact Wv.nil (List.eq_nil_of_length_eq_zero hm4.symm) | refine And.intro ?_ ?_))) | (first | exact Or.inr ⟨rfl, rfl⟩ | (refine Or.inl ⟨rfl, ?_⟩; (repeat' (first | exact True.intro | exact rfl | refine And.intro ?_ ?_)) <;> (try (conv => whnf)) <;> (repeat' (fail)) <;> ((intro _ _; rfl)))))
                    · (repeat' (first | exact True.intro | exact rfl | refine And.intro ?_ ?_)) <;> (try (conv => whnf)) <;> (repeat' (fail))
                | succ m =>
                  (conv => whnf); (repeat ((refine Ex.Need.mk ?_ ?_; (trivial); conv => whnf)))
                  refine KIf.dec (fun hm3 => ?_) (fun hm3 => ?_)
                  · have hm4 : (m + 1) < (at_ Rc.o v.rs 0).ss.length := by simp only [Int.toNat_natCast] at hm3; omega
                    have h7 := hf.rr _ hm _ (at_mem Sm.o _ (m + 1) hm4)
                    (conv => whnf); (repeat (first | (refine Ex.NCase.s (Nat.succ_ne_zero _) ?_; conv => whnf) | (refine Ex.Need.mk (p := Ex.okDraw _ = true) ?_ ?_; decide +kernel; conv => whnf) | (refine Ex.Need.mk ?_ ?_; (first | trivial | omega | (constructor <;> omega)); conv => whnf) | ((refine Ex.DCall.pure (CopyRuns_k _ h7) ?_); conv => whnf) | (refine Need.mk ?_ ?_; (focus (exact Ex.take_len (enc := aSm) (sz := 2) (fun _ => rfl) hm2)); conv => whnf)))
                    refine ⟨m + 2, by omega, by dsimp only; omega, ?_⟩
                    refine Weak.of [0, 1, 2, 3, 7] [] rfl rfl ?_ ?_
                    · (repeat' (first | exact True.intro | refine And.intro ?_ ?_)) <;> (first | exact rfl | exact WRow.snoc (x := aSm (at_ Sm.o (at_ Rc.o v.rs 0).ss (m + 1))) (take_gd aSm Sm.o (at_ Rc.o v.rs 0).ss (m + 1) hm4) (contL_flatM (fun _ => rfl) _) rfl (Wvl_refl rfl) | (first | exact Or.inr ⟨rfl, rfl⟩ | (refine Or.inl ⟨rfl, ?_⟩; (repeat' (first | exact True.intro | exact rfl | refine And.intro ?_ ?_)) <;> (try (conv => whnf)) <;> (repeat' (fail)) <;> ((intro _ _; rfl)))))
                    · (repeat' (first | exact True.intro | exact rfl | refine And.intro ?_ ?_)) <;> (try (conv => whnf)) <;> (repeat' (fail))
                  · have hm4 : (m + 1) = (at_ Rc.o v.rs 0).ss.length := by simp only [Int.toNat_natCast] at hm3; omega
                    (conv => whnf); (repeat (first | (refine Ex.NCase.s (Nat.succ_ne_zero _) ?_; conv => whnf) | (refine Ex.Need.mk ?_ ?_; (first | trivial | omega); conv => whnf)))
                    refine ⟨1, hlt, by dsimp only; omega, ?_⟩
                    refine Weak.of [0, 1, 2, 6] [4] rfl rfl ?_ ?_
                    · (repeat' (first | exact True.intro | refine And.intro ?_ ?_)) <;> (first | exact rfl | exact WRow.snoc (l := []) (x := aRc (at_ Rc.o v.rs 0)) (take_gd aRc Rc.o v.rs 0 hlt) rfl rfl (by (repeat' (first | exact True.intro | exact Wv_refl rfl | exact Wv.list (fun _ => rfl) (fun _ => rfl) rfl (by simp) hm4 (by rw [hm4, List.take_length]) | refine And.intro ?_ ?_))) | (first | exact Or.inr ⟨rfl, rfl⟩ | (refine Or.inl ⟨rfl, ?_⟩; (repeat' (first | exact True.intro | exact rfl | refine And.intro ?_ ?_)) <;> (try (conv => whnf)) <;> (repeat' (fail)) <;> ((intro _ _; rfl)))))
                    · (repeat' (first | exact True.intro | exact rfl | refine And.intro ?_ ?_)) <;> (try (conv => whnf)) <;> (repeat' (fail))
        · have hk : 0 = v.rs.length := by omega
          (conv => whnf); (repeat (fail))
          refine .z [] ?_
          conv => whnf
          refine ⟨⟨rfl, rfl⟩, Wz_refl rfl, ?_, Wz_refl rfl, rfl, trivial⟩
          exact Wz.nil (List.eq_nil_of_length_eq_zero hk.symm)
      | succ k =>
        conv => whnf
        refine KIf.dec (fun h => ?_) (fun h => ?_)
        · have hlt : (k + 1) < v.rs.length := by omega
          have hm : (at_ Rc.o v.rs (k + 1)) ∈ v.rs := at_mem Rc.o v.rs (k + 1) hlt
          have h4 := hf.ns _ hm
          have h5 := hf.es _ hm
          have h6 := hf.ss _ hm
          have e0 : (↑(k + 1) : Int).toNat = (k + 1) := rfl
          by_cases hn : (at_ Rc.o v.rs (k + 1)).ns.length = 0
          · have hb : (at_ Rc.o v.rs (k + 1)).ns = [] := List.eq_nil_of_length_eq_zero hn
            have hc : Nat.ble (0 + (at_ Rc.o v.rs (k + 1)).ns.length) 0 = true := by rw [hb]; rfl
            by_cases he : (at_ Rc.o v.rs (k + 1)).es.length = 0
            · have hb2 : (at_ Rc.o v.rs (k + 1)).es = [] := List.eq_nil_of_length_eq_zero he
              have hc2 : Nat.ble (0 + (at_ Rc.o v.rs (k + 1)).es.length) 0 = true := by rw [hb2]; rfl
              (conv => whnf); (repeat (first | (refine Ex.KIf.t ?_ ?_; assumption; conv => whnf) | (refine Ex.Need.mk ?_ ?_; (first | omega | (simp only [Int.toNat_natCast]; (omega))); conv => whnf) | (refine RK.of (storeC_nil (flat_nil hn) rfl) ?_; conv => whnf) | (refine RK.of (storeC_nil (flat_nil he) rfl) ?_; conv => whnf)))
              refine WLoop.inv kmix (D := Nat) (fun m => (at_ Rc.o v.rs (k + 1)).ss.length - m) (fun m => m ≤ (at_ Rc.o v.rs (k + 1)).ss.length)
                (fun m => slots [(1, .ptr 0 0), (2, .ptr 1 0), (3, .ptr 2 0), (4, ib (k + 1 : Nat)), (5, .ptr 4 0), (6, ib m)] 79)
                (fun m => heapOf (match m with
                  | 0 => [.row (aPt v) 26 0, .row [ib 0, .sc (.slice none 0 0), .sc (.slice none 0 0), .sc (.slice none 0 0), tb []] 26 0, .row [ib v.c, LS 2 aRun Run.o v.al, .so 3 0 (k + 1) 0, LS 1 aI 0 v.ds, tb v.mp] 26 0, .row ((v.rs.take (k + 1)).flatMap aRc) 66 10, .row [bb (at_ Rc.o v.rs (k + 1)).u, ib (at_ Rc.o v.rs (k + 1)).q, ib (at_ Rc.o v.rs (k + 1)).k, ib (at_ Rc.o v.rs (k + 1)).b.r, ib (at_ Rc.o v.rs (k + 1)).b.q, ib (at_ Rc.o v.rs (k + 1)).ln, ib (at_ Rc.o v.rs (k + 1)).ds, LS 3 aNm Nm.o (at_ Rc.o v.rs (k + 1)).ns, .sc (.slice none 0 0), LS 4 aEn En.o (at_ Rc.o v.rs (k + 1)).es] 66 0]
                  | m + 1 => [.row (aPt v) 26 0, .row [ib 0, .sc (.slice none 0 0), .sc (.slice none 0 0), .sc (.slice none 0 0), tb []] 26 0, .row [ib v.c, LS 2 aRun Run.o v.al, .so 3 0 (k + 1) 0, LS 1 aI 0 v.ds, tb v.mp] 26 0, .row ((v.rs.take (k + 1)).flatMap aRc) 66 10, .row [bb (at_ Rc.o v.rs (k + 1)).u, ib (at_ Rc.o v.rs (k + 1)).q, ib (at_ Rc.o v.rs (k + 1)).k, ib (at_ Rc.o v.rs (k + 1)).b.r, ib (at_ Rc.o v.rs (k + 1)).b.q, ib (at_ Rc.o v.rs (k + 1)).ln, ib (at_ Rc.o v.rs (k + 1)).ds, LS 3 aNm Nm.o (at_ Rc.o v.rs (k + 1)).ns, .so 5 0 (m + 1) 0, LS 4 aEn En.o (at_ Rc.o v.rs (k + 1)).es] 66 0, .row (((at_ Rc.o v.rs (k + 1)).ss.take (m + 1)).flatMap aSm) 80 2])) 0 (Nat.zero_le _) ?_ ?_
              · refine Weak.of [0, 1, 2, 3, 4] [5, 6] rfl rfl ?_ ?_
                · (repeat' (first | exact True.intro | refine And.intro ?_ ?_)) <;> (first | exact rfl | (first | exact Or.inr ⟨rfl, rfl⟩ | exact Or.inr ⟨rfl, Ex.contL_flat (fun _ => rfl) _⟩ | (refine Or.inl ⟨rfl, ?_⟩; (repeat' (first | exact True.intro | exact (by first | exact Wv.mt hb (Nat.zero_add _) rfl (by simp) | exact Wv.mt hb2 (Nat.zero_add _) rfl (by simp)) | exact rfl | refine And.intro ?_ ?_)) <;> (try (conv => whnf)) <;> (repeat' (fail)) <;> ((intro _ _; rfl)))))
                · (repeat' (first | exact True.intro | exact rfl | refine And.intro ?_ ?_)) <;> (try (conv => whnf)) <;> (repeat' (fail))
              · clear hn he hb hb2
                intro m hm2
                cases m with
                | zero =>
                  (conv => whnf); (repeat ((refine Ex.Need.mk ?_ ?_; (omega); conv => whnf)))
                  refine KIf.dec (fun hm3 => ?_) (fun hm3 => ?_)
                  · have hm4 : 0 < (at_ Rc.o v.rs (k + 1)).ss.length := by simp only [Int.toNat_natCast] at hm3; omega
                    have h7 := hf.rr _ hm _ (at_mem Sm.o _ 0 hm4)
                    (conv => whnf); (repeat (first | (refine Ex.NCase.s (Nat.succ_ne_zero _) ?_; conv => whnf) | (refine Ex.Need.mk (p := Ex.okDraw _ = true) ?_ ?_; decide +kernel; conv => whnf) | (refine Ex.Need.mk ?_ ?_; (first | trivial | omega); conv => whnf) | ((refine Ex.DCall.pure (CopyRuns_k _ h7) ?_); conv => whnf)))
                    refine ⟨1, by omega, by dsimp only; omega, ?_⟩
                    refine Weak.of [0, 1, 2, 3, 4, 7] [] rfl rfl ?_ ?_
                    · (repeat' (first | exact True.intro | refine And.intro ?_ ?_)) <;> (first | exact rfl | exact WRow.snoc (l := []) (x := aSm (at_ Sm.o (at_ Rc.o v.rs (k + 1)).ss 0)) (take_gd aSm Sm.o (at_ Rc.o v.rs (k + 1)).ss 0 hm4) rfl rfl (Wvl_refl rfl) | exact Or.inr ⟨rfl, contL_flatM (fun _ => rfl) _⟩ | (first | exact Or.inr ⟨rfl, rfl⟩ | (refine Or.inl ⟨rfl, ?_⟩; (repeat' (first | exact True.intro | exact rfl | refine And.intro ?_ ?_)) <;> (try (conv => whnf)) <;> (repeat' (fail)) <;> ((intro _ _; rfl)))))
                    · (repeat' (first | exact True.intro | exact rfl | refine And.intro ?_ ?_)) <;> (try (conv => whnf)) <;> (repeat' (fail))
                  · have hm4 : 0 = (at_ Rc.o v.rs (k + 1)).ss.length := by simp only [Int.toNat_natCast] at hm3; omega
                    (conv => whnf); (repeat (first | (refine Ex.NCase.s (Nat.succ_ne_zero _) ?_; conv => whnf) | (refine Ex.Need.mk ?_ ?_; (first | trivial | omega | (constructor <;> omega)); conv => whnf) | (refine Need.mk ?_ ?_; (focus (exact Ex.take_len (enc := aRc) (sz := 10) (fun _ => rfl) hd)); conv => whnf)))
                    refine ⟨k + 2, hlt, by dsimp only; omega, ?_⟩
                    refine Weak.of [0, 1, 2, 6] [] rfl rfl ?_ ?_
                    · (repeat' (first | exact True.intro | refine And.intro ?_ ?_)) <;> (first | exact rfl | exact WRow.snoc (x := aRc (at_ Rc.o v.rs (k + 1))) (take_gd aRc Rc.o v.rs (k + 1) hlt) (contL_flatM (fun _ => rfl) _) rfl (by (repeat' (first | exact True.intro | exact Wv_refl rfl | exact Wv.nil (List.eq_nil_of_length_eq_zero hm4.symm) | refine And.intro ?_ ?_))) | (first | exact Or.inr ⟨rfl, rfl⟩ | (refine Or.inl ⟨rfl, ?_⟩; (repeat' (first | exact True.intro | exact rfl | refine And.intro ?_ ?_)) <;> (try (conv => whnf)) <;> (repeat' (fail)) <;> ((intro _ _; rfl)))))
                    · (repeat' (first | exact True.intro | exact rfl | refine And.intro ?_ ?_)) <;> (try (conv => whnf)) <;> (repeat' (fail))
                | succ m =>
                  (conv => whnf); (repeat ((refine Ex.Need.mk ?_ ?_; (omega); conv => whnf)))
                  refine KIf.dec (fun hm3 => ?_) (fun hm3 => ?_)
                  · have hm4 : (m + 1) < (at_ Rc.o v.rs (k + 1)).ss.length := by simp only [Int.toNat_natCast] at hm3; omega
                    have h7 := hf.rr _ hm _ (at_mem Sm.o _ (m + 1) hm4)
                    (conv => whnf); (repeat (first | (refine Ex.NCase.s (Nat.succ_ne_zero _) ?_; conv => whnf) | (refine Ex.Need.mk (p := Ex.okDraw _ = true) ?_ ?_; decide +kernel; conv => whnf) | (refine Ex.Need.mk ?_ ?_; (first | trivial | omega | (constructor <;> omega)); conv => whnf) | ((refine Ex.DCall.pure (CopyRuns_k _ h7) ?_); conv => whnf) | (refine Need.mk ?_ ?_; (focus (exact Ex.take_len (enc := aSm) (sz := 2) (fun _ => rfl) hm2)); conv => whnf)))
                    refine ⟨m + 2, by omega, by dsimp only; omega, ?_⟩
                    refine Weak.of [0, 1, 2, 3, 4, 8] [] rfl rfl ?_ ?_
                    · (repeat' (first | exact True.intro | refine And.intro ?_ ?_)) <;> (first | exact rfl | exact WRow.snoc (x := aSm (at_ Sm.o (at_ Rc.o v.rs (k + 1)).ss (m + 1))) (take_gd aSm Sm.o (at_ Rc.o v.rs (k + 1)).ss (m + 1) hm4) (contL_flatM (fun _ => rfl) _) rfl (Wvl_refl rfl) | exact Or.inr ⟨rfl, contL_flatM (fun _ => rfl) _⟩ | (first | exact Or.inr ⟨rfl, rfl⟩ | (refine Or.inl ⟨rfl, ?_⟩; (repeat' (first | exact True.intro | exact rfl | refine And.intro ?_ ?_)) <;> (try (conv => whnf)) <;> (repeat' (fail)) <;> ((intro _ _; rfl)))))
                    · (repeat' (first | exact True.intro | exact rfl | refine And.intro ?_ ?_)) <;> (try (conv => whnf)) <;> (repeat' (fail))
                  · have hm4 : (m + 1) = (at_ Rc.o v.rs (k + 1)).ss.length := by simp only [Int.toNat_natCast] at hm3; omega
                    (conv => whnf); (repeat (first | (refine Ex.NCase.s (Nat.succ_ne_zero _) ?_; conv => whnf) | (refine Ex.Need.mk ?_ ?_; (first | trivial | omega | (constructor <;> omega)); conv => whnf) | (refine Need.mk ?_ ?_; (focus (exact Ex.take_len (enc := aRc) (sz := 10) (fun _ => rfl) hd)); conv => whnf)))
                    refine ⟨k + 2, hlt, by dsimp only; omega, ?_⟩
                    refine Weak.of [0, 1, 2, 7] [5] rfl rfl ?_ ?_
                    · (repeat' (first | exact True.intro | refine And.intro ?_ ?_)) <;> (first | exact rfl | exact WRow.snoc (x := aRc (at_ Rc.o v.rs (k + 1))) (take_gd aRc Rc.o v.rs (k + 1) hlt) (contL_flatM (fun _ => rfl) _) rfl (by (repeat' (first | exact True.intro | exact Wv_refl rfl | exact Wv.list (fun _ => rfl) (fun _ => rfl) rfl (by simp) hm4 (by rw [hm4, List.take_length]) | refine And.intro ?_ ?_))) | (first | exact Or.inr ⟨rfl, rfl⟩ | (refine Or.inl ⟨rfl, ?_⟩; (repeat' (first | exact True.intro | exact rfl | refine And.intro ?_ ?_)) <;> (try (conv => whnf)) <;> (repeat' (fail)) <;> ((intro _ _; rfl)))))
                    · (repeat' (first | exact True.intro | exact rfl | refine And.intro ?_ ?_)) <;> (try (conv => whnf)) <;> (repeat' (fail))
            · have hb2 : Nat.ble (0 + (at_ Rc.o v.rs (k + 1)).es.length) 0 = false := by cases h : Nat.ble (0 + (at_ Rc.o v.rs (k + 1)).es.length) 0 with | false => rfl | true => have := Nat.le_of_ble_eq_true h; omega
              (conv => whnf); (repeat (first | (refine Ex.KIf.t ?_ ?_; assumption; conv => whnf) | (refine Ex.KIf.f ?_ ?_; assumption; conv => whnf) | (refine Ex.Need.mk ?_ ?_; (first | omega | (simp only [Int.toNat_natCast]; (omega))); conv => whnf) | (refine Ex.Need.mk (fun _ _ => rfl) ?_; conv => whnf) | (refine RK.of (storeC_nil (flat_nil hn) rfl) ?_; conv => whnf)))
              refine WLoop.inv kmix (D := Nat) (fun m => (at_ Rc.o v.rs (k + 1)).ss.length - m) (fun m => m ≤ (at_ Rc.o v.rs (k + 1)).ss.length)
                (fun m => slots [(1, .ptr 0 0), (2, .ptr 1 0), (3, .ptr 2 0), (4, ib (k + 1 : Nat)), (5, .ptr 4 0), (6, ib m)] 79)
                (fun m => heapOf (match m with
                  | 0 => [.row (aPt v) 26 0, .row [ib 0, .sc (.slice none 0 0), .sc (.slice none 0 0), .sc (.slice none 0 0), tb []] 26 0, .row [ib v.c, LS 2 aRun Run.o v.al, .so 3 0 (k + 1) 0, LS 1 aI 0 v.ds, tb v.mp] 26 0, .row ((v.rs.take (k + 1)).flatMap aRc) 66 10, .row [bb (at_ Rc.o v.rs (k + 1)).u, ib (at_ Rc.o v.rs (k + 1)).q, ib (at_ Rc.o v.rs (k + 1)).k, ib (at_ Rc.o v.rs (k + 1)).b.r, ib (at_ Rc.o v.rs (k + 1)).b.q, ib (at_ Rc.o v.rs (k + 1)).ln, ib (at_ Rc.o v.rs (k + 1)).ds, LS 3 aNm Nm.o (at_ Rc.o v.rs (k + 1)).ns, .sc (.slice none 0 0), LS 4 aEn En.o (at_ Rc.o v.rs (k + 1)).es] 66 0]
                  | m + 1 => [.row (aPt v) 26 0, .row [ib 0, .sc (.slice none 0 0), .sc (.slice none 0 0), .sc (.slice none 0 0), tb []] 26 0, .row [ib v.c, LS 2 aRun Run.o v.al, .so 3 0 (k + 1) 0, LS 1 aI 0 v.ds, tb v.mp] 26 0, .row ((v.rs.take (k + 1)).flatMap aRc) 66 10, .row [bb (at_ Rc.o v.rs (k + 1)).u, ib (at_ Rc.o v.rs (k + 1)).q, ib (at_ Rc.o v.rs (k + 1)).k, ib (at_ Rc.o v.rs (k + 1)).b.r, ib (at_ Rc.o v.rs (k + 1)).b.q, ib (at_ Rc.o v.rs (k + 1)).ln, ib (at_ Rc.o v.rs (k + 1)).ds, LS 3 aNm Nm.o (at_ Rc.o v.rs (k + 1)).ns, .so 5 0 (m + 1) 0, LS 4 aEn En.o (at_ Rc.o v.rs (k + 1)).es] 66 0, .row (((at_ Rc.o v.rs (k + 1)).ss.take (m + 1)).flatMap aSm) 80 2])) 0 (Nat.zero_le _) ?_ ?_
              · refine Weak.of [0, 1, 2, 3, 4] [5, 7] rfl rfl ?_ ?_
                · (repeat' (first | exact True.intro | refine And.intro ?_ ?_)) <;> (first | exact rfl | (first | exact Or.inr ⟨rfl, rfl⟩ | exact Or.inr ⟨rfl, Ex.contL_flat (fun _ => rfl) _⟩ | (refine Or.inl ⟨rfl, ?_⟩; (repeat' (first | exact True.intro | exact (by first | exact Wv.list (fun _ => rfl) (fun _ => rfl) rfl (by simp) (Nat.zero_add _) (flat_range _ _ _) | exact Wv.mt hb (Nat.zero_add _) rfl (by simp)) | exact rfl | refine And.intro ?_ ?_)) <;> (try (conv => whnf)) <;> (repeat' (fail)) <;> ((intro _ _; rfl)))))
                · (repeat' (first | exact True.intro | exact rfl | refine And.intro ?_ ?_)) <;> (try (conv => whnf)) <;> (repeat' (fail))
              · clear hn he hb hb2
                intro m hm2
                cases m with
                | zero =>
                  (conv => whnf); (repeat ((refine Ex.Need.mk ?_ ?_; (omega); conv => whnf)))
                  refine KIf.dec (fun hm3 => ?_) (fun hm3 => ?_)
                  · have hm4 : 0 < (at_ Rc.o v.rs (k + 1)).ss.length := by simp only [Int.toNat_natCast] at hm3; omega
                    have h7 := hf.rr _ hm _ (at_mem Sm.o _ 0 hm4)
                    (conv => whnf); (repeat (first | (refine Ex.NCase.s (Nat.succ_ne_zero _) ?_; conv => whnf) | (refine Ex.Need.mk (p := Ex.okDraw _ = true) ?_ ?_; decide +kernel; conv => whnf) | (refine Ex.Need.mk ?_ ?_; (first | trivial | omega); conv => whnf) | ((refine Ex.DCall.pure (CopyRuns_k _ h7) ?_); conv => whnf)))
                    refine ⟨1, by omega, by dsimp only; omega, ?_⟩
                    refine Weak.of [0, 1, 2, 3, 4, 7] [] rfl rfl ?_ ?_
                    · (repeat' (first | exact True.intro | refine And.intro ?_ ?_)) <;> (first | exact rfl | exact WRow.snoc (l := []) (x := aSm (at_ Sm.o (at_ Rc.o v.rs (k + 1)).ss 0)) (take_gd aSm Sm.o (at_ Rc.o v.rs (k + 1)).ss 0 hm4) rfl rfl (Wvl_refl rfl) | exact Or.inr ⟨rfl, contL_flatM (fun _ => rfl) _⟩ | (first | exact Or.inr ⟨rfl, rfl⟩ | (refine Or.inl ⟨rfl, ?_⟩; (repeat' (first | exact True.intro | exact rfl | refine And.intro ?_ ?_)) <;> (try (conv => whnf)) <;> (repeat' (fail)) <;> ((intro _ _; rfl)))))
                    · (repeat' (first | exact True.intro | exact rfl | refine And.intro ?_ ?_)) <;> (try (conv => whnf)) <;> (repeat' (fail))
                  · have hm4 : 0 = (at_ Rc.o v.rs (k + 1)).ss.length := by simp only [Int.toNat_natCast] at hm3; omega
                    (conv => whnf); (repeat (first | (refine Ex.NCase.s (Nat.succ_ne_zero _) ?_; conv => whnf) | (refine Ex.Need.mk ?_ ?_; (first | trivial | omega | (constructor <;> omega)); conv => whnf) | (refine Need.mk ?_ ?_; (focus (exact Ex.take_len (enc := aRc) (sz := 10) (fun _ => rfl) hd)); conv => whnf)))
                    refine ⟨k + 2, hlt, by dsimp only; omega, ?_⟩
                    refine Weak.of [0, 1, 2, 6] [] rfl rfl ?_ ?_
                    · (repeat' (first | exact True.intro | refine And.intro ?_ ?_)) <;> (first | exact rfl | exact WRow.snoc (x := aRc (at_ Rc.o v.rs (k + 1))) (take_gd aRc Rc.o v.rs (k + 1) hlt) (contL_flatM (fun _ => rfl) _) rfl (by (repeat' (first | exact True.intro | exact Wv_refl rfl | exact Wv.nil (List.eq_nil_of_length_eq_zero hm4.symm) | refine And.intro ?_ ?_))) | (first | exact Or.inr ⟨rfl, rfl⟩ | (refine Or.inl ⟨rfl, ?_⟩; (repeat' (first | exact True.intro | exact rfl | refine And.intro ?_ ?_)) <;> (try (conv => whnf)) <;> (repeat' (fail)) <;> ((intro _ _; rfl)))))
                    · (repeat' (first | exact True.intro | exact rfl | refine And.intro ?_ ?_)) <;> (try (conv => whnf)) <;> (repeat' (fail))
                | succ m =>
                  (conv => whnf); (repeat ((refine Ex.Need.mk ?_ ?_; (omega); conv => whnf)))
                  refine KIf.dec (fun hm3 => ?_) (fun hm3 => ?_)
                  · have hm4 : (m + 1) < (at_ Rc.o v.rs (k + 1)).ss.length := by simp only [Int.toNat_natCast] at hm3; omega
                    have h7 := hf.rr _ hm _ (at_mem Sm.o _ (m + 1) hm4)
                    (conv => whnf); (repeat (first | (refine Ex.NCase.s (Nat.succ_ne_zero _) ?_; conv => whnf) | (refine Ex.Need.mk (p := Ex.okDraw _ = true) ?_ ?_; decide +kernel; conv => whnf) | (refine Ex.Need.mk ?_ ?_; (first | trivial | omega | (constructor <;> omega)); conv => whnf) | ((refine Ex.DCall.pure (CopyRuns_k _ h7) ?_); conv => whnf) | (refine Need.mk ?_ ?_; (focus (exact Ex.take_len (enc := aSm) (sz := 2) (fun _ => rfl) hm2)); conv => whnf)))
                    refine ⟨m + 2, by omega, by dsimp only; omega, ?_⟩
                    refine Weak.of [0, 1, 2, 3, 4, 8] [] rfl rfl ?_ ?_
                    · (repeat' (first | exact True.intro | refine And.intro ?_ ?_)) <;> (first | exact rfl | exact WRow.snoc (x := aSm (at_ Sm.o (at_ Rc.o v.rs (k + 1)).ss (m + 1))) (take_gd aSm Sm.o (at_ Rc.o v.rs (k + 1)).ss (m + 1) hm4) (contL_flatM (fun _ => rfl) _) rfl (Wvl_refl rfl) | exact Or.inr ⟨rfl, contL_flatM (fun _ => rfl) _⟩ | (first | exact Or.inr ⟨rfl, rfl⟩ | (refine Or.inl ⟨rfl, ?_⟩; (repeat' (first | exact True.intro | exact rfl | refine And.intro ?_ ?_)) <;> (try (conv => whnf)) <;> (repeat' (fail)) <;> ((intro _ _; rfl)))))
                    · (repeat' (first | exact True.intro | exact rfl | refine And.intro ?_ ?_)) <;> (try (conv => whnf)) <;> (repeat' (fail))
                  · have hm4 : (m + 1) = (at_ Rc.o v.rs (k + 1)).ss.length := by simp only [Int.toNat_natCast] at hm3; omega
                    (conv => whnf); (repeat (first | (refine Ex.NCase.s (Nat.succ_ne_zero _) ?_; conv => whnf) | (refine Ex.Need.mk ?_ ?_; (first | trivial | omega | (constructor <;> omega)); conv => whnf) | (refine Need.mk ?_ ?_; (focus (exact Ex.take_len (enc := aRc) (sz := 10) (fun _ => rfl) hd)); conv => whnf)))
                    refine ⟨k + 2, hlt, by dsimp only; omega, ?_⟩
                    refine Weak.of [0, 1, 2, 7] [5] rfl rfl ?_ ?_
                    · (repeat' (first | exact True.intro | refine And.intro ?_ ?_)) <;> (first | exact rfl | exact WRow.snoc (x := aRc (at_ Rc.o v.rs (k + 1))) (take_gd aRc Rc.o v.rs (k + 1) hlt) (contL_flatM (fun _ => rfl) _) rfl (by (repeat' (first | exact True.intro | exact Wv_refl rfl | exact Wv.list (fun _ => rfl) (fun _ => rfl) rfl (by simp) hm4 (by rw [hm4, List.take_length]) | refine And.intro ?_ ?_))) | (first | exact Or.inr ⟨rfl, rfl⟩ | (refine Or.inl ⟨rfl, ?_⟩; (repeat' (first | exact True.intro | exact rfl | refine And.intro ?_ ?_)) <;> (try (conv => whnf)) <;> (repeat' (fail)) <;> ((intro _ _; rfl)))))
                    · (repeat' (first | exact True.intro | exact rfl | refine And.intro ?_ ?_)) <;> (try (conv => whnf)) <;> (repeat' (fail))
          · have hb : Nat.ble (0 + (at_ Rc.o v.rs (k + 1)).ns.length) 0 = false := by cases h : Nat.ble (0 + (at_ Rc.o v.rs (k + 1)).ns.length) 0 with | false => rfl | true => have := Nat.le_of_ble_eq_true h; omega
            by_cases he : (at_ Rc.o v.rs (k + 1)).es.length = 0
            · have hb2 : (at_ Rc.o v.rs (k + 1)).es = [] := List.eq_nil_of_length_eq_zero he
              have hc2 : Nat.ble (0 + (at_ Rc.o v.rs (k + 1)).es.length) 0 = true := by rw [hb2]; rfl
              (conv => whnf); (repeat (first | (refine Ex.KIf.t ?_ ?_; assumption; conv => whnf) | (refine Ex.KIf.f ?_ ?_; assumption; conv => whnf) | (refine Ex.Need.mk ?_ ?_; (first | omega | (simp only [Int.toNat_natCast]; (omega))); conv => whnf) | (refine Ex.Need.mk (fun _ _ => rfl) ?_; conv => whnf) | (refine RK.of (storeC_nil (flat_nil he) rfl) ?_; conv => whnf)))
              refine WLoop.inv kmix (D := Nat) (fun m => (at_ Rc.o v.rs (k + 1)).ss.length - m) (fun m => m ≤ (at_ Rc.o v.rs (k + 1)).ss.length)
                (fun m => slots [(1, .ptr 0 0), (2, .ptr 1 0), (3, .ptr 2 0), (4, ib (k + 1 : Nat)), (5, .ptr 4 0), (6, ib m)] 79)
                (fun m => heapOf (match m with
                  | 0 => [.row (aPt v) 26 0, .row [ib 0, .sc (.slice none 0 0), .sc (.slice none 0 0), .sc (.slice none 0 0), tb []] 26 0, .row [ib v.c, LS 2 aRun Run.o v.al, .so 3 0 (k + 1) 0, LS 1 aI 0 v.ds, tb v.mp] 26 0, .row ((v.rs.take (k + 1)).flatMap aRc) 66 10, .row [bb (at_ Rc.o v.rs (k + 1)).u, ib (at_ Rc.o v.rs (k + 1)).q, ib (at_ Rc.o v.rs (k + 1)).k, ib (at_ Rc.o v.rs (k + 1)).b.r, ib (at_ Rc.o v.rs (k + 1)).b.q, ib (at_ Rc.o v.rs (k + 1)).ln, ib (at_ Rc.o v.rs (k + 1)).ds, LS 3 aNm Nm.o (at_ Rc.o v.rs (k + 1)).ns, .sc (.slice none 0 0), LS 4 aEn En.o (at_ Rc.o v.rs (k + 1)).es] 66 0]
                  | m + 1 => [.row (aPt v) 26 0, .row [ib 0, .sc (.slice none 0 0), .sc (.slice none 0 0), .sc (.slice none 0 0), tb []] 26 0, .row [ib v.c, LS 2 aRun Run.o v.al, .so 3 0 (k + 1) 0, LS 1 aI 0 v.ds, tb v.mp] 26 0, .row ((v.rs.take (k + 1)).flatMap aRc) 66 10, .row [bb (at_ Rc.o v.rs (k + 1)).u, ib (at_ Rc.o v.rs (k + 1)).q, ib (at_ Rc.o v.rs (k + 1)).k, ib (at_ Rc.o v.rs (k + 1)).b.r, ib (at_ Rc.o v.rs (k + 1)).b.q, ib (at_ Rc.o v.rs (k + 1)).ln, ib (at_ Rc.o v.rs (k + 1)).ds, LS 3 aNm Nm.o (at_ Rc.o v.rs (k + 1)).ns, .so 5 0 (m + 1) 0, LS 4 aEn En.o (at_ Rc.o v.rs (k + 1)).es] 66 0, .row (((at_ Rc.o v.rs (k + 1)).ss.take (m + 1)).flatMap aSm) 80 2])) 0 (Nat.zero_le _) ?_ ?_
              · refine Weak.of [0, 1, 2, 3, 4] [6, 7] rfl rfl ?_ ?_
                · (repeat' (first | exact True.intro | refine And.intro ?_ ?_)) <;> (first | exact rfl | (first | exact Or.inr ⟨rfl, rfl⟩ | exact Or.inr ⟨rfl, Ex.contL_flat (fun _ => rfl) _⟩ | (refine Or.inl ⟨rfl, ?_⟩; (repeat' (first | exact True.intro | exact (by first | exact Wv.list (fun _ => rfl) (fun _ => rfl) rfl (by simp) (Nat.zero_add _) (flat_range _ _ _) | exact Wv.mt hb2 (Nat.zero_add _) rfl (by simp)) | exact rfl | refine And.intro ?_ ?_)) <;> (try (conv => whnf)) <;> (repeat' (fail)) <;> ((intro _ _; rfl)))))
                · (repeat' (first | exact True.intro | exact rfl | refine And.intro ?_ ?_)) <;> (try (conv => whnf)) <;> (repeat' (fail))
              · clear hn he hb hb2
                intro m hm2
                cases m with
                | zero =>
                  (conv => whnf); (repeat ((refine Ex.Need.mk ?_ ?_; (omega); conv => whnf)))
                  refine KIf.dec (fun hm3 => ?_) (fun hm3 => ?_)
                  · have hm4 : 0 < (at_ Rc.o v.rs (k + 1)).ss.length := by simp only [Int.toNat_natCast] at hm3; omega
                    have h7 := hf.rr _ hm _ (at_mem Sm.o _ 0 hm4)
                    (conv => whnf); (repeat (first | (refine Ex.NCase.s (Nat.succ_ne_zero _) ?_; conv => whnf) | (refine Ex.Need.mk (p := Ex.okDraw _ = true) ?_ ?_; decide +kernel; conv => whnf) | (refine Ex.Need.mk ?_ ?_; (first | trivial | omega); conv => whnf) | ((refine Ex.DCall.pure (CopyRuns_k _ h7) ?_); conv => whnf)))
                    refine ⟨1, by omega, by dsimp only; omega, ?_⟩
                    refine Weak.of [0, 1, 2, 3, 4, 7] [] rfl rfl ?_ ?_
                    · (repeat' (first | exact True.intro | refine And.intro ?_ ?_)) <;> (first | exact rfl | exact WRow.snoc (l := []) (x := aSm (at_ Sm.o (at_ Rc.o v.rs (k + 1)).ss 0)) (take_gd aSm Sm.o (at_ Rc.o v.rs (k + 1)).ss 0 hm4) rfl rfl (Wvl_refl rfl) | exact Or.inr ⟨rfl, contL_flatM (fun _ => rfl) _⟩ | (first | exact Or.inr ⟨rfl, rfl⟩ | (refine Or.inl ⟨rfl, ?_⟩; (repeat' (first | exact True.intro | exact rfl | refine And.intro ?_ ?_)) <;> (try (conv => whnf)) <;> (repeat' (fail)) <;> ((intro _ _; rfl)))))
                    · (repeat' (first | exact True.intro | exact rfl | refine And.intro ?_ ?_)) <;> (try (conv => whnf)) <;> (repeat' (fail))
                  · have hm4 : 0 = (at_ Rc.o v.rs (k + 1)).ss.length := by simp only [Int.toNat_natCast] at hm3; omega
                    (conv => whnf); (repeat (first | (refine Ex.NCase.s (Nat.succ_ne_zero _) ?_; conv => whnf) | (refine Ex.Need.mk ?_ ?_; (first | trivial | omega | (constructor <;> omega)); conv => whnf) | (refine Need.mk ?_ ?_; (focus (exact Ex.take_len (enc := aRc) (sz := 10) (fun _ => rfl) hd)); conv => whnf)))
                    refine ⟨k + 2, hlt, by dsimp only; omega, ?_⟩
                    refine Weak.of [0, 1, 2, 6] [] rfl rfl ?_ ?_
                    · (repeat' (first | exact True.intro | refine And.intro ?_ ?_)) <;> (first | exact rfl | exact WRow.snoc (x := aRc (at_ Rc.o v.rs (k + 1))) (take_gd aRc Rc.o v.rs (k + 1) hlt) (contL_flatM (fun _ => rfl) _) rfl (by (repeat' (first | exact True.intro | exact Wv_refl rfl | exact Wv.nil (List.eq_nil_of_length_eq_zero hm4.symm) | refine And.intro ?_ ?_))) | (first | exact Or.inr ⟨rfl, rfl⟩ | (refine Or.inl ⟨rfl, ?_⟩; (repeat' (first | exact True.intro | exact rfl | refine And.intro ?_ ?_)) <;> (try (conv => whnf)) <;> (repeat' (fail)) <;> ((intro _ _; rfl)))))
                    · (repeat' (first | exact True.intro | exact rfl | refine And.intro ?_ ?_)) <;> (try (conv => whnf)) <;> (repeat' (fail))
                | succ m =>
                  (conv => whnf); (repeat ((refine Ex.Need.mk ?_ ?_; (omega); conv => whnf)))
                  refine KIf.dec (fun hm3 => ?_) (fun hm3 => ?_)
                  · have hm4 : (m + 1) < (at_ Rc.o v.rs (k + 1)).ss.length := by simp only [Int.toNat_natCast] at hm3; omega
                    have h7 := hf.rr _ hm _ (at_mem Sm.o _ (m + 1) hm4)
                    (conv => whnf); (repeat (first | (refine Ex.NCase.s (Nat.succ_ne_zero _) ?_; conv => whnf) | (refine Ex.Need.mk (p := Ex.okDraw _ = true) ?_ ?_; decide +kernel; conv => whnf) | (refine Ex.Need.mk ?_ ?_; (first | trivial | omega | (constructor <;> omega)); conv => whnf) | ((refine Ex.DCall.pure (CopyRuns_k _ h7) ?_); conv => whnf) | (refine Need.mk ?_ ?_; (focus (exact Ex.take_len (enc := aSm) (sz := 2) (fun _ => rfl) hm2)); conv => whnf)))
                    refine ⟨m + 2, by omega, by dsimp only; omega, ?_⟩
                    refine Weak.of [0, 1, 2, 3, 4, 8] [] rfl rfl ?_ ?_
                    · (repeat' (first | exact True.intro | refine And.intro ?_ ?_)) <;> (first | exact rfl | exact WRow.snoc (x := aSm (at_ Sm.o (at_ Rc.o v.rs (k + 1)).ss (m + 1))) (take_gd aSm Sm.o (at_ Rc.o v.rs (k + 1)).ss (m + 1) hm4) (contL_flatM (fun _ => rfl) _) rfl (Wvl_refl rfl) | exact Or.inr ⟨rfl, contL_flatM (fun _ => rfl) _⟩ | (first | exact Or.inr ⟨rfl, rfl⟩ | (refine Or.inl ⟨rfl, ?_⟩; (repeat' (first | exact True.intro | exact rfl | refine And.intro ?_ ?_)) <;> (try (conv => whnf)) <;> (repeat' (fail)) <;> ((intro _ _; rfl)))))
                    · (repeat' (first | exact True.intro | exact rfl | refine And.intro ?_ ?_)) <;> (try (conv => whnf)) <;> (repeat' (fail))
                  · have hm4 : (m + 1) = (at_ Rc.o v.rs (k + 1)).ss.length := by simp only [Int.toNat_natCast] at hm3; omega
                    (conv => whnf); (repeat (first | (refine Ex.NCase.s (Nat.succ_ne_zero _) ?_; conv => whnf) | (refine Ex.Need.mk ?_ ?_; (first | trivial | omega | (constructor <;> omega)); conv => whnf) | (refine Need.mk ?_ ?_; (focus (exact Ex.take_len (enc := aRc) (sz := 10) (fun _ => rfl) hd)); conv => whnf)))
                    refine ⟨k + 2, hlt, by dsimp only; omega, ?_⟩
                    refine Weak.of [0, 1, 2, 7] [5] rfl rfl ?_ ?_
                    · (repeat' (first | exact True.intro | refine And.intro ?_ ?_)) <;> (first | exact rfl | exact WRow.snoc (x := aRc (at_ Rc.o v.rs (k + 1))) (take_gd aRc Rc.o v.rs (k + 1) hlt) (contL_flatM (fun _ => rfl) _) rfl (by (repeat' (first | exact True.intro | exact Wv_refl rfl | exact Wv.list (fun _ => rfl) (fun _ => rfl) rfl (by simp) hm4 (by rw [hm4, List.take_length]) | refine And.intro ?_ ?_))) | (first | exact Or.inr ⟨rfl, rfl⟩ | (refine Or.inl ⟨rfl, ?_⟩; (repeat' (first | exact True.intro | exact rfl | refine And.intro ?_ ?_)) <;> (try (conv => whnf)) <;> (repeat' (fail)) <;> ((intro _ _; rfl)))))
                    · (repeat' (first | exact True.intro | exact rfl | refine And.intro ?_ ?_)) <;> (try (conv => whnf)) <;> (repeat' (fail))
            · have hb2 : Nat.ble (0 + (at_ Rc.o v.rs (k + 1)).es.length) 0 = false := by cases h : Nat.ble (0 + (at_ Rc.o v.rs (k + 1)).es.length) 0 with | false => rfl | true => have := Nat.le_of_ble_eq_true h; omega
              (conv => whnf); (repeat (first | (refine Ex.KIf.f ?_ ?_; assumption; conv => whnf) | (refine Ex.Need.mk ?_ ?_; (first | omega | (simp only [Int.toNat_natCast]; (omega))); conv => whnf) | (refine Ex.Need.mk (fun _ _ => rfl) ?_; conv => whnf)))
              refine WLoop.inv kmix (D := Nat) (fun m => (at_ Rc.o v.rs (k + 1)).ss.length - m) (fun m => m ≤ (at_ Rc.o v.rs (k + 1)).ss.length)
                (fun m => slots [(1, .ptr 0 0), (2, .ptr 1 0), (3, .ptr 2 0), (4, ib (k + 1 : Nat)), (5, .ptr 4 0), (6, ib m)] 79)
                (fun m => heapOf (match m with
                  | 0 => [.row (aPt v) 26 0, .row [ib 0, .sc (.slice none 0 0), .sc (.slice none 0 0), .sc (.slice none 0 0), tb []] 26 0, .row [ib v.c, LS 2 aRun Run.o v.al, .so 3 0 (k + 1) 0, LS 1 aI 0 v.ds, tb v.mp] 26 0, .row ((v.rs.take (k + 1)).flatMap aRc) 66 10, .row [bb (at_ Rc.o v.rs (k + 1)).u, ib (at_ Rc.o v.rs (k + 1)).q, ib (at_ Rc.o v.rs (k + 1)).k, ib (at_ Rc.o v.rs (k + 1)).b.r, ib (at_ Rc.o v.rs (k + 1)).b.q, ib (at_ Rc.o v.rs (k + 1)).ln, ib (at_ Rc.o v.rs (k + 1)).ds, LS 3 aNm Nm.o (at_ Rc.o v.rs (k + 1)).ns, .sc (.slice none 0 0), LS 4 aEn En.o (at_ Rc.o v.rs (k + 1)).es] 66 0]
                  | m + 1 => [.row (aPt v) 26 0, .row [ib 0, .sc (.slice none 0 0), .sc (.slice none 0 0), .sc (.slice none 0 0), tb []] 26 0, .row [ib v.c, LS 2 aRun Run.o v.al, .so 3 0 (k + 1) 0, LS 1 aI 0 v.ds, tb v.mp] 26 0, .row ((v.rs.take (k + 1)).flatMap aRc) 66 10, .row [bb (at_ Rc.o v.rs (k + 1)).u, ib (at_ Rc.o v.rs (k + 1)).q, ib (at_ Rc.o v.rs (k + 1)).k, ib (at_ Rc.o v.rs (k + 1)).b.r, ib (at_ Rc.o v.rs (k + 1)).b.q, ib (at_ Rc.o v.rs (k + 1)).ln, ib (at_ Rc.o v.rs (k + 1)).ds, LS 3 aNm Nm.o (at_ Rc.o v.rs (k + 1)).ns, .so 5 0 (m + 1) 0, LS 4 aEn En.o (at_ Rc.o v.rs (k + 1)).es] 66 0, .row (((at_ Rc.o v.rs (k + 1)).ss.take (m + 1)).flatMap aSm) 80 2])) 0 (Nat.zero_le _) ?_ ?_
              · refine Weak.of [0, 1, 2, 3, 4] [6, 8] rfl rfl ?_ ?_
                · (repeat' (first | exact True.intro | refine And.intro ?_ ?_)) <;> (first | exact rfl | (first | exact Or.inr ⟨rfl, rfl⟩ | exact Or.inr ⟨rfl, Ex.contL_flat (fun _ => rfl) _⟩ | (refine Or.inl ⟨rfl, ?_⟩; (repeat' (first | exact True.intro | exact (by (exact Wv.list (fun _ => rfl) (fun _ => rfl) rfl (by simp) (Nat.zero_add _) (flat_range _ _ _))) | exact rfl | refine And.intro ?_ ?_)) <;> (try (conv => whnf)) <;> (repeat' (fail)) <;> ((intro _ _; rfl)))))
                · (repeat' (first | exact True.intro | exact rfl | refine And.intro ?_ ?_)) <;> (try (conv => whnf)) <;> (repeat' (fail))
              · clear hn he hb hb2
                intro m hm2
                cases m with
                | zero =>
                  (conv => whnf); (repeat ((refine Ex.Need.mk ?_ ?_; (omega); conv => whnf)))
                  refine KIf.dec (fun hm3 => ?_) (fun hm3 => ?_)
                  · have hm4 : 0 < (at_ Rc.o v.rs (k + 1)).ss.length := by simp only [Int.toNat_natCast] at hm3; omega
                    have h7 := hf.rr _ hm _ (at_mem Sm.o _ 0 hm4)
                    (conv => whnf); (repeat (first | (refine Ex.NCase.s (Nat.succ_ne_zero _) ?_; conv => whnf) | (refine Ex.Need.mk (p := Ex.okDraw _ = true) ?_ ?_; decide +kernel; conv => whnf) | (refine Ex.Need.mk ?_ ?_; (first | trivial | omega); conv => whnf) | ((refine Ex.DCall.pure (CopyRuns_k _ h7) ?_); conv => whnf)))
                    refine ⟨1, by omega, by dsimp only; omega, ?_⟩
                    refine Weak.of [0, 1, 2, 3, 4, 7] [] rfl rfl ?_ ?_
                    · (repeat' (first | exact True.intro | refine And.intro ?_ ?_)) <;> (first | exact rfl | exact WRow.snoc (l := []) (x := aSm (at_ Sm.o (at_ Rc.o v.rs (k + 1)).ss 0)) (take_gd aSm Sm.o (at_ Rc.o v.rs (k + 1)).ss 0 hm4) rfl rfl (Wvl_refl rfl) | exact Or.inr ⟨rfl, contL_flatM (fun _ => rfl) _⟩ | (first | exact Or.inr ⟨rfl, rfl⟩ | (refine Or.inl ⟨rfl, ?_⟩; (repeat' (first | exact True.intro | exact rfl | refine And.intro ?_ ?_)) <;> (try (conv => whnf)) <;> (repeat' (fail)) <;> ((intro _ _; rfl)))))
                    · (repeat' (first | exact True.intro | exact rfl | refine And.intro ?_ ?_)) <;> (try (conv => whnf)) <;> (repeat' (fail))
                  · have hm4 : 0 = (at_ Rc.o v.rs (k + 1)).ss.length := by simp only [Int.toNat_natCast] at hm3; omega
                    (conv => whnf); (repeat (first | (refine Ex.NCase.s (Nat.succ_ne_zero _) ?_; conv => whnf) | (refine Ex.Need.mk ?_ ?_; (first | trivial | omega | (constructor <;> omega)); conv => whnf) | (refine Need.mk ?_ ?_; (focus (exact Ex.take_len (enc := aRc) (sz := 10) (fun _ => rfl) hd)); conv => whnf)))
                    refine ⟨k + 2, hlt, by dsimp only; omega, ?_⟩
                    refine Weak.of [0, 1, 2, 6] [] rfl rfl ?_ ?_
                    · (repeat' (first | exact True.intro | refine And.intro ?_ ?_)) <;> (first | exact rfl | exact WRow.snoc (x := aRc (at_ Rc.o v.rs (k + 1))) (take_gd aRc Rc.o v.rs (k + 1) hlt) (contL_flatM (fun _ => rfl) _) rfl (by (repeat' (first | exact True.intro | exact Wv_refl rfl | exact Wv.nil (List.eq_nil_of_length_eq_zero hm4.symm) | refine And.intro ?_ ?_))) | (first | exact Or.inr ⟨rfl, rfl⟩ | (refine Or.inl ⟨rfl, ?_⟩; (repeat' (first | exact True.intro | exact rfl | refine And.intro ?_ ?_)) <;> (try (conv => whnf)) <;> (repeat' (fail)) <;> ((intro _ _; rfl)))))
                    · (repeat' (first | exact True.intro | exact rfl | refine And.intro ?_ ?_)) <;> (try (conv => whnf)) <;> (repeat' (fail))
                | succ m =>
                  (conv => whnf); (repeat ((refine Ex.Need.mk ?_ ?_; (omega); conv => whnf)))
                  refine KIf.dec (fun hm3 => ?_) (fun hm3 => ?_)
                  · have hm4 : (m + 1) < (at_ Rc.o v.rs (k + 1)).ss.length := by simp only [Int.toNat_natCast] at hm3; omega
                    have h7 := hf.rr _ hm _ (at_mem Sm.o _ (m + 1) hm4)
                    (conv => whnf); (repeat (first | (refine Ex.NCase.s (Nat.succ_ne_zero _) ?_; conv => whnf) | (refine Ex.Need.mk (p := Ex.okDraw _ = true) ?_ ?_; decide +kernel; conv => whnf) | (refine Ex.Need.mk ?_ ?_; (first | trivial | omega | (constructor <;> omega)); conv => whnf) | ((refine Ex.DCall.pure (CopyRuns_k _ h7) ?_); conv => whnf) | (refine Need.mk ?_ ?_; (focus (exact Ex.take_len (enc := aSm) (sz := 2) (fun _ => rfl) hm2)); conv => whnf)))
                    refine ⟨m + 2, by omega, by dsimp only; omega, ?_⟩
                    refine Weak.of [0, 1, 2, 3, 4, 8] [] rfl rfl ?_ ?_
                    · (repeat' (first | exact True.intro | refine And.intro ?_ ?_)) <;> (first | exact rfl | exact WRow.snoc (x := aSm (at_ Sm.o (at_ Rc.o v.rs (k + 1)).ss (m + 1))) (take_gd aSm Sm.o (at_ Rc.o v.rs (k + 1)).ss (m + 1) hm4) (contL_flatM (fun _ => rfl) _) rfl (Wvl_refl rfl) | exact Or.inr ⟨rfl, contL_flatM (fun _ => rfl) _⟩ | (first | exact Or.inr ⟨rfl, rfl⟩ | (refine Or.inl ⟨rfl, ?_⟩; (repeat' (first | exact True.intro | exact rfl | refine And.intro ?_ ?_)) <;> (try (conv => whnf)) <;> (repeat' (fail)) <;> ((intro _ _; rfl)))))
                    · (repeat' (first | exact True.intro | exact rfl | refine And.intro ?_ ?_)) <;> (try (conv => whnf)) <;> (repeat' (fail))
                  · have hm4 : (m + 1) = (at_ Rc.o v.rs (k + 1)).ss.length := by simp only [Int.toNat_natCast] at hm3; omega
                    (conv => whnf); (repeat (first | (refine Ex.NCase.s (Nat.succ_ne_zero _) ?_; conv => whnf) | (refine Ex.Need.mk ?_ ?_; (first | trivial | omega | (constructor <;> omega)); conv => whnf) | (refine Need.mk ?_ ?_; (focus (exact Ex.take_len (enc := aRc) (sz := 10) (fun _ => rfl) hd)); conv => whnf)))
                    refine ⟨k + 2, hlt, by dsimp only; omega, ?_⟩
                    refine Weak.of [0, 1, 2, 7] [5] rfl rfl ?_ ?_
                    · (repeat' (first | exact True.intro | refine And.intro ?_ ?_)) <;> (first | exact rfl | exact WRow.snoc (x := aRc (at_ Rc.o v.rs (k + 1))) (take_gd aRc Rc.o v.rs (k + 1) hlt) (contL_flatM (fun _ => rfl) _) rfl (by (repeat' (first | exact True.intro | exact Wv_refl rfl | exact Wv.list (fun _ => rfl) (fun _ => rfl) rfl (by simp) hm4 (by rw [hm4, List.take_length]) | refine And.intro ?_ ?_))) | (first | exact Or.inr ⟨rfl, rfl⟩ | (refine Or.inl ⟨rfl, ?_⟩; (repeat' (first | exact True.intro | exact rfl | refine And.intro ?_ ?_)) <;> (try (conv => whnf)) <;> (repeat' (fail)) <;> ((intro _ _; rfl)))))
                    · (repeat' (first | exact True.intro | exact rfl | refine And.intro ?_ ?_)) <;> (try (conv => whnf)) <;> (repeat' (fail))
        · have hk : (k + 1) = v.rs.length := by omega
          (conv => whnf); (repeat (fail))
          refine .z [3] ?_
          conv => whnf
          refine ⟨⟨rfl, rfl⟩, Wz_refl rfl, ?_, Wz_refl rfl, rfl, trivial⟩
          exact Wz.list (fun _ => rfl) (fun _ => rfl) rfl (by simp) hk (by rw [hk, List.take_length])
end Go.Proofs.YtgcjejajljhnaaaGreatDoor
namespace Ck
open Go Go.Ex Go.Proofs.YtgcjejajljhnaaaGreatDoor
def smFewP (x : Sm) : Bool := decide (x.r.length ≤ 30)
def rcFewP (x : Rc) : Bool := (decide (x.ns.length ≤ 10) && (decide (x.ss.length ≤ 10) && decide (x.es.length ≤ 60))) && (x.ns.all nmFew && (x.es.all enFew && x.ss.all smFewP))
def fewP (v : Pt) : Bool := (decide (v.al.length ≤ 30) && (decide (v.rs.length ≤ 99) && (decide (v.ds.length ≤ 70) && decide (v.mp.length ≤ 600)))) && v.rs.all rcFewP
theorem few_p (v : VPt) : few v = fewP v.p := by
  have h : ∀ x : VRc, rcFewP x.p = rcFew x := fun x => by
    unfold rcFewP rcFew
    show (decide (x.ns.length ≤ 10) && (decide ((x.ss.map VSm.p).length ≤ 10) && decide (x.es.length ≤ 60)) && (x.ns.all nmFew && (x.es.all enFew && (x.ss.map VSm.p).all smFewP))) = _
    rw [List.length_map, List.all_map]
    rfl
  unfold few fewP
  show _ = (decide (v.al.length ≤ 30) && (decide ((v.rs.map VRc.p).length ≤ 99) && (decide (v.ds.length ≤ 70) && decide (v.mp.length ≤ 600))) && (v.rs.map VRc.p).all rcFewP)
  rw [List.length_map, List.all_map, show rcFewP ∘ VRc.p = rcFew from funext h]
structure FitP (v : Pt) : Prop where
  f : Fit' v
  nl : ∀ x ∈ v.rs, ∀ n ∈ x.ns, n.n.length ≤ 100000
  el : ∀ x ∈ v.rs, ∀ n ∈ x.es, n.n.length ≤ 100000
  mp : v.mp.length ≤ 100000
theorem FitP.view {x : Pt} (h : FitP x) {y : VPt} (hp : y.p = x) : y.Fit ∧ y.mp.length ≤ 100000 := by
  subst hp
  have hm : ∀ r ∈ y.rs, r.p ∈ y.p.rs := fun r hr => List.mem_map_of_mem hr
  refine ⟨⟨h.f.al, by have := h.f.rs; rwa [VPt.p_len] at this, fun r hr => ⟨h.f.ns _ (hm r hr), by have := h.f.ss _ (hm r hr); rwa [VRc.p_len] at this, h.f.es _ (hm r hr), fun s hs => h.f.rr _ (hm r hr) s.p (List.mem_map_of_mem hs), h.nl _ (hm r hr), h.el _ (hm r hr)⟩, h.f.ds⟩, h.mp⟩
theorem few_fitP {v : Pt} (h : fewP v = true) : FitP v := by
  unfold fewP at h
  simp only [Bool.and_eq_true, decide_eq_true_eq] at h
  have hr : ∀ x ∈ v.rs, (x.ns.length ≤ 10 ∧ x.ss.length ≤ 10 ∧ x.es.length ≤ 60) ∧ (∀ n ∈ x.ns, n.n.length ≤ 40) ∧ (∀ n ∈ x.es, n.n.length ≤ 40) ∧ ∀ s ∈ x.ss, s.r.length ≤ 30 := fun x hx => by
    have := List.all_eq_true.1 h.2 x hx
    unfold rcFewP at this
    simp only [Bool.and_eq_true, decide_eq_true_eq, List.all_eq_true, nmFew, enFew, smFewP] at this
    exact this
  refine ⟨⟨by omega, by omega, by omega, fun x hx => ?_, fun x hx => ?_, fun x hx => ?_, fun x hx y hy => ?_⟩, fun x hx n hn => ?_, fun x hx n hn => ?_, by omega⟩
  · have := (hr x hx).1; omega
  · have := (hr x hx).1; omega
  · have := (hr x hx).1; omega
  · have := (hr x hx).2.2.2 y hy; omega
  · have := (hr x hx).2.1 n hn; omega
  · have := (hr x hx).2.2.1 n hn; omega
end Ck
namespace Go.Proofs.YtgcjejajljhnaaaGreatDoor
open Go.Ex Ck
set_option maxRecDepth 100000
set_option maxHeartbeats 400000
theorem few_k (v : Pt) : Ex.PureC Tryz.prog 11 [aPts v] (bb (fewP v)) := view_k (fun _ => rfl) fun y w hp hA => by
  subst hp
  rw [← few_p]
  exact few_any y w.heap.size w hA (Nat.le_refl _)
theorem CheckParts_k (v : Pt) (h : FitP v) : Ex.PureC Tryz.prog 12 [aPts v] (.tup [ib (Ck.partsIx v), ib (Ck.partsErr v)]) := view_k (fun _ => ⟨_, ⟨_, _, rfl, rfl, _, _, rfl, rfl, rfl⟩, rfl⟩) fun y w hp hA => by
  have hf := h.view hp
  subst hp
  exact CheckParts_any y w.heap.size w hA (Nat.le_refl _) hf.1 hf.2
theorem rCheckParts_k (v : Pt) (h : FitP v) : Ex.PureC Tryz.prog 14 [aPts v] (.tup [ib (Ck.partsIx v), ib (Ck.partsErr v)]) := view_k (fun _ => ⟨_, ⟨_, _, rfl, rfl, _, _, rfl, rfl, rfl⟩, rfl⟩) fun y w hp hA => by
  have hf := h.view hp
  subst hp
  exact rCheckParts_any y w.heap.size w hA (Nat.le_refl _) hf.1 hf.2
theorem partsErr_k (v : Pt) (h : FitP v) : Ex.PureC Tryz.prog 52 [aPts v] (ib (Ck.partsErr v)) := by
  refine Ex.PureC.of kmix rfl ?_
  (conv => whnf); (repeat (((refine Ex.KCall.pure (CheckParts_k v h) ?_); conv => whnf)))
  refine .z [] ?_; (conv => whnf)
  exact ⟨rfl, rfl⟩
theorem rErr_k (v : Pt) (h : FitP v) : Ex.PureC Tryz.prog 16 [aPts v] (ib (Ck.partsErr v)) := by
  refine Ex.PureC.of kmix rfl ?_
  (conv => whnf); (repeat (((refine Ex.KCall.pure (rCheckParts_k v h) ?_); conv => whnf)))
  refine .z [] ?_; (conv => whnf)
  exact ⟨rfl, rfl⟩
end Go.Proofs.YtgcjejajljhnaaaGreatDoor
namespace Go.Proofs.YtgcjejajljhnaaaGreatDoor
open Go.Ex Ck
set_option maxRecDepth 100000
set_option maxHeartbeats 1000000
theorem g78 : (Tryz.prog.eqGuardType Tryz.prog.depth 78) = false := by decide +kernel
theorem h78 : (Tryz.prog.stoodInHeld 78) = false := by decide +kernel
theorem eqO_run2 (a b : Run) : eqO Tryz.prog 78 (.agg (aRun a)) (.agg (aRun b)) = .ok (decide (a.s = b.s) && (decide (a.l = b.l) && true)) := by
  have e1 : bd (ty Tryz.prog 78) (fun i => eqA i.d (.agg (aRun a)) (.agg (aRun b))) = .no "comparison" := by
    conv => lhs; whnf
  have e2 : eqT Tryz.prog 20 78 (.agg (aRun a)) (.agg (aRun b)) = .ok (decide (a.s = b.s) && (decide (a.l = b.l) && true)) := by
    rw [eqT]
    rw [h78]
    rfl
  unfold eqO
  rw [e1]
  show eqW _ _ _ _ = _
  unfold eqW
  rw [g78]
  exact e2
theorem runEq (a b : Run) : (decide (a.s = b.s) && (decide (a.l = b.l) && true)) = decide (a = b) := by
  obtain ⟨s, l⟩ := a
  obtain ⟨s', l'⟩ := b
  simp [Run.mk.injEq]
theorem g61 : (Tryz.prog.eqGuardType Tryz.prog.depth 61) = false := by decide +kernel
theorem h61 : (Tryz.prog.stoodInHeld 61) = false := by decide +kernel
theorem g71 : (Tryz.prog.eqGuardType Tryz.prog.depth 71) = false := by decide +kernel
theorem h71 : (Tryz.prog.stoodInHeld 71) = false := by decide +kernel
theorem g73 : (Tryz.prog.eqGuardType Tryz.prog.depth 73) = false := by decide +kernel
theorem h73 : (Tryz.prog.stoodInHeld 73) = false := by decide +kernel
theorem bdok {α β : Type} {r : R α} {b : α} {k : α → R β} (h : r = .ok b) : bd r k = k b := by rw [h]; rfl
theorem eqT_ref (n : Nat) (a b : Ref) : eqT Tryz.prog (n + 2) 61 (.agg (aRef a)) (.agg (aRef b)) = .ok (decide (a.r = b.r) && (decide (a.q = b.q) && true)) := by
  rw [eqT]
  rw [h61]
  rfl
theorem eqT_nm (a b : Nm) : eqT Tryz.prog 20 71 (.agg (aNm a)) (.agg (aNm b)) = .ok ((decide (a.d.r = b.d.r) && (decide (a.d.q = b.d.q) && true)) && (decide (a.n = b.n) && true)) := by
  rw [eqT]
  rw [h71]
  conv => lhs; whnf
  have e : eqT Tryz.prog 19 61 (.agg [ib a.d.r, ib a.d.q]) (.agg [ib b.d.r, ib b.d.q]) = _ := eqT_ref 17 a.d b.d
  dsimp only
  rw [e]
  rfl
theorem eqT_en (a b : En) : eqT Tryz.prog 20 73 (.agg (aEn a)) (.agg (aEn b)) = .ok (decide (a.n = b.n) && ((decide (a.f.r = b.f.r) && (decide (a.f.q = b.f.q) && true)) && (decide (a.z = b.z) && true))) := by
  rw [eqT]
  rw [h73]
  conv => lhs; whnf
  have e : eqT Tryz.prog 19 61 (.agg [ib a.f.r, ib a.f.q]) (.agg [ib b.f.r, ib b.f.q]) = _ := eqT_ref 17 a.f b.f
  refine (bdok (b := (decide (a.f.r = b.f.r) && (decide (a.f.q = b.f.q) && true)) && (decide (a.z = b.z) && true)) ?_).trans rfl
  conv => lhs; whnf
  dsimp only
  rw [e]
  rfl
theorem eqO_of {P : Program} {T : TypeId} {x y : AV} {e : String} {r : R Bool} (e1 : bd (ty P T) (fun i => eqA i.d x y) = .no e) (g : P.eqGuardType P.depth T = false) (h : eqT P 20 T x y = r) : eqO P T x y = r := by
  unfold eqO
  rw [e1]
  show eqW _ _ _ _ = _
  unfold eqW
  rw [g]
  exact h
theorem refEq (a b : Ref) : (decide (a.r = b.r) && (decide (a.q = b.q) && true)) = decide (a = b) := by
  obtain ⟨s, l⟩ := a
  obtain ⟨s', l'⟩ := b
  simp [Ref.mk.injEq]
theorem eqO_ref (a b : Ref) : eqO Tryz.prog 61 (.agg (aRef a)) (.agg (aRef b)) = .ok (decide (a = b)) := by
  rw [← refEq]
  exact eqO_of (e := "comparison") (by conv => lhs; whnf) g61 (eqT_ref 18 a b)
theorem eqO_nm (a b : Nm) : eqO Tryz.prog 71 (.agg (aNm a)) (.agg (aNm b)) = .ok (decide (a = b)) := by
  have h := eqT_nm a b
  rw [refEq] at h
  refine eqO_of (e := "comparison") (by conv => lhs; whnf) g71 (h.trans ?_)
  obtain ⟨s, l⟩ := a
  obtain ⟨s', l'⟩ := b
  simp [Nm.mk.injEq]
theorem eqO_en (a b : En) : eqO Tryz.prog 73 (.agg (aEn a)) (.agg (aEn b)) = .ok (decide (a = b)) := by
  have h := eqT_en a b
  rw [refEq] at h
  refine eqO_of (e := "comparison") (by conv => lhs; whnf) g73 (h.trans ?_)
  obtain ⟨s, l, m⟩ := a
  obtain ⟨s', l', m'⟩ := b
  simp [En.mk.injEq]
theorem rwithin_k (n lo hi : Int) : Ex.PureC Tryz.prog 29 [ib n, ib lo, ib hi] (bb (Ck.wi n lo hi)) := by
  refine Ex.PureC.of kmix rfl ?_
  conv => whnf
  unfold Ck.wi
  by_cases h : lo ≤ n
  · (conv => whnf); (repeat ((refine Ex.KIf.dt ?_ ?_; assumption; conv => whnf)))
    (refine .z [] ?_; conv => whnf); (repeat' (fail)) <;> (try (conv => whnf)) <;> (repeat' (fail)) <;> (simp [h])
  · (conv => whnf); (repeat ((refine Ex.KIf.df ?_ ?_; assumption; conv => whnf)))
    (refine .z [] ?_; conv => whnf); (repeat' (fail)) <;> (try (conv => whnf)) <;> (repeat' (fail)) <;> (simp [h])
theorem Ints_k (a b : List Int) (ha : a.length ≤ 100000) (hb : b.length ≤ 100000) : Ex.PureC Tryz.prog 27 [LS 1 aI 0 a, LS 1 aI 0 b] (bb (decide (a = b))) := by
  refine Ex.PureC.of kmix rfl ?_
  conv => whnf
  by_cases h : a.length = b.length
  · (conv => whnf); (repeat ((refine KIf.f (by simp [h]) ?_; conv => whnf)))
    refine WLoop.inv kmix (D := Nat) (fun d => a.length - d) (fun d => d ≤ a.length ∧ ∀ i, i < d → at_ 0 a i = at_ 0 b i) (fun d => slots [(0, LS 1 aI 0 a), (1, LS 1 aI 0 b), (4, bb false), (5, ib d)] 26) (fun d => heapOf []) 0 ⟨Nat.zero_le _, fun i hi => absurd hi (Nat.not_lt_zero _)⟩ ?_ ?_
    · (refine Ex.Weak.of [] [] rfl rfl ?_ ?_ <;> (repeat' (first | exact True.intro | refine And.intro ?_ ?_)) <;> (conv => whnf) <;> (repeat' (exact rfl)) <;> ((intro _ _; rfl)))
    · rintro d ⟨hd, hs⟩
      conv => whnf
      refine KIf.dec (fun hlt => ?_) (fun hlt => ?_)
      · have h1 : d < a.length := by omega
        have h2 : d < b.length := by omega
        by_cases he : at_ 0 a d = at_ 0 b d
        · skip
          (conv => whnf); (repeat (first | (refine Ex.Need.mk (p := Ex.okDraw _ = true) ?_ ?_; decide +kernel; conv => whnf) | (refine Ex.Need.mk ?_ ?_; (first | omega | (constructor <;> omega)); conv => whnf) | (refine KIf.f (by simp [he]) ?_; conv => whnf)))
          refine ⟨d + 1, ⟨h1, fun i hi => ?_⟩, by dsimp only; omega, ?_⟩
          · rcases Nat.lt_or_ge i d with h3 | h3
            · exact hs i h3
            · rw [show i = d by omega]; exact he
          · (refine Ex.Weak.of [] [] rfl rfl ?_ ?_ <;> (repeat' (first | exact True.intro | refine And.intro ?_ ?_)) <;> (conv => whnf) <;> (repeat' (exact rfl)) <;> ((intro _ _; rfl)))
        · have hne : a ≠ b := fun e => he (by rw [e])
          (conv => whnf); (repeat (first | (refine Ex.Need.mk (p := Ex.okDraw _ = true) ?_ ?_; decide +kernel; conv => whnf) | (refine Ex.Need.mk ?_ ?_; (omega); conv => whnf) | (refine KIf.t (by simp [he]) ?_; conv => whnf)))
          (refine .z [] ?_; conv => whnf); (repeat' (fail)) <;> (try (conv => whnf)) <;> (repeat' (fail)) <;> ((exact decide_eq_false hne))
      · have hab : a = b := (ix_ext 0 h.symm fun i hi => hs i (by omega)).symm
        (conv => whnf); (repeat (fail))
        (refine .z [] ?_; conv => whnf); (repeat' (fail)) <;> (try (conv => whnf)) <;> (repeat' (fail)) <;> ((exact decide_eq_true hab))
  · have hne : a ≠ b := fun e => h (by rw [e])
    (conv => whnf); (repeat ((refine KIf.t (by simp; omega) ?_; conv => whnf)))
    (refine .z [] ?_; conv => whnf); (repeat' (fail)) <;> (try (conv => whnf)) <;> (repeat' (fail)) <;> ((exact decide_eq_false hne))
theorem SameRuns_k (a b : List Run) (ha : a.length ≤ 100000) (hb : b.length ≤ 100000) : Ex.PureC Tryz.prog 62 [LS 2 aRun Run.o a, LS 2 aRun Run.o b] (bb (decide (a = b))) := by
  refine Ex.PureC.of kmix rfl ?_
  conv => whnf
  by_cases h : a.length = b.length
  · (conv => whnf); (repeat ((refine KIf.f (by simp [h]) ?_; conv => whnf)))
    refine WLoop.inv kmix (D := Nat) (fun d => a.length - d) (fun d => d ≤ a.length ∧ ∀ i, i < d → at_ Run.o a i = at_ Run.o b i) (fun d => slots [(0, LS 2 aRun Run.o a), (1, LS 2 aRun Run.o b), (4, bb false), (5, ib d)] 26) (fun d => heapOf []) 0 ⟨Nat.zero_le _, fun i hi => absurd hi (Nat.not_lt_zero _)⟩ ?_ ?_
    · (refine Ex.Weak.of [] [] rfl rfl ?_ ?_ <;> (repeat' (first | exact True.intro | refine And.intro ?_ ?_)) <;> (conv => whnf) <;> (repeat' (exact rfl)) <;> ((intro _ _; rfl)))
    · rintro d ⟨hd, hs⟩
      conv => whnf
      refine KIf.dec (fun hlt => ?_) (fun hlt => ?_)
      · have h1 : d < a.length := by omega
        have h2 : d < b.length := by omega
        by_cases he : at_ Run.o a d = at_ Run.o b d
        · skip
          (conv => whnf); (repeat (first | (refine Ex.Need.mk (p := Ex.okDraw _ = true) ?_ ?_; decide +kernel; conv => whnf) | (refine Ex.Need.mk ?_ ?_; (first | omega | (constructor <;> omega)); conv => whnf) | (refine Ex.RK.of (eqO_run2 _ _) ?_; conv => whnf) | (refine KIf.f (by exact congrArg Bool.not ((runEq (at_ Run.o a d) (at_ Run.o b d)).trans (decide_eq_true he))) ?_; conv => whnf)))
          refine ⟨d + 1, ⟨h1, fun i hi => ?_⟩, by dsimp only; omega, ?_⟩
          · rcases Nat.lt_or_ge i d with h3 | h3
            · exact hs i h3
            · rw [show i = d by omega]; exact he
          · (refine Ex.Weak.of [] [] rfl rfl ?_ ?_ <;> (repeat' (first | exact True.intro | refine And.intro ?_ ?_)) <;> (conv => whnf) <;> (repeat' (exact rfl)) <;> ((intro _ _; rfl)))
        · have hne : a ≠ b := fun e => he (by rw [e])
          (conv => whnf); (repeat (first | (refine Ex.Need.mk (p := Ex.okDraw _ = true) ?_ ?_; decide +kernel; conv => whnf) | (refine Ex.Need.mk ?_ ?_; (omega); conv => whnf) | (refine Ex.RK.of (eqO_run2 _ _) ?_; conv => whnf) | (refine KIf.t (by exact congrArg Bool.not ((runEq (at_ Run.o a d) (at_ Run.o b d)).trans (decide_eq_false he))) ?_; conv => whnf)))
          (refine .z [] ?_; conv => whnf); (repeat' (fail)) <;> (try (conv => whnf)) <;> (repeat' (fail)) <;> ((exact decide_eq_false hne))
      · have hab : a = b := (ix_ext Run.o h.symm fun i hi => hs i (by omega)).symm
        (conv => whnf); (repeat (fail))
        (refine .z [] ?_; conv => whnf); (repeat' (fail)) <;> (try (conv => whnf)) <;> (repeat' (fail)) <;> ((exact decide_eq_true hab))
  · have hne : a ≠ b := fun e => h (by rw [e])
    (conv => whnf); (repeat ((refine KIf.t (by simp; omega) ?_; conv => whnf)))
    (refine .z [] ?_; conv => whnf); (repeat' (fail)) <;> (try (conv => whnf)) <;> (repeat' (fail)) <;> ((exact decide_eq_false hne))
theorem SameStreams_k (a b : List Sm) (ha : a.length ≤ 100000) (hb : b.length ≤ 100000) (har : ∀ x ∈ a, x.r.length ≤ 100000) (hbr : ∀ x ∈ b, x.r.length ≤ 100000) : Ex.PureC Tryz.prog 33 [LS 2 aSm Sm.o a, LS 2 aSm Sm.o b] (bb (decide (a = b))) := by
  refine Ex.PureC.of kmix rfl ?_
  conv => whnf
  by_cases h : a.length = b.length
  · (conv => whnf); (repeat ((refine KIf.f (by simp [h]) ?_; conv => whnf)))
    refine WLoop.inv kmix (D := Nat) (fun d => a.length - d) (fun d => d ≤ a.length ∧ ∀ i, i < d → at_ Sm.o a i = at_ Sm.o b i) (fun d => slots [(0, LS 2 aSm Sm.o a), (1, LS 2 aSm Sm.o b), (4, bb false), (5, ib d)] 42) (fun d => heapOf []) 0 ⟨Nat.zero_le _, fun i hi => absurd hi (Nat.not_lt_zero _)⟩ ?_ ?_
    · (refine Ex.Weak.of [] [] rfl rfl ?_ ?_ <;> (repeat' (first | exact True.intro | refine And.intro ?_ ?_)) <;> (conv => whnf) <;> (repeat' (exact rfl)) <;> ((intro _ _; rfl)))
    · rintro d ⟨hd, hs⟩
      conv => whnf
      refine KIf.dec (fun hlt => ?_) (fun hlt => ?_)
      · have h1 : d < a.length := by omega
        have h2 : d < b.length := by omega
        have hr1 := har _ (at_mem Sm.o a d h1)
        have hr2 := hbr _ (at_mem Sm.o b d h2)
        by_cases hz : (at_ Sm.o a d).z = (at_ Sm.o b d).z
        · by_cases hr : (at_ Sm.o a d).r = (at_ Sm.o b d).r
          · have he : at_ Sm.o a d = at_ Sm.o b d := by
              generalize at_ Sm.o a d = x at *
              generalize at_ Sm.o b d = y at *
              obtain ⟨x1, x2⟩ := x
              obtain ⟨y1, y2⟩ := y
              simp only at hz hr
              rw [hz, hr]
            (conv => whnf); (repeat (first | (refine Ex.Need.mk (p := Ex.okDraw _ = true) ?_ ?_; decide +kernel; conv => whnf) | (refine Ex.Need.mk ?_ ?_; (first | omega | (constructor <;> omega)); conv => whnf) | ((refine Ex.DCall.pure (SameRuns_k _ _ hr1 hr2) ?_); conv => whnf) | (refine KIf.f (congrArg Bool.not (decide_eq_true hr)) ?_; conv => whnf) | (refine KIf.f (congrArg Bool.not (decide_eq_true hz)) ?_; conv => whnf)))
            refine ⟨d + 1, ⟨h1, fun i hi => ?_⟩, by dsimp only; omega, ?_⟩
            · rcases Nat.lt_or_ge i d with h3 | h3
              · exact hs i h3
              · rw [show i = d by omega]; exact he
            · (refine Ex.Weak.of [] [] rfl rfl ?_ ?_ <;> (repeat' (first | exact True.intro | refine And.intro ?_ ?_)) <;> (conv => whnf) <;> (repeat' (exact rfl)) <;> ((intro _ _; rfl)))
          · have hne : a ≠ b := fun e => hr (by rw [e])
            (conv => whnf); (repeat (first | (refine Ex.Need.mk (p := Ex.okDraw _ = true) ?_ ?_; decide +kernel; conv => whnf) | (refine Ex.Need.mk ?_ ?_; (omega); conv => whnf) | ((refine Ex.DCall.pure (SameRuns_k _ _ hr1 hr2) ?_); conv => whnf) | (refine KIf.t (congrArg Bool.not (decide_eq_false hr)) ?_; conv => whnf) | (refine KIf.f (congrArg Bool.not (decide_eq_true hz)) ?_; conv => whnf)))
            (refine .z [] ?_; conv => whnf); (repeat' (fail)) <;> (try (conv => whnf)) <;> (repeat' (fail)) <;> ((exact decide_eq_false hne))
        · have hne : a ≠ b := fun e => hz (by rw [e])
          (conv => whnf); (repeat (first | (refine Ex.KIf.t rfl ?_; conv => whnf) | (refine Ex.Need.mk (p := Ex.okDraw _ = true) ?_ ?_; decide +kernel; conv => whnf) | (refine Ex.Need.mk ?_ ?_; (omega); conv => whnf) | (refine KIf.t (congrArg Bool.not (decide_eq_false hz)) ?_; conv => whnf)))
          (refine .z [] ?_; conv => whnf); (repeat' (fail)) <;> (try (conv => whnf)) <;> (repeat' (fail)) <;> ((exact decide_eq_false hne))
      · have hab : a = b := (ix_ext Sm.o h.symm fun i hi => hs i (by omega)).symm
        (conv => whnf); (repeat (fail))
        (refine .z [] ?_; conv => whnf); (repeat' (fail)) <;> (try (conv => whnf)) <;> (repeat' (fail)) <;> ((exact decide_eq_true hab))
  · have hne : a ≠ b := fun e => h (by rw [e])
    (conv => whnf); (repeat ((refine KIf.t (by simp; omega) ?_; conv => whnf)))
    (refine .z [] ?_; conv => whnf); (repeat' (fail)) <;> (try (conv => whnf)) <;> (repeat' (fail)) <;> ((exact decide_eq_false hne))
end Go.Proofs.YtgcjejajljhnaaaGreatDoor
namespace Go.Proofs.YtgcjejajljhnaaaGreatDoor
open Go.Ex (ai ab ay)
theorem awmix : Tryz.prog.follows .mixedOrders = true := by decide +kernel
theorem awidx : Ex.ExtOk Tryz.prog (Ex.extIdx 220) := Ex.extIdx_ok fun s c w => (Tryz.strings_IndexByte s c w).mono fun e w' ⟨he, hw⟩ => ⟨he, hw⟩
abbrev awx0 : Ex.Ext := Ex.extIdx 220
def awm0 : Ex.Memo :=
  { f := 134, args := [(ay [97])], v := (ai 0) }
theorem awm0_ok : awm0.Ok Tryz.prog := Ex.Memo.ok_of_check awmix (ext := Ex.extAnd awx0 (Ex.extAnd (Ex.extM []) (Ex.extOf []))) (Ex.extAnd_ok awidx (Ex.extAnd_ok (Ex.extM_ok (List.forall_mem_nil _)) (Ex.extOf_ok (List.forall_mem_nil _)))) (k := 2000) (by decide +kernel)
def awm1 : Ex.Memo :=
  { f := 134, args := [(ay [98])], v := (ai 0) }
theorem awm1_ok : awm1.Ok Tryz.prog := Ex.Memo.ok_of_check awmix (ext := Ex.extAnd awx0 (Ex.extAnd (Ex.extM [awm0]) (Ex.extOf []))) (Ex.extAnd_ok awidx (Ex.extAnd_ok (Ex.extM_ok (List.forall_mem_cons.2 ⟨awm0_ok, (List.forall_mem_nil _)⟩)) (Ex.extOf_ok (List.forall_mem_nil _)))) (k := 2000) (by decide +kernel)
def awm2 : Ex.Memo :=
  { f := 202, args := [(ay [98])], v := (ay [66]) }
theorem awm2_ok : awm2.Ok Tryz.prog := Ex.Memo.ok_of_check awmix (ext := Ex.extAnd awx0 (Ex.extAnd (Ex.extM [awm0, awm1]) (Ex.extOf []))) (Ex.extAnd_ok awidx (Ex.extAnd_ok (Ex.extM_ok (List.forall_mem_cons.2 ⟨awm0_ok, (List.forall_mem_cons.2 ⟨awm1_ok, (List.forall_mem_nil _)⟩)⟩)) (Ex.extOf_ok (List.forall_mem_nil _)))) (k := 2000) (by decide +kernel)
def awm3 : Ex.Memo :=
  { f := 202, args := [(ay [97])], v := (ay [65]) }
theorem awm3_ok : awm3.Ok Tryz.prog := Ex.Memo.ok_of_check awmix (ext := Ex.extAnd awx0 (Ex.extAnd (Ex.extM [awm0, awm1, awm2]) (Ex.extOf []))) (Ex.extAnd_ok awidx (Ex.extAnd_ok (Ex.extM_ok (List.forall_mem_cons.2 ⟨awm0_ok, (List.forall_mem_cons.2 ⟨awm1_ok, (List.forall_mem_cons.2 ⟨awm2_ok, (List.forall_mem_nil _)⟩)⟩)⟩)) (Ex.extOf_ok (List.forall_mem_nil _)))) (k := 2000) (by decide +kernel)
def awc0 : Ex.Chunk :=
  { f := 20, n := 52, args := [(.agg [(ai 64), (.sl 1 0 1 1), (.so 39 0 18 0), (.sl 2 0 1 1), (ay [15, 12, 0, 0, 0, 0, 0, 0])])], pre := [(1, (.row [(ai 0), (ai 4)] 78 0)), (2, (.row [(ai 1)] 3 0)), (39, (.row [(ab false), (ai 1), (ai 0), (ai 0), (ai 0), (ai 0), (ai 0), (.sc (.slice none 0 0)), (.sc (.slice none 0 0)), (.sc (.slice none 0 0)), (ab false), (ai 1), (ai 0), (ai 0), (ai 0), (ai 0), (ai 0), (.sc (.slice none 0 0)), (.sc (.slice none 0 0)), (.sc (.slice none 0 0)), (ab false), (ai 1), (ai 0), (ai 0), (ai 0), (ai 0), (ai 0), (.sc (.slice none 0 0)), (.sc (.slice none 0 0)), (.sc (.slice none 0 0)), (ab false), (ai 1), (ai 0), (ai 0), (ai 0), (ai 0), (ai 0), (.sc (.slice none 0 0)), (.sc (.slice none 0 0)), (.sc (.slice none 0 0)), (ab false), (ai 1), (ai 0), (ai 0), (ai 0), (ai 0), (ai 0), (.sc (.slice none 0 0)), (.sc (.slice none 0 0)), (.sc (.slice none 0 0)), (ab true), (ai 1), (ai 0), (ai 0), (ai 0), (ai 0), (ai 1), (.sc (.slice none 0 0)), (.sc (.slice none 0 0)), (.sl 41 0 2 2), (ab false), (ai 1), (ai 0), (ai 0), (ai 0), (ai 0), (ai 0), (.sc (.slice none 0 0)), (.sc (.slice none 0 0)), (.sc (.slice none 0 0)), (ab false), (ai 1), (ai 0), (ai 0), (ai 0), (ai 0), (ai 0), (.sc (.slice none 0 0)), (.sc (.slice none 0 0)), (.sc (.slice none 0 0)), (ab false), (ai 1), (ai 0), (ai 0), (ai 0), (ai 0), (ai 0), (.sc (.slice none 0 0)), (.sc (.slice none 0 0)), (.sc (.slice none 0 0)), (ab false), (ai 1), (ai 0), (ai 0), (ai 0), (ai 0), (ai 0), (.sc (.slice none 0 0)), (.sc (.slice none 0 0)), (.sc (.slice none 0 0)), (ab false), (ai 1), (ai 0), (ai 0), (ai 0), (ai 0), (ai 0), (.sc (.slice none 0 0)), (.sc (.slice none 0 0)), (.sc (.slice none 0 0)), (ab false), (ai 1), (ai 0), (ai 0), (ai 0), (ai 0), (ai 0), (.sc (.slice none 0 0)), (.sc (.slice none 0 0)), (.sc (.slice none 0 0)), (ab false), (ai 1), (ai 0), (ai 0), (ai 0), (ai 0), (ai 0), (.sc (.slice none 0 0)), (.sc (.slice none 0 0)), (.sc (.slice none 0 0)), (ab false), (ai 1), (ai 0), (ai 0), (ai 0), (ai 0), (ai 0), (.sc (.slice none 0 0)), (.sc (.slice none 0 0)), (.sc (.slice none 0 0)), (ab false), (ai 1), (ai 0), (ai 0), (ai 0), (ai 0), (ai 0), (.sc (.slice none 0 0)), (.sc (.slice none 0 0)), (.sc (.slice none 0 0)), (ab false), (ai 1), (ai 0), (ai 0), (ai 0), (ai 0), (ai 0), (.sc (.slice none 0 0)), (.sc (.slice none 0 0)), (.sc (.slice none 0 0)), (ab true), (ai 1), (ai 1), (ai 0), (ai 0), (ai 1), (ai 1), (.sl 42 0 1 1), (.sl 44 0 1 1), (.sc (.slice none 0 0)), (ab true), (ai 1), (ai 1), (ai 0), (ai 0), (ai 1), (ai 1), (.sl 45 0 1 1), (.sl 47 0 1 1), (.sc (.slice none 0 0))] 66 10)), (41, (.row [(ay [97]), (ai 16), (ai 1), (ai 300), (ay [98]), (ai 17), (ai 1), (ai 200)] 73 0)), (42, (.row [(ai 5), (ai 1), (ay [97])] 71 0)), (43, (.row [(ai 10), (ai 2)] 78 0)), (44, (.row [(.sl 43 0 1 1), (ai 300)] 80 0)), (45, (.row [(ai 5), (ai 1), (ay [98])] 71 0)), (46, (.row [(ai 11), (ai 1)] 78 0)), (47, (.row [(.sl 46 0 1 1), (ai 200)] 80 0))], v := (.tup [(.so 459 0 2 0), (ai 0)]), n' := 512, post := [(1, (.row [(ai 0), (ai 4)] 78 0)), (2, (.row [(ai 1)] 3 0)), (39, (.row [(ab false), (ai 1), (ai 0), (ai 0), (ai 0), (ai 0), (ai 0), (.sc (.slice none 0 0)), (.sc (.slice none 0 0)), (.sc (.slice none 0 0)), (ab false), (ai 1), (ai 0), (ai 0), (ai 0), (ai 0), (ai 0), (.sc (.slice none 0 0)), (.sc (.slice none 0 0)), (.sc (.slice none 0 0)), (ab false), (ai 1), (ai 0), (ai 0), (ai 0), (ai 0), (ai 0), (.sc (.slice none 0 0)), (.sc (.slice none 0 0)), (.sc (.slice none 0 0)), (ab false), (ai 1), (ai 0), (ai 0), (ai 0), (ai 0), (ai 0), (.sc (.slice none 0 0)), (.sc (.slice none 0 0)), (.sc (.slice none 0 0)), (ab false), (ai 1), (ai 0), (ai 0), (ai 0), (ai 0), (ai 0), (.sc (.slice none 0 0)), (.sc (.slice none 0 0)), (.sc (.slice none 0 0)), (ab true), (ai 1), (ai 0), (ai 0), (ai 0), (ai 0), (ai 1), (.sc (.slice none 0 0)), (.sc (.slice none 0 0)), (.sl 41 0 2 2), (ab false), (ai 1), (ai 0), (ai 0), (ai 0), (ai 0), (ai 0), (.sc (.slice none 0 0)), (.sc (.slice none 0 0)), (.sc (.slice none 0 0)), (ab false), (ai 1), (ai 0), (ai 0), (ai 0), (ai 0), (ai 0), (.sc (.slice none 0 0)), (.sc (.slice none 0 0)), (.sc (.slice none 0 0)), (ab false), (ai 1), (ai 0), (ai 0), (ai 0), (ai 0), (ai 0), (.sc (.slice none 0 0)), (.sc (.slice none 0 0)), (.sc (.slice none 0 0)), (ab false), (ai 1), (ai 0), (ai 0), (ai 0), (ai 0), (ai 0), (.sc (.slice none 0 0)), (.sc (.slice none 0 0)), (.sc (.slice none 0 0)), (ab false), (ai 1), (ai 0), (ai 0), (ai 0), (ai 0), (ai 0), (.sc (.slice none 0 0)), (.sc (.slice none 0 0)), (.sc (.slice none 0 0)), (ab false), (ai 1), (ai 0), (ai 0), (ai 0), (ai 0), (ai 0), (.sc (.slice none 0 0)), (.sc (.slice none 0 0)), (.sc (.slice none 0 0)), (ab false), (ai 1), (ai 0), (ai 0), (ai 0), (ai 0), (ai 0), (.sc (.slice none 0 0)), (.sc (.slice none 0 0)), (.sc (.slice none 0 0)), (ab false), (ai 1), (ai 0), (ai 0), (ai 0), (ai 0), (ai 0), (.sc (.slice none 0 0)), (.sc (.slice none 0 0)), (.sc (.slice none 0 0)), (ab false), (ai 1), (ai 0), (ai 0), (ai 0), (ai 0), (ai 0), (.sc (.slice none 0 0)), (.sc (.slice none 0 0)), (.sc (.slice none 0 0)), (ab false), (ai 1), (ai 0), (ai 0), (ai 0), (ai 0), (ai 0), (.sc (.slice none 0 0)), (.sc (.slice none 0 0)), (.sc (.slice none 0 0)), (ab true), (ai 1), (ai 1), (ai 0), (ai 0), (ai 1), (ai 1), (.sl 42 0 1 1), (.sl 44 0 1 1), (.sc (.slice none 0 0)), (ab true), (ai 1), (ai 1), (ai 0), (ai 0), (ai 1), (ai 1), (.sl 45 0 1 1), (.sl 47 0 1 1), (.sc (.slice none 0 0))] 66 10)), (41, (.row [(ay [97]), (ai 16), (ai 1), (ai 300), (ay [98]), (ai 17), (ai 1), (ai 200)] 73 0)), (42, (.row [(ai 5), (ai 1), (ay [97])] 71 0)), (43, (.row [(ai 10), (ai 2)] 78 0)), (44, (.row [(.sl 43 0 1 1), (ai 300)] 80 0)), (45, (.row [(ai 5), (ai 1), (ay [98])] 71 0)), (46, (.row [(ai 11), (ai 1)] 78 0)), (47, (.row [(.sl 46 0 1 1), (ai 200)] 80 0)), (459, (.row [(ai 1), (ai 17), (ai 0), (ai 9), (ai 5), (ai 1)] 86 3))] }
theorem awc0_ok : awc0.Ok Tryz.prog := Ex.Chunk.ok_of_check awmix (ext := Ex.extAnd awx0 (Ex.extAnd (Ex.extM [awm0, awm1, awm2, awm3]) (Ex.extOf []))) (Ex.extAnd_ok awidx (Ex.extAnd_ok (Ex.extM_ok (List.forall_mem_cons.2 ⟨awm0_ok, (List.forall_mem_cons.2 ⟨awm1_ok, (List.forall_mem_cons.2 ⟨awm2_ok, (List.forall_mem_cons.2 ⟨awm3_ok, (List.forall_mem_nil _)⟩)⟩)⟩)⟩)) (Ex.extOf_ok (List.forall_mem_nil _)))) (k := 2000) (by decide +kernel)
end Go.Proofs.YtgcjejajljhnaaaGreatDoor
namespace Go.Proofs.YtgcjejajljhnaaaGreatDoor
open Go.Ex (ai ab ay)
def awc1 : Ex.Chunk :=
  { f := 20, n := 565, args := [(.agg [(ai 64), (.sl 513 0 1 1), (.so 551 0 18 0), (.sl 514 0 1 1), (ay [15, 12, 0, 0, 0, 0, 0, 0])])], pre := [(513, (.row [(ai 0), (ai 4)] 78 0)), (514, (.row [(ai 1)] 3 0)), (551, (.row [(ab false), (ai 1), (ai 0), (ai 0), (ai 0), (ai 0), (ai 0), (.sc (.slice none 0 0)), (.sc (.slice none 0 0)), (.sc (.slice none 0 0)), (ab false), (ai 1), (ai 0), (ai 0), (ai 0), (ai 0), (ai 0), (.sc (.slice none 0 0)), (.sc (.slice none 0 0)), (.sc (.slice none 0 0)), (ab false), (ai 1), (ai 0), (ai 0), (ai 0), (ai 0), (ai 0), (.sc (.slice none 0 0)), (.sc (.slice none 0 0)), (.sc (.slice none 0 0)), (ab false), (ai 1), (ai 0), (ai 0), (ai 0), (ai 0), (ai 0), (.sc (.slice none 0 0)), (.sc (.slice none 0 0)), (.sc (.slice none 0 0)), (ab false), (ai 1), (ai 0), (ai 0), (ai 0), (ai 0), (ai 0), (.sc (.slice none 0 0)), (.sc (.slice none 0 0)), (.sc (.slice none 0 0)), (ab true), (ai 1), (ai 0), (ai 0), (ai 0), (ai 0), (ai 1), (.sc (.slice none 0 0)), (.sc (.slice none 0 0)), (.sl 553 4 1 1), (ab false), (ai 1), (ai 0), (ai 0), (ai 0), (ai 0), (ai 0), (.sc (.slice none 0 0)), (.sc (.slice none 0 0)), (.sc (.slice none 0 0)), (ab false), (ai 1), (ai 0), (ai 0), (ai 0), (ai 0), (ai 0), (.sc (.slice none 0 0)), (.sc (.slice none 0 0)), (.sc (.slice none 0 0)), (ab false), (ai 1), (ai 0), (ai 0), (ai 0), (ai 0), (ai 0), (.sc (.slice none 0 0)), (.sc (.slice none 0 0)), (.sc (.slice none 0 0)), (ab false), (ai 1), (ai 0), (ai 0), (ai 0), (ai 0), (ai 0), (.sc (.slice none 0 0)), (.sc (.slice none 0 0)), (.sc (.slice none 0 0)), (ab false), (ai 1), (ai 0), (ai 0), (ai 0), (ai 0), (ai 0), (.sc (.slice none 0 0)), (.sc (.slice none 0 0)), (.sc (.slice none 0 0)), (ab false), (ai 1), (ai 0), (ai 0), (ai 0), (ai 0), (ai 0), (.sc (.slice none 0 0)), (.sc (.slice none 0 0)), (.sc (.slice none 0 0)), (ab false), (ai 1), (ai 0), (ai 0), (ai 0), (ai 0), (ai 0), (.sc (.slice none 0 0)), (.sc (.slice none 0 0)), (.sc (.slice none 0 0)), (ab false), (ai 1), (ai 0), (ai 0), (ai 0), (ai 0), (ai 0), (.sc (.slice none 0 0)), (.sc (.slice none 0 0)), (.sc (.slice none 0 0)), (ab false), (ai 1), (ai 0), (ai 0), (ai 0), (ai 0), (ai 0), (.sc (.slice none 0 0)), (.sc (.slice none 0 0)), (.sc (.slice none 0 0)), (ab false), (ai 1), (ai 0), (ai 0), (ai 0), (ai 0), (ai 0), (.sc (.slice none 0 0)), (.sc (.slice none 0 0)), (.sc (.slice none 0 0)), (ab true), (ai 1), (ai 1), (ai 0), (ai 0), (ai 1), (ai 1), (.sl 554 0 1 1), (.sl 556 0 1 1), (.sc (.slice none 0 0)), (ab true), (ai 1), (ai 1), (ai 0), (ai 0), (ai 1), (ai 1), (.sl 557 0 1 1), (.sl 559 0 1 1), (.sc (.slice none 0 0))] 66 10)), (553, (.row [(ay [97]), (ai 16), (ai 1), (ai 300), (ay [98]), (ai 17), (ai 1), (ai 200)] 73 0)), (554, (.row [(ai 5), (ai 1), (ay [97])] 71 0)), (555, (.row [(ai 10), (ai 2)] 78 0)), (556, (.row [(.sl 555 0 1 1), (ai 300)] 80 0)), (557, (.row [(ai 5), (ai 1), (ay [98])] 71 0)), (558, (.row [(ai 11), (ai 1)] 78 0)), (559, (.row [(.sl 558 0 1 1), (ai 200)] 80 0))], v := (.tup [(.so 951 0 3 0), (ai 0)]), n' := 1012, post := [(513, (.row [(ai 0), (ai 4)] 78 0)), (514, (.row [(ai 1)] 3 0)), (551, (.row [(ab false), (ai 1), (ai 0), (ai 0), (ai 0), (ai 0), (ai 0), (.sc (.slice none 0 0)), (.sc (.slice none 0 0)), (.sc (.slice none 0 0)), (ab false), (ai 1), (ai 0), (ai 0), (ai 0), (ai 0), (ai 0), (.sc (.slice none 0 0)), (.sc (.slice none 0 0)), (.sc (.slice none 0 0)), (ab false), (ai 1), (ai 0), (ai 0), (ai 0), (ai 0), (ai 0), (.sc (.slice none 0 0)), (.sc (.slice none 0 0)), (.sc (.slice none 0 0)), (ab false), (ai 1), (ai 0), (ai 0), (ai 0), (ai 0), (ai 0), (.sc (.slice none 0 0)), (.sc (.slice none 0 0)), (.sc (.slice none 0 0)), (ab false), (ai 1), (ai 0), (ai 0), (ai 0), (ai 0), (ai 0), (.sc (.slice none 0 0)), (.sc (.slice none 0 0)), (.sc (.slice none 0 0)), (ab true), (ai 1), (ai 0), (ai 0), (ai 0), (ai 0), (ai 1), (.sc (.slice none 0 0)), (.sc (.slice none 0 0)), (.sl 553 4 1 1), (ab false), (ai 1), (ai 0), (ai 0), (ai 0), (ai 0), (ai 0), (.sc (.slice none 0 0)), (.sc (.slice none 0 0)), (.sc (.slice none 0 0)), (ab false), (ai 1), (ai 0), (ai 0), (ai 0), (ai 0), (ai 0), (.sc (.slice none 0 0)), (.sc (.slice none 0 0)), (.sc (.slice none 0 0)), (ab false), (ai 1), (ai 0), (ai 0), (ai 0), (ai 0), (ai 0), (.sc (.slice none 0 0)), (.sc (.slice none 0 0)), (.sc (.slice none 0 0)), (ab false), (ai 1), (ai 0), (ai 0), (ai 0), (ai 0), (ai 0), (.sc (.slice none 0 0)), (.sc (.slice none 0 0)), (.sc (.slice none 0 0)), (ab false), (ai 1), (ai 0), (ai 0), (ai 0), (ai 0), (ai 0), (.sc (.slice none 0 0)), (.sc (.slice none 0 0)), (.sc (.slice none 0 0)), (ab false), (ai 1), (ai 0), (ai 0), (ai 0), (ai 0), (ai 0), (.sc (.slice none 0 0)), (.sc (.slice none 0 0)), (.sc (.slice none 0 0)), (ab false), (ai 1), (ai 0), (ai 0), (ai 0), (ai 0), (ai 0), (.sc (.slice none 0 0)), (.sc (.slice none 0 0)), (.sc (.slice none 0 0)), (ab false), (ai 1), (ai 0), (ai 0), (ai 0), (ai 0), (ai 0), (.sc (.slice none 0 0)), (.sc (.slice none 0 0)), (.sc (.slice none 0 0)), (ab false), (ai 1), (ai 0), (ai 0), (ai 0), (ai 0), (ai 0), (.sc (.slice none 0 0)), (.sc (.slice none 0 0)), (.sc (.slice none 0 0)), (ab false), (ai 1), (ai 0), (ai 0), (ai 0), (ai 0), (ai 0), (.sc (.slice none 0 0)), (.sc (.slice none 0 0)), (.sc (.slice none 0 0)), (ab true), (ai 1), (ai 1), (ai 0), (ai 0), (ai 1), (ai 1), (.sl 554 0 1 1), (.sl 556 0 1 1), (.sc (.slice none 0 0)), (ab true), (ai 1), (ai 1), (ai 0), (ai 0), (ai 1), (ai 1), (.sl 557 0 1 1), (.sl 559 0 1 1), (.sc (.slice none 0 0))] 66 10)), (553, (.row [(ay [97]), (ai 16), (ai 1), (ai 300), (ay [98]), (ai 17), (ai 1), (ai 200)] 73 0)), (554, (.row [(ai 5), (ai 1), (ay [97])] 71 0)), (555, (.row [(ai 10), (ai 2)] 78 0)), (556, (.row [(.sl 555 0 1 1), (ai 300)] 80 0)), (557, (.row [(ai 5), (ai 1), (ay [98])] 71 0)), (558, (.row [(ai 11), (ai 1)] 78 0)), (559, (.row [(.sl 558 0 1 1), (ai 200)] 80 0)), (951, (.row [(ai 1), (ai 17), (ai 0), (ai 5), (ai 16), (ai 0), (ai 9), (ai 5), (ai 0)] 86 3))] }
theorem awc1_ok : awc1.Ok Tryz.prog := Ex.Chunk.ok_of_check awmix (ext := Ex.extAnd awx0 (Ex.extAnd (Ex.extM [awm0, awm1, awm2, awm3]) (Ex.extOf [awc0]))) (Ex.extAnd_ok awidx (Ex.extAnd_ok (Ex.extM_ok (List.forall_mem_cons.2 ⟨awm0_ok, (List.forall_mem_cons.2 ⟨awm1_ok, (List.forall_mem_cons.2 ⟨awm2_ok, (List.forall_mem_cons.2 ⟨awm3_ok, (List.forall_mem_nil _)⟩)⟩)⟩)⟩)) (Ex.extOf_ok (List.forall_mem_cons.2 ⟨awc0_ok, (List.forall_mem_nil _)⟩)))) (k := 2000) (by decide +kernel)
end Go.Proofs.YtgcjejajljhnaaaGreatDoor
namespace Go.Proofs.YtgcjejajljhnaaaGreatDoor
open Go.Ex (ai ab ay)
def awc2 : Ex.Chunk :=
  { f := 15, n := 1064, args := [(.agg [(ai 64), (.sl 1013 0 1 1), (.so 1051 0 18 0), (.sl 1014 0 1 1), (ay [15, 12, 0, 0, 0, 0, 0, 0])])], pre := [(1013, (.row [(ai 0), (ai 4)] 78 0)), (1014, (.row [(ai 1)] 3 0)), (1051, (.row [(ab false), (ai 1), (ai 0), (ai 0), (ai 0), (ai 0), (ai 0), (.sc (.slice none 0 0)), (.sc (.slice none 0 0)), (.sc (.slice none 0 0)), (ab false), (ai 1), (ai 0), (ai 0), (ai 0), (ai 0), (ai 0), (.sc (.slice none 0 0)), (.sc (.slice none 0 0)), (.sc (.slice none 0 0)), (ab false), (ai 1), (ai 0), (ai 0), (ai 0), (ai 0), (ai 0), (.sc (.slice none 0 0)), (.sc (.slice none 0 0)), (.sc (.slice none 0 0)), (ab false), (ai 1), (ai 0), (ai 0), (ai 0), (ai 0), (ai 0), (.sc (.slice none 0 0)), (.sc (.slice none 0 0)), (.sc (.slice none 0 0)), (ab false), (ai 1), (ai 0), (ai 0), (ai 0), (ai 0), (ai 0), (.sc (.slice none 0 0)), (.sc (.slice none 0 0)), (.sc (.slice none 0 0)), (ab true), (ai 1), (ai 0), (ai 0), (ai 0), (ai 0), (ai 1), (.sc (.slice none 0 0)), (.sc (.slice none 0 0)), (.sl 1053 0 2 2), (ab false), (ai 1), (ai 0), (ai 0), (ai 0), (ai 0), (ai 0), (.sc (.slice none 0 0)), (.sc (.slice none 0 0)), (.sc (.slice none 0 0)), (ab false), (ai 1), (ai 0), (ai 0), (ai 0), (ai 0), (ai 0), (.sc (.slice none 0 0)), (.sc (.slice none 0 0)), (.sc (.slice none 0 0)), (ab false), (ai 1), (ai 0), (ai 0), (ai 0), (ai 0), (ai 0), (.sc (.slice none 0 0)), (.sc (.slice none 0 0)), (.sc (.slice none 0 0)), (ab false), (ai 1), (ai 0), (ai 0), (ai 0), (ai 0), (ai 0), (.sc (.slice none 0 0)), (.sc (.slice none 0 0)), (.sc (.slice none 0 0)), (ab false), (ai 1), (ai 0), (ai 0), (ai 0), (ai 0), (ai 0), (.sc (.slice none 0 0)), (.sc (.slice none 0 0)), (.sc (.slice none 0 0)), (ab false), (ai 1), (ai 0), (ai 0), (ai 0), (ai 0), (ai 0), (.sc (.slice none 0 0)), (.sc (.slice none 0 0)), (.sc (.slice none 0 0)), (ab false), (ai 1), (ai 0), (ai 0), (ai 0), (ai 0), (ai 0), (.sc (.slice none 0 0)), (.sc (.slice none 0 0)), (.sc (.slice none 0 0)), (ab false), (ai 1), (ai 0), (ai 0), (ai 0), (ai 0), (ai 0), (.sc (.slice none 0 0)), (.sc (.slice none 0 0)), (.sc (.slice none 0 0)), (ab false), (ai 1), (ai 0), (ai 0), (ai 0), (ai 0), (ai 0), (.sc (.slice none 0 0)), (.sc (.slice none 0 0)), (.sc (.slice none 0 0)), (ab false), (ai 1), (ai 0), (ai 0), (ai 0), (ai 0), (ai 0), (.sc (.slice none 0 0)), (.sc (.slice none 0 0)), (.sc (.slice none 0 0)), (ab true), (ai 1), (ai 1), (ai 0), (ai 0), (ai 1), (ai 1), (.sl 1054 0 1 1), (.sl 1056 0 1 1), (.sc (.slice none 0 0)), (ab true), (ai 1), (ai 1), (ai 0), (ai 0), (ai 1), (ai 1), (.sl 1057 0 1 1), (.sl 1059 0 1 1), (.sc (.slice none 0 0))] 66 10)), (1053, (.row [(ay [97]), (ai 16), (ai 1), (ai 300), (ay [98]), (ai 17), (ai 1), (ai 200)] 73 0)), (1054, (.row [(ai 5), (ai 1), (ay [97])] 71 0)), (1055, (.row [(ai 10), (ai 2)] 78 0)), (1056, (.row [(.sl 1055 0 1 1), (ai 300)] 80 0)), (1057, (.row [(ai 5), (ai 1), (ay [98])] 71 0)), (1058, (.row [(ai 11), (ai 1)] 78 0)), (1059, (.row [(.sl 1058 0 1 1), (ai 200)] 80 0))], v := (.tup [(.so 1148 0 3 0), (ai 0)]), n' := 1150, post := [(1013, (.row [(ai 0), (ai 4)] 78 0)), (1014, (.row [(ai 1)] 3 0)), (1051, (.row [(ab false), (ai 1), (ai 0), (ai 0), (ai 0), (ai 0), (ai 0), (.sc (.slice none 0 0)), (.sc (.slice none 0 0)), (.sc (.slice none 0 0)), (ab false), (ai 1), (ai 0), (ai 0), (ai 0), (ai 0), (ai 0), (.sc (.slice none 0 0)), (.sc (.slice none 0 0)), (.sc (.slice none 0 0)), (ab false), (ai 1), (ai 0), (ai 0), (ai 0), (ai 0), (ai 0), (.sc (.slice none 0 0)), (.sc (.slice none 0 0)), (.sc (.slice none 0 0)), (ab false), (ai 1), (ai 0), (ai 0), (ai 0), (ai 0), (ai 0), (.sc (.slice none 0 0)), (.sc (.slice none 0 0)), (.sc (.slice none 0 0)), (ab false), (ai 1), (ai 0), (ai 0), (ai 0), (ai 0), (ai 0), (.sc (.slice none 0 0)), (.sc (.slice none 0 0)), (.sc (.slice none 0 0)), (ab true), (ai 1), (ai 0), (ai 0), (ai 0), (ai 0), (ai 1), (.sc (.slice none 0 0)), (.sc (.slice none 0 0)), (.sl 1053 0 2 2), (ab false), (ai 1), (ai 0), (ai 0), (ai 0), (ai 0), (ai 0), (.sc (.slice none 0 0)), (.sc (.slice none 0 0)), (.sc (.slice none 0 0)), (ab false), (ai 1), (ai 0), (ai 0), (ai 0), (ai 0), (ai 0), (.sc (.slice none 0 0)), (.sc (.slice none 0 0)), (.sc (.slice none 0 0)), (ab false), (ai 1), (ai 0), (ai 0), (ai 0), (ai 0), (ai 0), (.sc (.slice none 0 0)), (.sc (.slice none 0 0)), (.sc (.slice none 0 0)), (ab false), (ai 1), (ai 0), (ai 0), (ai 0), (ai 0), (ai 0), (.sc (.slice none 0 0)), (.sc (.slice none 0 0)), (.sc (.slice none 0 0)), (ab false), (ai 1), (ai 0), (ai 0), (ai 0), (ai 0), (ai 0), (.sc (.slice none 0 0)), (.sc (.slice none 0 0)), (.sc (.slice none 0 0)), (ab false), (ai 1), (ai 0), (ai 0), (ai 0), (ai 0), (ai 0), (.sc (.slice none 0 0)), (.sc (.slice none 0 0)), (.sc (.slice none 0 0)), (ab false), (ai 1), (ai 0), (ai 0), (ai 0), (ai 0), (ai 0), (.sc (.slice none 0 0)), (.sc (.slice none 0 0)), (.sc (.slice none 0 0)), (ab false), (ai 1), (ai 0), (ai 0), (ai 0), (ai 0), (ai 0), (.sc (.slice none 0 0)), (.sc (.slice none 0 0)), (.sc (.slice none 0 0)), (ab false), (ai 1), (ai 0), (ai 0), (ai 0), (ai 0), (ai 0), (.sc (.slice none 0 0)), (.sc (.slice none 0 0)), (.sc (.slice none 0 0)), (ab false), (ai 1), (ai 0), (ai 0), (ai 0), (ai 0), (ai 0), (.sc (.slice none 0 0)), (.sc (.slice none 0 0)), (.sc (.slice none 0 0)), (ab true), (ai 1), (ai 1), (ai 0), (ai 0), (ai 1), (ai 1), (.sl 1054 0 1 1), (.sl 1056 0 1 1), (.sc (.slice none 0 0)), (ab true), (ai 1), (ai 1), (ai 0), (ai 0), (ai 1), (ai 1), (.sl 1057 0 1 1), (.sl 1059 0 1 1), (.sc (.slice none 0 0))] 66 10)), (1053, (.row [(ay [97]), (ai 16), (ai 1), (ai 300), (ay [98]), (ai 17), (ai 1), (ai 200)] 73 0)), (1054, (.row [(ai 5), (ai 1), (ay [97])] 71 0)), (1055, (.row [(ai 10), (ai 2)] 78 0)), (1056, (.row [(.sl 1055 0 1 1), (ai 300)] 80 0)), (1057, (.row [(ai 5), (ai 1), (ay [98])] 71 0)), (1058, (.row [(ai 11), (ai 1)] 78 0)), (1059, (.row [(.sl 1058 0 1 1), (ai 200)] 80 0)), (1148, (.row [(ay [47]), (ay [47, 97]), (ay [47, 98])] 9 1))] }
theorem awc2_ok : awc2.Ok Tryz.prog := Ex.Chunk.ok_of_check awmix (ext := Ex.extAnd awx0 (Ex.extAnd (Ex.extM [awm0, awm1, awm2, awm3]) (Ex.extOf [awc0, awc1]))) (Ex.extAnd_ok awidx (Ex.extAnd_ok (Ex.extM_ok (List.forall_mem_cons.2 ⟨awm0_ok, (List.forall_mem_cons.2 ⟨awm1_ok, (List.forall_mem_cons.2 ⟨awm2_ok, (List.forall_mem_cons.2 ⟨awm3_ok, (List.forall_mem_nil _)⟩)⟩)⟩)⟩)) (Ex.extOf_ok (List.forall_mem_cons.2 ⟨awc0_ok, (List.forall_mem_cons.2 ⟨awc1_ok, (List.forall_mem_nil _)⟩)⟩)))) (k := 2000) (by decide +kernel)
def awc3 : Ex.Chunk :=
  { f := 23, n := 1202, args := [(.agg [(ai 64), (.sl 1151 0 1 1), (.so 1189 0 18 0), (.sl 1152 0 1 1), (ay [15, 12, 0, 0, 0, 0, 0, 0])])], pre := [(1151, (.row [(ai 0), (ai 4)] 78 0)), (1152, (.row [(ai 1)] 3 0)), (1189, (.row [(ab false), (ai 1), (ai 0), (ai 0), (ai 0), (ai 0), (ai 0), (.sc (.slice none 0 0)), (.sc (.slice none 0 0)), (.sc (.slice none 0 0)), (ab false), (ai 1), (ai 0), (ai 0), (ai 0), (ai 0), (ai 0), (.sc (.slice none 0 0)), (.sc (.slice none 0 0)), (.sc (.slice none 0 0)), (ab false), (ai 1), (ai 0), (ai 0), (ai 0), (ai 0), (ai 0), (.sc (.slice none 0 0)), (.sc (.slice none 0 0)), (.sc (.slice none 0 0)), (ab false), (ai 1), (ai 0), (ai 0), (ai 0), (ai 0), (ai 0), (.sc (.slice none 0 0)), (.sc (.slice none 0 0)), (.sc (.slice none 0 0)), (ab false), (ai 1), (ai 0), (ai 0), (ai 0), (ai 0), (ai 0), (.sc (.slice none 0 0)), (.sc (.slice none 0 0)), (.sc (.slice none 0 0)), (ab true), (ai 1), (ai 0), (ai 0), (ai 0), (ai 0), (ai 1), (.sc (.slice none 0 0)), (.sc (.slice none 0 0)), (.sl 1191 0 2 2), (ab false), (ai 1), (ai 0), (ai 0), (ai 0), (ai 0), (ai 0), (.sc (.slice none 0 0)), (.sc (.slice none 0 0)), (.sc (.slice none 0 0)), (ab false), (ai 1), (ai 0), (ai 0), (ai 0), (ai 0), (ai 0), (.sc (.slice none 0 0)), (.sc (.slice none 0 0)), (.sc (.slice none 0 0)), (ab false), (ai 1), (ai 0), (ai 0), (ai 0), (ai 0), (ai 0), (.sc (.slice none 0 0)), (.sc (.slice none 0 0)), (.sc (.slice none 0 0)), (ab false), (ai 1), (ai 0), (ai 0), (ai 0), (ai 0), (ai 0), (.sc (.slice none 0 0)), (.sc (.slice none 0 0)), (.sc (.slice none 0 0)), (ab false), (ai 1), (ai 0), (ai 0), (ai 0), (ai 0), (ai 0), (.sc (.slice none 0 0)), (.sc (.slice none 0 0)), (.sc (.slice none 0 0)), (ab false), (ai 1), (ai 0), (ai 0), (ai 0), (ai 0), (ai 0), (.sc (.slice none 0 0)), (.sc (.slice none 0 0)), (.sc (.slice none 0 0)), (ab false), (ai 1), (ai 0), (ai 0), (ai 0), (ai 0), (ai 0), (.sc (.slice none 0 0)), (.sc (.slice none 0 0)), (.sc (.slice none 0 0)), (ab false), (ai 1), (ai 0), (ai 0), (ai 0), (ai 0), (ai 0), (.sc (.slice none 0 0)), (.sc (.slice none 0 0)), (.sc (.slice none 0 0)), (ab false), (ai 1), (ai 0), (ai 0), (ai 0), (ai 0), (ai 0), (.sc (.slice none 0 0)), (.sc (.slice none 0 0)), (.sc (.slice none 0 0)), (ab false), (ai 1), (ai 0), (ai 0), (ai 0), (ai 0), (ai 0), (.sc (.slice none 0 0)), (.sc (.slice none 0 0)), (.sc (.slice none 0 0)), (ab true), (ai 1), (ai 1), (ai 0), (ai 0), (ai 1), (ai 1), (.sl 1192 0 1 1), (.sl 1194 0 1 1), (.sc (.slice none 0 0)), (ab true), (ai 1), (ai 1), (ai 0), (ai 0), (ai 1), (ai 1), (.sl 1195 0 1 1), (.sl 1197 0 1 1), (.sc (.slice none 0 0))] 66 10)), (1191, (.row [(ay [97]), (ai 16), (ai 1), (ai 300), (ay [98]), (ai 17), (ai 1), (ai 200)] 73 0)), (1192, (.row [(ai 5), (ai 1), (ay [97])] 71 0)), (1193, (.row [(ai 10), (ai 2)] 78 0)), (1194, (.row [(.sl 1193 0 1 1), (ai 300)] 80 0)), (1195, (.row [(ai 5), (ai 1), (ay [98])] 71 0)), (1196, (.row [(ai 11), (ai 1)] 78 0)), (1197, (.row [(.sl 1196 0 1 1), (ai 200)] 80 0))], v := (.tup [(.so 1683 0 1 0), (ai 0)]), n' := 1687, post := [(1151, (.row [(ai 0), (ai 4)] 78 0)), (1152, (.row [(ai 1)] 3 0)), (1189, (.row [(ab false), (ai 1), (ai 0), (ai 0), (ai 0), (ai 0), (ai 0), (.sc (.slice none 0 0)), (.sc (.slice none 0 0)), (.sc (.slice none 0 0)), (ab false), (ai 1), (ai 0), (ai 0), (ai 0), (ai 0), (ai 0), (.sc (.slice none 0 0)), (.sc (.slice none 0 0)), (.sc (.slice none 0 0)), (ab false), (ai 1), (ai 0), (ai 0), (ai 0), (ai 0), (ai 0), (.sc (.slice none 0 0)), (.sc (.slice none 0 0)), (.sc (.slice none 0 0)), (ab false), (ai 1), (ai 0), (ai 0), (ai 0), (ai 0), (ai 0), (.sc (.slice none 0 0)), (.sc (.slice none 0 0)), (.sc (.slice none 0 0)), (ab false), (ai 1), (ai 0), (ai 0), (ai 0), (ai 0), (ai 0), (.sc (.slice none 0 0)), (.sc (.slice none 0 0)), (.sc (.slice none 0 0)), (ab true), (ai 1), (ai 0), (ai 0), (ai 0), (ai 0), (ai 1), (.sc (.slice none 0 0)), (.sc (.slice none 0 0)), (.sl 1191 0 2 2), (ab false), (ai 1), (ai 0), (ai 0), (ai 0), (ai 0), (ai 0), (.sc (.slice none 0 0)), (.sc (.slice none 0 0)), (.sc (.slice none 0 0)), (ab false), (ai 1), (ai 0), (ai 0), (ai 0), (ai 0), (ai 0), (.sc (.slice none 0 0)), (.sc (.slice none 0 0)), (.sc (.slice none 0 0)), (ab false), (ai 1), (ai 0), (ai 0), (ai 0), (ai 0), (ai 0), (.sc (.slice none 0 0)), (.sc (.slice none 0 0)), (.sc (.slice none 0 0)), (ab false), (ai 1), (ai 0), (ai 0), (ai 0), (ai 0), (ai 0), (.sc (.slice none 0 0)), (.sc (.slice none 0 0)), (.sc (.slice none 0 0)), (ab false), (ai 1), (ai 0), (ai 0), (ai 0), (ai 0), (ai 0), (.sc (.slice none 0 0)), (.sc (.slice none 0 0)), (.sc (.slice none 0 0)), (ab false), (ai 1), (ai 0), (ai 0), (ai 0), (ai 0), (ai 0), (.sc (.slice none 0 0)), (.sc (.slice none 0 0)), (.sc (.slice none 0 0)), (ab false), (ai 1), (ai 0), (ai 0), (ai 0), (ai 0), (ai 0), (.sc (.slice none 0 0)), (.sc (.slice none 0 0)), (.sc (.slice none 0 0)), (ab false), (ai 1), (ai 0), (ai 0), (ai 0), (ai 0), (ai 0), (.sc (.slice none 0 0)), (.sc (.slice none 0 0)), (.sc (.slice none 0 0)), (ab false), (ai 1), (ai 0), (ai 0), (ai 0), (ai 0), (ai 0), (.sc (.slice none 0 0)), (.sc (.slice none 0 0)), (.sc (.slice none 0 0)), (ab false), (ai 1), (ai 0), (ai 0), (ai 0), (ai 0), (ai 0), (.sc (.slice none 0 0)), (.sc (.slice none 0 0)), (.sc (.slice none 0 0)), (ab true), (ai 1), (ai 1), (ai 0), (ai 0), (ai 1), (ai 1), (.sl 1192 0 1 1), (.sl 1194 0 1 1), (.sc (.slice none 0 0)), (ab true), (ai 1), (ai 1), (ai 0), (ai 0), (ai 1), (ai 1), (.sl 1195 0 1 1), (.sl 1197 0 1 1), (.sc (.slice none 0 0))] 66 10)), (1191, (.row [(ay [97]), (ai 16), (ai 1), (ai 300), (ay [98]), (ai 17), (ai 1), (ai 200)] 73 0)), (1192, (.row [(ai 5), (ai 1), (ay [97])] 71 0)), (1193, (.row [(ai 10), (ai 2)] 78 0)), (1194, (.row [(.sl 1193 0 1 1), (ai 300)] 80 0)), (1195, (.row [(ai 5), (ai 1), (ay [98])] 71 0)), (1196, (.row [(ai 11), (ai 1)] 78 0)), (1197, (.row [(.sl 1196 0 1 1), (ai 200)] 80 0)), (1683, (.row [(ai 16)] 3 1))] }
theorem awc3_ok : awc3.Ok Tryz.prog := Ex.Chunk.ok_of_check awmix (ext := Ex.extAnd awx0 (Ex.extAnd (Ex.extM [awm0, awm1, awm2, awm3]) (Ex.extOf [awc0, awc1, awc2]))) (Ex.extAnd_ok awidx (Ex.extAnd_ok (Ex.extM_ok (List.forall_mem_cons.2 ⟨awm0_ok, (List.forall_mem_cons.2 ⟨awm1_ok, (List.forall_mem_cons.2 ⟨awm2_ok, (List.forall_mem_cons.2 ⟨awm3_ok, (List.forall_mem_nil _)⟩)⟩)⟩)⟩)) (Ex.extOf_ok (List.forall_mem_cons.2 ⟨awc0_ok, (List.forall_mem_cons.2 ⟨awc1_ok, (List.forall_mem_cons.2 ⟨awc2_ok, (List.forall_mem_nil _)⟩)⟩)⟩)))) (k := 2000) (by decide +kernel)
end Go.Proofs.YtgcjejajljhnaaaGreatDoor
namespace Go.Proofs.YtgcjejajljhnaaaGreatDoor
open Go.Ex (ai ab ay)
abbrev awext : Ex.Ext := Ex.extAnd awx0 (Ex.extAnd (Ex.extM [awm0, awm1, awm2, awm3]) (Ex.extOf [awc0, awc1, awc2, awc3]))
theorem awext_ok : Ex.ExtOk Tryz.prog awext := Ex.extAnd_ok awidx (Ex.extAnd_ok (Ex.extM_ok (List.forall_mem_cons.2 ⟨awm0_ok, (List.forall_mem_cons.2 ⟨awm1_ok, (List.forall_mem_cons.2 ⟨awm2_ok, (List.forall_mem_cons.2 ⟨awm3_ok, (List.forall_mem_nil _)⟩)⟩)⟩)⟩)) (Ex.extOf_ok (List.forall_mem_cons.2 ⟨awc0_ok, (List.forall_mem_cons.2 ⟨awc1_ok, (List.forall_mem_cons.2 ⟨awc2_ok, (List.forall_mem_cons.2 ⟨awc3_ok, (List.forall_mem_nil _)⟩)⟩)⟩)⟩)))
theorem awake_run : Ex.bang Tryz.prog awext 2000 10 [] (.bool true) = true := by decide +kernel
open Go.RowKit in
theorem awake_any (w : World) : Calls Tryz.prog 10 #[] w fun e w' => e = .returned (.bool true) ∧ Below w.heap.size w w' := Ex.calls_of_bang awmix awext_ok (args := []) awake_run w
end Go.Proofs.YtgcjejajljhnaaaGreatDoor
namespace Go
variable {H : Type} {enc : TypeId × Value → H}
theorem returnsInHanded_of_change_both {a : Assume} {C : Checked} {os : Os} {f : FuncId} {fn : Func} {s : ChangeSpec} {conds : List PathCond} {apart fresh handsOn again : Bool} {X : World → Array Value → Prop}
    (hX : ∀ (w w' : World) (args : Array Value), w.heap = w'.heap → X w args → X w' args)
    (own : ownKnob C.prog.godebug = none) (started : os.Started) (noInit : C.prog.inits.idxOf? f = none) (hfn : C.prog.funcs[f]? = some fn)
    (witness : ∃ (w : World) (tape : Tape) (i : Input), w.os = os ∧ (w.forCall tape i).Shaped C.prog ∧ i.vars = [] ∧ Input.okWide C.prog (w.forCall tape i) .any w.heap.size f i ∧
      ((s.pre enc C.prog fn conds apart (w.forCall tape i).memory i.args ∧ X (w.forCall tape i).memory i.args) ∧ sizedMet enc C.prog fn (OpenSpec.ofChange s) apart (w.forCall tape i).memory i.args) ∧ a.holds C.prog (lone (Frame.enter C.prog f i.args .normal) [] (w.forCall tape i)))
    (contract : ∀ (W : World) (base : Nat) (args : Array Value) (ds gs : List (DataW H)) (before : List MemPlace),
      (∀ (j : Nat) t v, fn.params[j]? = some t → args[j]? = some v → Value.okWide C.prog W .any base t v) →
      DataW.Whole enc C.prog fn.params.toList s.vars apart W args.toList ds gs before →
      conds.all (PathCond.test C.prog ⟨fn.params.toList, ds, s.plain.varTypes C.prog, gs⟩) = true →
      (DataW.weightsEach C.prog (fn.params.toList ++ s.plain.varTypes C.prog) (ds ++ gs)).all (· ≤ reachBytes) = true → X W args → W.ShapedOpen C.prog →
      a.holds C.prog (lone (Frame.enter C.prog f args .normal) [] W) →
      Calls C.prog f args W fun e W' => ∃ v, e = .returned v ∧ s.post enc C.prog fn apart fresh handsOn again W args v W') :
    ReturnsInHanded a C os f .any (fun w args => (s.pre enc C.prog fn conds apart w args ∧ X w args) ∧ sizedMet enc C.prog fn (OpenSpec.ofChange s) apart w args) (s.post enc C.prog fn apart fresh handsOn again) := by
  refine returnsInHanded_of_calls own started noInit witness ?_
  intro w tape i _ hsh _ hok hpre hholds
  obtain ⟨_, _, _, fn', hfn', _, _, _, _, hval⟩ := hok
  have e : fn' = fn := Option.some.inj (hfn'.symm.trans hfn)
  subst e
  obtain ⟨⟨⟨ds, gs, before, hw, hc⟩, hx⟩, hz⟩ := hpre
  have hw' := DataW.Whole.of_heap (w' := w.forCall tape i) (by rfl) hw
  refine (contract (w.forCall tape i) w.heap.size i.args ds gs before hval hw' hc (hz.weights hw) (hX _ _ _ (by rfl) hx) hsh hholds).mono fun e W' ⟨v, he, hp⟩ => ?_
  subst he
  exact ChangeSpec.post_blind hp
end Go
namespace Go.Proofs.YtgcjejajljhnaaaGreatDoor
open Go.ChangeShapes Go.WideShapes Go.ChangeAt Go.RowKit Go.Deep

theorem Tryz.own : ownKnob Tryz.prog.godebug = none := by kernel_rfl
theorem Tryz.laidOut : laidOutB Tryz.prog = true := by kernel_rfl

section
variable {H : Type} {enc : TypeId × Value → H} {P : Program} {W W' : World}
theorem reads_again (hl : laidOutB P = true) (hb : Below W.heap.size W W') : ∀ (ts : List TypeId) (vs : List Value) (ds : List (DataW H)) (ps : List MemPlace),
    (∀ t ∈ ts, P.readableRec t = true ∧ t < P.types.size) → DataW.TrodAll enc P W 0 (fun _ => true) true ts vs ds ps → (∀ x ∈ ps, x.block < W.heap.size) →
    DataW.TrodAll enc P W' 0 (fun b => decide (b < W.heap.size)) true ts vs ds ps
  | [], [], [], _, _, h, _ => h
  | t :: ts, v :: vs, d :: ds, ps, ht, h, hlt => by
    obtain ⟨p, q, h1, h2, rfl⟩ := h
    have hp := ht t (List.mem_cons_self ..)
    exact ⟨p, q, Below.trod hl hp.1 hp.2 h1 hb (fun x hx => hlt x (List.mem_append_left _ hx)), reads_again hl hb ts vs ds q (fun u hu => ht u (List.mem_cons_of_mem _ hu)) h2 (fun x hx => hlt x (List.mem_append_right _ hx)), rfl⟩

theorem law_post {f : Func} {s : ChangeSpec} {args : Array Value} {ds gs : List (DataW H)} {before : List MemPlace} {tb : TypeId} (hl : laidOutB P = true) (htb : P.underlying tb = some .bool) (hs : s.vars = [])
    (hf : f.resultTypes = #[tb]) (hr : s.fn H (ds ++ gs) = { results := [.lit (.bool true)], args := ds }) (hW : DataW.Whole enc P f.params.toList s.vars false W args.toList ds gs before)
    (hts : ∀ t ∈ f.params.toList, P.readableRec t = true ∧ t < P.types.size) (hb : Below W.heap.size W W') : s.post enc P f false true false false W args (.bool true) W' := by
  have hlt : ∀ p ∈ before, p.block < W.heap.size := fun p hp => hW.lt p hp
  have hW' := hW
  obtain ⟨p, q, hA, hV, rfl, _, _⟩ := hW'
  rw [hs] at hV
  obtain ⟨rfl, rfl⟩ := trodVars_none hV
  refine ⟨ds, [], _, [], p, [], hW, ?_, ?_, ?_, World.keptBut_mono (fun x hx => ⟨hx, ?_⟩) (hb.frame (· ∈ p ++ [])), fun h => by cases h⟩
  · rw [hr, hf]
    exact trodAll_mk1 (shut_bool htb true)
  · rw [hr]
    exact reads_again hl hb _ _ _ _ hts hA (fun x hx => hlt x (List.mem_append_left _ hx))
  · rw [hr, hs]
    exact rfl
  · rw [List.append_nil] at hx
    exact Or.inr (Or.inl hx)
end

set_option maxRecDepth 100000
section
variable {H : Type} {enc : TypeId × Value → H} {W : World} {held : Bool}
theorem in_range {n : Int} (h : (Lit.int .i64 n).wf = true) : -9223372036854775808 ≤ n ∧ n ≤ 9223372036854775807 := by
  simp only [Lit.wf, Bool.and_eq_true, decide_eq_true_eq] at h
  have h1 : IntKind.i64.min = -9223372036854775808 := by decide
  have h2 : IntKind.i64.max = 9223372036854775807 := by decide
  omega
theorem open_findV {v : Value} {d : DataW H} {p : List MemPlace} {r : Reach} {b0 : Nat} (hv : Value.okWide Tryz.prog W r b0 86 v) (h : DataW.Trod enc Tryz.prog W 0 (fun _ => true) held 86 v d p) :
    ∃ k f m : Int, v = .agg #[.int .i64 k, .int .i64 f, .int .i64 m] ∧ (-9223372036854775808 ≤ k ∧ k ≤ 9223372036854775807) ∧ (-9223372036854775808 ≤ f ∧ f ≤ 9223372036854775807) ∧ (-9223372036854775808 ≤ m ∧ m ≤ 9223372036854775807) := by
  obtain ⟨cs, rfl, hsz⟩ := okWide_struct Tryz.underlying86 hv
  obtain ⟨fuel, hf⟩ := h
  obtain ⟨xs, n, _, _, _, hxl, hg⟩ := DataW.trod_struct Tryz.underlying86 hf
  have hC : Tryz.prog.cellsOf 86 = 3 := by kernel_rfl
  have hC1 : Tryz.prog.cellsOf 3 = 1 := by kernel_rfl
  rw [hC] at hsz
  obtain ⟨l⟩ := cs
  match l, hsz, xs, hxl with
  | [c0, c1, c2], _, [y0, y1, y2], _ =>
    have h0 : DataW.trod enc Tryz.prog W 0 (fun _ => true) held n 3 (List.take (Tryz.prog.cellsOf 3) (List.drop 0 [c0, c1, c2])) = some y0 := hg 0 _ rfl
    have h1 : DataW.trod enc Tryz.prog W 0 (fun _ => true) held n 3 (List.take (Tryz.prog.cellsOf 3) (List.drop 1 [c0, c1, c2])) = some y1 := hg 1 _ rfl
    have h2 : DataW.trod enc Tryz.prog W 0 (fun _ => true) held n 3 (List.take (Tryz.prog.cellsOf 3) (List.drop 2 [c0, c1, c2])) = some y2 := hg 2 _ rfl
    rw [hC1] at h0 h1 h2
    obtain ⟨n0, e0, _, w0⟩ := DataW.trod_int Tryz.underlying3 (x := y0) h0
    obtain ⟨n1, e1, _, w1⟩ := DataW.trod_int Tryz.underlying3 (x := y1) h1
    obtain ⟨n2, e2, _, w2⟩ := DataW.trod_int Tryz.underlying3 (x := y2) h2
    simp at e0 e1 e2
    subst e0 e1 e2
    exact ⟨n0, n1, n2, rfl, in_range w0, in_range w1, in_range w2⟩
end
end Go.Proofs.YtgcjejajljhnaaaGreatDoor
namespace Go.Proofs.YtgcjejajljhnaaaGreatDoor
open Go.ChangeShapes Go.WideShapes Go.ChangeAt Go.RowKit Go.Deep Go.Hp
set_option maxRecDepth 100000
theorem list_of {α : Type} (d : α) {p : Nat → α → Prop} : ∀ n : Nat, (∀ i, i < n → ∃ a, p i a) → ∃ l : List α, l.length = n ∧ ∀ i, i < n → p i (Ck.at_ d l i)
  | 0, _ => ⟨[], rfl, fun _ h => absurd h (by omega)⟩
  | n + 1, h => by
    obtain ⟨l, hl, hp⟩ := list_of d n fun i hi => h i (by omega)
    obtain ⟨a, ha⟩ := h n (by omega)
    refine ⟨l ++ [a], by simp [hl], fun i hi => ?_⟩
    unfold Ck.at_ at hp ⊢
    by_cases e : i = n
    · subst e
      rw [List.getElem?_append_right (by omega)]
      simpa [hl] using ha
    · have := hp i (by omega)
      rwa [List.getElem?_append_left (by omega)]
section
variable {H : Type} {enc : TypeId × Value → H} {W : World} {held : Bool}
theorem add_at (b o i : Nat) : (⟨b, o, none⟩ : Addr).add i = ⟨b, o + i, none⟩ := by
  unfold Addr.add
  split
  · subst_vars; rfl
  · rfl
theorem open_list {α : Type} {k : Nat} [El α k] {t e : TypeId} (Q : α → Prop) {fuel : Nat} {cs : List Value} {x : DataW H × List MemPlace} (hu : Tryz.prog.underlying t = some (.slice e)) (hC : Tryz.prog.cellsOf e = k)
    (one : ∀ (fuel : Nat) (cs : List Value) (y : DataW H × List MemPlace), DataW.trod enc Tryz.prog W 0 (fun _ => true) held fuel e cs = some y → cs.length = k → (∀ p ∈ y.2, p.block < W.heap.size) → ∃ a : α, cs = El.cells a ∧ Q a)
    (h : DataW.trod enc Tryz.prog W 0 (fun _ => true) held fuel t cs = some x) (hlt : ∀ p ∈ x.2, p.block < W.heap.size) : ∃ (A : Option Addr) (c : Nat) (l : List α), cs = [.slice A l.length c] ∧ Lst W W.heap.size A l ∧ ∀ a ∈ l, Q a := by
  have hk : 0 < k := El.pos (α := α)
  rcases open_slice hu h with ⟨hc, _⟩ | ⟨a, len, cap, m, fu, D, Pl, hc, _, hle, hcap, hm, hx, hat⟩
  · exact ⟨none, 0, [], hc, Lst.nil _ _ _, fun q hq => (by cases hq)⟩
  · have hm' : m = cap := by simpa using hm
    subst hm'
    have hcell : ∀ i, i < len → ∃ q : α, (∀ j v, (El.cells q)[j]? = some v → W.cell? ((a.add (i * k)).add j) = some v) ∧ Q q := by
      intro i hi
      obtain ⟨cs', hcs, ht⟩ := hat i (by omega)
      rw [hC] at hcs
      obtain ⟨_, hl, hcl⟩ := World.cells?_some hcs
      obtain ⟨q, he, hq⟩ := one fu cs' _ ht (by simpa using hl) (fun p hp => hlt p (by
        rw [hx]
        exact List.mem_append_right _ (List.mem_flatMap.2 ⟨i, List.mem_range.2 (by omega), hp⟩)))
      refine ⟨q, fun j v hj => ?_, hq⟩
      have hjk : j < k := by
        have := (List.getElem?_eq_some_iff.1 hj).1
        rwa [El.len] at this
      rw [← he] at hj
      have := hcl j (by omega)
      rw [this]
      have hlk : cs'.length = k := by simpa using hl
      rw [List.getElem?_eq_getElem (by omega)] at hj
      simpa [List.getD, List.getElem?_eq_getElem (show j < cs'.length by omega)] using hj
    obtain ⟨l, hl, hp⟩ := list_of (El.o (α := α)) len hcell
    subst hl
    refine ⟨some a, m, l, hc, ⟨by rw [El.all_length], fun hn => ?_⟩, fun q hq => ?_⟩
    · have h0 : (El.cells (Ck.at_ El.o l 0))[0]? = some ((El.cells (Ck.at_ El.o l 0))[0]'(by rw [El.len]; exact hk)) := List.getElem?_eq_getElem _
      have hs : a.spot = none := by
        have := World.cell?_spot ((hp 0 hn).1 0 _ h0)
        simpa [Addr.add] using this
      obtain ⟨b, o, sp⟩ := a
      simp only at hs
      subst hs
      refine ⟨b, o, rfl, ?_, fun j u hj => ?_⟩
      · have : MemPlace.cell b o ∈ x.2 := by
          rw [hx]
          refine List.mem_append_left _ ?_
          rw [hC]
          exact List.mem_map.2 ⟨0, by simp only [List.mem_range]; exact Nat.mul_pos (by omega) hk, rfl⟩
        exact hlt _ this
      · have hjl := (List.getElem?_eq_some_iff.1 hj).1
        rw [El.all_length] at hjl
        have e1 : j = j / k * k + j % k := by rw [Nat.mul_comm]; exact (Nat.div_add_mod j k).symm
        have hr : j % k < k := Nat.mod_lt _ hk
        have hi : j / k < l.length := Nat.div_lt_of_lt_mul (by rw [Nat.mul_comm]; exact hjl)
        generalize j / k = i at *
        generalize j % k = r at *
        subst e1
        rw [El.all_get l i hi r hr] at hj
        have hh := (hp i hi).1 r u hj
        simp only [add_at] at hh
        rw [← Nat.add_assoc]
        exact hh
    · obtain ⟨i, hi, rfl⟩ := List.mem_iff_getElem.1 hq
      have hh := (hp i hi).2
      rwa [Ck.at_eq _ l i hi] at hh
theorem open_int1 {fuel : Nat} {cs : List Value} {x : DataW H × List MemPlace} (h : DataW.trod enc Tryz.prog W 0 (fun _ => true) held fuel 3 cs = some x) (_ : cs.length = 1) (_ : ∀ p ∈ x.2, p.block < W.heap.size) : ∃ a : Int, cs = El.cells a ∧ True := by
  obtain ⟨n, e, _, _⟩ := DataW.trod_int Tryz.underlying3 h
  exact ⟨n, e, trivial⟩
theorem open_run {fuel : Nat} {cs : List Value} {x : DataW H × List MemPlace} (h : DataW.trod enc Tryz.prog W 0 (fun _ => true) held fuel 78 cs = some x) (hsz : cs.length = 2) (hlt : ∀ p ∈ x.2, p.block < W.heap.size) : ∃ a : Ck.Run, cs = El.cells a ∧ (fun _ => True) a := by
  obtain ⟨xs, n, _, hx, _, hxl, hg⟩ := DataW.trod_struct Tryz.underlying78 h
  have hC0 : Tryz.prog.cellsOf 3 = 1 := by kernel_rfl
  match cs, hsz, xs, hxl with
  | [c0, c1], _, [y0, y1], _ =>
    have hp : x.2 = ([y0, y1] : List (DataW H × List MemPlace)).flatMap Prod.snd := by rw [hx]
    have h0 : DataW.trod enc Tryz.prog W 0 (fun _ => true) held n 3 (List.take (Tryz.prog.cellsOf 3) (List.drop 0 [c0, c1])) = some y0 := hg 0 _ rfl
    have h1 : DataW.trod enc Tryz.prog W 0 (fun _ => true) held n 3 (List.take (Tryz.prog.cellsOf 3) (List.drop 1 [c0, c1])) = some y1 := hg 1 _ rfl
    rw [hC0] at h0
    obtain ⟨f0, e0, _, _⟩ := DataW.trod_int Tryz.underlying3 (x := y0) h0
    rw [hC0] at h1
    obtain ⟨f1, e1, _, _⟩ := DataW.trod_int Tryz.underlying3 (x := y1) h1
    simp at e0
    subst e0
    simp at e1
    subst e1
    exact ⟨⟨f0, f1⟩, rfl, trivial⟩
theorem open_ref {fuel : Nat} {cs : List Value} {x : DataW H × List MemPlace} (h : DataW.trod enc Tryz.prog W 0 (fun _ => true) held fuel 61 cs = some x) (hsz : cs.length = 2) (hlt : ∀ p ∈ x.2, p.block < W.heap.size) : ∃ a : Ck.Ref, cs = [.int .i64 a.r, .int .i64 a.q] := by
  obtain ⟨xs, n, _, hx, _, hxl, hg⟩ := DataW.trod_struct Tryz.underlying61 h
  have hC0 : Tryz.prog.cellsOf 3 = 1 := by kernel_rfl
  match cs, hsz, xs, hxl with
  | [c0, c1], _, [y0, y1], _ =>
    have hp : x.2 = ([y0, y1] : List (DataW H × List MemPlace)).flatMap Prod.snd := by rw [hx]
    have h0 : DataW.trod enc Tryz.prog W 0 (fun _ => true) held n 3 (List.take (Tryz.prog.cellsOf 3) (List.drop 0 [c0, c1])) = some y0 := hg 0 _ rfl
    have h1 : DataW.trod enc Tryz.prog W 0 (fun _ => true) held n 3 (List.take (Tryz.prog.cellsOf 3) (List.drop 1 [c0, c1])) = some y1 := hg 1 _ rfl
    rw [hC0] at h0
    obtain ⟨f0, e0, _, _⟩ := DataW.trod_int Tryz.underlying3 (x := y0) h0
    rw [hC0] at h1
    obtain ⟨f1, e1, _, _⟩ := DataW.trod_int Tryz.underlying3 (x := y1) h1
    simp at e0
    subst e0
    simp at e1
    subst e1
    exact ⟨⟨f0, f1⟩, rfl⟩
theorem open_nm {fuel : Nat} {cs : List Value} {x : DataW H × List MemPlace} (h : DataW.trod enc Tryz.prog W 0 (fun _ => true) held fuel 71 cs = some x) (hsz : cs.length = 3) (hlt : ∀ p ∈ x.2, p.block < W.heap.size) : ∃ a : Ck.Nm, cs = El.cells a ∧ (fun _ => True) a := by
  obtain ⟨xs, n, _, hx, _, hxl, hg⟩ := DataW.trod_struct Tryz.underlying71 h
  have hC0 : Tryz.prog.cellsOf 61 = 2 := by kernel_rfl
  have hC1 : Tryz.prog.cellsOf 9 = 1 := by kernel_rfl
  match cs, hsz, xs, hxl with
  | [c0, c1, c2], _, [y0, y1], _ =>
    have hp : x.2 = ([y0, y1] : List (DataW H × List MemPlace)).flatMap Prod.snd := by rw [hx]
    have h0 : DataW.trod enc Tryz.prog W 0 (fun _ => true) held n 61 (List.take (Tryz.prog.cellsOf 61) (List.drop 0 [c0, c1, c2])) = some y0 := hg 0 _ rfl
    have h1 : DataW.trod enc Tryz.prog W 0 (fun _ => true) held n 9 (List.take (Tryz.prog.cellsOf 9) (List.drop 2 [c0, c1, c2])) = some y1 := hg 1 _ rfl
    rw [hC0] at h0
    obtain ⟨f0, e0⟩ := open_ref (x := y0) h0 rfl (fun p hp2 => hlt p (by rw [hp]; simp [hp2]))
    replace e0 : [c0, c1] = [.int .i64 f0.r, .int .i64 f0.q] := e0
    rw [hC1] at h1
    obtain ⟨f1, e1, _, _⟩ := DataW.trod_string Tryz.underlying9 (x := y1) h1
    obtain ⟨rfl, rfl⟩ : c0 = .int .i64 f0.r ∧ c1 = .int .i64 f0.q := by simpa using e0
    simp at e1
    subst e1
    exact ⟨⟨f0, f1.data.toList⟩, rfl, trivial⟩
theorem open_en {fuel : Nat} {cs : List Value} {x : DataW H × List MemPlace} (h : DataW.trod enc Tryz.prog W 0 (fun _ => true) held fuel 73 cs = some x) (hsz : cs.length = 4) (hlt : ∀ p ∈ x.2, p.block < W.heap.size) : ∃ a : Ck.En, cs = El.cells a ∧ (fun _ => True) a := by
  obtain ⟨xs, n, _, hx, _, hxl, hg⟩ := DataW.trod_struct Tryz.underlying73 h
  have hC0 : Tryz.prog.cellsOf 9 = 1 := by kernel_rfl
  have hC1 : Tryz.prog.cellsOf 61 = 2 := by kernel_rfl
  have hC2 : Tryz.prog.cellsOf 3 = 1 := by kernel_rfl
  match cs, hsz, xs, hxl with
  | [c0, c1, c2, c3], _, [y0, y1, y2], _ =>
    have hp : x.2 = ([y0, y1, y2] : List (DataW H × List MemPlace)).flatMap Prod.snd := by rw [hx]
    have h0 : DataW.trod enc Tryz.prog W 0 (fun _ => true) held n 9 (List.take (Tryz.prog.cellsOf 9) (List.drop 0 [c0, c1, c2, c3])) = some y0 := hg 0 _ rfl
    have h1 : DataW.trod enc Tryz.prog W 0 (fun _ => true) held n 61 (List.take (Tryz.prog.cellsOf 61) (List.drop 1 [c0, c1, c2, c3])) = some y1 := hg 1 _ rfl
    have h2 : DataW.trod enc Tryz.prog W 0 (fun _ => true) held n 3 (List.take (Tryz.prog.cellsOf 3) (List.drop 3 [c0, c1, c2, c3])) = some y2 := hg 2 _ rfl
    rw [hC0] at h0
    obtain ⟨f0, e0, _, _⟩ := DataW.trod_string Tryz.underlying9 (x := y0) h0
    rw [hC1] at h1
    obtain ⟨f1, e1⟩ := open_ref (x := y1) h1 rfl (fun p hp2 => hlt p (by rw [hp]; simp [hp2]))
    replace e1 : [c1, c2] = [.int .i64 f1.r, .int .i64 f1.q] := e1
    rw [hC2] at h2
    obtain ⟨f2, e2, _, _⟩ := DataW.trod_int Tryz.underlying3 (x := y2) h2
    simp at e0
    subst e0
    obtain ⟨rfl, rfl⟩ : c1 = .int .i64 f1.r ∧ c2 = .int .i64 f1.q := by simpa using e1
    simp at e2
    subst e2
    exact ⟨⟨f0.data.toList, f1, f2⟩, rfl, trivial⟩
theorem open_sm {fuel : Nat} {cs : List Value} {x : DataW H × List MemPlace} (h : DataW.trod enc Tryz.prog W 0 (fun _ => true) held fuel 80 cs = some x) (hsz : cs.length = 2) (hlt : ∀ p ∈ x.2, p.block < W.heap.size) : ∃ a : Ck.VSm, cs = El.cells a ∧ (fun a => a.At W W.heap.size) a := by
  obtain ⟨xs, n, _, hx, _, hxl, hg⟩ := DataW.trod_struct Tryz.underlying80 h
  have hC0 : Tryz.prog.cellsOf 22 = 1 := by kernel_rfl
  have hC1 : Tryz.prog.cellsOf 3 = 1 := by kernel_rfl
  match cs, hsz, xs, hxl with
  | [c0, c1], _, [y0, y1], _ =>
    have hp : x.2 = ([y0, y1] : List (DataW H × List MemPlace)).flatMap Prod.snd := by rw [hx]
    have h0 : DataW.trod enc Tryz.prog W 0 (fun _ => true) held n 22 (List.take (Tryz.prog.cellsOf 22) (List.drop 0 [c0, c1])) = some y0 := hg 0 _ rfl
    have h1 : DataW.trod enc Tryz.prog W 0 (fun _ => true) held n 3 (List.take (Tryz.prog.cellsOf 3) (List.drop 1 [c0, c1])) = some y1 := hg 1 _ rfl
    rw [hC0] at h0
    obtain ⟨Af0, kf0, f0, e0, a0, q0⟩ := open_list (α := Ck.Run) (fun _ => True) Tryz.underlying22 (by kernel_rfl) (fun _ _ _ => open_run) (x := y0) h0 (fun p hp2 => hlt p (by rw [hp]; simp [hp2]))
    rw [hC1] at h1
    obtain ⟨f1, e1, _, _⟩ := DataW.trod_int Tryz.underlying3 (x := y1) h1
    simp at e0
    subst e0
    simp at e1
    subst e1
    exact ⟨⟨f0, f1, Af0, kf0⟩, rfl, a0⟩
theorem open_rc {fuel : Nat} {cs : List Value} {x : DataW H × List MemPlace} (h : DataW.trod enc Tryz.prog W 0 (fun _ => true) held fuel 66 cs = some x) (hsz : cs.length = 10) (hlt : ∀ p ∈ x.2, p.block < W.heap.size) : ∃ a : Ck.VRc, cs = El.cells a ∧ (fun a => a.At W W.heap.size) a := by
  obtain ⟨xs, n, _, hx, _, hxl, hg⟩ := DataW.trod_struct Tryz.underlying66 h
  have hC0 : Tryz.prog.cellsOf 4 = 1 := by kernel_rfl
  have hC1 : Tryz.prog.cellsOf 3 = 1 := by kernel_rfl
  have hC2 : Tryz.prog.cellsOf 61 = 2 := by kernel_rfl
  have hC3 : Tryz.prog.cellsOf 62 = 1 := by kernel_rfl
  have hC4 : Tryz.prog.cellsOf 63 = 1 := by kernel_rfl
  have hC5 : Tryz.prog.cellsOf 64 = 1 := by kernel_rfl
  match cs, hsz, xs, hxl with
  | [c0, c1, c2, c3, c4, c5, c6, c7, c8, c9], _, [y0, y1, y2, y3, y4, y5, y6, y7, y8], _ =>
    have hp : x.2 = ([y0, y1, y2, y3, y4, y5, y6, y7, y8] : List (DataW H × List MemPlace)).flatMap Prod.snd := by rw [hx]
    have h0 : DataW.trod enc Tryz.prog W 0 (fun _ => true) held n 4 (List.take (Tryz.prog.cellsOf 4) (List.drop 0 [c0, c1, c2, c3, c4, c5, c6, c7, c8, c9])) = some y0 := hg 0 _ rfl
    have h1 : DataW.trod enc Tryz.prog W 0 (fun _ => true) held n 3 (List.take (Tryz.prog.cellsOf 3) (List.drop 1 [c0, c1, c2, c3, c4, c5, c6, c7, c8, c9])) = some y1 := hg 1 _ rfl
    have h2 : DataW.trod enc Tryz.prog W 0 (fun _ => true) held n 3 (List.take (Tryz.prog.cellsOf 3) (List.drop 2 [c0, c1, c2, c3, c4, c5, c6, c7, c8, c9])) = some y2 := hg 2 _ rfl
    have h3 : DataW.trod enc Tryz.prog W 0 (fun _ => true) held n 61 (List.take (Tryz.prog.cellsOf 61) (List.drop 3 [c0, c1, c2, c3, c4, c5, c6, c7, c8, c9])) = some y3 := hg 3 _ rfl
    have h4 : DataW.trod enc Tryz.prog W 0 (fun _ => true) held n 3 (List.take (Tryz.prog.cellsOf 3) (List.drop 5 [c0, c1, c2, c3, c4, c5, c6, c7, c8, c9])) = some y4 := hg 4 _ rfl
    have h5 : DataW.trod enc Tryz.prog W 0 (fun _ => true) held n 3 (List.take (Tryz.prog.cellsOf 3) (List.drop 6 [c0, c1, c2, c3, c4, c5, c6, c7, c8, c9])) = some y5 := hg 5 _ rfl
    have h6 : DataW.trod enc Tryz.prog W 0 (fun _ => true) held n 62 (List.take (Tryz.prog.cellsOf 62) (List.drop 7 [c0, c1, c2, c3, c4, c5, c6, c7, c8, c9])) = some y6 := hg 6 _ rfl
    have h7 : DataW.trod enc Tryz.prog W 0 (fun _ => true) held n 63 (List.take (Tryz.prog.cellsOf 63) (List.drop 8 [c0, c1, c2, c3, c4, c5, c6, c7, c8, c9])) = some y7 := hg 7 _ rfl
    have h8 : DataW.trod enc Tryz.prog W 0 (fun _ => true) held n 64 (List.take (Tryz.prog.cellsOf 64) (List.drop 9 [c0, c1, c2, c3, c4, c5, c6, c7, c8, c9])) = some y8 := hg 8 _ rfl
    rw [hC0] at h0
    obtain ⟨f0, e0, _⟩ := DataW.trod_bool Tryz.underlying4 (x := y0) h0
    rw [hC1] at h1
    obtain ⟨f1, e1, _, _⟩ := DataW.trod_int Tryz.underlying3 (x := y1) h1
    rw [hC1] at h2
    obtain ⟨f2, e2, _, _⟩ := DataW.trod_int Tryz.underlying3 (x := y2) h2
    rw [hC2] at h3
    obtain ⟨f3, e3⟩ := open_ref (x := y3) h3 rfl (fun p hp2 => hlt p (by rw [hp]; simp [hp2]))
    replace e3 : [c3, c4] = [.int .i64 f3.r, .int .i64 f3.q] := e3
    rw [hC1] at h4
    obtain ⟨f4, e4, _, _⟩ := DataW.trod_int Tryz.underlying3 (x := y4) h4
    rw [hC1] at h5
    obtain ⟨f5, e5, _, _⟩ := DataW.trod_int Tryz.underlying3 (x := y5) h5
    rw [hC3] at h6
    obtain ⟨Af6, kf6, f6, e6, a6, q6⟩ := open_list (α := Ck.Nm) (fun _ => True) Tryz.underlying62 (by kernel_rfl) (fun _ _ _ => open_nm) (x := y6) h6 (fun p hp2 => hlt p (by rw [hp]; simp [hp2]))
    rw [hC4] at h7
    obtain ⟨Af7, kf7, f7, e7, a7, q7⟩ := open_list (α := Ck.VSm) (fun a => a.At W W.heap.size) Tryz.underlying63 (by kernel_rfl) (fun _ _ _ => open_sm) (x := y7) h7 (fun p hp2 => hlt p (by rw [hp]; simp [hp2]))
    rw [hC5] at h8
    obtain ⟨Af8, kf8, f8, e8, a8, q8⟩ := open_list (α := Ck.En) (fun _ => True) Tryz.underlying64 (by kernel_rfl) (fun _ _ _ => open_en) (x := y8) h8 (fun p hp2 => hlt p (by rw [hp]; simp [hp2]))
    simp at e0
    subst e0
    simp at e1
    subst e1
    simp at e2
    subst e2
    obtain ⟨rfl, rfl⟩ : c3 = .int .i64 f3.r ∧ c4 = .int .i64 f3.q := by simpa using e3
    simp at e4
    subst e4
    simp at e5
    subst e5
    simp at e6
    subst e6
    simp at e7
    subst e7
    simp at e8
    subst e8
    exact ⟨⟨f0, f1, f2, f3, f4, f5, f6, f7, f8, Af6, kf6, Af7, kf7, Af8, kf8⟩, rfl, ⟨a6, a7, q7, a8⟩⟩
theorem open_pt {fuel : Nat} {cs : List Value} {x : DataW H × List MemPlace} (h : DataW.trod enc Tryz.prog W 0 (fun _ => true) held fuel 26 cs = some x) (hsz : cs.length = 5) (hlt : ∀ p ∈ x.2, p.block < W.heap.size) : ∃ a : Ck.VPt, cs = [.int .i64 a.c, .slice a.Aa a.al.length a.ca, .slice a.Ar a.rs.length a.cr, .slice a.Ad a.ds.length a.cd, .string ⟨a.mp.toArray⟩] ∧ a.At W W.heap.size := by
  obtain ⟨xs, n, _, hx, _, hxl, hg⟩ := DataW.trod_struct Tryz.underlying26 h
  have hC0 : Tryz.prog.cellsOf 3 = 1 := by kernel_rfl
  have hC1 : Tryz.prog.cellsOf 22 = 1 := by kernel_rfl
  have hC2 : Tryz.prog.cellsOf 23 = 1 := by kernel_rfl
  have hC3 : Tryz.prog.cellsOf 24 = 1 := by kernel_rfl
  have hC4 : Tryz.prog.cellsOf 9 = 1 := by kernel_rfl
  match cs, hsz, xs, hxl with
  | [c0, c1, c2, c3, c4], _, [y0, y1, y2, y3, y4], _ =>
    have hp : x.2 = ([y0, y1, y2, y3, y4] : List (DataW H × List MemPlace)).flatMap Prod.snd := by rw [hx]
    have h0 : DataW.trod enc Tryz.prog W 0 (fun _ => true) held n 3 (List.take (Tryz.prog.cellsOf 3) (List.drop 0 [c0, c1, c2, c3, c4])) = some y0 := hg 0 _ rfl
    have h1 : DataW.trod enc Tryz.prog W 0 (fun _ => true) held n 22 (List.take (Tryz.prog.cellsOf 22) (List.drop 1 [c0, c1, c2, c3, c4])) = some y1 := hg 1 _ rfl
    have h2 : DataW.trod enc Tryz.prog W 0 (fun _ => true) held n 23 (List.take (Tryz.prog.cellsOf 23) (List.drop 2 [c0, c1, c2, c3, c4])) = some y2 := hg 2 _ rfl
    have h3 : DataW.trod enc Tryz.prog W 0 (fun _ => true) held n 24 (List.take (Tryz.prog.cellsOf 24) (List.drop 3 [c0, c1, c2, c3, c4])) = some y3 := hg 3 _ rfl
    have h4 : DataW.trod enc Tryz.prog W 0 (fun _ => true) held n 9 (List.take (Tryz.prog.cellsOf 9) (List.drop 4 [c0, c1, c2, c3, c4])) = some y4 := hg 4 _ rfl
    rw [hC0] at h0
    obtain ⟨f0, e0, _, _⟩ := DataW.trod_int Tryz.underlying3 (x := y0) h0
    rw [hC1] at h1
    obtain ⟨Af1, kf1, f1, e1, a1, q1⟩ := open_list (α := Ck.Run) (fun _ => True) Tryz.underlying22 (by kernel_rfl) (fun _ _ _ => open_run) (x := y1) h1 (fun p hp2 => hlt p (by rw [hp]; simp [hp2]))
    rw [hC2] at h2
    obtain ⟨Af2, kf2, f2, e2, a2, q2⟩ := open_list (α := Ck.VRc) (fun a => a.At W W.heap.size) Tryz.underlying23 (by kernel_rfl) (fun _ _ _ => open_rc) (x := y2) h2 (fun p hp2 => hlt p (by rw [hp]; simp [hp2]))
    rw [hC3] at h3
    obtain ⟨Af3, kf3, f3, e3, a3, q3⟩ := open_list (α := Int) (fun _ => True) Tryz.underlying24 (by kernel_rfl) (fun _ _ _ => open_int1) (x := y3) h3 (fun p hp2 => hlt p (by rw [hp]; simp [hp2]))
    rw [hC4] at h4
    obtain ⟨f4, e4, _, _⟩ := DataW.trod_string Tryz.underlying9 (x := y4) h4
    simp at e0
    subst e0
    simp at e1
    subst e1
    simp at e2
    subst e2
    simp at e3
    subst e3
    simp at e4
    subst e4
    exact ⟨⟨f0, f1, f2, f3, f4.data.toList, Af1, kf1, Af2, kf2, Af3, kf3⟩, rfl, ⟨a1, a2, q2, a3⟩⟩
theorem open_partsV {v : Value} {d : DataW H} {p : List MemPlace} {r : Reach} {b0 : Nat} (hv : Value.okWide Tryz.prog W r b0 26 v) (h : DataW.Trod enc Tryz.prog W 0 (fun _ => true) held 26 v d p) (hlt : ∀ x ∈ p, x.block < W.heap.size) :
    ∃ a : Ck.VPt, v = a.val ∧ a.At W W.heap.size := by
  obtain ⟨cs, rfl, hsz⟩ := okWide_struct Tryz.underlying26 hv
  obtain ⟨fuel, hf⟩ := h
  have hC : Tryz.prog.cellsOf 26 = 5 := by kernel_rfl
  rw [hC] at hsz
  obtain ⟨a, ha, hA⟩ := open_pt hf (by simpa [Value.cells] using hsz) hlt
  refine ⟨a, ?_, hA⟩
  have ha : cs.toList = _ := ha
  show Value.agg cs = Value.agg _
  exact congrArg Value.agg (by rw [← Array.toArray_toList (xs := cs), ha])
end
end Go.Proofs.YtgcjejajljhnaaaGreatDoor
namespace Go.Ex
open Go
def zOf (w : World) (k i : Nat) : Option Value := match w.heap[k]? with | some (.cells cur _ _) => cur[i]? | _ => none
theorem zOf_cell {w : World} {k i : Nat} {v : Value} (h : w.cell? ⟨k, i, none⟩ = some v) : zOf w k i = some v := by
  unfold World.cell? at h
  unfold zOf
  simp only at h
  split at h
  · rename_i cur e fr h1
    rw [h1]
    exact h
  · cases h
theorem Rzl.cons {z : Nat → Nat → Option Value} {x : AV} {l : List AV} {y : Value} {ys : List Value} (h : Rz z x y) (hl : Rzl z l ys) : Rzl z (x :: l) (y :: ys) := ⟨_, _, rfl, h, hl⟩
theorem Rzl.head {z : Nat → Nat → Option Value} {x : AV} {y : Value} (h : Rzl z [x] [y]) : Rz z x y := by
  obtain ⟨y', ys, e, h1, _⟩ := h
  cases e
  exact h1
theorem calls_known {P : Program} {f : FuncId} {args : List AV} {v : Value} {W : World} {args' : List Value} (h : PureC P f args (.sc v)) (hR : Rzl (zOf W) args args') : Calls P f args'.toArray W fun e w' => e = .returned v ∧ RowKit.Below W.heap.size W w' := by
  have hz : ∀ k i v, zOf W k i = some v → ∃ cur e fr, W.heap[k]? = some (.cells cur e fr) ∧ cur[i]? = some v := fun k i v hv => by
    unfold zOf at hv
    split at hv
    · rename_i cur e fr h1
      exact ⟨cur, e, fr, h1, hv⟩
    · cases hv
  have hok : Ok ⟨fun _ => none, zOf W⟩ (⟨.e, 0⟩ : St).h.get W := ⟨fun _ _ h => (by cases h), fun _ _ _ _ h => (by cases h), fun k i v hv => ⟨hz k i v hv, fun _ _ h => (by cases h)⟩⟩
  refine Calls.mono (h ⟨.e, 0⟩ ⟨fun _ => none, zOf W⟩ W args' (Rzl.rl hR) hok (fun _ _ _ => rfl)) ?_
  rintro e w' ⟨y, m', rfl, hg, hy⟩
  refine ⟨congrArg Ending.returned hy, ?_⟩
  exact ⟨hg.fr.os, hg.fr.tape, hg.fr.output, hg.fr.size, fun k hk => hg.fr.block k hk fun b o hb => by cases hb⟩
end Go.Ex
namespace Go.Proofs.YtgcjejajljhnaaaGreatDoor
open Go.ChangeShapes Go.WideShapes Go.ChangeAt Go.RowKit Go.Deep Go.Hp Go.Ex Ck
set_option maxRecDepth 100000
section
variable {H : Type} {enc : TypeId × Value → H} {W : World} {held : Bool}
theorem open_listK {α : Type} {k : Nat} (f : α → List AV) (o : α) (hfl : ∀ x, (f x).length = k + 1) {t e : TypeId} (hu : Tryz.prog.underlying t = some (.slice e)) (hC : Tryz.prog.cellsOf e = k + 1)
    (one : ∀ (fuel : Nat) (cs : List Value) (y : DataW H × List MemPlace), DataW.trod enc Tryz.prog W 0 (fun _ => true) held fuel e cs = some y → cs.length = k + 1 → (∀ p ∈ y.2, p.block < W.heap.size) → ∃ a : α, Rzl (zOf W) (f a) cs)
    {fuel : Nat} {cs : List Value} {x : DataW H × List MemPlace} (h : DataW.trod enc Tryz.prog W 0 (fun _ => true) held fuel t cs = some x) (hlt : ∀ p ∈ x.2, p.block < W.heap.size) : ∃ l : List α, Rzl (zOf W) [LS (k + 1) f o l] cs := by
  rcases open_slice hu h with ⟨hc, _⟩ | ⟨a, len, cap, m, fu, D, Pl, hc, _, hle, hcap, hm, hx, hat⟩
  · exact ⟨[], _, _, hc, ⟨none, 0, rfl, Nat.le_refl _, fun _ => ⟨rfl, rfl⟩, fun i hi => absurd hi (Nat.not_lt_zero _)⟩, rfl⟩
  · have hm' : m = cap := by simpa using hm
    subst hm'
    have hcell : ∀ i, i < len → ∃ q : α, ∃ vs, Rzl (zOf W) (f q) vs ∧ vs.length = k + 1 ∧ ∀ j v, vs[j]? = some v → W.cell? ((a.add (i * (k + 1))).add j) = some v := by
      intro i hi
      obtain ⟨cs', hcs, ht⟩ := hat i (by omega)
      rw [hC] at hcs
      obtain ⟨_, hl, hcl⟩ := World.cells?_some hcs
      obtain ⟨q, hq⟩ := one fu cs' _ ht (by simpa using hl) (fun p hp => hlt p (by
        rw [hx]
        exact List.mem_append_right _ (List.mem_flatMap.2 ⟨i, List.mem_range.2 (by omega), hp⟩)))
      refine ⟨q, cs', hq, by simpa using hl, fun j v hj => ?_⟩
      have hlk : cs'.length = k + 1 := by simpa using hl
      have hjk : j < k + 1 := by have := (List.getElem?_eq_some_iff.1 hj).1; omega
      have := hcl j (by omega)
      rw [this]
      rw [List.getElem?_eq_getElem (by omega)] at hj
      simpa [List.getD, List.getElem?_eq_getElem (show j < cs'.length by omega)] using hj
    obtain ⟨l, hl, hp⟩ := list_of o len hcell
    subst hl
    refine ⟨l, _, _, hc, ⟨some a, m, rfl, hle, fun h => (by cases h), fun i hi => ?_⟩, rfl⟩
    obtain ⟨vs, h1, h2, h3⟩ := hp i hi
    obtain ⟨vs0, h10, h20, h30⟩ := hp 0 (by omega)
    have h0 : vs0[0]? = some (vs0[0]'(by omega)) := List.getElem?_eq_getElem _
    have hs : a.spot = none := by
      have := World.cell?_spot (h30 0 _ h0)
      simpa [Addr.add] using this
    clear h10 h20 h30 h0 vs0
    obtain ⟨b, p, sp⟩ := a
    simp only at hs
    subst hs
    refine ⟨b, p, vs, rfl, h1, h2, fun j v hj => zOf_cell ?_⟩
    have := h3 j v hj
    simpa only [add_at] using this
theorem kone_int : ∀ (fuel : Nat) (cs : List Value) (y : DataW H × List MemPlace), DataW.trod enc Tryz.prog W 0 (fun _ => true) held fuel 3 cs = some y → cs.length = 1 → (∀ p ∈ y.2, p.block < W.heap.size) → ∃ a : Int, Rzl (zOf W) (aI a) cs := fun fuel cs y h hs hl => by
  obtain ⟨a, rfl, _⟩ := open_int1 h hs hl
  exact ⟨a, Rzl.cons rfl rfl⟩
theorem kone_run : ∀ (fuel : Nat) (cs : List Value) (y : DataW H × List MemPlace), DataW.trod enc Tryz.prog W 0 (fun _ => true) held fuel 78 cs = some y → cs.length = 2 → (∀ p ∈ y.2, p.block < W.heap.size) → ∃ a : Run, Rzl (zOf W) (aRun a) cs := fun fuel cs y h hs hl => by
  obtain ⟨a, rfl, _⟩ := open_run h hs hl
  exact ⟨a, Rzl.cons rfl (Rzl.cons rfl rfl)⟩
theorem kone_nm : ∀ (fuel : Nat) (cs : List Value) (y : DataW H × List MemPlace), DataW.trod enc Tryz.prog W 0 (fun _ => true) held fuel 71 cs = some y → cs.length = 3 → (∀ p ∈ y.2, p.block < W.heap.size) → ∃ a : Nm, Rzl (zOf W) (aNm a) cs := fun fuel cs y h hs hl => by
  obtain ⟨a, rfl, _⟩ := open_nm h hs hl
  exact ⟨a, Rzl.cons rfl (Rzl.cons rfl (Rzl.cons rfl rfl))⟩
theorem kone_en : ∀ (fuel : Nat) (cs : List Value) (y : DataW H × List MemPlace), DataW.trod enc Tryz.prog W 0 (fun _ => true) held fuel 73 cs = some y → cs.length = 4 → (∀ p ∈ y.2, p.block < W.heap.size) → ∃ a : En, Rzl (zOf W) (aEn a) cs := fun fuel cs y h hs hl => by
  obtain ⟨a, rfl, _⟩ := open_en h hs hl
  exact ⟨a, Rzl.cons rfl (Rzl.cons rfl (Rzl.cons rfl (Rzl.cons rfl rfl)))⟩
theorem openK_sm {fuel : Nat} {cs : List Value} {x : DataW H × List MemPlace} (h : DataW.trod enc Tryz.prog W 0 (fun _ => true) held fuel 80 cs = some x) (hsz : cs.length = 2) (hlt : ∀ p ∈ x.2, p.block < W.heap.size) : ∃ a : Sm, Rzl (zOf W) (aSm a) cs := by
  obtain ⟨xs, n, _, hx, _, hxl, hg⟩ := DataW.trod_struct Tryz.underlying80 h
  have hC0 : Tryz.prog.cellsOf 22 = 1 := by kernel_rfl
  have hC1 : Tryz.prog.cellsOf 3 = 1 := by kernel_rfl
  match cs, hsz, xs, hxl with
  | [c0, c1], _, [y0, y1], _ =>
    have hp : x.2 = ([y0, y1] : List (DataW H × List MemPlace)).flatMap Prod.snd := by rw [hx]
    have h0 : DataW.trod enc Tryz.prog W 0 (fun _ => true) held n 22 (List.take (Tryz.prog.cellsOf 22) (List.drop 0 [c0, c1])) = some y0 := hg 0 _ rfl
    have h1 : DataW.trod enc Tryz.prog W 0 (fun _ => true) held n 3 (List.take (Tryz.prog.cellsOf 3) (List.drop 1 [c0, c1])) = some y1 := hg 1 _ rfl
    rw [hC0] at h0
    obtain ⟨f0, e0⟩ := open_listK aRun Run.o (fun _ => rfl) Tryz.underlying22 (by kernel_rfl) kone_run (x := y0) h0 (fun p hp2 => hlt p (by rw [hp]; simp [hp2]))
    rw [hC1] at h1
    obtain ⟨f1, e1, _, _⟩ := DataW.trod_int Tryz.underlying3 (x := y1) h1
    simp at e1
    subst e1
    exact ⟨⟨f0, f1⟩, Rzl.cons (Rzl.head e0) (Rzl.cons rfl rfl)⟩
theorem openK_rc {fuel : Nat} {cs : List Value} {x : DataW H × List MemPlace} (h : DataW.trod enc Tryz.prog W 0 (fun _ => true) held fuel 66 cs = some x) (hsz : cs.length = 10) (hlt : ∀ p ∈ x.2, p.block < W.heap.size) : ∃ a : Rc, Rzl (zOf W) (aRc a) cs := by
  obtain ⟨xs, n, _, hx, _, hxl, hg⟩ := DataW.trod_struct Tryz.underlying66 h
  have hC0 : Tryz.prog.cellsOf 4 = 1 := by kernel_rfl
  have hC1 : Tryz.prog.cellsOf 3 = 1 := by kernel_rfl
  have hC2 : Tryz.prog.cellsOf 61 = 2 := by kernel_rfl
  have hC3 : Tryz.prog.cellsOf 62 = 1 := by kernel_rfl
  have hC4 : Tryz.prog.cellsOf 63 = 1 := by kernel_rfl
  have hC5 : Tryz.prog.cellsOf 64 = 1 := by kernel_rfl
  match cs, hsz, xs, hxl with
  | [c0, c1, c2, c3, c4, c5, c6, c7, c8, c9], _, [y0, y1, y2, y3, y4, y5, y6, y7, y8], _ =>
    have hp : x.2 = ([y0, y1, y2, y3, y4, y5, y6, y7, y8] : List (DataW H × List MemPlace)).flatMap Prod.snd := by rw [hx]
    have h0 : DataW.trod enc Tryz.prog W 0 (fun _ => true) held n 4 (List.take (Tryz.prog.cellsOf 4) (List.drop 0 [c0, c1, c2, c3, c4, c5, c6, c7, c8, c9])) = some y0 := hg 0 _ rfl
    have h1 : DataW.trod enc Tryz.prog W 0 (fun _ => true) held n 3 (List.take (Tryz.prog.cellsOf 3) (List.drop 1 [c0, c1, c2, c3, c4, c5, c6, c7, c8, c9])) = some y1 := hg 1 _ rfl
    have h2 : DataW.trod enc Tryz.prog W 0 (fun _ => true) held n 3 (List.take (Tryz.prog.cellsOf 3) (List.drop 2 [c0, c1, c2, c3, c4, c5, c6, c7, c8, c9])) = some y2 := hg 2 _ rfl
    have h3 : DataW.trod enc Tryz.prog W 0 (fun _ => true) held n 61 (List.take (Tryz.prog.cellsOf 61) (List.drop 3 [c0, c1, c2, c3, c4, c5, c6, c7, c8, c9])) = some y3 := hg 3 _ rfl
    have h4 : DataW.trod enc Tryz.prog W 0 (fun _ => true) held n 3 (List.take (Tryz.prog.cellsOf 3) (List.drop 5 [c0, c1, c2, c3, c4, c5, c6, c7, c8, c9])) = some y4 := hg 4 _ rfl
    have h5 : DataW.trod enc Tryz.prog W 0 (fun _ => true) held n 3 (List.take (Tryz.prog.cellsOf 3) (List.drop 6 [c0, c1, c2, c3, c4, c5, c6, c7, c8, c9])) = some y5 := hg 5 _ rfl
    have h6 : DataW.trod enc Tryz.prog W 0 (fun _ => true) held n 62 (List.take (Tryz.prog.cellsOf 62) (List.drop 7 [c0, c1, c2, c3, c4, c5, c6, c7, c8, c9])) = some y6 := hg 6 _ rfl
    have h7 : DataW.trod enc Tryz.prog W 0 (fun _ => true) held n 63 (List.take (Tryz.prog.cellsOf 63) (List.drop 8 [c0, c1, c2, c3, c4, c5, c6, c7, c8, c9])) = some y7 := hg 7 _ rfl
    have h8 : DataW.trod enc Tryz.prog W 0 (fun _ => true) held n 64 (List.take (Tryz.prog.cellsOf 64) (List.drop 9 [c0, c1, c2, c3, c4, c5, c6, c7, c8, c9])) = some y8 := hg 8 _ rfl
    rw [hC0] at h0
    obtain ⟨f0, e0, _⟩ := DataW.trod_bool Tryz.underlying4 (x := y0) h0
    rw [hC1] at h1
    obtain ⟨f1, e1, _, _⟩ := DataW.trod_int Tryz.underlying3 (x := y1) h1
    rw [hC1] at h2
    obtain ⟨f2, e2, _, _⟩ := DataW.trod_int Tryz.underlying3 (x := y2) h2
    rw [hC2] at h3
    obtain ⟨f3, e3⟩ := open_ref (x := y3) h3 rfl (fun p hp2 => hlt p (by rw [hp]; simp [hp2]))
    replace e3 : [c3, c4] = [.int .i64 f3.r, .int .i64 f3.q] := e3
    rw [hC1] at h4
    obtain ⟨f4, e4, _, _⟩ := DataW.trod_int Tryz.underlying3 (x := y4) h4
    rw [hC1] at h5
    obtain ⟨f5, e5, _, _⟩ := DataW.trod_int Tryz.underlying3 (x := y5) h5
    rw [hC3] at h6
    obtain ⟨f6, e6⟩ := open_listK aNm Nm.o (fun _ => rfl) Tryz.underlying62 (by kernel_rfl) kone_nm (x := y6) h6 (fun p hp2 => hlt p (by rw [hp]; simp [hp2]))
    rw [hC4] at h7
    obtain ⟨f7, e7⟩ := open_listK aSm Sm.o (fun _ => rfl) Tryz.underlying63 (by kernel_rfl) (fun _ _ _ => openK_sm) (x := y7) h7 (fun p hp2 => hlt p (by rw [hp]; simp [hp2]))
    rw [hC5] at h8
    obtain ⟨f8, e8⟩ := open_listK aEn En.o (fun _ => rfl) Tryz.underlying64 (by kernel_rfl) kone_en (x := y8) h8 (fun p hp2 => hlt p (by rw [hp]; simp [hp2]))
    simp at e0
    subst e0
    simp at e1
    subst e1
    simp at e2
    subst e2
    obtain ⟨rfl, rfl⟩ : c3 = .int .i64 f3.r ∧ c4 = .int .i64 f3.q := by simpa using e3
    simp at e4
    subst e4
    simp at e5
    subst e5
    exact ⟨⟨f0, f1, f2, f3, f4, f5, f6, f7, f8⟩, Rzl.cons rfl (Rzl.cons rfl (Rzl.cons rfl (Rzl.cons rfl (Rzl.cons rfl (Rzl.cons rfl (Rzl.cons rfl (Rzl.cons (Rzl.head e6) (Rzl.cons (Rzl.head e7) (Rzl.cons (Rzl.head e8) rfl)))))))))⟩
theorem openK_pt {fuel : Nat} {cs : List Value} {x : DataW H × List MemPlace} (h : DataW.trod enc Tryz.prog W 0 (fun _ => true) held fuel 26 cs = some x) (hsz : cs.length = 5) (hlt : ∀ p ∈ x.2, p.block < W.heap.size) : ∃ a : Pt, Rzl (zOf W) (aPt a) cs := by
  obtain ⟨xs, n, _, hx, _, hxl, hg⟩ := DataW.trod_struct Tryz.underlying26 h
  have hC0 : Tryz.prog.cellsOf 3 = 1 := by kernel_rfl
  have hC1 : Tryz.prog.cellsOf 22 = 1 := by kernel_rfl
  have hC2 : Tryz.prog.cellsOf 23 = 1 := by kernel_rfl
  have hC3 : Tryz.prog.cellsOf 24 = 1 := by kernel_rfl
  have hC4 : Tryz.prog.cellsOf 9 = 1 := by kernel_rfl
  match cs, hsz, xs, hxl with
  | [c0, c1, c2, c3, c4], _, [y0, y1, y2, y3, y4], _ =>
    have hp : x.2 = ([y0, y1, y2, y3, y4] : List (DataW H × List MemPlace)).flatMap Prod.snd := by rw [hx]
    have h0 : DataW.trod enc Tryz.prog W 0 (fun _ => true) held n 3 (List.take (Tryz.prog.cellsOf 3) (List.drop 0 [c0, c1, c2, c3, c4])) = some y0 := hg 0 _ rfl
    have h1 : DataW.trod enc Tryz.prog W 0 (fun _ => true) held n 22 (List.take (Tryz.prog.cellsOf 22) (List.drop 1 [c0, c1, c2, c3, c4])) = some y1 := hg 1 _ rfl
    have h2 : DataW.trod enc Tryz.prog W 0 (fun _ => true) held n 23 (List.take (Tryz.prog.cellsOf 23) (List.drop 2 [c0, c1, c2, c3, c4])) = some y2 := hg 2 _ rfl
    have h3 : DataW.trod enc Tryz.prog W 0 (fun _ => true) held n 24 (List.take (Tryz.prog.cellsOf 24) (List.drop 3 [c0, c1, c2, c3, c4])) = some y3 := hg 3 _ rfl
    have h4 : DataW.trod enc Tryz.prog W 0 (fun _ => true) held n 9 (List.take (Tryz.prog.cellsOf 9) (List.drop 4 [c0, c1, c2, c3, c4])) = some y4 := hg 4 _ rfl
    rw [hC0] at h0
    obtain ⟨f0, e0, _, _⟩ := DataW.trod_int Tryz.underlying3 (x := y0) h0
    rw [hC1] at h1
    obtain ⟨f1, e1⟩ := open_listK aRun Run.o (fun _ => rfl) Tryz.underlying22 (by kernel_rfl) kone_run (x := y1) h1 (fun p hp2 => hlt p (by rw [hp]; simp [hp2]))
    rw [hC2] at h2
    obtain ⟨f2, e2⟩ := open_listK aRc Rc.o (fun _ => rfl) Tryz.underlying23 (by kernel_rfl) (fun _ _ _ => openK_rc) (x := y2) h2 (fun p hp2 => hlt p (by rw [hp]; simp [hp2]))
    rw [hC3] at h3
    obtain ⟨f3, e3⟩ := open_listK aI 0 (fun _ => rfl) Tryz.underlying24 (by kernel_rfl) kone_int (x := y3) h3 (fun p hp2 => hlt p (by rw [hp]; simp [hp2]))
    rw [hC4] at h4
    obtain ⟨f4, e4, _, _⟩ := DataW.trod_string Tryz.underlying9 (x := y4) h4
    simp at e0
    subst e0
    simp at e4
    subst e4
    exact ⟨⟨f0, f1, f2, f3, f4.data.toList⟩, Rzl.cons rfl (Rzl.cons (Rzl.head e1) (Rzl.cons (Rzl.head e2) (Rzl.cons (Rzl.head e3) (Rzl.cons rfl rfl))))⟩
theorem open_partsK {v : Value} {d : DataW H} {p : List MemPlace} {r : Reach} {b0 : Nat} (hv : Value.okWide Tryz.prog W r b0 26 v) (h : DataW.Trod enc Tryz.prog W 0 (fun _ => true) held 26 v d p) (hlt : ∀ x ∈ p, x.block < W.heap.size) :
    ∃ a : Pt, Rz (zOf W) (aPts a) v := by
  obtain ⟨cs, rfl, hsz⟩ := okWide_struct Tryz.underlying26 hv
  obtain ⟨fuel, hf⟩ := h
  have hC : Tryz.prog.cellsOf 26 = 5 := by kernel_rfl
  rw [hC] at hsz
  obtain ⟨a, ha⟩ := openK_pt hf (by simpa [Value.cells] using hsz) hlt
  exact ⟨a, cs.toList, ha, by simp⟩
end
end Go.Proofs.YtgcjejajljhnaaaGreatDoor
