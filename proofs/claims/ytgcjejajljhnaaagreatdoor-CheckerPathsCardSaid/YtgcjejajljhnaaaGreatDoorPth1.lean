/- Own text, part Pth 1: walks of the package acl and of its reference, and the plain laws that they lean on; no statement of the seat is here. -/
import Derived.Test.YtgcjejajljhnaaaGreatDoorRoot1
import Derived.Test.YtgcjejajljhnaaaGreatDoorRoot6
import Derived.Test.YtgcjejajljhnaaaGreatDoorRoot7
set_option linter.all false
namespace Ck
theorem right_lt {v : Pt} {r : Ref} (h : right v r = true) : 0 ≤ r.r ∧ r.r.toNat < v.rs.length := by
  unfold right wi at h
  simp only [Bool.and_eq_true, decide_eq_true_eq] at h
  omega
end Ck
namespace Ck
def fp1 (v : Pt) (h : Int → List UInt8 → List (List UInt8)) (path : List UInt8) (x : En) : List (List UInt8) :=
  if right v x.f then (path ++ 47 :: x.n) :: (if dir (rc v x.f.r) then h x.f.r (path ++ 47 :: x.n) else []) else []
def fp (v : Pt) : Nat → Int → List UInt8 → List (List UInt8)
  | 0, _, _ => []
  | m + 1, d, path => (rc v d).es.flatMap (fp1 v (fp v m) path)
theorem walkL_eq (v : Pt) {g : Int → List UInt8 → List (List UInt8) → List (List UInt8) × Bool} {h : Int → List UInt8 → List (List UInt8)} (path : List UInt8)
    (hg : ∀ d p ps, ps.length ≤ 500 → (ps.length + (h d p).length ≤ 500 → g d p ps = (ps ++ h d p, true)) ∧ (500 < ps.length + (h d p).length → (g d p ps).2 = false)) :
    ∀ (es : List En) (ps : List (List UInt8)), ps.length ≤ 500 → (ps.length + (es.flatMap (fp1 v h path)).length ≤ 500 → walkL v g path ps es = (ps ++ es.flatMap (fp1 v h path), true)) ∧ (500 < ps.length + (es.flatMap (fp1 v h path)).length → (walkL v g path ps es).2 = false)
  | [], ps, hp => by simp [walkL]; omega
  | x :: l, ps, hp => by
    rw [List.flatMap_cons, List.length_append]
    unfold walkL
    by_cases hr : right v x.f = true
    · rw [if_pos hr]
      have e1 : fp1 v h path x = (path ++ 47 :: x.n) :: (if dir (rc v x.f.r) then h x.f.r (path ++ 47 :: x.n) else []) := if_pos hr
      by_cases h5 : 500 < ps.length + 1
      · rw [if_pos h5, e1, List.length_cons]
        exact ⟨fun h => by omega, fun _ => rfl⟩
      · rw [if_neg h5]
        have hl : (ps ++ [path ++ 47 :: x.n]).length = ps.length + 1 := by simp
        by_cases hd : dir (rc v x.f.r) = true
        · rw [if_pos hd]
          rw [if_pos hd] at e1
          obtain ⟨g1, g2⟩ := hg x.f.r (path ++ 47 :: x.n) (ps ++ [path ++ 47 :: x.n]) (by omega)
          rw [hl] at g1 g2
          rw [e1, List.length_cons]
          by_cases hq : ps.length + 1 + (h x.f.r (path ++ 47 :: x.n)).length ≤ 500
          · rw [g1 hq, if_pos rfl]
            obtain ⟨i1, i2⟩ := walkL_eq v path hg l (ps ++ [path ++ 47 :: x.n] ++ h x.f.r (path ++ 47 :: x.n)) (by rw [List.length_append, hl]; omega)
            rw [List.length_append, hl] at i1 i2
            refine ⟨fun h => ?_, fun h => i2 (by omega)⟩
            rw [i1 (by omega)]
            simp
          · rw [g2 (by omega), if_neg (by simp)]
            exact ⟨fun h => by omega, fun _ => rfl⟩
        · rw [if_neg hd]
          rw [if_neg hd] at e1
          rw [e1, List.length_cons, List.length_nil]
          obtain ⟨i1, i2⟩ := walkL_eq v path hg l (ps ++ [path ++ 47 :: x.n]) (by omega)
          rw [hl] at i1 i2
          refine ⟨fun h => ?_, fun h => i2 (by omega)⟩
          rw [i1 (by omega)]
          simp
    · rw [if_neg hr]
      have e1 : fp1 v h path x = [] := if_neg hr
      rw [e1, List.length_nil]
      obtain ⟨i1, i2⟩ := walkL_eq v path hg l ps hp
      refine ⟨fun h => ?_, fun h => i2 (by omega)⟩
      rw [i1 (by omega)]
      simp
theorem walk_eq (v : Pt) : ∀ (m : Nat) (d : Int) (p : List UInt8) (ps : List (List UInt8)), ps.length ≤ 500 → (ps.length + (fp v m d p).length ≤ 500 → walk v m d p ps = (ps ++ fp v m d p, true)) ∧ (500 < ps.length + (fp v m d p).length → (walk v m d p ps).2 = false)
  | 0, d, p, ps, hp => by simp [walk, fp]; omega
  | m + 1, d, p, ps, hp => walkL_eq v p (fun d p ps h => walk_eq v m d p ps h) (rc v d).es ps hp
def rpL (v : Pt) (g : Int → List UInt8 → List (List UInt8)) (base : List UInt8) : List (List UInt8) → List En → List (List UInt8)
  | out, [] => out
  | out, x :: l => if out.length ≤ 500 then (if right v x.f then rpL v g base (out ++ if dir (rc v x.f.r) then g x.f.r (base ++ 47 :: x.n) else [base ++ 47 :: x.n]) l else rpL v g base out l) else out
def rp (v : Pt) : Nat → Int → List UInt8 → List (List UInt8)
  | 0, _, path => [path]
  | m + 1, d, path => rpL v (rp v m) (if path = [47] then [] else path) [path] (rc v d).es
theorem rpL_eq (v : Pt) {g : Int → List UInt8 → List (List UInt8)} {h : Int → List UInt8 → List (List UInt8)} (base : List UInt8)
    : ∀ (es : List En) (out : List (List UInt8)), (∀ x ∈ es, right v x.f = true → dir (rc v x.f.r) = true → (1 + (h x.f.r (base ++ 47 :: x.n)).length ≤ 500 → g x.f.r (base ++ 47 :: x.n) = (base ++ 47 :: x.n) :: h x.f.r (base ++ 47 :: x.n)) ∧ (500 < 1 + (h x.f.r (base ++ 47 :: x.n)).length → 500 < (g x.f.r (base ++ 47 :: x.n)).length)) →
      (out.length + (es.flatMap (fp1 v h base)).length ≤ 500 → rpL v g base out es = out ++ es.flatMap (fp1 v h base)) ∧ (500 < out.length + (es.flatMap (fp1 v h base)).length → 500 < (rpL v g base out es).length)
  | [], out, _ => by simp [rpL]
  | x :: l, out, hg => by
    rw [List.flatMap_cons, List.length_append]
    unfold rpL
    by_cases ho : out.length ≤ 500
    · rw [if_pos ho]
      by_cases hr : right v x.f = true
      · rw [if_pos hr]
        have e1 : fp1 v h base x = (base ++ 47 :: x.n) :: (if dir (rc v x.f.r) then h x.f.r (base ++ 47 :: x.n) else []) := if_pos hr
        have hl : ∀ y ∈ l, y ∈ x :: l := fun y hy => List.mem_cons_of_mem _ hy
        by_cases hd : dir (rc v x.f.r) = true
        · rw [if_pos hd]
          rw [if_pos hd] at e1
          rw [e1, List.length_cons]
          obtain ⟨g1, g2⟩ := hg x (by simp) hr hd
          by_cases hq : 1 + (h x.f.r (base ++ 47 :: x.n)).length ≤ 500
          · rw [g1 hq]
            obtain ⟨i1, i2⟩ := rpL_eq v base l (out ++ (base ++ 47 :: x.n) :: h x.f.r (base ++ 47 :: x.n)) (fun y hy => hg y (hl y hy))
            rw [List.length_append, List.length_cons] at i1 i2
            refine ⟨fun h => ?_, fun h => i2 (by omega)⟩
            rw [i1 (by omega)]
            simp
          · have := g2 (by omega)
            refine ⟨fun h => by omega, fun _ => ?_⟩
            obtain ⟨i1, i2⟩ := rpL_eq v base l (out ++ g x.f.r (base ++ 47 :: x.n)) (fun y hy => hg y (hl y hy))
            rw [List.length_append] at i2
            exact i2 (by omega)
        · rw [if_neg hd]
          rw [if_neg hd] at e1
          rw [e1, List.length_cons, List.length_nil]
          obtain ⟨i1, i2⟩ := rpL_eq v base l (out ++ [base ++ 47 :: x.n]) (fun y hy => hg y (hl y hy))
          rw [List.length_append, List.length_cons, List.length_nil] at i1 i2
          refine ⟨fun h => ?_, fun h => i2 (by omega)⟩
          rw [i1 (by omega)]
          simp
      · rw [if_neg hr]
        have e1 : fp1 v h base x = [] := if_neg hr
        rw [e1, List.length_nil]
        obtain ⟨i1, i2⟩ := rpL_eq v base l out (fun y hy => hg y (List.mem_cons_of_mem _ hy))
        refine ⟨fun h => ?_, fun h => i2 (by omega)⟩
        rw [i1 (by omega)]
        simp
    · rw [if_neg ho]
      exact ⟨fun h => by omega, fun _ => by omega⟩
theorem rc_es_mem (v : Pt) (d : Int) (x : En) (h : x ∈ (rc v d).es) : ∃ r ∈ v.rs, x ∈ r.es := by
  unfold rc at_ at h
  cases hr : v.rs[d.toNat]? with
  | none => rw [hr] at h; cases h
  | some r => rw [hr] at h; exact ⟨r, List.mem_of_getElem? hr, h⟩
theorem rp_eq (v : Pt) (hne : ∀ r ∈ v.rs, ∀ x ∈ r.es, x.n ≠ []) : ∀ (m : Nat) (d : Int) (p b : List UInt8), b = (if p = [47] then [] else p) → (1 + (fp v m d b).length ≤ 500 → rp v m d p = p :: fp v m d b) ∧ (500 < 1 + (fp v m d b).length → 500 < (rp v m d p).length)
  | 0, d, p, b, _ => by simp [rp, fp]
  | m + 1, d, p, b, hb => by
    have hg : ∀ x ∈ (rc v d).es, right v x.f = true → dir (rc v x.f.r) = true → (1 + (fp v m x.f.r (b ++ 47 :: x.n)).length ≤ 500 → rp v m x.f.r (b ++ 47 :: x.n) = (b ++ 47 :: x.n) :: fp v m x.f.r (b ++ 47 :: x.n)) ∧ (500 < 1 + (fp v m x.f.r (b ++ 47 :: x.n)).length → 500 < (rp v m x.f.r (b ++ 47 :: x.n)).length) := fun x hx _ _ => by
      refine rp_eq v hne m x.f.r (b ++ 47 :: x.n) (b ++ 47 :: x.n) ?_
      obtain ⟨r, hr, hxr⟩ := rc_es_mem v d x hx
      have hn := hne r hr x hxr
      rw [if_neg]
      intro e
      have hl := congrArg List.length e
      simp only [List.length_append, List.length_cons, List.length_nil] at hl
      exact hn (List.eq_nil_of_length_eq_zero (by omega))
    have := rpL_eq v (g := rp v m) (h := fp v m) b (rc v d).es [p] hg
    have e2 : rp v (m + 1) d p = rpL v (rp v m) (if p = [47] then [] else p) [p] (rc v d).es := rfl
    have e3 : fp v (m + 1) d b = (rc v d).es.flatMap (fp1 v (fp v m) b) := rfl
    rw [e2, e3, ← hb]
    exact this
theorem paths_eq (v : Pt) (hne : ∀ r ∈ v.rs, ∀ x ∈ r.es, x.n ≠ []) : pathsIn v = if (rp v 24 5 [47]).length ≤ 500 then some (rp v 24 5 [47]) else none := by
  obtain ⟨r1, r2⟩ := rp_eq v hne 24 5 [47] [] (by simp)
  obtain ⟨w1, w2⟩ := walk_eq v 24 5 [] [[47]] (by simp)
  unfold pathsIn
  by_cases h : 1 + (fp v 24 5 []).length ≤ 500
  · rw [w1 h, r1 h]
    rw [if_pos rfl, if_pos (by simp only [List.length_cons]; omega)]
    rfl
  · have h1 := r2 (by omega)
    rw [w2 (by simp only [List.length_cons, List.length_nil]; omega), if_neg (by simp), if_neg (by omega)]
end Ck
namespace Ck
open Go Go.Ex
theorem contL_map {α : Type} {enc : α → AV} (h : ∀ x, cont (enc x) = true) : ∀ l : List α, cont.contL (l.map enc) = true
  | [] => rfl
  | x :: l => by
    show (match cont (enc x) with | true => cont.contL (l.map enc) | false => false) = true
    rw [h x]
    exact contL_map h l
theorem wrow_eq {h : T AO} {z r : List Nat} {c1 c : List AV} (h1 : c1 = c) (hc : cont.contL c1 = true) : WRow h z r c1 c := Or.inr ⟨h1, h1 ▸ hc⟩
theorem row_app {α : Type} (enc : α → AV) (pre Q : List α) (x : α) : ([] ++ (Q ++ [x])).map enc = ((pre ++ Q).map enc).drop pre.length ++ [enc x] := by simp
theorem zeros_rep {x : AV} (n : Nat) (v : Value) (hv : v.cells.toList.map AV.sc = [x]) : zeros n v = List.replicate n x := by
  unfold zeros
  rw [hv]
  induction n with
  | zero => rfl
  | succ n ih => rw [List.replicate_succ, List.replicate_succ, List.flatten_cons, ih]; rfl
section
variable {P : Program} {s : St} {K : KC}
theorem loadM {α : Type} (enc : α → AV) (o : α) {l : List α} {T : TypeId} {b j off : Nat} {e : TypeId} {q n : Nat} (hoff : off = j) (hT : tyS P T = .ok (false, n)) (hr : s.h.get b = some (.row (l.map enc) e q)) (hj : j < l.length) : loadV P s T b off = .ok (enc (at_ o l j)) := by
  subst hoff
  refine loadV_one hr hT ?_
  rw [List.getElem?_map, List.getElem?_eq_getElem hj]
  rw [at_eq _ _ _ hj]
  rfl
theorem loadMx {α : Type} (enc : α → AV) (o x : α) {l : List α} {T : TypeId} {b j off : Nat} {e : TypeId} {q n : Nat} (hx : at_ o l j = x) (hoff : off = j) (hT : tyS P T = .ok (false, n)) (hr : s.h.get b = some (.row (l.map enc) e q)) (hj : j < l.length) : loadV P s T b off = .ok (enc x) := by
  rw [← hx]; exact loadM enc o hoff hT hr hj
theorem storeM {α : Type} (enc : α → AV) {x : AV} {l : List α} {T : TypeId} {b j off : Nat} (a : α) {e : TypeId} {q : Nat} (hv : x = enc a) (hoff : off = j) (hn : notAny (enc a) = true) {n : Bool} (hT : tyS P T = .ok (n, 1)) (hl : (enc a).cells = [enc a]) (h1 : oneA (enc a) = true) (hr : s.h.get b = some (.row (l.map enc) e q)) (hj : j < l.length)
    (hk : (s.set b (.row ((l.set j a).map enc) e q)).nfK fun s => K AV.undef s) : storeR (storeA P s T (.ptr b off) x) K := by
  subst hv
  exact store1 enc hoff hn hT hl h1 hr hj hk
theorem loadC_map {α : Type} {enc : α → AV} {l : List α} {b n : Nat} {e : TypeId} {q : Nat} (hr : s.h.get b = some (.row (l.map enc) e q)) (hn : n = l.length) : loadC s b 0 n = .ok (l.map enc) := by
  subst hn
  unfold loadC Ex.rowAt
  rw [hr]
  show takeN (l.map enc) 0 l.length = _
  unfold takeN
  rw [List.drop_zero, takeK_of (by simp)]
  rw [List.take_of_length_le (by simp)]
end
def rx (v : Pt) (r : Ref) : Rc := if wi r.r 0 (v.rs.length - 1) then Ck.rc v r.r else Rc.o
theorem map_flat {α : Type} (enc : α → AV) (o : α) (l : List α) : l.map enc = (List.range l.length).flatMap fun i => [enc (at_ o l i)] := by
  induction l with
  | nil => rfl
  | cons a l ih =>
    rw [List.map_cons, List.length_cons, List.range_succ_eq_map, List.flatMap_cons, List.flatMap_map, ih]
    rfl
end Ck
namespace Ck
theorem first_zero : ∀ {l : List Int}, first l = 0 → ∀ e ∈ l, e = 0
  | [], _, e, he => by cases he
  | a :: l, h, e, he => by
    unfold first at h
    by_cases h0 : a = 0
    · rw [if_pos h0] at h
      rcases List.mem_cons.1 he with rfl | h1
      · exact h0
      · exact first_zero h e h1
    · rw [if_neg h0] at h; exact absurd h h0
structure Valid (v : Pt) : Prop where
  c : 64 ≤ v.c ∧ v.c ≤ 512
  lens : v.al.length ≤ 24 ∧ v.rs.length ≤ 96 ∧ v.ds.length ≤ 64
  al : ∀ r ∈ v.al, 0 ≤ r.s ∧ r.s ≤ v.c - 1 ∧ 1 ≤ r.l ∧ r.s + r.l ≤ v.c
  root : 5 < v.rs.length ∧ (at_ Rc.o v.rs 5).u = true ∧ (at_ Rc.o v.rs 5).k = 0
  rcs : ∀ i, i < v.rs.length → recErr i (at_ Rc.o v.rs i) = 0
theorem Valid.of {v : Pt} (h : partsErr v = 0) : Valid v := by
  have h1 := first_zero h
  have hw : wholeErr v = 0 := h1 _ (by simp [partsErr])
  have hr : rootErr v = 0 := h1 _ (by simp)
  have hc : recsErr v = 0 := h1 _ (by simp)
  have h2 := first_zero hw
  have a1 := h2 _ (List.mem_cons_self)
  have a2 := h2 _ (List.mem_cons_of_mem _ List.mem_cons_self)
  have a3 := h2 _ (List.mem_cons_of_mem _ (List.mem_cons_of_mem _ List.mem_cons_self))
  refine ⟨?_, ?_, fun r hr' => ?_, ?_, goE_all _ _ hc⟩
  · split at a1
    · rename_i h3; unfold wi at h3; simp only [Bool.and_eq_true, decide_eq_true_eq] at h3; exact h3
    · omega
  · split at a2
    · omega
    · rename_i h3; simp only [not_or, Nat.not_lt] at h3; exact h3
  · obtain ⟨i, hi, rfl⟩ := List.getElem_of_mem hr'
    have : alErr v.c (at_ Run.o v.al i) = 0 := goE_all _ _ a3 i hi
    rw [at_eq _ _ _ hi] at this
    unfold alErr at this
    split at this
    · rename_i h3
      unfold wi at h3
      simp only [Bool.and_eq_true, decide_eq_true_eq] at h3
      omega
    · omega
  · unfold rootErr at hr
    split at hr
    · omega
    · rename_i h3
      simp only [not_or] at h3
      exact ⟨by omega, by simpa using h3.2.1, by simpa using h3.2.2⟩
theorem smsErr_run {x : Rc} (h : smsErr x = 0) : ∀ s ∈ x.ss, s.r.length ≤ 24 ∧ ∀ r ∈ s.r, -1 ≤ r.s ∧ r.s ≤ 2147483647 ∧ 1 ≤ r.l ∧ r.l ≤ 512 := by
  intro s hs
  obtain ⟨i, hi, rfl⟩ := List.getElem_of_mem hs
  have : smErr (at_ Sm.o x.ss i) = 0 := goE_all _ _ h i hi
  rw [at_eq _ _ _ hi] at this
  unfold smErr at this
  split at this
  · omega
  · rename_i h1
    split at this
    · rename_i h2
      simp only [Bool.and_eq_true, Bool.not_eq_true', List.any_eq_false] at h2
      refine ⟨by omega, fun r hr => ?_⟩
      have := h2.1 r hr
      unfold badRun wi at this
      simp only [Bool.or_eq_true, Bool.not_eq_true', Bool.and_eq_false_iff, decide_eq_false_iff_not] at this
      omega
    · omega
theorem recErr_parts {i : Int} {x : Rc} (h : recErr i x = 0) : headErr i x = 0 ∧ nmsErr x = 0 ∧ smsErr x = 0 ∧ ensErr x = 0 := by
  have := first_zero h
  exact ⟨this _ (by simp), this _ (by simp), this _ (by simp), this _ (by simp)⟩
end Ck
namespace Ck
theorem walkL_cons (v : Pt) (g : Int → List UInt8 → List (List UInt8) → List (List UInt8) × Bool) (path : List UInt8) (ps : List (List UInt8)) (x : En) (l : List En) : walkL v g path ps (x :: l) = if right v x.f then (if 500 < ps.length + 1 then (ps ++ [path ++ 47 :: x.n], false) else if dir (rc v x.f.r) then (if (g x.f.r (path ++ 47 :: x.n) (ps ++ [path ++ 47 :: x.n])).2 then walkL v g path (g x.f.r (path ++ 47 :: x.n) (ps ++ [path ++ 47 :: x.n])).1 l else ((g x.f.r (path ++ 47 :: x.n) (ps ++ [path ++ 47 :: x.n])).1, false)) else walkL v g path (ps ++ [path ++ 47 :: x.n]) l) else walkL v g path ps l := rfl
theorem walkL_pre (v : Pt) {g : Int → List UInt8 → List (List UInt8) → List (List UInt8) × Bool} (path : List UInt8) (hg : ∀ d p ps, ∃ t, (g d p ps).1 = ps ++ t) : ∀ (es : List En) (ps : List (List UInt8)), ∃ t, (walkL v g path ps es).1 = ps ++ t
  | [], ps => ⟨[], by simp [walkL]⟩
  | x :: l, ps => by
    unfold walkL
    split
    · split
      · exact ⟨_, rfl⟩
      · split
        · obtain ⟨t1, h1⟩ := hg x.f.r (path ++ 47 :: x.n) (ps ++ [path ++ 47 :: x.n])
          split
          · obtain ⟨t2, h2⟩ := walkL_pre v path hg l (g x.f.r (path ++ 47 :: x.n) (ps ++ [path ++ 47 :: x.n])).1
            exact ⟨[path ++ 47 :: x.n] ++ t1 ++ t2, by rw [h2, h1]; simp⟩
          · exact ⟨[path ++ 47 :: x.n] ++ t1, by rw [h1]; simp⟩
        · obtain ⟨t2, h2⟩ := walkL_pre v path hg l (ps ++ [path ++ 47 :: x.n])
          exact ⟨[path ++ 47 :: x.n] ++ t2, by rw [h2]; simp⟩
    · exact walkL_pre v path hg l ps
theorem walk_pre (v : Pt) : ∀ (m : Nat) (d : Int) (p : List UInt8) (ps : List (List UInt8)), ∃ t, (walk v m d p ps).1 = ps ++ t
  | 0, d, p, ps => ⟨[], by simp [walk]⟩
  | m + 1, d, p, ps => walkL_pre v p (fun d p ps => walk_pre v m d p ps) _ ps
theorem walk_le (v : Pt) (m : Nat) (d : Int) (p : List UInt8) (ps : List (List UInt8)) (hp : ps.length ≤ 500) (h : (walk v m d p ps).2 = true) : (walk v m d p ps).1.length ≤ 500 := by
  obtain ⟨h1, h2⟩ := walk_eq v m d p ps hp
  by_cases hq : ps.length + (fp v m d p).length ≤ 500
  · rw [h1 hq, List.length_append]; exact hq
  · rw [h2 (by omega)] at h; cases h
theorem two_of {α : Type} {l : List α} (h : 2 ≤ l.length) : ∃ a b t, l = a :: b :: t := by
  match l, h with
  | a :: b :: t, _ => exact ⟨a, b, t, rfl⟩
theorem rx_t {v : Pt} {r : Ref} (h : right v r = true) : rx v r = at_ Rc.o v.rs r.r.toNat := by
  unfold right at h
  simp only [Bool.and_eq_true] at h
  exact if_pos h.1.1
end Ck
namespace Go.Proofs.YtgcjejajljhnaaaGreatDoor
open Go.Ex Ck
set_option maxRecDepth 100000
set_option maxHeartbeats 4000000
def pwB (v : Pt) : List (List UInt8) → List AO
  | [a] => [.row [ib v.c, LS 2 aRun Run.o v.al, LS 10 aRc Rc.o v.rs, LS 1 aI 0 v.ds, tb v.mp, .sl 1 0 1 1] 101 0, .row [tb a] 9 0]
  | l => [.row [ib v.c, LS 2 aRun Run.o v.al, LS 10 aRc Rc.o v.rs, LS 1 aI 0 v.ds, tb v.mp, .so 1 0 l.length 0] 101 0, .row (l.map tb) 9 1]
theorem right_b (v : Pt) (r : Ref) (hn : v.rs.length ≤ 100000) {b : Bool} (h : Ck.right v r = b) : Ex.PureC Tryz.prog 101 [aPts v, .agg (aRef r)] (.tup [aRcs (rx v r), bb b]) := by
  have := right_k v r hn
  rw [h] at this
  exact this
theorem isDir_b (x : Rc) {b : Bool} (h : Ck.dir x = b) : Ex.PureC Tryz.prog 102 [aRcs x] (bb b) := by rw [← h]; exact isDirectory_k x
theorem walkA (v : Pt) (hn : v.rs.length ≤ 100000) (hes : ∀ x ∈ v.rs, x.es.length ≤ 100000) (hnm : ∀ x ∈ v.rs, ∀ e ∈ x.es, e.n.length ≤ 32) : ∀ (m deep : Nat) (d : Int) (path : List UInt8) (ps : List (List UInt8)), deep + m = 24 → 0 ≤ d → d < v.rs.length → path.length ≤ 40 * deep → ps.length ≤ 500 →
    Ex.HC Tryz.prog 1 53 [.ptr 0 0, ib d, tb path, ib deep] [.row [ib v.c, LS 2 aRun Run.o v.al, LS 10 aRc Rc.o v.rs, LS 1 aI 0 v.ds, tb v.mp, .so 1 0 ps.length 0] 101 0, .row (ps.map tb) 9 1] (bb (walk v m d path ps).2) (let q := (walk v m d path ps).1; [.row [ib v.c, LS 2 aRun Run.o v.al, LS 10 aRc Rc.o v.rs, LS 1 aI 0 v.ds, tb v.mp, .so 1 0 q.length 0] 101 0, .row (q.map tb) 9 1]) := by
  intro m
  induction m with
  | zero =>
    intro deep d path ps hdm hd0 hd1 hpl hle
    obtain rfl : deep = 24 := by omega
    refine Ex.HC.of kmix (Nat.le_succ 1) ?_
    (conv => whnf); (repeat ((refine Ex.KIf.t rfl ?_; conv => whnf)))
    (refine ⟨[0, 1], [], rfl, ?_, ?_⟩ <;> (repeat' (first | exact True.intro | refine And.intro ?_ ?_)) <;> (conv => whnf) <;> (repeat' (exact rfl)) <;> ((first | exact Or.inr ⟨rfl, Ck.contL_map (fun _ => rfl) _⟩ | (refine Or.inl ⟨rfl, ?_⟩; (conv => whnf); (repeat' (first | exact True.intro | exact rfl | refine And.intro ?_ ?_)) <;> (try (conv => whnf)) <;> (repeat' (fail)) <;> ((intro _ _; rfl))))))
  | succ m ih =>
    intro deep d path ps hdm hd0 hd1 hpl hle
    have hdd : ¬ ((deep : Nat) : Int) ≥ 24 := by omega
    have hdi : 0 ≤ d ∧ d < v.rs.length := ⟨hd0, hd1⟩
    have hel := hes _ (at_mem Rc.o v.rs d.toNat (by omega))
    obtain ⟨W, hWd⟩ : ∃ W, W = walk v (m + 1) d path ps := ⟨_, rfl⟩
    have hW0 : walkL v (walk v m) path ps (((at_ Rc.o v.rs d.toNat).es).drop 0) = W := by rw [hWd]; rfl
    rw [← hWd]
    clear hWd
    refine Ex.HC.of kmix (Nat.le_succ 1) ?_
    (conv => whnf); (repeat (first | (refine Ex.KIf.df ?_ ?_; assumption; conv => whnf) | (refine Ex.Need.mk ?_ ?_; (trivial); conv => whnf)))
    refine WLoop.inv kmix (D := Nat × List (List UInt8)) (fun x => (at_ Rc.o v.rs d.toNat).es.length - x.1) (fun x => x.1 ≤ (at_ Rc.o v.rs d.toNat).es.length ∧ walkL v (walk v m) path x.2 ((at_ Rc.o v.rs d.toNat).es.drop x.1) = W ∧ x.2.length ≤ 500)
      (fun x => slots [(0, .ptr 0 0), (1, ib d), (2, tb path), (3, ib deep), (24, LS 4 aEn En.o (at_ Rc.o v.rs d.toNat).es), (25, ib (at_ Rc.o v.rs d.toNat).es.length), (26, ib x.1)] 79)
      (fun x => heapOf [.row [ib v.c, LS 2 aRun Run.o v.al, LS 10 aRc Rc.o v.rs, LS 1 aI 0 v.ds, tb v.mp, .so 1 0 x.2.length 0] 101 0, .row (x.2.map tb) 9 1]) (0, ps) ⟨Nat.zero_le _, hW0, hle⟩ ?_ ?_
    · (refine Ex.Weak.of [0, 1] [] rfl rfl ?_ ?_ <;> (repeat' (first | exact True.intro | refine And.intro ?_ ?_)) <;> (conv => whnf) <;> (repeat' (exact rfl)) <;> (first | (intro _ _; rfl) | (first | exact Or.inr ⟨rfl, Ck.contL_map (fun _ => rfl) _⟩ | (refine Or.inl ⟨rfl, ?_⟩; (conv => whnf); (repeat' (first | exact True.intro | exact rfl | refine And.intro ?_ ?_)) <;> (try (conv => whnf)) <;> (repeat' (fail)) <;> ((intro _ _; rfl))))))
    · clear hW0 hle ps
      rintro ⟨k, ps⟩ ⟨hk, hW, hle⟩
      dsimp only at hk hW hle
      (conv => whnf); (repeat (fail))
      refine KIf.dec (fun h => ?_) (fun h => ?_)
      · have hlt : k < (at_ Rc.o v.rs d.toNat).es.length := by omega
        have hxm := at_mem En.o (at_ Rc.o v.rs d.toNat).es k hlt
        have hxn := hnm _ (at_mem Rc.o v.rs d.toNat (by omega)) _ hxm
        rw [drop_at En.o _ k hlt] at hW
        obtain ⟨rb, hrb⟩ : ∃ b, right v (at_ En.o (at_ Rc.o v.rs d.toNat).es k).f = b := ⟨_, rfl⟩
        (conv => whnf); (repeat (first | (refine Ex.Need.mk (p := Ex.okDraw _ = true) ?_ ?_; decide +kernel; conv => whnf) | (refine Ex.Need.mk ?_ ?_; (omega); conv => whnf) | ((refine Ex.DCall.pure (right_b v (at_ En.o (at_ Rc.o v.rs d.toNat).es k).f hn hrb) ?_); conv => whnf)))
        cases rb
        · have hW2 : walkL v (walk v m) path ps ((at_ Rc.o v.rs d.toNat).es.drop (k + 1)) = W := by rw [← hW, walkL_cons, if_neg (by rw [hrb]; simp)]
          (conv => whnf); (repeat (first | (refine Ex.KIf.t rfl ?_; conv => whnf) | (refine Ex.Need.mk ?_ ?_; ((constructor <;> omega)); conv => whnf)))
          refine ⟨(k + 1, ps), ⟨hlt, hW2, hle⟩, by dsimp only; omega, ?_⟩
          (refine Ex.Weak.of [0, 1] [] rfl rfl ?_ ?_ <;> (repeat' (first | exact True.intro | refine And.intro ?_ ?_)) <;> (conv => whnf) <;> (repeat' (exact rfl)) <;> (first | (intro _ _; rfl) | (first | exact Or.inr ⟨rfl, Ck.contL_map (fun _ => rfl) _⟩ | (refine Or.inl ⟨rfl, ?_⟩; (conv => whnf); (repeat' (first | exact True.intro | exact rfl | refine And.intro ?_ ?_)) <;> (try (conv => whnf)) <;> (repeat' (fail)) <;> ((intro _ _; rfl))))))
        · have hrl := right_lt hrb
          have hdr : 0 ≤ (at_ En.o (at_ Rc.o v.rs d.toNat).es k).f.r ∧ (at_ En.o (at_ Rc.o v.rs d.toNat).es k).f.r < v.rs.length := by omega
          have hrx : rx v (at_ En.o (at_ Rc.o v.rs d.toNat).es k).f = at_ Rc.o v.rs (at_ En.o (at_ Rc.o v.rs d.toNat).es k).f.r.toNat := rx_t hrb
          have hs1 : path.length + [47].length ≤ 9223372036854775807 := by simp only [List.length_cons, List.length_nil]; omega
          have hs2 : (path ++ [47]).length + (at_ En.o (at_ Rc.o v.rs d.toNat).es k).n.length ≤ 9223372036854775807 := by simp only [List.length_append, List.length_cons, List.length_nil]; omega
          have hnx : path ++ 47 :: (at_ En.o (at_ Rc.o v.rs d.toNat).es k).n = (path ++ [47] ++ (at_ En.o (at_ Rc.o v.rs d.toNat).es k).n) := by simp
          have hnl : (path ++ [47] ++ (at_ En.o (at_ Rc.o v.rs d.toNat).es k).n).length ≤ 40 * (deep + 1) := by simp only [List.length_append, List.length_cons, List.length_nil]; omega
          obtain ⟨db, hdb⟩ : ∃ b, dir (at_ Rc.o v.rs (at_ En.o (at_ Rc.o v.rs d.toNat).es k).f.r.toNat) = b := ⟨_, rfl⟩
          have hle1 : ps.length ≤ 500 := hle
          have hpl : (ps.map tb).length = 0 + ps.length * 1 := by simp
          have hpb : (ps.length + 1) * 16 ≤ 2 ^ 47 ∧ ps.length + 1 ≤ 2 ^ 60 := by constructor <;> omega
          (conv => whnf); (repeat (first | (refine Ex.NCase.s (Nat.succ_ne_zero _) ?_; conv => whnf) | (refine Ex.KIf.f rfl ?_; conv => whnf) | (refine Ex.Need.mk ?_ ?_; (trivial); conv => whnf)))
          by_cases h5 : 500 < ps.length + 1
          · have hW2 : W = (ps ++ [(path ++ [47] ++ (at_ En.o (at_ Rc.o v.rs d.toNat).es k).n)], false) := by rw [← hW]; rw [walkL_cons, if_pos hrb, hnx, if_pos h5]
            have h5' : (500 : Int) < (ps.length + 1 : Nat) := by omega
            (conv => whnf); (repeat (first | (refine Ex.KIf.dt ?_ ?_; assumption; conv => whnf) | (refine Ex.KIf.t rfl ?_; conv => whnf)))
            rw [hW2]
            (refine ⟨[0, 5], [], rfl, ?_, ?_⟩ <;> (repeat' (first | exact True.intro | refine And.intro ?_ ?_)) <;> (conv => whnf) <;> (repeat' (fail)) <;> ((first | exact wrow_eq (by simp) (contL_map (enc := tb) (fun _ => rfl) _) | ((refine Or.inl ⟨rfl, ?_⟩; (conv => whnf); (repeat' (first | exact True.intro | exact rfl | refine And.intro ?_ ?_)) <;> (try (conv => whnf)) <;> (repeat' (fail)) <;> (first | (intro _ _; rfl) | ((simp; done))))))))
          · have h5' : ¬ (500 : Int) < (ps.length + 1 : Nat) := by omega
            (conv => whnf); (repeat (first | (refine Ex.KIf.df ?_ ?_; assumption; conv => whnf) | ((refine Ex.KCall.pure (isDir_b _ (hrx.symm ▸ hdb)) ?_); conv => whnf)))
            cases db
            · have hW2 : walkL v (walk v m) path (ps ++ [(path ++ [47] ++ (at_ En.o (at_ Rc.o v.rs d.toNat).es k).n)]) ((at_ Rc.o v.rs d.toNat).es.drop (k + 1)) = W := by rw [← hW]; rw [walkL_cons, if_pos hrb, hnx, if_neg h5, if_neg (by rw [show rc v (at_ En.o (at_ Rc.o v.rs d.toNat).es k).f.r = at_ Rc.o v.rs (at_ En.o (at_ Rc.o v.rs d.toNat).es k).f.r.toNat from rfl, hdb]; simp)]
              (conv => whnf); (repeat (first | (refine Ex.KIf.df ?_ ?_; assumption; conv => whnf) | (refine Ex.KIf.f rfl ?_; conv => whnf) | (refine Ex.Need.mk ?_ ?_; ((constructor <;> omega)); conv => whnf)))
              refine ⟨(k + 1, (ps ++ [(path ++ [47] ++ (at_ En.o (at_ Rc.o v.rs d.toNat).es k).n)])), ⟨hlt, hW2, (by simp; omega)⟩, by dsimp only; omega, ?_⟩
              (refine Ex.Weak.of [0, 5] [] rfl rfl ?_ ?_ <;> (repeat' (first | exact True.intro | refine And.intro ?_ ?_)) <;> (conv => whnf) <;> (repeat' (exact rfl)) <;> (first | (intro _ _; rfl) | (first | exact wrow_eq (by simp) (contL_map (enc := tb) (fun _ => rfl) _) | ((refine Or.inl ⟨rfl, ?_⟩; (conv => whnf); (repeat' (first | exact True.intro | exact rfl | refine And.intro ?_ ?_)) <;> (try (conv => whnf)) <;> (repeat' (fail)) <;> (first | (intro _ _; rfl) | ((simp; done))))))))
            · obtain ⟨Q, hQ⟩ : ∃ Q, Q = walk v m (at_ En.o (at_ Rc.o v.rs d.toNat).es k).f.r (path ++ [47] ++ (at_ En.o (at_ Rc.o v.rs d.toNat).es k).n) (ps ++ [(path ++ [47] ++ (at_ En.o (at_ Rc.o v.rs d.toNat).es k).n)]) := ⟨_, rfl⟩
              have hih := ih (deep + 1) (at_ En.o (at_ Rc.o v.rs d.toNat).es k).f.r (path ++ [47] ++ (at_ En.o (at_ Rc.o v.rs d.toNat).es k).n) (ps ++ [(path ++ [47] ++ (at_ En.o (at_ Rc.o v.rs d.toNat).es k).n)]) (by omega) hdr.1 hdr.2 hnl (by simp; omega)
              have hQ1 := walk_pre v m (at_ En.o (at_ Rc.o v.rs d.toNat).es k).f.r (path ++ [47] ++ (at_ En.o (at_ Rc.o v.rs d.toNat).es k).n) (ps ++ [(path ++ [47] ++ (at_ En.o (at_ Rc.o v.rs d.toNat).es k).n)])
              have hQ2 := walk_le v m (at_ En.o (at_ Rc.o v.rs d.toNat).es k).f.r (path ++ [47] ++ (at_ En.o (at_ Rc.o v.rs d.toNat).es k).n) (ps ++ [(path ++ [47] ++ (at_ En.o (at_ Rc.o v.rs d.toNat).es k).n)]) (by simp; omega)
              rw [← hQ] at hih hQ1 hQ2
              obtain ⟨Q1, Q2⟩ := Q
              have hW2 : W = if Q2 then walkL v (walk v m) path Q1 ((at_ Rc.o v.rs d.toNat).es.drop (k + 1)) else (Q1, false) := by rw [← hW]; rw [walkL_cons, if_pos hrb, hnx, if_neg h5, if_pos (by rw [show rc v (at_ En.o (at_ Rc.o v.rs d.toNat).es k).f.r = at_ Rc.o v.rs (at_ En.o (at_ Rc.o v.rs d.toNat).es k).f.r.toNat from rfl, hdb])]; rw [← hQ]
              (conv => whnf); (repeat (first | (refine Ex.KIf.t rfl ?_; conv => whnf) | (refine Ex.Need.mk ?_ ?_; ((constructor <;> omega)); conv => whnf)))
              (refine KCall.lift [0, 5] [] (bb Q2) [.row [ib v.c, LS 2 aRun Run.o v.al, LS 10 aRc Rc.o v.rs, LS 1 aI 0 v.ds, tb v.mp, .so 6 0 Q1.length 0] 101 0, .row (Q1.map tb) 9 1] (hih) rfl ?_ ?_ ?_ ?_; (focus ((repeat' (first | exact True.intro | refine And.intro ?_ ?_)) <;> (conv => whnf) <;> (repeat' (fail)) <;> ((first | exact wrow_eq (by simp) (contL_map (enc := tb) (fun _ => rfl) _) | ((refine Or.inl ⟨rfl, ?_⟩; (conv => whnf); (repeat' (first | exact True.intro | exact rfl | refine And.intro ?_ ?_)) <;> (try (conv => whnf)) <;> (repeat' (fail)) <;> (first | (intro _ _; rfl) | ((simp; done))))))))); (focus ((repeat' (first | exact True.intro | exact rfl | refine And.intro ?_ ?_)) <;> (try (conv => whnf)) <;> (repeat' (fail)))); (focus ((repeat' (first | exact True.intro | exact rfl | refine And.intro ?_ ?_)) <;> (try (conv => whnf)) <;> (repeat' (fail)) <;> (first | exact Or.inr ⟨rfl, Ck.contL_map (fun _ => rfl) _⟩ | ((refine Or.inl ?_); (repeat' (first | exact True.intro | exact rfl | refine And.intro ?_ ?_)) <;> (try (conv => whnf)) <;> (repeat' (fail)))))); (conv => whnf))
              cases Q2
              · (conv => whnf); (repeat (first | (refine Ex.KIf.df ?_ ?_; assumption; conv => whnf) | (refine Ex.KIf.t rfl ?_; conv => whnf)))
                rw [hW2, if_neg (by simp)]
                (refine ⟨[0, 6], [], rfl, ?_, ?_⟩ <;> (repeat' (first | exact True.intro | refine And.intro ?_ ?_)) <;> (conv => whnf) <;> (repeat' (fail)) <;> ((first | exact wrow_eq (by simp) (contL_map (enc := tb) (fun _ => rfl) _) | ((refine Or.inl ⟨rfl, ?_⟩; (conv => whnf); (repeat' (first | exact True.intro | exact rfl | refine And.intro ?_ ?_)) <;> (try (conv => whnf)) <;> (repeat' (fail)) <;> ((intro _ _; rfl)))))))
              · rw [if_pos rfl] at hW2
                (conv => whnf); (repeat (first | (refine Ex.KIf.df ?_ ?_; assumption; conv => whnf) | (refine Ex.KIf.t rfl ?_; conv => whnf) | (refine Ex.KIf.f rfl ?_; conv => whnf) | (refine Ex.Need.mk ?_ ?_; ((constructor <;> omega)); conv => whnf)))
                refine ⟨(k + 1, Q1), ⟨hlt, hW2.symm, hQ2 rfl⟩, by dsimp only; omega, ?_⟩
                (refine Ex.Weak.of [0, 6] [] rfl rfl ?_ ?_ <;> (repeat' (first | exact True.intro | refine And.intro ?_ ?_)) <;> (conv => whnf) <;> (repeat' (exact rfl)) <;> (first | (intro _ _; rfl) | (first | exact Or.inr ⟨rfl, Ck.contL_map (fun _ => rfl) _⟩ | (refine Or.inl ⟨rfl, ?_⟩; (conv => whnf); (repeat' (first | exact True.intro | exact rfl | refine And.intro ?_ ?_)) <;> (try (conv => whnf)) <;> (repeat' (fail)) <;> ((intro _ _; rfl))))))
      · have hke : k = (at_ Rc.o v.rs d.toNat).es.length := by omega
        have hW2 : W = (ps, true) := by rw [← hW, hke, List.drop_length]; rfl
        (conv => whnf); (repeat (fail))
        rw [hW2]
        (refine ⟨[0, 1], [], rfl, ?_, ?_⟩ <;> (repeat' (first | exact True.intro | refine And.intro ?_ ?_)) <;> (conv => whnf) <;> (repeat' (fail)) <;> ((first | exact wrow_eq (by simp) (contL_map (enc := tb) (fun _ => rfl) _) | ((refine Or.inl ⟨rfl, ?_⟩; (conv => whnf); (repeat' (first | exact True.intro | exact rfl | refine And.intro ?_ ?_)) <;> (try (conv => whnf)) <;> (repeat' (fail)) <;> ((intro _ _; rfl)))))))
theorem walkB (v : Pt) (hn : v.rs.length ≤ 100000) (hes : ∀ x ∈ v.rs, x.es.length ≤ 100000) (hnm : ∀ x ∈ v.rs, ∀ e ∈ x.es, e.n.length ≤ 32) (h5 : 5 < v.rs.length) :
    Ex.HC Tryz.prog 1 53 [.ptr 0 0, ib 5, tb [], ib 0] [.row [ib v.c, LS 2 aRun Run.o v.al, LS 10 aRc Rc.o v.rs, LS 1 aI 0 v.ds, tb v.mp, .sl 1 0 1 1] 101 0, .row [tb [47]] 9 0] (bb (walk v 24 5 [] [[47]]).2) (pwB v (walk v 24 5 [] [[47]]).1) := by
  obtain ⟨d, hd⟩ : ∃ d : Int, d = 5 := ⟨_, rfl⟩
  obtain ⟨m, hm⟩ : ∃ m, m = 23 := ⟨_, rfl⟩
  obtain ⟨deep, hdeep⟩ : ∃ d : Nat, d = 0 := ⟨_, rfl⟩
  obtain ⟨path, hpath⟩ : ∃ p : List UInt8, p = [] := ⟨_, rfl⟩
  have hdm : deep + (m + 1) = 24 := by omega
  have hdd : ¬ ((deep : Nat) : Int) ≥ 24 := by omega
  have hdi : 0 ≤ d ∧ d < v.rs.length := by omega
  have hel := hes _ (at_mem Rc.o v.rs d.toNat (by omega))
  have hpl : path.length ≤ 40 * deep := by rw [hpath]; simp
  have ih := walkA v hn hes hnm m
  obtain ⟨W, hWd⟩ : ∃ W, W = walk v (m + 1) d path [[47]] := ⟨_, rfl⟩
  have hW0 : walkL v (walk v m) path [[47]] (((at_ Rc.o v.rs d.toNat).es).drop 0) = W := by rw [hWd]; rfl
  have goal : Ex.HC Tryz.prog 1 53 [.ptr 0 0, ib d, tb path, ib deep] [.row [ib v.c, LS 2 aRun Run.o v.al, LS 10 aRc Rc.o v.rs, LS 1 aI 0 v.ds, tb v.mp, .sl 1 0 1 1] 101 0, .row [tb [47]] 9 0] (bb W.2) (pwB v W.1) := by
    clear hWd hd hm hdeep hpath
    refine Ex.HC.of kmix (Nat.le_succ 1) ?_
    (conv => whnf); (repeat (first | (refine Ex.KIf.df ?_ ?_; assumption; conv => whnf) | (refine Ex.Need.mk ?_ ?_; (trivial); conv => whnf)))
    refine WLoop.inv kmix (D := Nat × Option (List (List UInt8))) (fun x => (at_ Rc.o v.rs d.toNat).es.length - x.1) (fun x => x.1 ≤ (at_ Rc.o v.rs d.toNat).es.length ∧ walkL v (walk v m) path (match x.2 with | none => [[47]] | some ps => ps) ((at_ Rc.o v.rs d.toNat).es.drop x.1) = W ∧ (match x.2 with | none => True | some ps => 2 ≤ ps.length ∧ ps.length ≤ 500))
      (fun x => slots [(0, .ptr 0 0), (1, ib d), (2, tb path), (3, ib deep), (24, LS 4 aEn En.o (at_ Rc.o v.rs d.toNat).es), (25, ib (at_ Rc.o v.rs d.toNat).es.length), (26, ib x.1)] 79)
      (fun x => heapOf (match x.2 with | none => [.row [ib v.c, LS 2 aRun Run.o v.al, LS 10 aRc Rc.o v.rs, LS 1 aI 0 v.ds, tb v.mp, .sl 1 0 1 1] 101 0, .row [tb [47]] 9 0] | some ps => [.row [ib v.c, LS 2 aRun Run.o v.al, LS 10 aRc Rc.o v.rs, LS 1 aI 0 v.ds, tb v.mp, .so 1 0 ps.length 0] 101 0, .row (ps.map tb) 9 1])) (0, none) ⟨Nat.zero_le _, hW0, trivial⟩ ?_ ?_
    · (refine Ex.Weak.of [0, 1] [] rfl rfl ?_ ?_ <;> (repeat' (first | exact True.intro | refine And.intro ?_ ?_)) <;> (conv => whnf) <;> (repeat' (exact rfl)) <;> (first | (intro _ _; rfl) | (first | exact Or.inr ⟨rfl, rfl⟩ | (refine Or.inl ⟨rfl, ?_⟩; (conv => whnf); (repeat' (first | exact True.intro | exact rfl | refine And.intro ?_ ?_)) <;> (try (conv => whnf)) <;> (repeat' (fail)) <;> ((intro _ _; rfl))))))
    · clear hW0
      rintro ⟨k, o⟩ ⟨hk, hW, hle⟩
      cases o with
      | none =>
        dsimp only at hk hW hle
        (conv => whnf); (repeat (fail))
        refine KIf.dec (fun h => ?_) (fun h => ?_)
        · have hlt : k < (at_ Rc.o v.rs d.toNat).es.length := by omega
          have hxm := at_mem En.o (at_ Rc.o v.rs d.toNat).es k hlt
          have hxn := hnm _ (at_mem Rc.o v.rs d.toNat (by omega)) _ hxm
          rw [drop_at En.o _ k hlt] at hW
          obtain ⟨rb, hrb⟩ : ∃ b, right v (at_ En.o (at_ Rc.o v.rs d.toNat).es k).f = b := ⟨_, rfl⟩
          (conv => whnf); (repeat (first | (refine Ex.Need.mk (p := Ex.okDraw _ = true) ?_ ?_; decide +kernel; conv => whnf) | (refine Ex.Need.mk ?_ ?_; (omega); conv => whnf) | ((refine Ex.DCall.pure (right_b v (at_ En.o (at_ Rc.o v.rs d.toNat).es k).f hn hrb) ?_); conv => whnf)))
          cases rb
          · have hW2 : walkL v (walk v m) path [[47]] ((at_ Rc.o v.rs d.toNat).es.drop (k + 1)) = W := by rw [← hW, walkL_cons, if_neg (by rw [hrb]; simp)]
            (conv => whnf); (repeat (first | (refine Ex.KIf.t rfl ?_; conv => whnf) | (refine Ex.Need.mk ?_ ?_; ((constructor <;> omega)); conv => whnf)))
            refine ⟨(k + 1, none), ⟨hlt, hW2, trivial⟩, by dsimp only; omega, ?_⟩
            (refine Ex.Weak.of [0, 1] [] rfl rfl ?_ ?_ <;> (repeat' (first | exact True.intro | refine And.intro ?_ ?_)) <;> (conv => whnf) <;> (repeat' (exact rfl)) <;> (first | (intro _ _; rfl) | (first | exact Or.inr ⟨rfl, rfl⟩ | (refine Or.inl ⟨rfl, ?_⟩; (conv => whnf); (repeat' (first | exact True.intro | exact rfl | refine And.intro ?_ ?_)) <;> (try (conv => whnf)) <;> (repeat' (fail)) <;> ((intro _ _; rfl))))))
          · have hrl := right_lt hrb
            have hdr : 0 ≤ (at_ En.o (at_ Rc.o v.rs d.toNat).es k).f.r ∧ (at_ En.o (at_ Rc.o v.rs d.toNat).es k).f.r < v.rs.length := by omega
            have hrx : rx v (at_ En.o (at_ Rc.o v.rs d.toNat).es k).f = at_ Rc.o v.rs (at_ En.o (at_ Rc.o v.rs d.toNat).es k).f.r.toNat := rx_t hrb
            have hs1 : path.length + [47].length ≤ 9223372036854775807 := by simp only [List.length_cons, List.length_nil]; omega
            have hs2 : (path ++ [47]).length + (at_ En.o (at_ Rc.o v.rs d.toNat).es k).n.length ≤ 9223372036854775807 := by simp only [List.length_append, List.length_cons, List.length_nil]; omega
            have hnx : path ++ 47 :: (at_ En.o (at_ Rc.o v.rs d.toNat).es k).n = (path ++ [47] ++ (at_ En.o (at_ Rc.o v.rs d.toNat).es k).n) := by simp
            have hnl : (path ++ [47] ++ (at_ En.o (at_ Rc.o v.rs d.toNat).es k).n).length ≤ 40 * (deep + 1) := by simp only [List.length_append, List.length_cons, List.length_nil]; omega
            obtain ⟨db, hdb⟩ : ∃ b, dir (at_ Rc.o v.rs (at_ En.o (at_ Rc.o v.rs d.toNat).es k).f.r.toNat) = b := ⟨_, rfl⟩
            (conv => whnf); (repeat (first | (refine Ex.KIf.f rfl ?_; conv => whnf) | (refine Ex.Need.mk ?_ ?_; (trivial); conv => whnf) | ((refine Ex.KCall.pure (isDir_b _ (hrx.symm ▸ hdb)) ?_); conv => whnf)))
            cases db
            · have hW2 : walkL v (walk v m) path [[47], (path ++ [47] ++ (at_ En.o (at_ Rc.o v.rs d.toNat).es k).n)] ((at_ Rc.o v.rs d.toNat).es.drop (k + 1)) = W := by rw [← hW]; rw [walkL_cons, if_pos hrb, hnx, if_neg (by simp), if_neg (by rw [show rc v (at_ En.o (at_ Rc.o v.rs d.toNat).es k).f.r = at_ Rc.o v.rs (at_ En.o (at_ Rc.o v.rs d.toNat).es k).f.r.toNat from rfl, hdb]; simp)]; rfl
              (conv => whnf); (repeat (first | (refine Ex.KIf.f rfl ?_; conv => whnf) | (refine Ex.Need.mk ?_ ?_; ((constructor <;> omega)); conv => whnf)))
              refine ⟨(k + 1, some [[47], (path ++ [47] ++ (at_ En.o (at_ Rc.o v.rs d.toNat).es k).n)]), ⟨hlt, hW2, ⟨by simp, by simp⟩⟩, by dsimp only; omega, ?_⟩
              (refine Ex.Weak.of [0, 5] [] rfl rfl ?_ ?_ <;> (repeat' (first | exact True.intro | refine And.intro ?_ ?_)) <;> (conv => whnf) <;> (repeat' (exact rfl)) <;> (first | (intro _ _; rfl) | (first | exact Or.inr ⟨rfl, rfl⟩ | (refine Or.inl ⟨rfl, ?_⟩; (conv => whnf); (repeat' (first | exact True.intro | exact rfl | refine And.intro ?_ ?_)) <;> (try (conv => whnf)) <;> (repeat' (fail)) <;> ((intro _ _; rfl))))))
            · obtain ⟨Q, hQ⟩ : ∃ Q, Q = walk v m (at_ En.o (at_ Rc.o v.rs d.toNat).es k).f.r (path ++ [47] ++ (at_ En.o (at_ Rc.o v.rs d.toNat).es k).n) [[47], (path ++ [47] ++ (at_ En.o (at_ Rc.o v.rs d.toNat).es k).n)] := ⟨_, rfl⟩
              have hih := ih (deep + 1) (at_ En.o (at_ Rc.o v.rs d.toNat).es k).f.r (path ++ [47] ++ (at_ En.o (at_ Rc.o v.rs d.toNat).es k).n) [[47], (path ++ [47] ++ (at_ En.o (at_ Rc.o v.rs d.toNat).es k).n)] (by omega) hdr.1 hdr.2 hnl (by simp)
              have hQ1 := walk_pre v m (at_ En.o (at_ Rc.o v.rs d.toNat).es k).f.r (path ++ [47] ++ (at_ En.o (at_ Rc.o v.rs d.toNat).es k).n) [[47], (path ++ [47] ++ (at_ En.o (at_ Rc.o v.rs d.toNat).es k).n)]
              have hQ2 := walk_le v m (at_ En.o (at_ Rc.o v.rs d.toNat).es k).f.r (path ++ [47] ++ (at_ En.o (at_ Rc.o v.rs d.toNat).es k).n) [[47], (path ++ [47] ++ (at_ En.o (at_ Rc.o v.rs d.toNat).es k).n)] (by simp)
              rw [← hQ] at hih hQ1 hQ2
              obtain ⟨Q1, Q2⟩ := Q
              have hW2 : W = if Q2 then walkL v (walk v m) path Q1 ((at_ Rc.o v.rs d.toNat).es.drop (k + 1)) else (Q1, false) := by rw [← hW]; rw [walkL_cons, if_pos hrb, hnx, if_neg (by simp), if_pos (by rw [show rc v (at_ En.o (at_ Rc.o v.rs d.toNat).es k).f.r = at_ Rc.o v.rs (at_ En.o (at_ Rc.o v.rs d.toNat).es k).f.r.toNat from rfl, hdb])]; rw [show ([[47]] : List (List UInt8)) ++ [(path ++ [47] ++ (at_ En.o (at_ Rc.o v.rs d.toNat).es k).n)] = [[47], (path ++ [47] ++ (at_ En.o (at_ Rc.o v.rs d.toNat).es k).n)] from rfl, ← hQ]
              (conv => whnf); (repeat (first | (refine Ex.KIf.t rfl ?_; conv => whnf) | (refine Ex.Need.mk ?_ ?_; ((constructor <;> omega)); conv => whnf)))
              (refine KCall.lift [0, 5] [] (bb Q2) [.row [ib v.c, LS 2 aRun Run.o v.al, LS 10 aRc Rc.o v.rs, LS 1 aI 0 v.ds, tb v.mp, .so 6 0 Q1.length 0] 101 0, .row (Q1.map tb) 9 1] (hih) rfl ?_ ?_ ?_ ?_; (focus ((repeat' (first | exact True.intro | refine And.intro ?_ ?_)) <;> (conv => whnf) <;> (repeat' (fail)) <;> ((first | exact wrow_eq (by simp) (contL_map (enc := tb) (fun _ => rfl) _) | ((refine Or.inl ⟨rfl, ?_⟩; (conv => whnf); (repeat' (first | exact True.intro | exact rfl | refine And.intro ?_ ?_)) <;> (try (conv => whnf)) <;> (repeat' (fail)) <;> ((intro _ _; rfl)))))))); (focus ((repeat' (first | exact True.intro | exact rfl | refine And.intro ?_ ?_)) <;> (try (conv => whnf)) <;> (repeat' (fail)))); (focus ((repeat' (first | exact True.intro | exact rfl | refine And.intro ?_ ?_)) <;> (try (conv => whnf)) <;> (repeat' (fail)) <;> (first | exact Or.inr ⟨rfl, Ck.contL_map (fun _ => rfl) _⟩ | ((refine Or.inl ?_); (repeat' (first | exact True.intro | exact rfl | refine And.intro ?_ ?_)) <;> (try (conv => whnf)) <;> (repeat' (fail)))))); (conv => whnf))
              cases Q2
              · (conv => whnf); (repeat (first | (refine Ex.KIf.t rfl ?_; conv => whnf) | (refine Ex.KIf.f rfl ?_; conv => whnf)))
                obtain ⟨a1, a2, a3, e3⟩ : ∃ a b l, Q1 = a :: b :: l := two_of (by obtain ⟨t, e⟩ := hQ1; dsimp only at e; rw [e]; simp)
                rw [hW2, if_neg (by simp), e3]
                (refine ⟨[0, 6], [], rfl, ?_, ?_⟩ <;> (repeat' (first | exact True.intro | refine And.intro ?_ ?_)) <;> (conv => whnf) <;> (repeat' (fail)) <;> (((first | exact Or.inr ⟨rfl, Ck.contL_map (fun _ => rfl) _⟩ | (refine Or.inl ⟨rfl, ?_⟩; (conv => whnf); (repeat' (first | exact True.intro | exact rfl | refine And.intro ?_ ?_)) <;> (try (conv => whnf)) <;> (repeat' (fail)) <;> ((intro _ _; rfl)))))))
              · rw [if_pos rfl] at hW2
                (conv => whnf); (repeat (first | (refine Ex.KIf.t rfl ?_; conv => whnf) | (refine Ex.KIf.f rfl ?_; conv => whnf) | (refine Ex.Need.mk ?_ ?_; ((constructor <;> omega)); conv => whnf)))
                refine ⟨(k + 1, some Q1), ⟨hlt, hW2.symm, ⟨by obtain ⟨t, e⟩ := hQ1; dsimp only at e; rw [e]; simp, hQ2 rfl⟩⟩, by dsimp only; omega, ?_⟩
                (refine Ex.Weak.of [0, 6] [] rfl rfl ?_ ?_ <;> (repeat' (first | exact True.intro | refine And.intro ?_ ?_)) <;> (conv => whnf) <;> (repeat' (exact rfl)) <;> (first | (intro _ _; rfl) | (first | exact Or.inr ⟨rfl, Ck.contL_map (fun _ => rfl) _⟩ | (refine Or.inl ⟨rfl, ?_⟩; (conv => whnf); (repeat' (first | exact True.intro | exact rfl | refine And.intro ?_ ?_)) <;> (try (conv => whnf)) <;> (repeat' (fail)) <;> ((intro _ _; rfl))))))
        · have hke : k = (at_ Rc.o v.rs d.toNat).es.length := by omega
          have hW2 : W = ([[47]], true) := by rw [← hW, hke, List.drop_length]; rfl
          (conv => whnf); (repeat (fail))
          rw [hW2]
          (refine ⟨[0, 1], [], rfl, ?_, ?_⟩ <;> (repeat' (first | exact True.intro | refine And.intro ?_ ?_)) <;> (conv => whnf) <;> (repeat' (fail)) <;> ((first | exact Or.inr ⟨rfl, rfl⟩ | (refine Or.inl ⟨rfl, ?_⟩; (conv => whnf); (repeat' (first | exact True.intro | exact rfl | refine And.intro ?_ ?_)) <;> (try (conv => whnf)) <;> (repeat' (fail)) <;> ((intro _ _; rfl))))))
      | some ps =>
        dsimp only at hk hW hle
        (conv => whnf); (repeat (fail))
        refine KIf.dec (fun h => ?_) (fun h => ?_)
        · have hlt : k < (at_ Rc.o v.rs d.toNat).es.length := by omega
          have hxm := at_mem En.o (at_ Rc.o v.rs d.toNat).es k hlt
          have hxn := hnm _ (at_mem Rc.o v.rs d.toNat (by omega)) _ hxm
          rw [drop_at En.o _ k hlt] at hW
          obtain ⟨rb, hrb⟩ : ∃ b, right v (at_ En.o (at_ Rc.o v.rs d.toNat).es k).f = b := ⟨_, rfl⟩
          (conv => whnf); (repeat (first | (refine Ex.Need.mk (p := Ex.okDraw _ = true) ?_ ?_; decide +kernel; conv => whnf) | (refine Ex.Need.mk ?_ ?_; (omega); conv => whnf) | ((refine Ex.DCall.pure (right_b v (at_ En.o (at_ Rc.o v.rs d.toNat).es k).f hn hrb) ?_); conv => whnf)))
          cases rb
          · have hW2 : walkL v (walk v m) path ps ((at_ Rc.o v.rs d.toNat).es.drop (k + 1)) = W := by rw [← hW, walkL_cons, if_neg (by rw [hrb]; simp)]
            (conv => whnf); (repeat (first | (refine Ex.KIf.t rfl ?_; conv => whnf) | (refine Ex.Need.mk ?_ ?_; ((constructor <;> omega)); conv => whnf)))
            refine ⟨(k + 1, some ps), ⟨hlt, hW2, hle⟩, by dsimp only; omega, ?_⟩
            (refine Ex.Weak.of [0, 1] [] rfl rfl ?_ ?_ <;> (repeat' (first | exact True.intro | refine And.intro ?_ ?_)) <;> (conv => whnf) <;> (repeat' (exact rfl)) <;> (first | (intro _ _; rfl) | (first | exact Or.inr ⟨rfl, Ck.contL_map (fun _ => rfl) _⟩ | (refine Or.inl ⟨rfl, ?_⟩; (conv => whnf); (repeat' (first | exact True.intro | exact rfl | refine And.intro ?_ ?_)) <;> (try (conv => whnf)) <;> (repeat' (fail)) <;> ((intro _ _; rfl))))))
          · have hrl := right_lt hrb
            have hdr : 0 ≤ (at_ En.o (at_ Rc.o v.rs d.toNat).es k).f.r ∧ (at_ En.o (at_ Rc.o v.rs d.toNat).es k).f.r < v.rs.length := by omega
            have hrx : rx v (at_ En.o (at_ Rc.o v.rs d.toNat).es k).f = at_ Rc.o v.rs (at_ En.o (at_ Rc.o v.rs d.toNat).es k).f.r.toNat := rx_t hrb
            have hs1 : path.length + [47].length ≤ 9223372036854775807 := by simp only [List.length_cons, List.length_nil]; omega
            have hs2 : (path ++ [47]).length + (at_ En.o (at_ Rc.o v.rs d.toNat).es k).n.length ≤ 9223372036854775807 := by simp only [List.length_append, List.length_cons, List.length_nil]; omega
            have hnx : path ++ 47 :: (at_ En.o (at_ Rc.o v.rs d.toNat).es k).n = (path ++ [47] ++ (at_ En.o (at_ Rc.o v.rs d.toNat).es k).n) := by simp
            have hnl : (path ++ [47] ++ (at_ En.o (at_ Rc.o v.rs d.toNat).es k).n).length ≤ 40 * (deep + 1) := by simp only [List.length_append, List.length_cons, List.length_nil]; omega
            obtain ⟨db, hdb⟩ : ∃ b, dir (at_ Rc.o v.rs (at_ En.o (at_ Rc.o v.rs d.toNat).es k).f.r.toNat) = b := ⟨_, rfl⟩
            have hle1 : ps.length ≤ 500 := hle.2
            have hpl : (ps.map tb).length = 0 + ps.length * 1 := by simp
            have hpb : (ps.length + 1) * 16 ≤ 2 ^ 47 ∧ ps.length + 1 ≤ 2 ^ 60 := by constructor <;> omega
            (conv => whnf); (repeat (first | (refine Ex.NCase.s (Nat.succ_ne_zero _) ?_; conv => whnf) | (refine Ex.KIf.f rfl ?_; conv => whnf) | (refine Ex.Need.mk ?_ ?_; (trivial); conv => whnf)))
            by_cases h5 : 500 < ps.length + 1
            · have hW2 : W = (ps ++ [(path ++ [47] ++ (at_ En.o (at_ Rc.o v.rs d.toNat).es k).n)], false) := by rw [← hW]; rw [walkL_cons, if_pos hrb, hnx, if_pos h5]
              have h5' : (500 : Int) < (ps.length + 1 : Nat) := by omega
              (conv => whnf); (repeat (first | (refine Ex.KIf.dt ?_ ?_; assumption; conv => whnf) | (refine Ex.KIf.t rfl ?_; conv => whnf)))
              obtain ⟨a1, a2, a3, e3⟩ : ∃ a b l, (ps ++ [(path ++ [47] ++ (at_ En.o (at_ Rc.o v.rs d.toNat).es k).n)]) = a :: b :: l := two_of (by simp; omega)
              rw [hW2, e3]
              (refine ⟨[0, 5], [], rfl, ?_, ?_⟩ <;> (repeat' (first | exact True.intro | refine And.intro ?_ ?_)) <;> (conv => whnf) <;> (repeat' (fail)) <;> ((first | exact wrow_eq (by rw [← e3]; simp) (contL_map (enc := tb) (fun _ => rfl) _) | ((refine Or.inl ⟨rfl, ?_⟩; (conv => whnf); (repeat' (first | exact True.intro | exact rfl | refine And.intro ?_ ?_)) <;> (try (conv => whnf)) <;> (repeat' (fail)) <;> (first | (intro _ _; rfl) | ((rw [← e3]; simp; done))))))))
            · have h5' : ¬ (500 : Int) < (ps.length + 1 : Nat) := by omega
              (conv => whnf); (repeat (first | (refine Ex.KIf.df ?_ ?_; assumption; conv => whnf) | ((refine Ex.KCall.pure (isDir_b _ (hrx.symm ▸ hdb)) ?_); conv => whnf)))
              cases db
              · have hW2 : walkL v (walk v m) path (ps ++ [(path ++ [47] ++ (at_ En.o (at_ Rc.o v.rs d.toNat).es k).n)]) ((at_ Rc.o v.rs d.toNat).es.drop (k + 1)) = W := by rw [← hW]; rw [walkL_cons, if_pos hrb, hnx, if_neg h5, if_neg (by rw [show rc v (at_ En.o (at_ Rc.o v.rs d.toNat).es k).f.r = at_ Rc.o v.rs (at_ En.o (at_ Rc.o v.rs d.toNat).es k).f.r.toNat from rfl, hdb]; simp)]
                (conv => whnf); (repeat (first | (refine Ex.KIf.df ?_ ?_; assumption; conv => whnf) | (refine Ex.KIf.f rfl ?_; conv => whnf) | (refine Ex.Need.mk ?_ ?_; ((constructor <;> omega)); conv => whnf)))
                refine ⟨(k + 1, some (ps ++ [(path ++ [47] ++ (at_ En.o (at_ Rc.o v.rs d.toNat).es k).n)])), ⟨hlt, hW2, ⟨by simp only [List.length_append, List.length_cons, List.length_nil]; omega, (by simp; omega)⟩⟩, by dsimp only; omega, ?_⟩
                (refine Ex.Weak.of [0, 5] [] rfl rfl ?_ ?_ <;> (repeat' (first | exact True.intro | refine And.intro ?_ ?_)) <;> (conv => whnf) <;> (repeat' (exact rfl)) <;> (first | (intro _ _; rfl) | (first | exact wrow_eq (by simp) (contL_map (enc := tb) (fun _ => rfl) _) | ((refine Or.inl ⟨rfl, ?_⟩; (conv => whnf); (repeat' (first | exact True.intro | exact rfl | refine And.intro ?_ ?_)) <;> (try (conv => whnf)) <;> (repeat' (fail)) <;> (first | (intro _ _; rfl) | ((simp; done))))))))
              · obtain ⟨Q, hQ⟩ : ∃ Q, Q = walk v m (at_ En.o (at_ Rc.o v.rs d.toNat).es k).f.r (path ++ [47] ++ (at_ En.o (at_ Rc.o v.rs d.toNat).es k).n) (ps ++ [(path ++ [47] ++ (at_ En.o (at_ Rc.o v.rs d.toNat).es k).n)]) := ⟨_, rfl⟩
                have hih := ih (deep + 1) (at_ En.o (at_ Rc.o v.rs d.toNat).es k).f.r (path ++ [47] ++ (at_ En.o (at_ Rc.o v.rs d.toNat).es k).n) (ps ++ [(path ++ [47] ++ (at_ En.o (at_ Rc.o v.rs d.toNat).es k).n)]) (by omega) hdr.1 hdr.2 hnl (by simp; omega)
                have hQ1 := walk_pre v m (at_ En.o (at_ Rc.o v.rs d.toNat).es k).f.r (path ++ [47] ++ (at_ En.o (at_ Rc.o v.rs d.toNat).es k).n) (ps ++ [(path ++ [47] ++ (at_ En.o (at_ Rc.o v.rs d.toNat).es k).n)])
                have hQ2 := walk_le v m (at_ En.o (at_ Rc.o v.rs d.toNat).es k).f.r (path ++ [47] ++ (at_ En.o (at_ Rc.o v.rs d.toNat).es k).n) (ps ++ [(path ++ [47] ++ (at_ En.o (at_ Rc.o v.rs d.toNat).es k).n)]) (by simp; omega)
                rw [← hQ] at hih hQ1 hQ2
                obtain ⟨Q1, Q2⟩ := Q
                have hW2 : W = if Q2 then walkL v (walk v m) path Q1 ((at_ Rc.o v.rs d.toNat).es.drop (k + 1)) else (Q1, false) := by rw [← hW]; rw [walkL_cons, if_pos hrb, hnx, if_neg h5, if_pos (by rw [show rc v (at_ En.o (at_ Rc.o v.rs d.toNat).es k).f.r = at_ Rc.o v.rs (at_ En.o (at_ Rc.o v.rs d.toNat).es k).f.r.toNat from rfl, hdb])]; rw [← hQ]
                (conv => whnf); (repeat (first | (refine Ex.KIf.t rfl ?_; conv => whnf) | (refine Ex.Need.mk ?_ ?_; ((constructor <;> omega)); conv => whnf)))
                (refine KCall.lift [0, 5] [] (bb Q2) [.row [ib v.c, LS 2 aRun Run.o v.al, LS 10 aRc Rc.o v.rs, LS 1 aI 0 v.ds, tb v.mp, .so 6 0 Q1.length 0] 101 0, .row (Q1.map tb) 9 1] (hih) rfl ?_ ?_ ?_ ?_; (focus ((repeat' (first | exact True.intro | refine And.intro ?_ ?_)) <;> (conv => whnf) <;> (repeat' (fail)) <;> ((first | exact wrow_eq (by simp) (contL_map (enc := tb) (fun _ => rfl) _) | ((refine Or.inl ⟨rfl, ?_⟩; (conv => whnf); (repeat' (first | exact True.intro | exact rfl | refine And.intro ?_ ?_)) <;> (try (conv => whnf)) <;> (repeat' (fail)) <;> (first | (intro _ _; rfl) | ((simp; done))))))))); (focus ((repeat' (first | exact True.intro | exact rfl | refine And.intro ?_ ?_)) <;> (try (conv => whnf)) <;> (repeat' (fail)))); (focus ((repeat' (first | exact True.intro | exact rfl | refine And.intro ?_ ?_)) <;> (try (conv => whnf)) <;> (repeat' (fail)) <;> (first | exact Or.inr ⟨rfl, Ck.contL_map (fun _ => rfl) _⟩ | ((refine Or.inl ?_); (repeat' (first | exact True.intro | exact rfl | refine And.intro ?_ ?_)) <;> (try (conv => whnf)) <;> (repeat' (fail)))))); (conv => whnf))
                cases Q2
                · (conv => whnf); (repeat (first | (refine Ex.KIf.df ?_ ?_; assumption; conv => whnf) | (refine Ex.KIf.t rfl ?_; conv => whnf)))
                  obtain ⟨a1, a2, a3, e3⟩ : ∃ a b l, Q1 = a :: b :: l := two_of (by obtain ⟨t, e⟩ := hQ1; dsimp only at e; rw [e]; simp; omega)
                  rw [hW2, if_neg (by simp), e3]
                  (refine ⟨[0, 6], [], rfl, ?_, ?_⟩ <;> (repeat' (first | exact True.intro | refine And.intro ?_ ?_)) <;> (conv => whnf) <;> (repeat' (fail)) <;> (((first | exact Or.inr ⟨rfl, Ck.contL_map (fun _ => rfl) _⟩ | (refine Or.inl ⟨rfl, ?_⟩; (conv => whnf); (repeat' (first | exact True.intro | exact rfl | refine And.intro ?_ ?_)) <;> (try (conv => whnf)) <;> (repeat' (fail)) <;> ((intro _ _; rfl)))))))
                · rw [if_pos rfl] at hW2
                  (conv => whnf); (repeat (first | (refine Ex.KIf.df ?_ ?_; assumption; conv => whnf) | (refine Ex.KIf.t rfl ?_; conv => whnf) | (refine Ex.KIf.f rfl ?_; conv => whnf) | (refine Ex.Need.mk ?_ ?_; ((constructor <;> omega)); conv => whnf)))
                  refine ⟨(k + 1, some Q1), ⟨hlt, hW2.symm, ⟨by obtain ⟨t, e⟩ := hQ1; dsimp only at e; rw [e]; simp; omega, hQ2 rfl⟩⟩, by dsimp only; omega, ?_⟩
                  (refine Ex.Weak.of [0, 6] [] rfl rfl ?_ ?_ <;> (repeat' (first | exact True.intro | refine And.intro ?_ ?_)) <;> (conv => whnf) <;> (repeat' (exact rfl)) <;> (first | (intro _ _; rfl) | (first | exact Or.inr ⟨rfl, Ck.contL_map (fun _ => rfl) _⟩ | (refine Or.inl ⟨rfl, ?_⟩; (conv => whnf); (repeat' (first | exact True.intro | exact rfl | refine And.intro ?_ ?_)) <;> (try (conv => whnf)) <;> (repeat' (fail)) <;> ((intro _ _; rfl))))))
        · have hke : k = (at_ Rc.o v.rs d.toNat).es.length := by omega
          have hW2 : W = (ps, true) := by rw [← hW, hke, List.drop_length]; rfl
          (conv => whnf); (repeat (fail))
          obtain ⟨a1, a2, a3, e3⟩ : ∃ a b l, ps = a :: b :: l := two_of (by exact hle.1)
          rw [hW2, e3]
          (refine ⟨[0, 1], [], rfl, ?_, ?_⟩ <;> (repeat' (first | exact True.intro | refine And.intro ?_ ?_)) <;> (conv => whnf) <;> (repeat' (fail)) <;> (((first | exact Or.inr ⟨rfl, Ck.contL_map (fun _ => rfl) _⟩ | (refine Or.inl ⟨rfl, ?_⟩; (conv => whnf); (repeat' (first | exact True.intro | exact rfl | refine And.intro ?_ ?_)) <;> (try (conv => whnf)) <;> (repeat' (fail)) <;> ((intro _ _; rfl)))))))
  rw [hWd, hd, hm, hdeep, hpath] at goal
  exact goal
end Go.Proofs.YtgcjejajljhnaaaGreatDoor
namespace Go.Proofs.YtgcjejajljhnaaaGreatDoor
open Go.Ex Ck
set_option maxRecDepth 100000
set_option maxHeartbeats 4000000
theorem rRight_k (v : Pt) (r : Ref) (hn : v.rs.length ≤ 100000) : Ex.PureC Tryz.prog 78 [aPts v, .agg (aRef r)] (bb (Ck.right v r)) := by
  have e : Ck.right v r = ((wi r.r 0 (v.rs.length - 1) && Ck.own (Ck.rc v r.r)) && (Ck.rc v r.r).q == r.q) := rfl
  by_cases ho : (wi r.r 0 (v.rs.length - 1) && Ck.own (Ck.rc v r.r)) = true
  · have h2 : 0 ≤ r.r ∧ r.r < v.rs.length := by simp [wi] at ho; omega
    refine Ex.PureC.of kmix rfl ?_
    (conv => whnf); (repeat (first | (refine Ex.KIf.t ?_ ?_; assumption; conv => whnf) | (refine Ex.Need.mk (p := Ex.okDraw _ = true) ?_ ?_; decide +kernel; conv => whnf) | (refine Ex.Need.mk ?_ ?_; (trivial); conv => whnf) | ((refine Ex.DCall.pure (rOwn_k v r.r hn) ?_); conv => whnf)))
    (refine .z [] ?_; conv => whnf); (repeat' (fail)) <;> (try (conv => whnf)) <;> (repeat' (fail)) <;> ((rw [e, ho]; simp [Ck.rc]; rfl))
  · have ho' : (wi r.r 0 (v.rs.length - 1) && Ck.own (Ck.rc v r.r)) = false := by simpa using ho
    refine Ex.PureC.of kmix rfl ?_
    (conv => whnf); (repeat (first | (refine Ex.KIf.f ?_ ?_; assumption; conv => whnf) | (refine Ex.Need.mk (p := Ex.okDraw _ = true) ?_ ?_; decide +kernel; conv => whnf) | ((refine Ex.DCall.pure (rOwn_k v r.r hn) ?_); conv => whnf)))
    (refine .z [] ?_; conv => whnf); (repeat' (fail)) <;> (try (conv => whnf)) <;> (repeat' (fail)) <;> ((rw [e, ho']; simp))
theorem rRight_b (v : Pt) (r : Ref) (hn : v.rs.length ≤ 100000) {b : Bool} (h : Ck.right v r = b) : Ex.PureC Tryz.prog 78 [aPts v, .agg (aRef r)] (bb b) := by
  rw [← h]; exact rRight_k v r hn
theorem rIsDir_k (v : Pt) (i : Int) (hn : v.rs.length ≤ 100000) : Ex.PureC Tryz.prog 77 [aPts v, ib i] (bb (wi i 0 (v.rs.length - 1) && Ck.dir (Ck.rc v i))) := by
  by_cases ho : (wi i 0 (v.rs.length - 1) && Ck.own (Ck.rc v i)) = true
  · have h2 : 0 ≤ i ∧ i < v.rs.length := by simp [wi] at ho; omega
    refine Ex.PureC.of kmix rfl ?_
    (conv => whnf); (repeat (first | (refine Ex.KIf.t ?_ ?_; assumption; conv => whnf) | (refine Ex.Need.mk ?_ ?_; (trivial); conv => whnf) | ((refine Ex.KCall.pure (rOwn_k v i hn) ?_); conv => whnf)))
    (refine .z [] ?_; conv => whnf); (repeat' (fail)) <;> (try (conv => whnf)) <;> (repeat' (fail)) <;> ((simp only [Bool.and_eq_true] at ho; unfold Ck.own at ho; unfold Ck.dir; simp [Ck.rc] at ho ⊢; simp [ho]; rfl))
  · have ho' : (wi i 0 (v.rs.length - 1) && Ck.own (Ck.rc v i)) = false := by simpa using ho
    refine Ex.PureC.of kmix rfl ?_
    (conv => whnf); (repeat (first | (refine Ex.KIf.f ?_ ?_; assumption; conv => whnf) | ((refine Ex.KCall.pure (rOwn_k v i hn) ?_); conv => whnf)))
    (refine .z [] ?_; conv => whnf); (repeat' (fail)) <;> (try (conv => whnf)) <;> (repeat' (fail)) <;> ((unfold Ck.own at ho'; unfold Ck.dir; simp at ho' ⊢; intro h1 h2; have := ho' h1 h2; omega))
theorem rIsDir_b (v : Pt) (i : Int) (hn : v.rs.length ≤ 100000) {b : Bool} (h : (wi i 0 (v.rs.length - 1) && Ck.dir (Ck.rc v i)) = b) : Ex.PureC Tryz.prog 77 [aPts v, ib i] (bb b) := by
  rw [← h]; exact rIsDir_k v i hn
end Go.Proofs.YtgcjejajljhnaaaGreatDoor
namespace Ck
open Go Go.Ex
def aT (s : List UInt8) : List AV := [tb s]
theorem rpL_cons (v : Pt) (g : Int → List UInt8 → List (List UInt8)) (base : List UInt8) (out : List (List UInt8)) (x : En) (l : List En) : rpL v g base out (x :: l) = if out.length ≤ 500 then (if right v x.f then rpL v g base (out ++ if dir (rc v x.f.r) then g x.f.r (base ++ 47 :: x.n) else [base ++ 47 :: x.n]) l else rpL v g base out l) else out := rfl
theorem rpL_pos (v : Pt) (g : Int → List UInt8 → List (List UInt8)) (base : List UInt8) : ∀ (es : List En) (out : List (List UInt8)), out.length ≤ (rpL v g base out es).length
  | [], out => by simp [rpL]
  | x :: l, out => by
    unfold rpL
    split
    · split
      · exact Nat.le_trans (by simp) (rpL_pos v g base l _)
      · exact rpL_pos v g base l out
    · exact Nat.le_refl _
theorem rp_pos (v : Pt) : ∀ (m : Nat) (d : Int) (p : List UInt8), 1 ≤ (rp v m d p).length
  | 0, _, _ => Nat.le_refl _
  | m + 1, d, p => rpL_pos v (rp v m) _ _ [p]
theorem rpL_le (v : Pt) (g : Int → List UInt8 → List (List UInt8)) (base : List UInt8) (K : Nat) (hk : 1 ≤ K) (hg : ∀ d p, (g d p).length ≤ K) : ∀ (es : List En) (out : List (List UInt8)), out.length ≤ 500 + K → (rpL v g base out es).length ≤ 500 + K
  | [], out, h => by simpa [rpL] using h
  | x :: l, out, h => by
    unfold rpL
    split
    · rename_i ho
      split
      · refine rpL_le v g base K hk hg l _ ?_
        rw [List.length_append]
        split
        · have := hg x.f.r (base ++ 47 :: x.n); omega
        · simp; omega
      · exact rpL_le v g base K hk hg l out h
    · exact h
theorem rp_le (v : Pt) : ∀ (m : Nat) (d : Int) (p : List UInt8), (rp v m d p).length ≤ 500 * m + 1
  | 0, _, _ => Nat.le_refl _
  | m + 1, d, p => by
    have := rpL_le v (rp v m) (if p = [47] then [] else p) (500 * m + 1) (by omega) (fun d p => rp_le v m d p) (rc v d).es [p] (by simp only [List.length_cons, List.length_nil]; omega)
    show (rpL v (rp v m) _ [p] _).length ≤ _
    omega
end Ck
namespace Go.Proofs.YtgcjejajljhnaaaGreatDoor
open Go.Ex Ck
set_option maxRecDepth 100000
set_option maxHeartbeats 4000000
theorem row_q (out Q : List (List UInt8)) : (out ++ Q).map tb = out.map tb ++ (List.range Q.length).flatMap fun i => aT (at_ [] Q i) := by rw [List.map_append]; exact congrArg _ (map_flat tb [] Q)
theorem row_q1 (x : List UInt8) (Q : List (List UInt8)) : ([x] ++ Q).map tb = [tb x] ++ (List.range Q.length).flatMap fun i => aT (at_ [] Q i) := row_q [x] Q
theorem rpA (v : Pt) (hn : v.rs.length ≤ 100000) (hes : ∀ x ∈ v.rs, x.es.length ≤ 100000) (hnm : ∀ x ∈ v.rs, ∀ e ∈ x.es, e.n.length ≤ 32 ∧ e.n ≠ []) : ∀ (m deep : Nat) (d : Int) (path : List UInt8), deep + m = 24 → 0 ≤ d → d < v.rs.length → path.length ≤ 40 * deep → path ≠ [47] →
    Ex.PureC Tryz.prog 55 [aPts v, ib d, tb path, ib deep] (LS 1 aT [] (rp v m d path)) := by
  intro m
  induction m with
  | zero =>
    intro deep d path hdm hd0 hd1 hpl hp47
    obtain rfl : deep = 24 := by omega
    have hdi : 0 ≤ d ∧ d < v.rs.length := ⟨hd0, hd1⟩
    have hel := hes _ (at_mem Rc.o v.rs d.toNat (by omega))
    refine Ex.PureC.of kmix rfl ?_
    (conv => whnf); (repeat (first | (refine Ex.KIf.df ?_ ?_; assumption; conv => whnf) | (refine Ex.Need.mk ?_ ?_; (trivial); conv => whnf)))
    refine WLoop.inv kmix (D := Unit) (fun _ => 0) (fun _ => True) (fun _ => slots [(3, ib (24 : Nat)), (4, .ptr 0 0), (9, .sl 1 0 1 1), (10, LS 4 aEn En.o (at_ Rc.o v.rs d.toNat).es), (11, ib (0 : Nat))] 80) (fun _ => heapOf [.row (aPt v) 26 0, .row [tb path] 9 0]) () trivial ?_ ?_
    · (refine Ex.Weak.of [0, 1] [] rfl rfl ?_ ?_ <;> (repeat' (first | exact True.intro | refine And.intro ?_ ?_)) <;> (conv => whnf) <;> (repeat' (exact rfl)) <;> (first | (intro _ _; rfl) | (exact Or.inr ⟨rfl, rfl⟩)))
    · rintro _ _
      have hW2 : rp v 0 d path = [path] := rfl
      (conv => whnf); (repeat (fail))
      refine KIf.dec (fun h => ?_) (fun h => ?_)
      · (conv => whnf); (repeat (first | (refine Ex.KIf.dt ?_ ?_; assumption; conv => whnf) | (refine Ex.KIf.f rfl ?_; conv => whnf)))
        refine .z [1] ?_
        rw [hW2]
        exact Wz.ownS (f := fun i => aT (at_ [] [path] i)) rfl (by simp) rfl (Nat.le_refl _) (fun _ _ => rfl) rfl (fun _ _ => rfl)
      · (conv => whnf); (repeat (first | (refine Ex.KIf.df ?_ ?_; assumption; conv => whnf) | (refine Ex.KIf.f rfl ?_; conv => whnf)))
        refine .z [1] ?_
        rw [hW2]
        exact Wz.ownS (f := fun i => aT (at_ [] [path] i)) rfl (by simp) rfl (Nat.le_refl _) (fun _ _ => rfl) rfl (fun _ _ => rfl)
  | succ m ih =>
    intro deep d path hdm hd0 hd1 hpl hp47
    have hdd : ((deep : Nat) : Int) < 24 := by omega
    have hdi : 0 ≤ d ∧ d < v.rs.length := ⟨hd0, hd1⟩
    have hel := hes _ (at_mem Rc.o v.rs d.toNat (by omega))
    obtain ⟨base, hbase⟩ : ∃ b, b = path := ⟨_, rfl⟩
    obtain ⟨W, hWd⟩ : ∃ W, W = rp v (m + 1) d path := ⟨_, rfl⟩
    have hW0 : rpL v (rp v m) base [path] (((at_ Rc.o v.rs d.toNat).es).drop 0) = W := by rw [hWd, hbase]; show _ = rpL v (rp v m) (if path = [47] then [] else path) [path] _; rw [if_neg hp47]; rfl
    rw [← hWd]
    have hbl0 : base.length ≤ 40 * deep := by rw [hbase]; exact hpl
    clear hWd
    refine Ex.PureC.of kmix rfl ?_
    (conv => whnf); (repeat (first | (refine Ex.KIf.df ?_ ?_; assumption; conv => whnf) | (refine Ex.Need.mk ?_ ?_; (trivial); conv => whnf)))
    refine WLoop.inv kmix (D := Nat × Option (List (List UInt8))) (fun x => (at_ Rc.o v.rs d.toNat).es.length - x.1) (fun x => x.1 ≤ (at_ Rc.o v.rs d.toNat).es.length ∧ rpL v (rp v m) base (match x.2 with | none => [path] | some out => out) ((at_ Rc.o v.rs d.toNat).es.drop x.1) = W)
      (fun x => slots [(2, tb base), (3, ib deep), (4, .ptr 0 0), (9, match x.2 with | none => AV.sl 1 0 1 1 | some out => .so 1 0 out.length 0), (10, LS 4 aEn En.o (at_ Rc.o v.rs d.toNat).es), (11, ib x.1)] 80)
      (fun x => heapOf [.row (aPt v) 26 0, match x.2 with | none => AO.row [tb path] 9 0 | some out => .row (out.map tb) 9 1]) (0, none) ⟨Nat.zero_le _, hW0⟩ ?_ ?_
    · (refine Ex.Weak.of [0, 1] [] rfl rfl ?_ ?_ <;> (repeat' (first | exact True.intro | refine And.intro ?_ ?_)) <;> (conv => whnf) <;> (repeat' (exact rfl)) <;> (first | (intro _ _; rfl) | omega | (exact Or.inr ⟨rfl, rfl⟩)))
    · clear hW0
      rintro ⟨k, o⟩ ⟨hk, hW⟩
      cases o with
      | none =>
        dsimp only at hk hW
        (conv => whnf); (repeat (fail))
        refine KIf.dec (fun h => ?_) (fun h => ?_)
        · have hlt : k < (at_ Rc.o v.rs d.toNat).es.length := by omega
          have hxm := at_mem En.o (at_ Rc.o v.rs d.toNat).es k hlt
          have hxn := hnm _ (at_mem Rc.o v.rs d.toNat (by omega)) _ hxm
          rw [drop_at En.o _ k hlt] at hW
          obtain ⟨rb, hrb⟩ : ∃ b, right v (at_ En.o (at_ Rc.o v.rs d.toNat).es k).f = b := ⟨_, rfl⟩
          (conv => whnf); (repeat (first | (refine Ex.KIf.dt ?_ ?_; assumption; conv => whnf) | (refine Ex.KIf.t rfl ?_; conv => whnf) | (refine Ex.Need.mk (p := Ex.okDraw _ = true) ?_ ?_; decide +kernel; conv => whnf) | (refine Ex.Need.mk ?_ ?_; (omega); conv => whnf) | ((refine Ex.DCall.pure (rRight_b v (at_ En.o (at_ Rc.o v.rs d.toNat).es k).f hn hrb) ?_); conv => whnf)))
          cases rb
          · have hW2 : rpL v (rp v m) base [path] ((at_ Rc.o v.rs d.toNat).es.drop (k + 1)) = W := by rw [← hW, rpL_cons, if_pos (by simp), if_neg (by rw [hrb]; simp)]
            (conv => whnf); (repeat (first | (refine Ex.KIf.t rfl ?_; conv => whnf) | (refine Ex.Need.mk ?_ ?_; ((constructor <;> omega)); conv => whnf)))
            refine ⟨(k + 1, none), ⟨hlt, hW2⟩, by dsimp only; omega, ?_⟩
            (refine Ex.Weak.of [0, 1] [] rfl rfl ?_ ?_ <;> (repeat' (first | exact True.intro | refine And.intro ?_ ?_)) <;> (conv => whnf) <;> (repeat' (exact rfl)) <;> (first | (intro _ _; rfl) | (exact Or.inr ⟨rfl, rfl⟩)))
          · have hrl := right_lt hrb
            have hdr : 0 ≤ (at_ En.o (at_ Rc.o v.rs d.toNat).es k).f.r ∧ (at_ En.o (at_ Rc.o v.rs d.toNat).es k).f.r < v.rs.length := by omega
            have hs1 : base.length + [47].length ≤ 9223372036854775807 := by simp only [List.length_cons, List.length_nil]; omega
            have hs2 : (base ++ [47]).length + (at_ En.o (at_ Rc.o v.rs d.toNat).es k).n.length ≤ 9223372036854775807 := by simp only [List.length_append, List.length_cons, List.length_nil]; omega
            have hnx : base ++ 47 :: (at_ En.o (at_ Rc.o v.rs d.toNat).es k).n = (base ++ [47] ++ (at_ En.o (at_ Rc.o v.rs d.toNat).es k).n) := by simp
            have hnl : (base ++ [47] ++ (at_ En.o (at_ Rc.o v.rs d.toNat).es k).n).length ≤ 40 * (deep + 1) := by simp only [List.length_append, List.length_cons, List.length_nil]; omega
            have hn47 : (base ++ [47] ++ (at_ En.o (at_ Rc.o v.rs d.toNat).es k).n) ≠ [47] := by intro e; have e2 := congrArg List.length e; simp only [List.length_append, List.length_cons, List.length_nil] at e2; exact hxn.2 (List.eq_nil_of_length_eq_zero (by omega))
            obtain ⟨db, hdb⟩ : ∃ b, dir (at_ Rc.o v.rs (at_ En.o (at_ Rc.o v.rs d.toNat).es k).f.r.toNat) = b := ⟨_, rfl⟩
            have hdb2 : (wi (at_ En.o (at_ Rc.o v.rs d.toNat).es k).f.r 0 (v.rs.length - 1) && Ck.dir (Ck.rc v (at_ En.o (at_ Rc.o v.rs d.toNat).es k).f.r)) = db := by rw [← hdb, show wi (at_ En.o (at_ Rc.o v.rs d.toNat).es k).f.r 0 (v.rs.length - 1) = true by simp [wi]; omega]; rfl
            (conv => whnf); (repeat (first | (refine Ex.KIf.f rfl ?_; conv => whnf) | (refine Ex.Need.mk (p := Ex.okDraw _ = true) ?_ ?_; decide +kernel; conv => whnf) | (refine Ex.Need.mk ?_ ?_; (first | trivial | omega); conv => whnf) | ((refine Ex.DCall.pure (rIsDir_b v (at_ En.o (at_ Rc.o v.rs d.toNat).es k).f.r hn hdb2) ?_); conv => whnf)))
            cases db
            · have hW2 : rpL v (rp v m) base ([path] ++ [(base ++ [47] ++ (at_ En.o (at_ Rc.o v.rs d.toNat).es k).n)]) ((at_ Rc.o v.rs d.toNat).es.drop (k + 1)) = W := by rw [← hW]; rw [rpL_cons, if_pos (by simp), if_pos hrb, hnx, show rc v (at_ En.o (at_ Rc.o v.rs d.toNat).es k).f.r = at_ Rc.o v.rs (at_ En.o (at_ Rc.o v.rs d.toNat).es k).f.r.toNat from rfl, hdb]; rfl
              (conv => whnf); (repeat (first | (refine Ex.KIf.f rfl ?_; conv => whnf) | (refine Ex.Need.mk ?_ ?_; (first | trivial | (constructor <;> omega)); conv => whnf)))
              refine ⟨(k + 1, some ([path] ++ [(base ++ [47] ++ (at_ En.o (at_ Rc.o v.rs d.toNat).es k).n)])), ⟨hlt, hW2⟩, by dsimp only; omega, ?_⟩
              (refine Ex.Weak.of [0, 3] [] rfl rfl ?_ ?_ <;> (repeat' (first | exact True.intro | refine And.intro ?_ ?_)) <;> (conv => whnf) <;> (repeat' (exact rfl)) <;> (first | (intro _ _; rfl) | (first | exact wrow_eq (row_q1 _ _) (contL_map (enc := tb) (fun _ => rfl) _) | (exact Or.inr ⟨rfl, rfl⟩))))
            · obtain ⟨Q, hQ⟩ : ∃ Q, Q = rp v m (at_ En.o (at_ Rc.o v.rs d.toNat).es k).f.r (base ++ [47] ++ (at_ En.o (at_ Rc.o v.rs d.toNat).es k).n) := ⟨_, rfl⟩
              have hih := ih (deep + 1) (at_ En.o (at_ Rc.o v.rs d.toNat).es k).f.r (base ++ [47] ++ (at_ En.o (at_ Rc.o v.rs d.toNat).es k).n)
              have hih := hih (by omega) hdr.1 hdr.2 hnl hn47
              have hQ1 := rp_pos v m (at_ En.o (at_ Rc.o v.rs d.toNat).es k).f.r (base ++ [47] ++ (at_ En.o (at_ Rc.o v.rs d.toNat).es k).n)
              have hQ2 := rp_le v m (at_ En.o (at_ Rc.o v.rs d.toNat).es k).f.r (base ++ [47] ++ (at_ En.o (at_ Rc.o v.rs d.toNat).es k).n)
              rw [← hQ] at hih hQ1 hQ2
              have hq0 : Q.length ≠ 0 := by omega
              have hW2 : rpL v (rp v m) base ([path] ++ Q) ((at_ Rc.o v.rs d.toNat).es.drop (k + 1)) = W := by rw [← hW]; rw [rpL_cons, if_pos (by simp), if_pos hrb, hnx, show rc v (at_ En.o (at_ Rc.o v.rs d.toNat).es k).f.r = at_ Rc.o v.rs (at_ En.o (at_ Rc.o v.rs d.toNat).es k).f.r.toNat from rfl, hdb, ← hQ]; rfl
              have hpb : (1 + Q.length) * 16 ≤ 2 ^ 47 ∧ 1 + Q.length ≤ 2 ^ 60 := by constructor <;> omega
              have hbl : Nat.ble (1 + Q.length) 1 = false := by cases h : Nat.ble (1 + Q.length) 1 with | false => rfl | true => have := Nat.le_of_ble_eq_true h; omega
              (conv => whnf); (repeat (first | (refine Ex.KIf.f ?_ ?_; assumption; conv => whnf) | (refine Ex.KIf.t rfl ?_; conv => whnf) | (refine Ex.Need.mk (p := Ex.okDraw _ = true) ?_ ?_; decide +kernel; conv => whnf) | (refine Ex.Need.mk ?_ ?_; (first | trivial | omega | (constructor <;> omega)); conv => whnf) | (refine Ex.Need.mk (fun _ _ => rfl) ?_; conv => whnf) | ((refine Ex.DCall.pure (hih) ?_); conv => whnf)))
              refine ⟨(k + 1, some ([path] ++ Q)), ⟨hlt, hW2⟩, by dsimp only; omega, ?_⟩
              (refine Ex.Weak.of [0, 2] [] rfl rfl ?_ ?_ <;> (repeat' (first | exact True.intro | refine And.intro ?_ ?_)) <;> (conv => whnf) <;> (repeat' (exact rfl)) <;> (first | (intro _ _; rfl) | (first | exact wrow_eq (row_q1 _ _) (contL_map (enc := tb) (fun _ => rfl) _) | (simp only [List.length_append, List.length_cons, List.length_nil] <;> omega) | (exact Or.inr ⟨rfl, rfl⟩))))
        · have hke : k = (at_ Rc.o v.rs d.toNat).es.length := by omega
          have hW2 : W = [path] := by rw [← hW, hke, List.drop_length]; rfl
          (conv => whnf); (repeat (first | (refine Ex.KIf.df ?_ ?_; assumption; conv => whnf) | (refine Ex.KIf.f rfl ?_; conv => whnf)))
          refine .z [1] ?_
          rw [hW2]
          exact Wz.ownS (f := fun i => aT (at_ [] [path] i)) rfl (by simp) rfl (Nat.le_refl _) (fun _ _ => rfl) rfl (fun _ _ => rfl)
      | some out =>
        dsimp only at hk hW
        (conv => whnf); (repeat (fail))
        refine KIf.dec (fun h => ?_) (fun h => ?_)
        · have hlt : k < (at_ Rc.o v.rs d.toNat).es.length := by omega
          have hxm := at_mem En.o (at_ Rc.o v.rs d.toNat).es k hlt
          have hxn := hnm _ (at_mem Rc.o v.rs d.toNat (by omega)) _ hxm
          rw [drop_at En.o _ k hlt] at hW
          obtain ⟨rb, hrb⟩ : ∃ b, right v (at_ En.o (at_ Rc.o v.rs d.toNat).es k).f = b := ⟨_, rfl⟩
          (conv => whnf); (repeat ((refine Ex.KIf.dt ?_ ?_; assumption; conv => whnf)))
          by_cases h5 : out.length ≤ 500
          · have h5' : ((out.length : Nat) : Int) ≤ 500 := by omega
            have hpl : (out.map tb).length = 0 + out.length * 1 := by simp
            have hpb : (out.length + 1) * 16 ≤ 2 ^ 47 ∧ out.length + 1 ≤ 2 ^ 60 := by constructor <;> omega
            (conv => whnf); (repeat (first | (refine Ex.KIf.dt ?_ ?_; assumption; conv => whnf) | (refine Ex.Need.mk (p := Ex.okDraw _ = true) ?_ ?_; decide +kernel; conv => whnf) | (refine Ex.Need.mk ?_ ?_; (omega); conv => whnf) | ((refine Ex.DCall.pure (rRight_b v (at_ En.o (at_ Rc.o v.rs d.toNat).es k).f hn hrb) ?_); conv => whnf)))
            cases rb
            · have hW2 : rpL v (rp v m) base out ((at_ Rc.o v.rs d.toNat).es.drop (k + 1)) = W := by rw [← hW, rpL_cons, if_pos h5, if_neg (by rw [hrb]; simp)]
              (conv => whnf); (repeat (first | (refine Ex.KIf.t rfl ?_; conv => whnf) | (refine Ex.Need.mk ?_ ?_; ((constructor <;> omega)); conv => whnf)))
              refine ⟨(k + 1, some out), ⟨hlt, hW2⟩, by dsimp only; omega, ?_⟩
              (refine Ex.Weak.of [0, 1] [] rfl rfl ?_ ?_ <;> (repeat' (first | exact True.intro | refine And.intro ?_ ?_)) <;> (conv => whnf) <;> (repeat' (exact rfl)) <;> (first | (intro _ _; rfl) | (first | exact Or.inr ⟨rfl, rfl⟩ | exact Or.inr ⟨rfl, Ck.contL_map (fun _ => rfl) _⟩)))
            · have hrl := right_lt hrb
              have hdr : 0 ≤ (at_ En.o (at_ Rc.o v.rs d.toNat).es k).f.r ∧ (at_ En.o (at_ Rc.o v.rs d.toNat).es k).f.r < v.rs.length := by omega
              have hs1 : base.length + [47].length ≤ 9223372036854775807 := by simp only [List.length_cons, List.length_nil]; omega
              have hs2 : (base ++ [47]).length + (at_ En.o (at_ Rc.o v.rs d.toNat).es k).n.length ≤ 9223372036854775807 := by simp only [List.length_append, List.length_cons, List.length_nil]; omega
              have hnx : base ++ 47 :: (at_ En.o (at_ Rc.o v.rs d.toNat).es k).n = (base ++ [47] ++ (at_ En.o (at_ Rc.o v.rs d.toNat).es k).n) := by simp
              have hnl : (base ++ [47] ++ (at_ En.o (at_ Rc.o v.rs d.toNat).es k).n).length ≤ 40 * (deep + 1) := by simp only [List.length_append, List.length_cons, List.length_nil]; omega
              have hn47 : (base ++ [47] ++ (at_ En.o (at_ Rc.o v.rs d.toNat).es k).n) ≠ [47] := by intro e; have e2 := congrArg List.length e; simp only [List.length_append, List.length_cons, List.length_nil] at e2; exact hxn.2 (List.eq_nil_of_length_eq_zero (by omega))
              obtain ⟨db, hdb⟩ : ∃ b, dir (at_ Rc.o v.rs (at_ En.o (at_ Rc.o v.rs d.toNat).es k).f.r.toNat) = b := ⟨_, rfl⟩
              have hdb2 : (wi (at_ En.o (at_ Rc.o v.rs d.toNat).es k).f.r 0 (v.rs.length - 1) && Ck.dir (Ck.rc v (at_ En.o (at_ Rc.o v.rs d.toNat).es k).f.r)) = db := by rw [← hdb, show wi (at_ En.o (at_ Rc.o v.rs d.toNat).es k).f.r 0 (v.rs.length - 1) = true by simp [wi]; omega]; rfl
              (conv => whnf); (repeat (first | (refine Ex.KIf.f rfl ?_; conv => whnf) | (refine Ex.Need.mk (p := Ex.okDraw _ = true) ?_ ?_; decide +kernel; conv => whnf) | (refine Ex.Need.mk ?_ ?_; (first | trivial | omega); conv => whnf) | ((refine Ex.DCall.pure (rIsDir_b v (at_ En.o (at_ Rc.o v.rs d.toNat).es k).f.r hn hdb2) ?_); conv => whnf)))
              cases db
              · have hW2 : rpL v (rp v m) base (out ++ [(base ++ [47] ++ (at_ En.o (at_ Rc.o v.rs d.toNat).es k).n)]) ((at_ Rc.o v.rs d.toNat).es.drop (k + 1)) = W := by rw [← hW]; rw [rpL_cons, if_pos h5, if_pos hrb, hnx, show rc v (at_ En.o (at_ Rc.o v.rs d.toNat).es k).f.r = at_ Rc.o v.rs (at_ En.o (at_ Rc.o v.rs d.toNat).es k).f.r.toNat from rfl, hdb]; rfl
                (conv => whnf); (repeat (first | (refine Ex.NCase.s (Nat.succ_ne_zero _) ?_; conv => whnf) | (refine Ex.KIf.f rfl ?_; conv => whnf) | (refine Ex.Need.mk ?_ ?_; (first | trivial | (constructor <;> omega)); conv => whnf)))
                refine ⟨(k + 1, some (out ++ [(base ++ [47] ++ (at_ En.o (at_ Rc.o v.rs d.toNat).es k).n)])), ⟨hlt, hW2⟩, by dsimp only; omega, ?_⟩
                (refine Ex.Weak.of [0, 3] [] rfl rfl ?_ ?_ <;> (repeat' (first | exact True.intro | refine And.intro ?_ ?_)) <;> (conv => whnf) <;> (repeat' (exact rfl)) <;> (first | (intro _ _; rfl) | (first | exact wrow_eq (row_q _ _) (contL_map (enc := tb) (fun _ => rfl) _) | (simp; done) | (exact Or.inr ⟨rfl, rfl⟩))))
              · obtain ⟨Q, hQ⟩ : ∃ Q, Q = rp v m (at_ En.o (at_ Rc.o v.rs d.toNat).es k).f.r (base ++ [47] ++ (at_ En.o (at_ Rc.o v.rs d.toNat).es k).n) := ⟨_, rfl⟩
                have hih := ih (deep + 1) (at_ En.o (at_ Rc.o v.rs d.toNat).es k).f.r (base ++ [47] ++ (at_ En.o (at_ Rc.o v.rs d.toNat).es k).n)
                have hih := hih (by omega) hdr.1 hdr.2 hnl hn47
                have hQ1 := rp_pos v m (at_ En.o (at_ Rc.o v.rs d.toNat).es k).f.r (base ++ [47] ++ (at_ En.o (at_ Rc.o v.rs d.toNat).es k).n)
                have hQ2 := rp_le v m (at_ En.o (at_ Rc.o v.rs d.toNat).es k).f.r (base ++ [47] ++ (at_ En.o (at_ Rc.o v.rs d.toNat).es k).n)
                rw [← hQ] at hih hQ1 hQ2
                have hq0 : Q.length ≠ 0 := by omega
                have hW2 : rpL v (rp v m) base (out ++ Q) ((at_ Rc.o v.rs d.toNat).es.drop (k + 1)) = W := by rw [← hW]; rw [rpL_cons, if_pos h5, if_pos hrb, hnx, show rc v (at_ En.o (at_ Rc.o v.rs d.toNat).es k).f.r = at_ Rc.o v.rs (at_ En.o (at_ Rc.o v.rs d.toNat).es k).f.r.toNat from rfl, hdb, ← hQ]; rfl
                have hpb : (out.length + Q.length) * 16 ≤ 2 ^ 47 ∧ out.length + Q.length ≤ 2 ^ 60 := by constructor <;> omega
                (conv => whnf); (repeat (first | (refine Ex.KIf.t rfl ?_; conv => whnf) | (refine Ex.Need.mk (p := Ex.okDraw _ = true) ?_ ?_; decide +kernel; conv => whnf) | (refine Ex.Need.mk ?_ ?_; (first | trivial | omega | (constructor <;> omega)); conv => whnf) | (refine Ex.Need.mk (fun _ _ => rfl) ?_; conv => whnf) | ((refine Ex.DCall.pure (hih) ?_); conv => whnf) | (refine Ex.NCase.s hq0 ?_; conv => whnf)))
                refine ⟨(k + 1, some (out ++ Q)), ⟨hlt, hW2⟩, by dsimp only; omega, ?_⟩
                (refine Ex.Weak.of [0, 2] [] rfl rfl ?_ ?_ <;> (repeat' (first | exact True.intro | refine And.intro ?_ ?_)) <;> (conv => whnf) <;> (repeat' (exact rfl)) <;> (first | (intro _ _; rfl) | (first | exact wrow_eq (row_q _ _) (contL_map (enc := tb) (fun _ => rfl) _) | (simp; done) | (exact Or.inr ⟨rfl, rfl⟩))))
          · have h5' : ¬ ((out.length : Nat) : Int) ≤ 500 := by omega
            have hW2 : W = out := by rw [← hW, rpL_cons, if_neg h5]
            (conv => whnf); (repeat ((refine Ex.KIf.df ?_ ?_; assumption; conv => whnf)))
            refine .z [1] ?_
            rw [hW2]
            exact Wz.own rfl (by simp) rfl (fun _ _ => rfl) (map_flat tb [] out) (fun _ _ => rfl)
        · have hke : k = (at_ Rc.o v.rs d.toNat).es.length := by omega
          have hW2 : W = out := by rw [← hW, hke, List.drop_length]; rfl
          (conv => whnf); (repeat (first | (refine Ex.KIf.df ?_ ?_; assumption; conv => whnf) | (refine Ex.KIf.f rfl ?_; conv => whnf)))
          refine .z [1] ?_
          rw [hW2]
          exact Wz.own rfl (by simp) rfl (fun _ _ => rfl) (map_flat tb [] out) (fun _ _ => rfl)
theorem rpB (v : Pt) (hn : v.rs.length ≤ 100000) (hes : ∀ x ∈ v.rs, x.es.length ≤ 100000) (hnm : ∀ x ∈ v.rs, ∀ e ∈ x.es, e.n.length ≤ 32 ∧ e.n ≠ []) (hd1 : (5 : Int) < v.rs.length) :
    Ex.PureC Tryz.prog 55 [aPts v, ib 5, tb [47], ib 0] (LS 1 aT [] (rp v 24 5 [47])) := by
  obtain ⟨d, hd⟩ : ∃ d : Int, d = 5 := ⟨_, rfl⟩
  obtain ⟨m, hm⟩ : ∃ m, m = 23 := ⟨_, rfl⟩
  obtain ⟨deep, hdeep⟩ : ∃ d : Nat, d = 0 := ⟨_, rfl⟩
  obtain ⟨path, hpath⟩ : ∃ p : List UInt8, p = [47] := ⟨_, rfl⟩
  obtain ⟨base, hbase⟩ : ∃ p : List UInt8, p = [] := ⟨_, rfl⟩
  have hdm : deep + (m + 1) = 24 := by omega
  have hdd : ((deep : Nat) : Int) < 24 := by omega
  have hdi : 0 ≤ d ∧ d < v.rs.length := by omega
  have hel := hes _ (at_mem Rc.o v.rs d.toNat (by omega))
  obtain ⟨W, hWd⟩ : ∃ W, W = rp v (m + 1) d path := ⟨_, rfl⟩
  have hW0 : rpL v (rp v m) base [path] (((at_ Rc.o v.rs d.toNat).es).drop 0) = W := by rw [hWd, hbase]; show _ = rpL v (rp v m) (if path = [47] then [] else path) [path] _; rw [if_pos hpath]; rfl
  have hbl0 : base.length ≤ 40 * deep := by rw [hbase]; simp
  have goal : Ex.PureC Tryz.prog 55 [aPts v, ib d, tb path, ib deep] (LS 1 aT [] W) := by
    refine Ex.PureC.of kmix rfl ?_
    (conv => whnf); (repeat (first | (refine Ex.KIf.dt ?_ ?_; assumption; conv => whnf) | (refine Ex.Need.mk ?_ ?_; (trivial); conv => whnf)))
    refine WLoop.inv kmix (D := Nat × Option (List (List UInt8))) (fun x => (at_ Rc.o v.rs d.toNat).es.length - x.1) (fun x => x.1 ≤ (at_ Rc.o v.rs d.toNat).es.length ∧ rpL v (rp v m) base (match x.2 with | none => [path] | some out => out) ((at_ Rc.o v.rs d.toNat).es.drop x.1) = W)
      (fun x => slots [(2, tb base), (3, ib deep), (4, .ptr 0 0), (9, match x.2 with | none => AV.sl 1 0 1 1 | some out => .so 1 0 out.length 0), (10, LS 4 aEn En.o (at_ Rc.o v.rs d.toNat).es), (11, ib x.1)] 80)
      (fun x => heapOf [.row (aPt v) 26 0, match x.2 with | none => AO.row [tb path] 9 0 | some out => .row (out.map tb) 9 1]) (0, none) ⟨Nat.zero_le _, hW0⟩ ?_ ?_
    · (refine Ex.Weak.of [0, 1] [] rfl rfl ?_ ?_ <;> (repeat' (first | exact True.intro | refine And.intro ?_ ?_)) <;> (conv => whnf) <;> (repeat' (exact rfl)) <;> (first | (intro _ _; rfl) | omega | (exact Or.inr ⟨rfl, rfl⟩)))
    · clear hW0
      rintro ⟨k, o⟩ ⟨hk, hW⟩
      cases o with
      | none =>
        dsimp only at hk hW
        (conv => whnf); (repeat (fail))
        refine KIf.dec (fun h => ?_) (fun h => ?_)
        · have hlt : k < (at_ Rc.o v.rs d.toNat).es.length := by omega
          have hxm := at_mem En.o (at_ Rc.o v.rs d.toNat).es k hlt
          have hxn := hnm _ (at_mem Rc.o v.rs d.toNat (by omega)) _ hxm
          rw [drop_at En.o _ k hlt] at hW
          obtain ⟨rb, hrb⟩ : ∃ b, right v (at_ En.o (at_ Rc.o v.rs d.toNat).es k).f = b := ⟨_, rfl⟩
          (conv => whnf); (repeat (first | (refine Ex.KIf.dt ?_ ?_; assumption; conv => whnf) | (refine Ex.KIf.t rfl ?_; conv => whnf) | (refine Ex.Need.mk (p := Ex.okDraw _ = true) ?_ ?_; decide +kernel; conv => whnf) | (refine Ex.Need.mk ?_ ?_; (omega); conv => whnf) | ((refine Ex.DCall.pure (rRight_b v (at_ En.o (at_ Rc.o v.rs d.toNat).es k).f hn hrb) ?_); conv => whnf)))
          cases rb
          · have hW2 : rpL v (rp v m) base [path] ((at_ Rc.o v.rs d.toNat).es.drop (k + 1)) = W := by rw [← hW, rpL_cons, if_pos (by simp), if_neg (by rw [hrb]; simp)]
            (conv => whnf); (repeat (first | (refine Ex.KIf.t rfl ?_; conv => whnf) | (refine Ex.Need.mk ?_ ?_; ((constructor <;> omega)); conv => whnf)))
            refine ⟨(k + 1, none), ⟨hlt, hW2⟩, by dsimp only; omega, ?_⟩
            (refine Ex.Weak.of [0, 1] [] rfl rfl ?_ ?_ <;> (repeat' (first | exact True.intro | refine And.intro ?_ ?_)) <;> (conv => whnf) <;> (repeat' (exact rfl)) <;> (first | (intro _ _; rfl) | (exact Or.inr ⟨rfl, rfl⟩)))
          · have hrl := right_lt hrb
            have hdr : 0 ≤ (at_ En.o (at_ Rc.o v.rs d.toNat).es k).f.r ∧ (at_ En.o (at_ Rc.o v.rs d.toNat).es k).f.r < v.rs.length := by omega
            have hs1 : base.length + [47].length ≤ 9223372036854775807 := by simp only [List.length_cons, List.length_nil]; omega
            have hs2 : (base ++ [47]).length + (at_ En.o (at_ Rc.o v.rs d.toNat).es k).n.length ≤ 9223372036854775807 := by simp only [List.length_append, List.length_cons, List.length_nil]; omega
            have hnx : base ++ 47 :: (at_ En.o (at_ Rc.o v.rs d.toNat).es k).n = (base ++ [47] ++ (at_ En.o (at_ Rc.o v.rs d.toNat).es k).n) := by simp
            have hnl : (base ++ [47] ++ (at_ En.o (at_ Rc.o v.rs d.toNat).es k).n).length ≤ 40 * (deep + 1) := by simp only [List.length_append, List.length_cons, List.length_nil]; omega
            have hn47 : (base ++ [47] ++ (at_ En.o (at_ Rc.o v.rs d.toNat).es k).n) ≠ [47] := by intro e; have e2 := congrArg List.length e; simp only [List.length_append, List.length_cons, List.length_nil] at e2; exact hxn.2 (List.eq_nil_of_length_eq_zero (by omega))
            obtain ⟨db, hdb⟩ : ∃ b, dir (at_ Rc.o v.rs (at_ En.o (at_ Rc.o v.rs d.toNat).es k).f.r.toNat) = b := ⟨_, rfl⟩
            have hdb2 : (wi (at_ En.o (at_ Rc.o v.rs d.toNat).es k).f.r 0 (v.rs.length - 1) && Ck.dir (Ck.rc v (at_ En.o (at_ Rc.o v.rs d.toNat).es k).f.r)) = db := by rw [← hdb, show wi (at_ En.o (at_ Rc.o v.rs d.toNat).es k).f.r 0 (v.rs.length - 1) = true by simp [wi]; omega]; rfl
            (conv => whnf); (repeat (first | (refine Ex.KIf.f rfl ?_; conv => whnf) | (refine Ex.Need.mk (p := Ex.okDraw _ = true) ?_ ?_; decide +kernel; conv => whnf) | (refine Ex.Need.mk ?_ ?_; (first | trivial | omega); conv => whnf) | ((refine Ex.DCall.pure (rIsDir_b v (at_ En.o (at_ Rc.o v.rs d.toNat).es k).f.r hn hdb2) ?_); conv => whnf)))
            cases db
            · have hW2 : rpL v (rp v m) base ([path] ++ [(base ++ [47] ++ (at_ En.o (at_ Rc.o v.rs d.toNat).es k).n)]) ((at_ Rc.o v.rs d.toNat).es.drop (k + 1)) = W := by rw [← hW]; rw [rpL_cons, if_pos (by simp), if_pos hrb, hnx, show rc v (at_ En.o (at_ Rc.o v.rs d.toNat).es k).f.r = at_ Rc.o v.rs (at_ En.o (at_ Rc.o v.rs d.toNat).es k).f.r.toNat from rfl, hdb]; rfl
              (conv => whnf); (repeat (first | (refine Ex.KIf.f rfl ?_; conv => whnf) | (refine Ex.Need.mk ?_ ?_; (first | trivial | (constructor <;> omega)); conv => whnf)))
              refine ⟨(k + 1, some ([path] ++ [(base ++ [47] ++ (at_ En.o (at_ Rc.o v.rs d.toNat).es k).n)])), ⟨hlt, hW2⟩, by dsimp only; omega, ?_⟩
              (refine Ex.Weak.of [0, 3] [] rfl rfl ?_ ?_ <;> (repeat' (first | exact True.intro | refine And.intro ?_ ?_)) <;> (conv => whnf) <;> (repeat' (exact rfl)) <;> (first | (intro _ _; rfl) | (first | exact wrow_eq (row_q1 _ _) (contL_map (enc := tb) (fun _ => rfl) _) | (exact Or.inr ⟨rfl, rfl⟩))))
            · obtain ⟨Q, hQ⟩ : ∃ Q, Q = rp v m (at_ En.o (at_ Rc.o v.rs d.toNat).es k).f.r (base ++ [47] ++ (at_ En.o (at_ Rc.o v.rs d.toNat).es k).n) := ⟨_, rfl⟩
              have hih := rpA v hn hes hnm m (deep + 1) (at_ En.o (at_ Rc.o v.rs d.toNat).es k).f.r (base ++ [47] ++ (at_ En.o (at_ Rc.o v.rs d.toNat).es k).n)
              have hih := hih (by omega) hdr.1 hdr.2 hnl hn47
              have hQ1 := rp_pos v m (at_ En.o (at_ Rc.o v.rs d.toNat).es k).f.r (base ++ [47] ++ (at_ En.o (at_ Rc.o v.rs d.toNat).es k).n)
              have hQ2 := rp_le v m (at_ En.o (at_ Rc.o v.rs d.toNat).es k).f.r (base ++ [47] ++ (at_ En.o (at_ Rc.o v.rs d.toNat).es k).n)
              rw [← hQ] at hih hQ1 hQ2
              have hq0 : Q.length ≠ 0 := by omega
              have hW2 : rpL v (rp v m) base ([path] ++ Q) ((at_ Rc.o v.rs d.toNat).es.drop (k + 1)) = W := by rw [← hW]; rw [rpL_cons, if_pos (by simp), if_pos hrb, hnx, show rc v (at_ En.o (at_ Rc.o v.rs d.toNat).es k).f.r = at_ Rc.o v.rs (at_ En.o (at_ Rc.o v.rs d.toNat).es k).f.r.toNat from rfl, hdb, ← hQ]; rfl
              have hpb : (1 + Q.length) * 16 ≤ 2 ^ 47 ∧ 1 + Q.length ≤ 2 ^ 60 := by constructor <;> omega
              have hbl : Nat.ble (1 + Q.length) 1 = false := by cases h : Nat.ble (1 + Q.length) 1 with | false => rfl | true => have := Nat.le_of_ble_eq_true h; omega
              (conv => whnf); (repeat (first | (refine Ex.KIf.f ?_ ?_; assumption; conv => whnf) | (refine Ex.KIf.t rfl ?_; conv => whnf) | (refine Ex.Need.mk (p := Ex.okDraw _ = true) ?_ ?_; decide +kernel; conv => whnf) | (refine Ex.Need.mk ?_ ?_; (first | trivial | omega | (constructor <;> omega)); conv => whnf) | (refine Ex.Need.mk (fun _ _ => rfl) ?_; conv => whnf) | ((refine Ex.DCall.pure (hih) ?_); conv => whnf)))
              refine ⟨(k + 1, some ([path] ++ Q)), ⟨hlt, hW2⟩, by dsimp only; omega, ?_⟩
              (refine Ex.Weak.of [0, 2] [] rfl rfl ?_ ?_ <;> (repeat' (first | exact True.intro | refine And.intro ?_ ?_)) <;> (conv => whnf) <;> (repeat' (exact rfl)) <;> (first | (intro _ _; rfl) | (first | exact wrow_eq (row_q1 _ _) (contL_map (enc := tb) (fun _ => rfl) _) | (simp only [List.length_append, List.length_cons, List.length_nil] <;> omega) | (exact Or.inr ⟨rfl, rfl⟩))))
        · have hke : k = (at_ Rc.o v.rs d.toNat).es.length := by omega
          have hW2 : W = [path] := by rw [← hW, hke, List.drop_length]; rfl
          (conv => whnf); (repeat (first | (refine Ex.KIf.df ?_ ?_; assumption; conv => whnf) | (refine Ex.KIf.f rfl ?_; conv => whnf)))
          refine .z [1] ?_
          rw [hW2]
          exact Wz.ownS (f := fun i => aT (at_ [] [path] i)) rfl (by simp) rfl (Nat.le_refl _) (fun _ _ => rfl) rfl (fun _ _ => rfl)
      | some out =>
        dsimp only at hk hW
        (conv => whnf); (repeat (fail))
        refine KIf.dec (fun h => ?_) (fun h => ?_)
        · have hlt : k < (at_ Rc.o v.rs d.toNat).es.length := by omega
          have hxm := at_mem En.o (at_ Rc.o v.rs d.toNat).es k hlt
          have hxn := hnm _ (at_mem Rc.o v.rs d.toNat (by omega)) _ hxm
          rw [drop_at En.o _ k hlt] at hW
          obtain ⟨rb, hrb⟩ : ∃ b, right v (at_ En.o (at_ Rc.o v.rs d.toNat).es k).f = b := ⟨_, rfl⟩
          (conv => whnf); (repeat ((refine Ex.KIf.dt ?_ ?_; assumption; conv => whnf)))
          by_cases h5 : out.length ≤ 500
          · have h5' : ((out.length : Nat) : Int) ≤ 500 := by omega
            have hpl : (out.map tb).length = 0 + out.length * 1 := by simp
            have hpb : (out.length + 1) * 16 ≤ 2 ^ 47 ∧ out.length + 1 ≤ 2 ^ 60 := by constructor <;> omega
            (conv => whnf); (repeat (first | (refine Ex.KIf.dt ?_ ?_; assumption; conv => whnf) | (refine Ex.Need.mk (p := Ex.okDraw _ = true) ?_ ?_; decide +kernel; conv => whnf) | (refine Ex.Need.mk ?_ ?_; (omega); conv => whnf) | ((refine Ex.DCall.pure (rRight_b v (at_ En.o (at_ Rc.o v.rs d.toNat).es k).f hn hrb) ?_); conv => whnf)))
            cases rb
            · have hW2 : rpL v (rp v m) base out ((at_ Rc.o v.rs d.toNat).es.drop (k + 1)) = W := by rw [← hW, rpL_cons, if_pos h5, if_neg (by rw [hrb]; simp)]
              (conv => whnf); (repeat (first | (refine Ex.KIf.t rfl ?_; conv => whnf) | (refine Ex.Need.mk ?_ ?_; ((constructor <;> omega)); conv => whnf)))
              refine ⟨(k + 1, some out), ⟨hlt, hW2⟩, by dsimp only; omega, ?_⟩
              (refine Ex.Weak.of [0, 1] [] rfl rfl ?_ ?_ <;> (repeat' (first | exact True.intro | refine And.intro ?_ ?_)) <;> (conv => whnf) <;> (repeat' (exact rfl)) <;> (first | (intro _ _; rfl) | (first | exact Or.inr ⟨rfl, rfl⟩ | exact Or.inr ⟨rfl, Ck.contL_map (fun _ => rfl) _⟩)))
            · have hrl := right_lt hrb
              have hdr : 0 ≤ (at_ En.o (at_ Rc.o v.rs d.toNat).es k).f.r ∧ (at_ En.o (at_ Rc.o v.rs d.toNat).es k).f.r < v.rs.length := by omega
              have hs1 : base.length + [47].length ≤ 9223372036854775807 := by simp only [List.length_cons, List.length_nil]; omega
              have hs2 : (base ++ [47]).length + (at_ En.o (at_ Rc.o v.rs d.toNat).es k).n.length ≤ 9223372036854775807 := by simp only [List.length_append, List.length_cons, List.length_nil]; omega
              have hnx : base ++ 47 :: (at_ En.o (at_ Rc.o v.rs d.toNat).es k).n = (base ++ [47] ++ (at_ En.o (at_ Rc.o v.rs d.toNat).es k).n) := by simp
              have hnl : (base ++ [47] ++ (at_ En.o (at_ Rc.o v.rs d.toNat).es k).n).length ≤ 40 * (deep + 1) := by simp only [List.length_append, List.length_cons, List.length_nil]; omega
              have hn47 : (base ++ [47] ++ (at_ En.o (at_ Rc.o v.rs d.toNat).es k).n) ≠ [47] := by intro e; have e2 := congrArg List.length e; simp only [List.length_append, List.length_cons, List.length_nil] at e2; exact hxn.2 (List.eq_nil_of_length_eq_zero (by omega))
              obtain ⟨db, hdb⟩ : ∃ b, dir (at_ Rc.o v.rs (at_ En.o (at_ Rc.o v.rs d.toNat).es k).f.r.toNat) = b := ⟨_, rfl⟩
              have hdb2 : (wi (at_ En.o (at_ Rc.o v.rs d.toNat).es k).f.r 0 (v.rs.length - 1) && Ck.dir (Ck.rc v (at_ En.o (at_ Rc.o v.rs d.toNat).es k).f.r)) = db := by rw [← hdb, show wi (at_ En.o (at_ Rc.o v.rs d.toNat).es k).f.r 0 (v.rs.length - 1) = true by simp [wi]; omega]; rfl
              (conv => whnf); (repeat (first | (refine Ex.KIf.f rfl ?_; conv => whnf) | (refine Ex.Need.mk (p := Ex.okDraw _ = true) ?_ ?_; decide +kernel; conv => whnf) | (refine Ex.Need.mk ?_ ?_; (first | trivial | omega); conv => whnf) | ((refine Ex.DCall.pure (rIsDir_b v (at_ En.o (at_ Rc.o v.rs d.toNat).es k).f.r hn hdb2) ?_); conv => whnf)))
              cases db
              · have hW2 : rpL v (rp v m) base (out ++ [(base ++ [47] ++ (at_ En.o (at_ Rc.o v.rs d.toNat).es k).n)]) ((at_ Rc.o v.rs d.toNat).es.drop (k + 1)) = W := by rw [← hW]; rw [rpL_cons, if_pos h5, if_pos hrb, hnx, show rc v (at_ En.o (at_ Rc.o v.rs d.toNat).es k).f.r = at_ Rc.o v.rs (at_ En.o (at_ Rc.o v.rs d.toNat).es k).f.r.toNat from rfl, hdb]; rfl
                (conv => whnf); (repeat (first | (refine Ex.NCase.s (Nat.succ_ne_zero _) ?_; conv => whnf) | (refine Ex.KIf.f rfl ?_; conv => whnf) | (refine Ex.Need.mk ?_ ?_; (first | trivial | (constructor <;> omega)); conv => whnf)))
                refine ⟨(k + 1, some (out ++ [(base ++ [47] ++ (at_ En.o (at_ Rc.o v.rs d.toNat).es k).n)])), ⟨hlt, hW2⟩, by dsimp only; omega, ?_⟩
                (refine Ex.Weak.of [0, 3] [] rfl rfl ?_ ?_ <;> (repeat' (first | exact True.intro | refine And.intro ?_ ?_)) <;> (conv => whnf) <;> (repeat' (exact rfl)) <;> (first | (intro _ _; rfl) | (first | exact wrow_eq (row_q _ _) (contL_map (enc := tb) (fun _ => rfl) _) | (simp; done) | (exact Or.inr ⟨rfl, rfl⟩))))
              · obtain ⟨Q, hQ⟩ : ∃ Q, Q = rp v m (at_ En.o (at_ Rc.o v.rs d.toNat).es k).f.r (base ++ [47] ++ (at_ En.o (at_ Rc.o v.rs d.toNat).es k).n) := ⟨_, rfl⟩
                have hih := rpA v hn hes hnm m (deep + 1) (at_ En.o (at_ Rc.o v.rs d.toNat).es k).f.r (base ++ [47] ++ (at_ En.o (at_ Rc.o v.rs d.toNat).es k).n)
                have hih := hih (by omega) hdr.1 hdr.2 hnl hn47
                have hQ1 := rp_pos v m (at_ En.o (at_ Rc.o v.rs d.toNat).es k).f.r (base ++ [47] ++ (at_ En.o (at_ Rc.o v.rs d.toNat).es k).n)
                have hQ2 := rp_le v m (at_ En.o (at_ Rc.o v.rs d.toNat).es k).f.r (base ++ [47] ++ (at_ En.o (at_ Rc.o v.rs d.toNat).es k).n)
                rw [← hQ] at hih hQ1 hQ2
                have hq0 : Q.length ≠ 0 := by omega
                have hW2 : rpL v (rp v m) base (out ++ Q) ((at_ Rc.o v.rs d.toNat).es.drop (k + 1)) = W := by rw [← hW]; rw [rpL_cons, if_pos h5, if_pos hrb, hnx, show rc v (at_ En.o (at_ Rc.o v.rs d.toNat).es k).f.r = at_ Rc.o v.rs (at_ En.o (at_ Rc.o v.rs d.toNat).es k).f.r.toNat from rfl, hdb, ← hQ]; rfl
                have hpb : (out.length + Q.length) * 16 ≤ 2 ^ 47 ∧ out.length + Q.length ≤ 2 ^ 60 := by constructor <;> omega
                (conv => whnf); (repeat (first | (refine Ex.KIf.t rfl ?_; conv => whnf) | (refine Ex.Need.mk (p := Ex.okDraw _ = true) ?_ ?_; decide +kernel; conv => whnf) | (refine Ex.Need.mk ?_ ?_; (first | trivial | omega | (constructor <;> omega)); conv => whnf) | (refine Ex.Need.mk (fun _ _ => rfl) ?_; conv => whnf) | ((refine Ex.DCall.pure (hih) ?_); conv => whnf) | (refine Ex.NCase.s hq0 ?_; conv => whnf)))
                refine ⟨(k + 1, some (out ++ Q)), ⟨hlt, hW2⟩, by dsimp only; omega, ?_⟩
                (refine Ex.Weak.of [0, 2] [] rfl rfl ?_ ?_ <;> (repeat' (first | exact True.intro | refine And.intro ?_ ?_)) <;> (conv => whnf) <;> (repeat' (exact rfl)) <;> (first | (intro _ _; rfl) | (first | exact wrow_eq (row_q _ _) (contL_map (enc := tb) (fun _ => rfl) _) | (simp; done) | (exact Or.inr ⟨rfl, rfl⟩))))
          · have h5' : ¬ ((out.length : Nat) : Int) ≤ 500 := by omega
            have hW2 : W = out := by rw [← hW, rpL_cons, if_neg h5]
            (conv => whnf); (repeat ((refine Ex.KIf.df ?_ ?_; assumption; conv => whnf)))
            refine .z [1] ?_
            rw [hW2]
            exact Wz.own rfl (by simp) rfl (fun _ _ => rfl) (map_flat tb [] out) (fun _ _ => rfl)
        · have hke : k = (at_ Rc.o v.rs d.toNat).es.length := by omega
          have hW2 : W = out := by rw [← hW, hke, List.drop_length]; rfl
          (conv => whnf); (repeat (first | (refine Ex.KIf.df ?_ ?_; assumption; conv => whnf) | (refine Ex.KIf.f rfl ?_; conv => whnf)))
          refine .z [1] ?_
          rw [hW2]
          exact Wz.own rfl (by simp) rfl (fun _ _ => rfl) (map_flat tb [] out) (fun _ _ => rfl)
  rw [hWd, hd, hm, hdeep, hpath] at goal
  exact goal
end Go.Proofs.YtgcjejajljhnaaaGreatDoor
namespace Go.Proofs.YtgcjejajljhnaaaGreatDoor
open Go.Ex Ck
set_option maxRecDepth 100000
set_option maxHeartbeats 4000000
theorem awake_k : Ex.PureC Tryz.prog 10 [] (bb true) := fun _ => CallOk.of_below (args := []) awake_any
theorem few_b (v : Pt) {b : Bool} (h : fewP v = b) : Ex.PureC Tryz.prog 11 [aPts v] (bb b) := by rw [← h]; exact few_k v
end Go.Proofs.YtgcjejajljhnaaaGreatDoor
namespace Go.Proofs.YtgcjejajljhnaaaGreatDoor
open Go.Ex Ck
set_option maxRecDepth 100000
set_option maxHeartbeats 1000000
theorem UsedBy_bad (v : Pt) (h : FitP v) (he : Ck.partsErr v ≠ 0) : Ex.PureC Tryz.prog 36 [aPts v] (.tup [tb [], ib (Ck.partsErr v)]) := by
  refine Ex.PureC.of kmix rfl ?_
  (conv => whnf); (repeat (first | ((refine Ex.KCall.pure (partsErr_k v h) ?_); conv => whnf) | (refine KIf.t (congrArg Bool.not (decide_eq_false he)) ?_; conv => whnf)))
  (refine .z [] ?_; conv => whnf); (repeat' (first | exact True.intro | exact rfl | refine And.intro ?_ ?_)) <;> (try (conv => whnf)) <;> (repeat' (fail)) <;> (fail)
theorem ReachedIn_bad (v : Pt) (h : FitP v) (he : Ck.partsErr v ≠ 0) : Ex.PureC Tryz.prog 31 [aPts v] (.tup [LS 1 aI 0 [], ib (Ck.partsErr v)]) := by
  refine Ex.PureC.of kmix rfl ?_
  (conv => whnf); (repeat (first | ((refine Ex.KCall.pure (partsErr_k v h) ?_); conv => whnf) | (refine KIf.t (congrArg Bool.not (decide_eq_false he)) ?_; conv => whnf)))
  (refine .z [] ?_; conv => whnf); (repeat' (first | exact True.intro | exact rfl | refine And.intro ?_ ?_)) <;> (try (conv => whnf)) <;> (repeat' (fail)) <;> (fail)
theorem NamesOf_bad (v : Pt) (r : Int) (h : FitP v) (he : Ck.partsErr v ≠ 0) : Ex.PureC Tryz.prog 38 [aPts v, ib r] (.tup [LS 3 aNm Nm.o [], ib (Ck.partsErr v)]) := by
  refine Ex.PureC.of kmix rfl ?_
  (conv => whnf); (repeat (first | ((refine Ex.KCall.pure (partsErr_k v h) ?_); conv => whnf) | (refine KIf.t (congrArg Bool.not (decide_eq_false he)) ?_; conv => whnf)))
  (refine .z [] ?_; conv => whnf); (repeat' (first | exact True.intro | exact rfl | refine And.intro ?_ ?_)) <;> (try (conv => whnf)) <;> (repeat' (fail)) <;> (fail)
theorem PathsIn_bad (v : Pt) (h : FitP v) (he : Ck.partsErr v ≠ 0) : Ex.PureC Tryz.prog 15 [aPts v] (.tup [.lst 1 0 fun _ => [], ib (Ck.partsErr v)]) := by
  refine Ex.PureC.of kmix rfl ?_
  (conv => whnf); (repeat (first | ((refine Ex.KCall.pure (partsErr_k v h) ?_); conv => whnf) | (refine KIf.t (congrArg Bool.not (decide_eq_false he)) ?_; conv => whnf)))
  (refine .z [] ?_; conv => whnf); (repeat' (first | exact True.intro | exact rfl | refine And.intro ?_ ?_)) <;> (try (conv => whnf)) <;> (repeat' (fail)) <;> (fail)
theorem NamesOf_out (v : Pt) (r : Int) (h : FitP v) (he : Ck.partsErr v = 0) (hr : wi r 0 (v.rs.length - 1) = false) : Ex.PureC Tryz.prog 38 [aPts v, ib r] (.tup [LS 3 aNm Nm.o [], ib 6]) := by
  refine Ex.PureC.of kmix rfl ?_
  have hn : v.rs.length ≤ 100000 := h.f.rs
  (conv => whnf); (repeat (first | (refine Ex.KIf.t rfl ?_; conv => whnf) | (refine Ex.KIf.t ?_ ?_; (focus (simp only [Bool.not_eq_true', Bool.not_eq_false', Bool.not_true, Bool.not_false]; assumption)); conv => whnf) | (refine Ex.Need.mk ?_ ?_; ((constructor <;> omega)); conv => whnf) | ((refine Ex.KCall.pure (partsErr_k v h) ?_); conv => whnf) | (refine KIf.f (congrArg Bool.not (decide_eq_true he)) ?_; conv => whnf) | ((refine Ex.KCall.pure (within_k _ _ _) ?_); conv => whnf)))
  (refine .z [] ?_; conv => whnf); (repeat' (first | exact True.intro | exact rfl | refine And.intro ?_ ?_)) <;> (try (conv => whnf)) <;> (repeat' (fail)) <;> (fail)
theorem NamesOf_unused (v : Pt) (r : Int) (h : FitP v) (he : Ck.partsErr v = 0) (hr : wi r 0 (v.rs.length - 1) = true) (hu : (Ck.rc v r).u = false) : Ex.PureC Tryz.prog 38 [aPts v, ib r] (.tup [LS 3 aNm Nm.o [], ib 6]) := by
  refine Ex.PureC.of kmix rfl ?_
  have h2 : 0 ≤ r ∧ r < v.rs.length := by simp [wi] at hr; omega
  have hn : v.rs.length ≤ 100000 := h.f.rs
  have hu' : (at_ Rc.o v.rs r.toNat).u = false := hu
  (conv => whnf); (repeat (first | (refine Ex.KIf.t ?_ ?_; (focus (simp only [Bool.not_eq_true', Bool.not_eq_false', Bool.not_true, Bool.not_false]; assumption)); conv => whnf) | (refine Ex.KIf.f ?_ ?_; (focus (simp only [Bool.not_eq_true', Bool.not_eq_false', Bool.not_true, Bool.not_false]; assumption)); conv => whnf) | (refine Ex.Need.mk ?_ ?_; (first | trivial | (constructor <;> omega)); conv => whnf) | ((refine Ex.KCall.pure (partsErr_k v h) ?_); conv => whnf) | (refine KIf.f (congrArg Bool.not (decide_eq_true he)) ?_; conv => whnf) | ((refine Ex.KCall.pure (within_k _ _ _) ?_); conv => whnf)))
  (refine .z [] ?_; conv => whnf); (repeat' (first | exact True.intro | exact rfl | refine And.intro ?_ ?_)) <;> (try (conv => whnf)) <;> (repeat' (fail)) <;> (fail)
end Go.Proofs.YtgcjejajljhnaaaGreatDoor
namespace Ck
open Go Go.Ex
def lightE : List Int → List En → Option (List Int)
  | inn, [] => some inn
  | inn, x :: l => if 2 < at_ 0 inn x.f.r.toNat + 1 then none else lightE (inn.set x.f.r.toNat (at_ 0 inn x.f.r.toNat + 1)) l
def lightR : Int → List Int → List Rc → Bool
  | full, _, [] => decide (full ≤ 12)
  | full, inn, x :: l => if 8 < x.es.length then false else match lightE inn x.es with | none => false | some inn' => lightR (full + if 0 < x.es.length then 1 else 0) inn' l
def light (v : Pt) : Bool := lightR 0 (List.replicate 96 0) v.rs
theorem Valid.ens {v : Pt} (h : Valid v) : ∀ r ∈ v.rs, ∀ x ∈ r.es, (x.n.length ≤ 32 ∧ x.n ≠ []) ∧ 0 ≤ x.f.r ∧ x.f.r ≤ 95 := by
  intro r hr x hx
  obtain ⟨i, hi, rfl⟩ := List.getElem_of_mem hr
  have h1 := h.rcs i hi
  rw [at_eq _ _ _ hi] at h1
  have h2 := (recErr_parts h1).2.2.2
  obtain ⟨k, hk, rfl⟩ := List.getElem_of_mem hx
  have h3 : enErr (at_ En.o (v.rs[i]).es k) = 0 := goE_all _ _ h2 k hk
  rw [at_eq _ _ _ hk] at h3
  generalize (v.rs[i]).es[k] = x at *
  unfold enErr at h3
  split at h3
  · rename_i h4
    refine ⟨?_, ?_⟩
    · unfold nameErr at h4
      split at h4
      · omega
      · rename_i h5
        split at h4
        · rename_i h6
          refine ⟨by omega, fun e => ?_⟩
          unfold legal at h6
          rw [e] at h6
          simp at h6
        · omega
    · split at h3
      · rename_i h5
        unfold refErr at h5
        split at h5
        · rename_i h6
          unfold wi at h6
          simp only [Bool.and_eq_true, decide_eq_true_eq] at h6
          omega
        · omega
      · rename_i h5; exact absurd h3 h5
  · rename_i h5; exact absurd h3 h5
end Ck
namespace Go.Proofs.YtgcjejajljhnaaaGreatDoor
open Go.Ex Ck
set_option maxRecDepth 100000
set_option maxHeartbeats 4000000
theorem Bit_k (b : Bool) : Ex.PureC Tryz.prog 54 [bb b] (ib (if b then 1 else 0)) := by
  refine Ex.PureC.of kmix rfl ?_
  conv => whnf
  cases b
  all_goals
    (conv => whnf); (repeat (first | (refine Ex.KIf.t rfl ?_; conv => whnf) | (refine Ex.KIf.f rfl ?_; conv => whnf)))
    refine .z [] ?_
    exact Wz_refl rfl
theorem light_k (v : Pt) (hn : v.rs.length ≤ 100000) (hes : ∀ x ∈ v.rs, x.es.length ≤ 100000) (hrf : ∀ x ∈ v.rs, ∀ e ∈ x.es, 0 ≤ e.f.r ∧ e.f.r ≤ 95) : Ex.PureC Tryz.prog 17 [aPts v] (bb (Ck.light v)) := by
  obtain ⟨W, hWd⟩ : ∃ W, W = Ck.light v := ⟨_, rfl⟩
  have hW0 : lightR 0 (List.replicate 96 0) (v.rs.drop 0) = W := by rw [hWd]; rfl
  rw [← hWd]
  clear hWd
  obtain ⟨I0, hI0⟩ : ∃ I : List Int, I = List.replicate 96 0 := ⟨_, rfl⟩
  have hz : zeros 96 (.int .i64 0) = I0.map ib := by rw [zeros_rep (x := ib 0) _ _ rfl, hI0]; simp
  have hIl : I0.length = 96 := by rw [hI0]; simp
  have hIm : ∀ x ∈ I0, 0 ≤ x ∧ x ≤ 2 := fun x hx => by rw [hI0] at hx; rw [List.eq_of_mem_replicate hx]; omega
  rw [← hI0] at hW0
  clear hI0
  refine Ex.PureC.of kmix rfl ?_
  (conv => whnf); (repeat ((refine Ex.Need.mk ?_ ?_; (trivial); conv => whnf)))
  refine WLoop.inv kmix (D := Nat × Int × List Int) (fun x => v.rs.length - x.1) (fun x => x.1 ≤ v.rs.length ∧ lightR x.2.1 x.2.2 (v.rs.drop x.1) = W ∧ (0 ≤ x.2.1 ∧ x.2.1 ≤ x.1) ∧ x.2.2.length = 96 ∧ ∀ y ∈ x.2.2, 0 ≤ y ∧ y ≤ 2)
    (fun x => slots [(1, .ptr 0 0), (3, ib x.2.1), (4, .sl 1 0 96 96), (5, ib x.1)] 67) (fun x => heapOf [.row (aPt v) 26 0, .row (x.2.2.map ib) 3 0]) (0, 0, I0) ⟨Nat.zero_le _, hW0, ⟨Int.le_refl _, Int.le_refl _⟩, hIl, hIm⟩ ?_ ?_
  · (refine Ex.Weak.of [0, 1] [] rfl rfl ?_ ?_ <;> (repeat' (first | exact True.intro | refine And.intro ?_ ?_)) <;> (conv => whnf) <;> (repeat' (exact rfl)) <;> ((first | exact wrow_eq hz.symm (contL_map (enc := ib) (fun _ => rfl) _) | (exact Or.inr ⟨rfl, rfl⟩))))
  · clear hW0 hz hIl hIm
    rintro ⟨i, full, I⟩ ⟨hi, hW, hf, hIl, hIm⟩
    dsimp only at hi hW hf hIl hIm
    (conv => whnf); (repeat (fail))
    refine KIf.dec (fun h => ?_) (fun h => ?_)
    · have hlt : i < v.rs.length := by omega
      have hel := hes _ (at_mem Rc.o v.rs i hlt)
      have hrr := hrf _ (at_mem Rc.o v.rs i hlt)
      rw [drop_at Rc.o _ i hlt] at hW
      obtain ⟨bt, hbt⟩ : ∃ b, decide ((0 : Int) < ((at_ Rc.o v.rs i).es.length : Nat)) = b := ⟨_, rfl⟩
      have hbt2 : (if 0 < (at_ Rc.o v.rs i).es.length then (1 : Int) else 0) = if bt then 1 else 0 := by
        rw [← hbt]
        by_cases hq : 0 < (at_ Rc.o v.rs i).es.length
        · rw [if_pos hq, if_pos (by rw [decide_eq_true_eq]; omega)]
        · rw [if_neg hq, if_neg (by rw [decide_eq_true_eq]; omega)]
      have hfs : 0 ≤ full + (if bt then (1 : Int) else 0) ∧ full + (if bt then (1 : Int) else 0) ≤ ((i + 1 : Nat) : Int) := by
        cases bt
        · rw [if_neg (by simp)]; omega
        · rw [if_pos rfl]; omega
      obtain ⟨full2, hfull2⟩ : ∃ f, f = full + (if bt then (1 : Int) else 0) := ⟨_, rfl⟩
      rw [← hfull2] at hfs
      have hsm : Small (full + if bt then (1 : Int) else 0) := by rw [← hfull2]; exact ⟨by omega, by omega⟩
      unfold lightR at hW
      rw [hbt2, ← hfull2] at hW
      (conv => whnf); (repeat (first | (refine Ex.Need.mk ?_ ?_; (first | omega | (simp only [Int.toNat_natCast]; ((constructor <;> omega)))); conv => whnf) | ((refine Ex.KCall.pure (Bit_k _) ?_); conv => whnf)))
      obtain ⟨R, hR⟩ : ∃ R, R = lightE I (at_ Rc.o v.rs i).es := ⟨_, rfl⟩
      rw [← hR] at hW
      have hR0 : lightE I ((at_ Rc.o v.rs i).es.drop 0) = R := hR.symm
      clear hR
      by_cases h8 : 8 < (at_ Rc.o v.rs i).es.length
      · rw [if_pos h8] at hW
        have h8' : (8 : Int) < ((at_ Rc.o v.rs i).es.length : Nat) := by omega
        rw [← hW]
        (conv => whnf); (repeat ((refine Ex.KIf.dt ?_ ?_; assumption; conv => whnf)))
        refine .z [] ?_
        exact Wz_refl rfl
      · rw [if_neg h8] at hW
        have h8' : ¬ (8 : Int) < ((at_ Rc.o v.rs i).es.length : Nat) := by omega
        (conv => whnf); (repeat ((refine Ex.KIf.df ?_ ?_; assumption; conv => whnf)))
        refine WLoop.inv kmix (D := Nat × List Int) (fun x => (at_ Rc.o v.rs i).es.length - x.1) (fun x => x.1 ≤ (at_ Rc.o v.rs i).es.length ∧ lightE x.2 ((at_ Rc.o v.rs i).es.drop x.1) = R ∧ x.2.length = 96 ∧ ∀ y ∈ x.2, 0 ≤ y ∧ y ≤ 2)
          (fun x => slots [(1, .ptr 0 0), (3, ib full2), (4, .sl 1 0 96 96), (5, ib i), (6, LS 4 aEn En.o (at_ Rc.o v.rs i).es), (7, ib x.1)] 67) (fun x => heapOf [.row (aPt v) 26 0, .row (x.2.map ib) 3 0]) (0, I) ⟨Nat.zero_le _, hR0, hIl, hIm⟩ ?_ ?_
        · (refine Ex.Weak.of [0, 1] [] rfl rfl ?_ ?_ <;> (repeat' (first | exact True.intro | refine And.intro ?_ ?_)) <;> (conv => whnf) <;> (repeat' (exact rfl)) <;> (first | (intro _ _; rfl) | (first | (first | exact Or.inr ⟨rfl, rfl⟩ | exact Or.inr ⟨rfl, Ck.contL_map (fun _ => rfl) _⟩) | (rw [hfull2, ← hbt]; rfl))))
        · clear hIl hIm hR0
          rintro ⟨k, J⟩ ⟨hk, hR, hJl, hJm⟩
          dsimp only at hk hR hJl hJm
          (conv => whnf); (repeat (fail))
          refine KIf.dec (fun h2 => ?_) (fun h2 => ?_)
          · have hlk : k < (at_ Rc.o v.rs i).es.length := by (try simp only [Int.toNat_natCast] at h2); omega
            have hxr := hrr _ (at_mem En.o (at_ Rc.o v.rs i).es k hlk)
            rw [drop_at En.o _ k hlk] at hR
            unfold lightE at hR
            have hix : 0 ≤ (at_ En.o (at_ Rc.o v.rs i).es k).f.r ∧ (at_ En.o (at_ Rc.o v.rs i).es k).f.r < (96 : Nat) := by omega
            have hoff : 0 + (at_ En.o (at_ Rc.o v.rs i).es k).f.r.toNat * 1 = (at_ En.o (at_ Rc.o v.rs i).es k).f.r.toNat := by omega
            have hj : (at_ En.o (at_ Rc.o v.rs i).es k).f.r.toNat < J.length := by omega
            obtain ⟨n, hn1⟩ : ∃ n, at_ 0 J (at_ En.o (at_ Rc.o v.rs i).es k).f.r.toNat = n := ⟨_, rfl⟩
            have hnb := hJm _ (at_mem 0 J (at_ En.o (at_ Rc.o v.rs i).es k).f.r.toNat hj)
            rw [hn1] at hnb hR
            have hsn : Small (n + 1) := by unfold Small; omega
            (conv => whnf); (repeat (first | (refine Ex.Need.mk (p := Ex.okDraw _ = true) ?_ ?_; decide +kernel; conv => whnf) | (refine Ex.Need.mk ?_ ?_; (first | trivial | omega); conv => whnf) | (refine Ex.RK.of (Ck.loadMx ib 0 n hn1 hoff rfl rfl hj) ?_; conv => whnf)))
            (refine Ck.storeM ib (n + 1) rfl hoff rfl rfl rfl rfl rfl hj ?_; conv => whnf)
            have hn2 : at_ 0 (J.set (at_ En.o (at_ Rc.o v.rs i).es k).f.r.toNat (n + 1)) (at_ En.o (at_ Rc.o v.rs i).es k).f.r.toNat = n + 1 := at_set_same _ _ _ _ hj
            have hj2 : (at_ En.o (at_ Rc.o v.rs i).es k).f.r.toNat < (J.set (at_ En.o (at_ Rc.o v.rs i).es k).f.r.toNat (n + 1)).length := by simpa using hj
            (conv => whnf); (repeat (first | (refine Ex.Need.mk ?_ ?_; (first | trivial | omega); conv => whnf) | (refine Ex.RK.of (Ck.loadMx ib 0 (n + 1) hn2 hoff rfl rfl hj2) ?_; conv => whnf)))
            by_cases h3 : 2 < n + 1
            · rw [if_pos h3] at hR
              rw [← hR] at hW
              rw [← hW]
              (conv => whnf); (repeat ((refine Ex.KIf.dt ?_ ?_; assumption; conv => whnf)))
              refine .z [] ?_
              exact Wz_refl rfl
            · rw [if_neg h3] at hR
              (conv => whnf); (repeat (first | (refine Ex.KIf.df ?_ ?_; assumption; conv => whnf) | (refine Ex.Need.mk ?_ ?_; ((constructor <;> omega)); conv => whnf)))
              refine ⟨(k + 1, J.set (at_ En.o (at_ Rc.o v.rs i).es k).f.r.toNat (n + 1)), ⟨hlk, hR, by simpa using hJl, fun y hy => ?_⟩, by dsimp only; omega, ?_⟩
              · rcases List.mem_or_eq_of_mem_set hy with h4 | h4
                · exact hJm y h4
                · omega
              · (refine Ex.Weak.of [0, 1] [] rfl rfl ?_ ?_ <;> (repeat' (first | exact True.intro | refine And.intro ?_ ?_)) <;> (conv => whnf) <;> (repeat' (exact rfl)) <;> (first | (intro _ _; rfl) | (first | exact Or.inr ⟨rfl, rfl⟩ | exact Or.inr ⟨rfl, Ck.contL_map (fun _ => rfl) _⟩)))
          · have hke : k = (at_ Rc.o v.rs i).es.length := by (try simp only [Int.toNat_natCast] at h2); omega
            rw [hke, List.drop_length] at hR
            have hR2 : R = some J := hR.symm
            rw [hR2] at hW
            (conv => whnf); (repeat ((refine Ex.Need.mk ?_ ?_; ((constructor <;> omega)); conv => whnf)))
            refine ⟨(i + 1, full2, J), ⟨hlt, hW, hfs, hJl, hJm⟩, by dsimp only; omega, ?_⟩
            (refine Ex.Weak.of [0, 1] [] rfl rfl ?_ ?_ <;> (repeat' (first | exact True.intro | refine And.intro ?_ ?_)) <;> (conv => whnf) <;> (repeat' (exact rfl)) <;> ((first | exact Or.inr ⟨rfl, rfl⟩ | exact Or.inr ⟨rfl, Ck.contL_map (fun _ => rfl) _⟩)))
    · have hie : i = v.rs.length := by omega
      rw [hie, List.drop_length] at hW
      have hW2 : W = decide (full ≤ 12) := hW.symm
      rw [hW2]
      (conv => whnf); (repeat (fail))
      refine .z [] ?_
      exact Wz_refl rfl
theorem Texts_k (a b : List (List UInt8)) (ha : a.length ≤ 100000) (hb : b.length ≤ 100000) : Ex.PureC Tryz.prog 19 [LS 1 aT [] a, LS 1 aT [] b] (bb (decide (a = b))) := by
  refine Ex.PureC.of kmix rfl ?_
  conv => whnf
  by_cases h : a.length = b.length
  · (conv => whnf); (repeat ((refine KIf.f (by simp [h]) ?_; conv => whnf)))
    refine WLoop.inv kmix (D := Nat) (fun d => a.length - d) (fun d => d ≤ a.length ∧ ∀ i, i < d → at_ [] a i = at_ [] b i) (fun d => slots [(0, LS 1 aT [] a), (1, LS 1 aT [] b), (4, bb false), (5, ib d)] 26) (fun d => heapOf []) 0 ⟨Nat.zero_le _, fun i hi => absurd hi (Nat.not_lt_zero _)⟩ ?_ ?_
    · (refine Ex.Weak.of [] [] rfl rfl ?_ ?_ <;> (repeat' (first | exact True.intro | refine And.intro ?_ ?_)) <;> (conv => whnf) <;> (repeat' (exact rfl)) <;> ((intro _ _; rfl)))
    · rintro d ⟨hd, hs⟩
      conv => whnf
      refine KIf.dec (fun hlt => ?_) (fun hlt => ?_)
      · have h1 : d < a.length := by omega
        have h2 : d < b.length := by omega
        by_cases he : at_ [] a d = at_ [] b d
        · skip
          (conv => whnf); (repeat (first | (refine Ex.Need.mk (p := Ex.okDraw _ = true) ?_ ?_; decide +kernel; conv => whnf) | (refine Ex.Need.mk ?_ ?_; (first | omega | (constructor <;> omega)); conv => whnf) | (refine KIf.f (by simp [he]) ?_; conv => whnf)))
          refine ⟨d + 1, ⟨h1, fun i hi => ?_⟩, by dsimp only; omega, ?_⟩
          · rcases Nat.lt_or_ge i d with h3 | h3
            · exact hs i h3
            · rw [show i = d by omega]; exact he
          · (refine Ex.Weak.of [] [] rfl rfl ?_ ?_ <;> (repeat' (first | exact True.intro | refine And.intro ?_ ?_)) <;> (conv => whnf) <;> (repeat' (exact rfl)) <;> ((intro _ _; rfl)))
        · have hne : a ≠ b := fun e => he (by rw [e])
          (conv => whnf); (repeat (first | (refine Ex.Need.mk (p := Ex.okDraw _ = true) ?_ ?_; decide +kernel; conv => whnf) | (refine Ex.Need.mk ?_ ?_; (omega); conv => whnf) | (refine KIf.t (by simp [he]) ?_; conv => whnf)))
          (refine .z [] ?_; conv => whnf); (repeat' (fail)) <;> (try (conv => whnf)) <;> (repeat' (fail)) <;> ((exact decide_eq_false hne))
      · have hab : a = b := (ix_ext [] h.symm fun i hi => hs i (by omega)).symm
        (conv => whnf); (repeat (fail))
        (refine .z [] ?_; conv => whnf); (repeat' (fail)) <;> (try (conv => whnf)) <;> (repeat' (fail)) <;> ((exact decide_eq_true hab))
  · have hne : a ≠ b := fun e => h (by rw [e])
    (conv => whnf); (repeat ((refine KIf.t (by simp; omega) ?_; conv => whnf)))
    (refine .z [] ?_; conv => whnf); (repeat' (fail)) <;> (try (conv => whnf)) <;> (repeat' (fail)) <;> ((exact decide_eq_false hne))
theorem PathsIn_some (v : Pt) (h : FitP v) (he : Ck.partsErr v = 0) (l : List (List UInt8)) (hp : Ck.pathsIn v = some l) : Ex.PureC Tryz.prog 15 [aPts v] (.tup [LS 1 aT [] l, ib 0]) := by
  have hv := Valid.of he
  have hens := hv.ens
  have hwb := walkB v h.f.rs h.f.es (fun x hx e hx2 => (hens x hx e hx2).1.1) hv.root.1
  have hpre := walk_pre v 24 5 [] [[47]]
  unfold Ck.pathsIn at hp
  obtain ⟨⟨W1, W2⟩, hW⟩ : ∃ w, w = walk v 24 5 [] [[47]] := ⟨_, rfl⟩
  rw [← hW] at hwb hpre hp
  clear hW
  dsimp only at hwb hpre hp
  obtain ⟨t, rfl⟩ := hpre
  have hW2 : W2 = true := by cases W2 with | true => rfl | false => simp at hp
  subst hW2
  obtain rfl : l = [[47]] ++ t := by simpa using hp.symm
  cases t with
  | nil =>
    refine Ex.PureC.of kmix rfl ?_
    (conv => whnf); (repeat (first | ((refine Ex.KCall.pure (partsErr_k v h) ?_); conv => whnf) | (refine KIf.f (congrArg Bool.not (decide_eq_true he)) ?_; conv => whnf)))
    (refine KCall.lift [2, 1] [] (bb true) [.row [ib v.c, LS 2 aRun Run.o v.al, LS 10 aRc Rc.o v.rs, LS 1 aI 0 v.ds, tb v.mp, .sl 3 0 1 1] 101 0, .row [tb [47]] 9 0] (hwb) rfl ?_ ?_ ?_ ?_; (focus ((repeat' (first | exact True.intro | refine And.intro ?_ ?_)) <;> (conv => whnf) <;> (repeat' (fail)) <;> ((first | exact Or.inr ⟨rfl, rfl⟩ | (refine Or.inl ⟨rfl, ?_⟩; (conv => whnf); (repeat' (first | exact True.intro | exact rfl | refine And.intro ?_ ?_)) <;> (try (conv => whnf)) <;> (repeat' (fail)) <;> ((intro _ _; rfl))))))); (focus ((repeat' (first | exact True.intro | exact rfl | refine And.intro ?_ ?_)) <;> (try (conv => whnf)) <;> (repeat' (fail)))); (focus ((repeat' (first | exact True.intro | exact rfl | refine And.intro ?_ ?_)) <;> (try (conv => whnf)) <;> (repeat' (fail)) <;> (first | exact Or.inr ⟨rfl, rfl⟩ | ((refine Or.inl ?_); (repeat' (first | exact True.intro | exact rfl | refine And.intro ?_ ?_)) <;> (try (conv => whnf)) <;> (repeat' (fail)))))); (conv => whnf))
    (conv => whnf); (repeat ((refine Ex.KIf.f rfl ?_; conv => whnf)))
    refine .z [3] ?_
    conv => whnf
    exact ⟨Wz.ownS (f := fun i => aT (at_ [] [[47]] i)) rfl (by simp) rfl (Nat.le_refl _) (fun _ _ => rfl) rfl (fun _ _ => rfl), Wz_refl rfl, trivial⟩
  | cons b t =>
    refine Ex.PureC.of kmix rfl ?_
    (conv => whnf); (repeat (first | ((refine Ex.KCall.pure (partsErr_k v h) ?_); conv => whnf) | (refine KIf.f (congrArg Bool.not (decide_eq_true he)) ?_; conv => whnf)))
    (refine KCall.lift [2, 1] [] (bb true) [.row [ib v.c, LS 2 aRun Run.o v.al, LS 10 aRc Rc.o v.rs, LS 1 aI 0 v.ds, tb v.mp, .so 3 0 ([47] :: b :: t).length 0] 101 0, .row (([47] :: b :: t).map tb) 9 1] (hwb) rfl ?_ ?_ ?_ ?_; (focus ((repeat' (first | exact True.intro | refine And.intro ?_ ?_)) <;> (conv => whnf) <;> (repeat' (fail)) <;> ((first | exact Or.inr ⟨rfl, rfl⟩ | (refine Or.inl ⟨rfl, ?_⟩; (conv => whnf); (repeat' (first | exact True.intro | exact rfl | refine And.intro ?_ ?_)) <;> (try (conv => whnf)) <;> (repeat' (fail)) <;> ((intro _ _; rfl))))))); (focus ((repeat' (first | exact True.intro | exact rfl | refine And.intro ?_ ?_)) <;> (try (conv => whnf)) <;> (repeat' (fail)))); (focus ((repeat' (first | exact True.intro | exact rfl | refine And.intro ?_ ?_)) <;> (try (conv => whnf)) <;> (repeat' (fail)) <;> (first | exact Or.inr ⟨rfl, Ck.contL_map (fun _ => rfl) _⟩ | ((refine Or.inl ?_); (repeat' (first | exact True.intro | exact rfl | refine And.intro ?_ ?_)) <;> (try (conv => whnf)) <;> (repeat' (fail)))))); (conv => whnf))
    (conv => whnf); (repeat ((refine Ex.KIf.f rfl ?_; conv => whnf)))
    refine .z [3] ?_
    conv => whnf
    exact ⟨Wz.own rfl (by simp) rfl (fun _ _ => rfl) (map_flat tb [] ([47] :: b :: t)) (fun _ _ => rfl), Wz_refl rfl, trivial⟩
theorem PathsIn_none (v : Pt) (h : FitP v) (he : Ck.partsErr v = 0) (hp : Ck.pathsIn v = none) : Ex.PureC Tryz.prog 15 [aPts v] (.tup [LS 1 aT [] [], ib 8]) := by
  have hv := Valid.of he
  have hens := hv.ens
  have hwb := walkB v h.f.rs h.f.es (fun x hx e hx2 => (hens x hx e hx2).1.1) hv.root.1
  have hpre := walk_pre v 24 5 [] [[47]]
  unfold Ck.pathsIn at hp
  obtain ⟨⟨W1, W2⟩, hW⟩ : ∃ w, w = walk v 24 5 [] [[47]] := ⟨_, rfl⟩
  rw [← hW] at hwb hpre hp
  clear hW
  dsimp only at hwb hpre hp
  obtain ⟨t, rfl⟩ := hpre
  have hW2 : W2 = false := by cases W2 with | false => rfl | true => simp at hp
  subst hW2
  cases t with
  | nil =>
    refine Ex.PureC.of kmix rfl ?_
    (conv => whnf); (repeat (first | ((refine Ex.KCall.pure (partsErr_k v h) ?_); conv => whnf) | (refine KIf.f (congrArg Bool.not (decide_eq_true he)) ?_; conv => whnf)))
    (refine KCall.lift [2, 1] [] (bb false) [.row [ib v.c, LS 2 aRun Run.o v.al, LS 10 aRc Rc.o v.rs, LS 1 aI 0 v.ds, tb v.mp, .sl 3 0 1 1] 101 0, .row [tb [47]] 9 0] (hwb) rfl ?_ ?_ ?_ ?_; (focus ((repeat' (first | exact True.intro | refine And.intro ?_ ?_)) <;> (conv => whnf) <;> (repeat' (fail)) <;> ((first | exact Or.inr ⟨rfl, rfl⟩ | (refine Or.inl ⟨rfl, ?_⟩; (conv => whnf); (repeat' (first | exact True.intro | exact rfl | refine And.intro ?_ ?_)) <;> (try (conv => whnf)) <;> (repeat' (fail)) <;> ((intro _ _; rfl))))))); (focus ((repeat' (first | exact True.intro | exact rfl | refine And.intro ?_ ?_)) <;> (try (conv => whnf)) <;> (repeat' (fail)))); (focus ((repeat' (first | exact True.intro | exact rfl | refine And.intro ?_ ?_)) <;> (try (conv => whnf)) <;> (repeat' (fail)) <;> (first | exact Or.inr ⟨rfl, rfl⟩ | ((refine Or.inl ?_); (repeat' (first | exact True.intro | exact rfl | refine And.intro ?_ ?_)) <;> (try (conv => whnf)) <;> (repeat' (fail)))))); (conv => whnf))
    (conv => whnf); (repeat ((refine Ex.KIf.t rfl ?_; conv => whnf)))
    refine .z [] ?_
    exact ⟨Wz.nil rfl, Wz_refl rfl, trivial⟩
  | cons b t =>
    refine Ex.PureC.of kmix rfl ?_
    (conv => whnf); (repeat (first | ((refine Ex.KCall.pure (partsErr_k v h) ?_); conv => whnf) | (refine KIf.f (congrArg Bool.not (decide_eq_true he)) ?_; conv => whnf)))
    (refine KCall.lift [2, 1] [] (bb false) [.row [ib v.c, LS 2 aRun Run.o v.al, LS 10 aRc Rc.o v.rs, LS 1 aI 0 v.ds, tb v.mp, .so 3 0 ([47] :: b :: t).length 0] 101 0, .row (([47] :: b :: t).map tb) 9 1] (hwb) rfl ?_ ?_ ?_ ?_; (focus ((repeat' (first | exact True.intro | refine And.intro ?_ ?_)) <;> (conv => whnf) <;> (repeat' (fail)) <;> ((first | exact Or.inr ⟨rfl, rfl⟩ | (refine Or.inl ⟨rfl, ?_⟩; (conv => whnf); (repeat' (first | exact True.intro | exact rfl | refine And.intro ?_ ?_)) <;> (try (conv => whnf)) <;> (repeat' (fail)) <;> ((intro _ _; rfl))))))); (focus ((repeat' (first | exact True.intro | exact rfl | refine And.intro ?_ ?_)) <;> (try (conv => whnf)) <;> (repeat' (fail)))); (focus ((repeat' (first | exact True.intro | exact rfl | refine And.intro ?_ ?_)) <;> (try (conv => whnf)) <;> (repeat' (fail)) <;> (first | exact Or.inr ⟨rfl, Ck.contL_map (fun _ => rfl) _⟩ | ((refine Or.inl ?_); (repeat' (first | exact True.intro | exact rfl | refine And.intro ?_ ?_)) <;> (try (conv => whnf)) <;> (repeat' (fail)))))); (conv => whnf))
    (conv => whnf); (repeat ((refine Ex.KIf.t rfl ?_; conv => whnf)))
    refine .z [] ?_
    exact ⟨Wz.nil rfl, Wz_refl rfl, trivial⟩
theorem rPaths_k (v : Pt) (h : FitP v) (he : Ck.partsErr v = 0) : Ex.PureC Tryz.prog 18 [aPts v] (LS 1 aT [] (rp v 24 5 [47])) := by
  have hv := Valid.of he
  have hens := hv.ens
  have hd := hv.root.1
  have hb := rpB v h.f.rs h.f.es (fun x hx e hx2 => (hens x hx e hx2).1) (by omega)
  refine Ex.PureC.of kmix rfl ?_
  (conv => whnf); (repeat (((refine Ex.KCall.pure (hb) ?_); conv => whnf)))
  refine .z [] ?_
  exact Wz_refl rfl
theorem light_b (v : Pt) {b : Bool} (hb : Ck.light v = b) (hn : v.rs.length ≤ 100000) (hes : ∀ x ∈ v.rs, x.es.length ≤ 100000) (hrf : ∀ x ∈ v.rs, ∀ e ∈ x.es, 0 ≤ e.f.r ∧ e.f.r ≤ 95) : Ex.PureC Tryz.prog 17 [aPts v] (bb b) := by
  rw [← hb]; exact light_k v hn hes hrf
theorem CheckerPaths_k (v : Pt) : Ex.PureC Tryz.prog 4 [aPts v] (bb true) := by
  obtain ⟨fw, hfew⟩ : ∃ b, fewP v = b := ⟨_, rfl⟩
  cases fw
  · refine Ex.PureC.of kmix rfl ?_
    (conv => whnf); (repeat (first | (refine Ex.KIf.t rfl ?_; conv => whnf) | (refine Ex.KIf.f rfl ?_; conv => whnf) | ((refine Ex.KCall.pure (awake_k) ?_); conv => whnf) | ((refine Ex.KCall.pure (few_b v hfew) ?_); conv => whnf)))
    refine .z [] ?_
    exact Wz_refl rfl
  have h := few_fitP hfew
  by_cases he : Ck.partsErr v = 0
  · have hv := Valid.of he
    have hens := hv.ens
    have hrf : ∀ x ∈ v.rs, ∀ e ∈ x.es, 0 ≤ e.f.r ∧ e.f.r ≤ 95 := fun x hx e hx2 => (hens x hx e hx2).2
    have hpe := paths_eq v (fun x hx e hx2 => (hens x hx e hx2).1.2)
    have hrl := rp_le v 24 5 [47]
    obtain ⟨lb, hl⟩ : ∃ b, Ck.light v = b := ⟨_, rfl⟩
    by_cases hq : (rp v 24 5 [47]).length ≤ 500
    · rw [if_pos hq] at hpe
      have hq' : ¬ (500 : Int) < ((rp v 24 5 [47]).length : Nat) := by omega
      refine Ex.PureC.of kmix rfl ?_
      (conv => whnf); (repeat (first | (refine Ex.KIf.f rfl ?_; conv => whnf) | ((refine Ex.KCall.pure (awake_k) ?_); conv => whnf) | ((refine Ex.KCall.pure (few_b v hfew) ?_); conv => whnf) | ((refine Ex.KCall.pure (Copy_k v h.f) ?_); conv => whnf) | ((refine Ex.KCall.pure (PathsIn_some v h he _ hpe) ?_); conv => whnf) | ((refine Ex.KCall.pure (rErr_k v h) ?_); conv => whnf) | (refine KIf.f (congrArg Bool.not (decide_eq_true he)) ?_; conv => whnf) | ((refine Ex.KCall.pure (light_b v hl h.f.rs h.f.es hrf) ?_); conv => whnf)))
      cases lb
      · (conv => whnf); (repeat ((refine Ex.KIf.t rfl ?_; conv => whnf)))
        refine .z [] ?_
        exact Wz_refl rfl
      · (conv => whnf); (repeat (first | (refine Ex.KIf.df ?_ ?_; assumption; conv => whnf) | (refine Ex.KIf.t rfl ?_; conv => whnf) | (refine Ex.KIf.f rfl ?_; conv => whnf) | ((refine Ex.KCall.pure (rPaths_k v h he) ?_); conv => whnf) | ((refine Ex.KCall.pure (Texts_k _ _ (by omega) (by omega)) ?_); conv => whnf)))
        (refine .z [] ?_; conv => whnf); (repeat' (fail)) <;> (try (conv => whnf)) <;> (repeat' (fail)) <;> ((simp; done))
    · rw [if_neg hq] at hpe
      have hq' : (500 : Int) < ((rp v 24 5 [47]).length : Nat) := by omega
      refine Ex.PureC.of kmix rfl ?_
      (conv => whnf); (repeat (first | (refine Ex.KIf.f rfl ?_; conv => whnf) | ((refine Ex.KCall.pure (awake_k) ?_); conv => whnf) | ((refine Ex.KCall.pure (few_b v hfew) ?_); conv => whnf) | ((refine Ex.KCall.pure (Copy_k v h.f) ?_); conv => whnf) | ((refine Ex.KCall.pure (PathsIn_none v h he hpe) ?_); conv => whnf) | ((refine Ex.KCall.pure (rErr_k v h) ?_); conv => whnf) | (refine KIf.f (congrArg Bool.not (decide_eq_true he)) ?_; conv => whnf) | ((refine Ex.KCall.pure (light_b v hl h.f.rs h.f.es hrf) ?_); conv => whnf)))
      cases lb
      · (conv => whnf); (repeat ((refine Ex.KIf.t rfl ?_; conv => whnf)))
        refine .z [] ?_
        exact Wz_refl rfl
      · (conv => whnf); (repeat (first | (refine Ex.KIf.dt ?_ ?_; assumption; conv => whnf) | (refine Ex.KIf.t rfl ?_; conv => whnf) | (refine Ex.KIf.f rfl ?_; conv => whnf) | ((refine Ex.KCall.pure (rPaths_k v h he) ?_); conv => whnf)))
        refine .z [] ?_
        exact Wz_refl rfl
  · refine Ex.PureC.of kmix rfl ?_
    (conv => whnf); (repeat (first | (refine Ex.KIf.f rfl ?_; conv => whnf) | ((refine Ex.KCall.pure (awake_k) ?_); conv => whnf) | ((refine Ex.KCall.pure (few_b v hfew) ?_); conv => whnf) | ((refine Ex.KCall.pure (Copy_k v h.f) ?_); conv => whnf) | ((refine Ex.KCall.pure (PathsIn_bad v h he) ?_); conv => whnf) | ((refine Ex.KCall.pure (rErr_k v h) ?_); conv => whnf) | (refine KIf.t (congrArg Bool.not (decide_eq_false he)) ?_; conv => whnf) | (refine KIf.t (decide_eq_true rfl) ?_; conv => whnf)))
    (refine .z [] ?_; conv => whnf); (repeat' (exact rfl)) <;> (try (conv => whnf)) <;> (repeat' (fail)) <;> (fail)
end Go.Proofs.YtgcjejajljhnaaaGreatDoor
