/- Own text, part Lks 1: walks of the package acl and of its reference, and the plain laws that they lean on; no statement of the seat is here. -/
import Derived.Test.YtgcjejajljhnaaaGreatDoorRoot1
import Derived.Test.YtgcjejajljhnaaaGreatDoorRoot6
import Derived.Test.YtgcjejajljhnaaaGreatDoorRoot7
set_option linter.all false
namespace Ck
def bsum (f : Nat → Bool) (j : Nat) : Nat → Nat
  | 0 => 0
  | k + 1 => bsum f j k + (if f (8 * j + k) then 2 ^ k else 0)
theorem bsum_lt (f : Nat → Bool) (j : Nat) : ∀ m, bsum f j m < 2 ^ m
  | 0 => by simp [bsum]
  | m + 1 => by
    have := bsum_lt f j m
    unfold bsum
    rw [Nat.pow_succ]
    split <;> omega
theorem bsum_bit (f : Nat → Bool) (j : Nat) : ∀ m k, k < m → (bsum f j m).testBit k = f (8 * j + k)
  | 0, k, h => by omega
  | m + 1, k, h => by
    unfold bsum
    have hl := bsum_lt f j m
    by_cases hk : k < m
    · rw [← bsum_bit f j m k hk]
      split
      · rw [Nat.add_comm, Nat.testBit_two_pow_add_gt hk]
      · rw [Nat.add_zero]
    · obtain rfl : k = m := by omega
      split
      · rename_i h1
        rw [Nat.add_comm, Nat.testBit_two_pow_add_eq, Nat.testBit_lt_two_pow hl, h1]
        rfl
      · rename_i h1
        rw [Nat.add_zero, Nat.testBit_lt_two_pow hl]
        simpa using h1
theorem bsum_add (f g : Nat → Bool) (c : Nat) (hc : f c = false) (hg : ∀ i, g i = if i = c then true else f i) : ∀ m, m ≤ 8 → bsum g (c / 8) m = bsum f (c / 8) m + if c % 8 < m then 2 ^ (c % 8) else 0
  | 0, _ => by simp [bsum]
  | m + 1, h8 => by
    have ih := bsum_add f g c hc hg m (by omega)
    show bsum g (c / 8) m + (if g (8 * (c / 8) + m) then 2 ^ m else 0) = bsum f (c / 8) m + (if f (8 * (c / 8) + m) then 2 ^ m else 0) + _
    rw [ih]
    by_cases h1 : c % 8 = m
    · have e2 : 8 * (c / 8) + m = c := by omega
      rw [e2, hg, if_pos rfl, hc, h1, if_neg (Nat.lt_irrefl _), if_pos (Nat.lt_succ_self _)]
      simp
    · have e2 : 8 * (c / 8) + m ≠ c := by omega
      rw [hg, if_neg e2]
      by_cases h2 : c % 8 < m
      · rw [if_pos h2, if_pos (show c % 8 < m + 1 by omega)]; omega
      · rw [if_neg h2, if_neg (show ¬ c % 8 < m + 1 by omega)]; omega
theorem bsum_one {f g : Nat → Bool} {c : Nat} (hc : f c = false) (hg : ∀ i, g i = if i = c then true else f i) : bsum g (c / 8) 8 = bsum f (c / 8) 8 + 2 ^ (c % 8) := by
  rw [bsum_add f g c hc hg 8 (Nat.le_refl _), if_pos (Nat.mod_lt _ (by omega))]
theorem bsum_same {f g : Nat → Bool} {j : Nat} : ∀ m, m ≤ 8 → (∀ k, k < 8 → g (8 * j + k) = f (8 * j + k)) → bsum g j m = bsum f j m
  | 0, _, _ => rfl
  | m + 1, h, hg => by
    unfold bsum
    rw [bsum_same m (by omega) hg, hg m (by omega)]
def byteB (f : Nat → Bool) (j : Nat) : UInt8 := UInt8.ofNat (bsum f j 8)
theorem byteB_nat (f : Nat → Bool) (j : Nat) : (byteB f j).toNat = bsum f j 8 := by
  have := bsum_lt f j 8
  unfold byteB
  rw [UInt8.toNat_ofNat']
  exact Nat.mod_eq_of_lt this
def bytesF (n : Nat) (f : Nat → Bool) : List UInt8 := (List.range n).map (byteB f)
def bytesB (n : Nat) (t : List Bool) : List UInt8 := bytesF n (at_ false t)
theorem bytesF_len (n : Nat) (f : Nat → Bool) : (bytesF n f).length = n := by simp [bytesF]
theorem bytesF_at (n : Nat) (f : Nat → Bool) (j : Nat) (h : j < n) : at_ 0 (bytesF n f) j = byteB f j := by
  rw [at_eq _ _ _ (by rw [bytesF_len]; exact h)]
  simp [bytesF]
theorem bytesF_set (n : Nat) (f g : Nat → Bool) (c : Nat) (b : UInt8) (hn : c / 8 < n) (hg : ∀ i, g i = if i = c then true else f i) (hb : b = byteB g (c / 8)) : (bytesF n f).set (c / 8) b = bytesF n g := by
  apply List.ext_getElem (by simp [bytesF])
  intro j h1 h2
  have hj : j < n := by simpa [bytesF] using h2
  rw [List.getElem_set]
  split
  · rename_i e
    subst e
    rw [hb]
    simp [bytesF]
  · rename_i e
    simp only [bytesF, List.getElem_map, List.getElem_range]
    unfold byteB
    rw [bsum_same (f := f) (g := g) 8 (Nat.le_refl _) (fun k hk => by rw [hg, if_neg (by omega)])]
theorem or_bit (x k : Nat) (h : x.testBit k = false) : x ||| 2 ^ k = x + 2 ^ k := by
  rw [Nat.add_comm, Nat.or_comm]
  apply Nat.eq_of_testBit_eq
  intro i
  rw [Nat.testBit_or, Nat.testBit_two_pow]
  by_cases hi : i < k
  · rw [Nat.testBit_two_pow_add_gt hi]
    simp
    intro h2; omega
  · by_cases he : i = k
    · subst he
      rw [Nat.testBit_two_pow_add_eq, h]
      simp
    · have hi : k < i := by omega
      rw [show decide (k = i) = false by simp; omega, Bool.false_or]
      obtain ⟨d, rfl⟩ : ∃ d, i = k + 1 + d := ⟨i - k - 1, by omega⟩
      rw [Nat.testBit_eq_decide_div_mod_eq, Nat.testBit_eq_decide_div_mod_eq]
      congr 2
      have hx : x / 2 ^ k % 2 = 0 := by
        rw [Nat.testBit_eq_decide_div_mod_eq] at h
        have := of_decide_eq_false h
        omega
      have e1 : ∀ y : Nat, y / 2 ^ (k + 1 + d) = y / 2 ^ k / 2 / 2 ^ d := by
        intro y
        rw [Nat.pow_add, Nat.pow_succ, ← Nat.div_div_eq_div_mul, ← Nat.div_div_eq_div_mul]
      rw [e1, e1]
      congr 2
      have : (2 ^ k + x) / 2 ^ k = x / 2 ^ k + 1 := by
        rw [Nat.add_comm, Nat.add_div_right _ (Nat.two_pow_pos k)]
      rw [this]
      omega
theorem or_same (x k : Nat) (h : x.testBit k = true) : x ||| 2 ^ k = x := by
  apply Nat.eq_of_testBit_eq
  intro i
  rw [Nat.testBit_or, Nat.testBit_two_pow]
  by_cases he : k = i
  · subst he; rw [h]; rfl
  · simp [he]
theorem setBit_bytes (n : Nat) (t : List Bool) (c : Nat) (hc : c < t.length) (hn : c / 8 < n) : setBit (bytesB n t) c = bytesB n (t.set c true) := by
  have hg : ∀ i, at_ false (t.set c true) i = if i = c then true else at_ false t i := fun i => by
    by_cases h : i = c
    · subst h; rw [if_pos rfl, at_set_same _ _ _ _ hc]
    · rw [if_neg h, at_set_ne _ _ _ _ _ (fun e => h e.symm)]
  unfold setBit bytesB
  refine bytesF_set n _ _ c _ hn hg ?_
  rw [bytesF_at _ _ _ hn]
  have h8 : c % 8 < 8 := Nat.mod_lt _ (by omega)
  have hp : 2 ^ (c % 8) < 256 := Nat.lt_of_lt_of_le (Nat.pow_lt_pow_right (by omega) h8) (Nat.le_refl _)
  have hb : (bsum (at_ false t) (c / 8) 8).testBit (c % 8) = at_ false t c := by
    rw [bsum_bit _ _ _ _ h8, show 8 * (c / 8) + c % 8 = c by omega]
  apply UInt8.toNat_inj.1
  rw [UInt8.toNat_or, byteB_nat, byteB_nat, UInt8.toNat_ofNat', Nat.mod_eq_of_lt hp]
  cases h : at_ false t c with
  | true =>
    rw [h] at hb
    rw [or_same _ _ hb]
    have : at_ false (t.set c true) = at_ false t := funext fun i => by
      rw [hg]; split
      · rename_i e; rw [e, h]
      · rfl
    rw [this]
  | false =>
    rw [h] at hb
    rw [or_bit _ _ hb, bsum_one h hg]
theorem addBit_bytes (n : Nat) (t : List Bool) (c : Nat) (hc : c < t.length) (hn : c / 8 < n) (ht : at_ false t c = true) :
    ((bytesB n (t.take c)).set (c / 8) (at_ 0 (bytesB n (t.take c)) (c / 8) + UInt8.ofNat (2 ^ (c % 8)))) = bytesB n (t.take (c + 1)) := by
  have hz : at_ false (t.take c) c = false := by
    unfold at_; rw [List.getElem?_eq_none (by simp; omega)]; rfl
  have hg : ∀ i, at_ false (t.take (c + 1)) i = if i = c then true else at_ false (t.take c) i := fun i => by
    unfold at_ at ht ⊢
    rw [List.getElem?_take, List.getElem?_take]
    by_cases h : i = c
    · subst h; rw [if_pos rfl, if_pos (Nat.lt_succ_self _)]; exact ht
    · rw [if_neg h]
      by_cases h2 : i < c
      · rw [if_pos h2, if_pos (show i < c + 1 by omega)]
      · rw [if_neg h2, if_neg (show ¬ i < c + 1 by omega)]
  unfold bytesB
  refine bytesF_set n _ _ c _ hn hg ?_
  rw [bytesF_at _ _ _ hn]
  have h8 : c % 8 < 8 := Nat.mod_lt _ (by omega)
  have hp : 2 ^ (c % 8) < 256 := Nat.lt_of_lt_of_le (Nat.pow_lt_pow_right (by omega) h8) (Nat.le_refl _)
  apply UInt8.toNat_inj.1
  have h1 := bsum_one hz hg
  have h2 := bsum_lt (at_ false (t.take (c + 1))) (c / 8) 8
  rw [UInt8.toNat_add, byteB_nat, byteB_nat, UInt8.toNat_ofNat', Nat.mod_eq_of_lt hp, ← h1, Nat.mod_eq_of_lt h2]
theorem noBit_bytes (n : Nat) (t : List Bool) (c : Nat) (ht : at_ false t c = false) : bytesB n (t.take c) = bytesB n (t.take (c + 1)) := by
  unfold bytesB
  congr 1
  funext i
  unfold at_ at ht ⊢
  rw [List.getElem?_take, List.getElem?_take]
  by_cases h2 : i < c
  · rw [if_pos h2, if_pos (show i < c + 1 by omega)]
  · rw [if_neg h2]
    by_cases h3 : i = c
    · subst h3; rw [if_pos (Nat.lt_succ_self _), ht]; rfl
    · rw [if_neg (show ¬ i < c + 1 by omega)]
def runT (c : Int) (r : Run) (t : List Bool) : List Bool := it (fun t k => if r.s ≠ -1 ∧ r.s + k < c then t.set (r.s + k).toNat true else t) t r.l.toNat
def runsT (c : Int) (l : List Run) (t : List Bool) : List Bool := it (fun t i => runT c (at_ Run.o l i) t) t l.length
def smsT (c : Int) (l : List Sm) (t : List Bool) : List Bool := it (fun t i => runsT c (at_ Sm.o l i).r t) t l.length
def usedT (v : Pt) : List Bool := it (fun t i => smsT v.c (at_ Rc.o v.rs i).ss t) (runsT v.c v.al (List.replicate v.c.toNat false)) v.rs.length
theorem it_len {α : Type} {f : List α → Nat → List α} (hf : ∀ t k, (f t k).length = t.length) (t : List α) : ∀ n, (it f t n).length = t.length
  | 0 => rfl
  | n + 1 => by show (f (it f t n) n).length = _; rw [hf, it_len hf t n]
theorem runT_len (c : Int) (r : Run) (t : List Bool) : (runT c r t).length = t.length := it_len (fun t k => by split <;> simp) t _
theorem runsT_len (c : Int) (l : List Run) (t : List Bool) : (runsT c l t).length = t.length := it_len (fun t k => runT_len _ _ _) t _
theorem smsT_len (c : Int) (l : List Sm) (t : List Bool) : (smsT c l t).length = t.length := it_len (fun t k => runsT_len _ _ _) t _
theorem usedT_len (v : Pt) : (usedT v).length = v.c.toNat := by
  unfold usedT
  rw [it_len (fun t k => smsT_len _ _ _), runsT_len, List.length_replicate]
theorem it_rel {S T : Type} {f : S → Nat → S} {g : T → Nat → T} (R : S → T → Prop) {s : S} {t : T} (h0 : R s t) : ∀ n, (∀ s t k, k < n → R s t → R (f s k) (g t k)) → R (it f s n) (it g t n)
  | 0, _ => h0
  | n + 1, h => h _ _ n (by omega) (it_rel R h0 n fun s t k hk => h s t k (by omega))
theorem it_congr {S : Type} {f g : S → Nat → S} (s : S) : ∀ n, (∀ s k, k < n → f s k = g s k) → it f s n = it g s n
  | 0, _ => rfl
  | n + 1, h => by show f (it f s n) n = g (it g s n) n; rw [it_congr s n fun s k hk => h s k (by omega), h _ _ (by omega)]
def BitsOf (c : Int) (b : List UInt8) (t : List Bool) : Prop := b = bytesB ((c + 7) / 8).toNat t ∧ t.length = c.toNat
theorem mark1_bits {c : Int} (r : Run) (hs : -1 ≤ r.s) {b : List UInt8} {t : List Bool} (k : Nat) (h : BitsOf c b t) : BitsOf c (mark1 c r b k) (if r.s ≠ -1 ∧ r.s + k < c then t.set (r.s + k).toNat true else t) := by
  obtain ⟨rfl, hl⟩ := h
  unfold mark1
  split
  · rename_i hc
    refine ⟨setBit_bytes _ _ _ (by omega) (by omega), by simpa using hl⟩
  · exact ⟨rfl, hl⟩
theorem mark_bits {c : Int} (l : List Run) (hs : ∀ r ∈ l, -1 ≤ r.s) {b : List UInt8} {t : List Bool} (h : BitsOf c b t) : BitsOf c (mark c l b) (runsT c l t) :=
  it_rel (BitsOf c) h _ fun b t i hi h => it_rel (BitsOf c) h _ fun b t k _ h => mark1_bits _ (hs _ (at_mem _ _ _ hi)) k h
theorem markRec_bits {c : Int} (x : Rc) (hs : ∀ s ∈ x.ss, ∀ r ∈ s.r, -1 ≤ r.s) {b : List UInt8} {t : List Bool} (h : BitsOf c b t) : BitsOf c (markRec c x b) (smsT c x.ss t) :=
  it_rel (BitsOf c) h _ fun b t i hi h => mark_bits _ (hs _ (at_mem _ _ _ hi)) h
theorem used_bits (v : Pt) (ha : ∀ r ∈ v.al, -1 ≤ r.s) (hs : ∀ x ∈ v.rs, ∀ s ∈ x.ss, ∀ r ∈ s.r, -1 ≤ r.s) : BitsOf v.c (used v) (usedT v) := by
  refine it_rel (BitsOf v.c) (mark_bits _ ha ⟨?_, by simp⟩) _ fun b t i hi h => markRec_bits _ (hs _ (at_mem _ _ _ hi)) h
  unfold bytesB bytesF
  apply List.ext_getElem (by simp)
  intro j h1 h2
  have e : byteB (at_ false (List.replicate v.c.toNat false)) j = 0 := by
    apply UInt8.toNat_inj.1
    rw [byteB_nat]
    have : ∀ m, bsum (at_ false (List.replicate v.c.toNat false)) j m = 0 := by
      intro m
      induction m with
      | zero => rfl
      | succ m ih =>
        unfold bsum
        rw [ih]
        unfold at_
        rw [List.getElem?_replicate]
        split <;> rfl
    rw [this]
    rfl
  simp [e]
inductive Rch (v : Pt) : Nat → Prop
  | root : Rch v 5
  | step {d : Nat} {x : En} : Rch v d → dir (at_ Rc.o v.rs d) = true → x ∈ (at_ Rc.o v.rs d).es → right v x.f = true → Rch v x.f.r.toNat
open Classical in
noncomputable def rchB (v : Pt) (i : Nat) : Bool := decide (Rch v i)
noncomputable def rchL (v : Pt) : List Bool := (List.range v.rs.length).map (rchB v)
theorem rchL_len (v : Pt) : (rchL v).length = v.rs.length := by simp [rchL]
theorem rchL_at (v : Pt) (i : Nat) (h : i < v.rs.length) : at_ false (rchL v) i = rchB v i := by
  rw [at_eq _ _ _ (by rw [rchL_len]; exact h)]
  simp [rchL]
theorem rchB_iff (v : Pt) (i : Nat) : rchB v i = true ↔ Rch v i := by unfold rchB; simp
theorem rch_of (v : Pt) (L : List Bool) (hl : L.length = v.rs.length) (h1 : ∀ i, at_ false L i = true → Rch v i) (h5 : at_ false L 5 = true)
    (hc : ∀ d : Nat, at_ false L d = true → dir (at_ Rc.o v.rs d) = true → ∀ x ∈ (at_ Rc.o v.rs d).es, right v x.f = true → at_ false L x.f.r.toNat = true) : L = rchL v := by
  have h2 : ∀ i, Rch v i → at_ false L i = true := by
    intro i hi
    induction hi with
    | root => exact h5
    | step _ hd hx hr ih => exact hc _ ih hd _ hx hr
  apply List.ext_getElem (by rw [rchL_len]; exact hl)
  intro i h3 h4
  have e1 : at_ false L i = L[i] := at_eq _ _ _ h3
  have e2 : (rchL v)[i] = rchB v i := by rw [← rchL_at v i (by omega), at_eq _ _ _ h4]
  rw [e2, ← e1]
  cases h : at_ false L i with
  | true => exact ((rchB_iff v i).2 (h1 i h)).symm
  | false =>
    cases h' : rchB v i with
    | false => rfl
    | true => rw [h2 i ((rchB_iff v i).1 h')] at h; cases h
noncomputable def rchIx (v : Pt) : List Int := ((List.range v.rs.length).filter (rchB v)).map fun (i : Nat) => (i : Int)
end Ck
namespace Ck
def cntF : List Bool → Nat
  | [] => 0
  | b :: l => (if b then 0 else 1) + cntF l
theorem cntF_set : ∀ (l : List Bool) (i : Nat), i < l.length → at_ false l i = false → cntF (l.set i true) + 1 = cntF l
  | [], i, h, _ => by simp at h
  | b :: l, 0, _, h0 => by
    have : b = false := h0
    subst this
    simp [cntF]
    omega
  | b :: l, i + 1, h, h0 => by
    have := cntF_set l i (by simpa using h) (by simpa [at_] using h0)
    simp only [List.set_cons_succ, cntF]
    omega
theorem cntF_le : ∀ l : List Bool, cntF l ≤ l.length
  | [] => Nat.le_refl _
  | b :: l => by have := cntF_le l; simp only [cntF, List.length_cons]; split <;> omega
theorem at_set_or (l : List Bool) (i j : Nat) : at_ false (l.set i true) j = true → at_ false l j = true ∨ j = i := by
  intro h
  by_cases e : i = j
  · exact .inr e.symm
  · rw [at_set_ne _ _ _ _ _ e] at h; exact .inl h
theorem at_set_keep (l : List Bool) (i j : Nat) (h : at_ false l j = true) : at_ false (l.set i true) j = true := by
  have hj : j < l.length := by
    unfold at_ at h
    rcases Nat.lt_or_ge j l.length with h1 | h1
    · exact h1
    · rw [List.getElem?_eq_none h1] at h; cases h
  by_cases e : i = j
  · subst e; rw [at_set_same _ _ _ _ hj]
  · rw [at_set_ne _ _ _ _ _ e]; exact h
theorem right_lt {v : Pt} {r : Ref} (h : right v r = true) : 0 ≤ r.r ∧ r.r.toNat < v.rs.length := by
  unfold right wi at h
  simp only [Bool.and_eq_true, decide_eq_true_eq] at h
  omega
structure Mks (v : Pt) (L : List Bool) : Prop where
  len : L.length = v.rs.length
  snd : ∀ i, at_ false L i = true → Rch v i
  r5 : at_ false L 5 = true
def marks0 (v : Pt) : List Bool := (List.replicate v.rs.length false).set 5 true
theorem rep_at (n i : Nat) : at_ false (List.replicate n false) i = false := by
  unfold at_
  rw [List.getElem?_replicate]
  split <;> rfl
theorem Mks.start {v : Pt} (h : 5 < v.rs.length) : Mks v (marks0 v) := by
  refine ⟨by simp [marks0], fun i hi => ?_, at_set_same _ _ _ _ (by simpa using h)⟩
  rcases at_set_or _ _ _ hi with h1 | h1
  · rw [rep_at] at h1; cases h1
  · subst h1; exact .root
theorem Mks.set {v : Pt} {L : List Bool} (h : Mks v L) {d : Nat} {x : En} (hd : Rch v d) (hdir : dir (at_ Rc.o v.rs d) = true) (hx : x ∈ (at_ Rc.o v.rs d).es) (hr : right v x.f = true) : Mks v (L.set x.f.r.toNat true) :=
  ⟨by simpa using h.len, fun i hi => by
    rcases at_set_or _ _ _ hi with h1 | h1
    · exact h.snd i h1
    · subst h1; exact .step hd hdir hx hr, at_set_keep _ _ _ h.r5⟩
def Clo (v : Pt) (L : List Bool) (d : Nat) : Prop := at_ false L d = true → dir (at_ Rc.o v.rs d) = true → ∀ x ∈ (at_ Rc.o v.rs d).es, right v x.f = true → at_ false L x.f.r.toNat = true
theorem Mks.fin {v : Pt} {L : List Bool} (h : Mks v L) (hc : ∀ d, d < v.rs.length → Clo v L d) : L = rchL v :=
  rch_of v L h.len h.snd h.r5 fun d h1 h2 x hx hr => by
    have hd : d < v.rs.length := by
      rcases Nat.lt_or_ge d v.rs.length with h3 | h3
      · exact h3
      · unfold at_ at h1; rw [List.getElem?_eq_none (by rw [h.len]; exact h3)] at h1; cases h1
    exact hc d hd h1 h2 x hx hr
structure Rnd (v : Pt) (L0 L : List Bool) (ag : Bool) : Prop where
  m : Mks v L
  f : ag = false → L = L0
  t : ag = true → cntF L < cntF L0
theorem Rnd.start {v : Pt} {L : List Bool} (h : Mks v L) : Rnd v L L false := ⟨h, fun _ => rfl, fun h => (by cases h)⟩
theorem Rnd.set {v : Pt} {L0 L : List Bool} {ag : Bool} (h : Rnd v L0 L ag) {d : Nat} {x : En} (hd : Rch v d) (hdir : dir (at_ Rc.o v.rs d) = true) (hx : x ∈ (at_ Rc.o v.rs d).es) (hr : right v x.f = true) (hn : at_ false L x.f.r.toNat = false) : Rnd v L0 (L.set x.f.r.toNat true) true := by
  refine ⟨h.m.set hd hdir hx hr, fun h => (by cases h), fun _ => ?_⟩
  have h1 := cntF_set L x.f.r.toNat (by rw [h.m.len]; exact (right_lt hr).2) hn
  cases ag with
  | false => have := h.f rfl; subst this; omega
  | true => have := h.t rfl; omega
structure Que (v : Pt) (L : List Bool) (Q : List Int) : Prop where
  m : Mks v L
  q : ∀ d ∈ Q, 0 ≤ d ∧ d.toNat < v.rs.length ∧ at_ false L d.toNat = true ∧ dir (at_ Rc.o v.rs d.toNat) = true
  c : ∀ d : Nat, (d : Int) ∈ Q ∨ Clo v L d
theorem Que.start {v : Pt} (h : 5 < v.rs.length) (hd : dir (at_ Rc.o v.rs 5) = true) : Que v (marks0 v) [5] := by
  refine ⟨.start h, fun d hd2 => ?_, fun d => ?_⟩
  · simp only [List.mem_singleton] at hd2
    subst hd2
    exact ⟨by omega, h, (Mks.start h).r5, hd⟩
  · by_cases e : d = 5
    · subst e; exact .inl (by simp)
    · refine .inr fun h1 => ?_
      rcases at_set_or _ _ _ h1 with h2 | h2
      · rw [rep_at] at h2; cases h2
      · exact absurd h2 e
structure Mid (v : Pt) (d : Nat) (k : Nat) (L : List Bool) (Q : List Int) : Prop where
  m : Mks v L
  hd : at_ false L d = true
  hdir : dir (at_ Rc.o v.rs d) = true
  q : ∀ d ∈ Q, 0 ≤ d ∧ d.toNat < v.rs.length ∧ at_ false L d.toNat = true ∧ dir (at_ Rc.o v.rs d.toNat) = true
  c : ∀ e : Nat, e ≠ d → (e : Int) ∈ Q ∨ Clo v L e
  k : ∀ j, j < k → right v (at_ En.o (at_ Rc.o v.rs d).es j).f = true → at_ false L (at_ En.o (at_ Rc.o v.rs d).es j).f.r.toNat = true
theorem Que.pop {v : Pt} {L : List Bool} {d : Int} {Q : List Int} (h : Que v L (d :: Q)) : Mid v d.toNat 0 L Q := by
  obtain ⟨h0, h1, h2, h3⟩ := h.q d (by simp)
  refine ⟨h.m, h2, h3, fun e he => h.q e (by simp [he]), fun e he => ?_, fun j hj => absurd hj (Nat.not_lt_zero _)⟩
  rcases h.c e with h4 | h4
  · rcases List.mem_cons.1 h4 with h5 | h5
    · exact absurd (by omega) he
    · exact .inl h5
  · exact .inr h4
theorem Mid.skip {v : Pt} {d k : Nat} {L : List Bool} {Q : List Int} (h : Mid v d k L Q) (hs : right v (at_ En.o (at_ Rc.o v.rs d).es k).f = true → at_ false L (at_ En.o (at_ Rc.o v.rs d).es k).f.r.toNat = true) : Mid v d (k + 1) L Q :=
  ⟨h.m, h.hd, h.hdir, h.q, h.c, fun j hj hr => by
    rcases Nat.lt_or_ge j k with h1 | h1
    · exact h.k j h1 hr
    · obtain rfl : j = k := by omega
      exact hs hr⟩
theorem Mid.set {v : Pt} {d k : Nat} {L : List Bool} {Q : List Int} (h : Mid v d k L Q) {x : En} (hx : x = at_ En.o (at_ Rc.o v.rs d).es k) (hk : k < (at_ Rc.o v.rs d).es.length) (hr : right v x.f = true) (hn : at_ false L x.f.r.toNat = false) :
    Mid v d (k + 1) (L.set x.f.r.toNat true) (if dir (at_ Rc.o v.rs x.f.r.toNat) then Q ++ [x.f.r] else Q) := by
  have hm : x ∈ (at_ Rc.o v.rs d).es := by rw [hx]; exact at_mem _ _ _ hk
  have hl := right_lt hr
  have hl2 : x.f.r.toNat < L.length := by rw [h.m.len]; exact hl.2
  have hq : ∀ e ∈ (if dir (at_ Rc.o v.rs x.f.r.toNat) then Q ++ [x.f.r] else Q), e ∈ Q ∨ (e = x.f.r ∧ dir (at_ Rc.o v.rs x.f.r.toNat) = true) := fun e he => by
    split at he
    · rename_i h1
      rcases List.mem_append.1 he with h2 | h2
      · exact .inl h2
      · exact .inr ⟨by simpa using h2, h1⟩
    · exact .inl he
  have hq2 : ∀ e ∈ Q, e ∈ (if dir (at_ Rc.o v.rs x.f.r.toNat) then Q ++ [x.f.r] else Q) := fun e he => by
    split
    · exact List.mem_append_left _ he
    · exact he
  refine ⟨h.m.set (h.m.snd _ h.hd) h.hdir hm hr, at_set_keep _ _ _ h.hd, h.hdir, fun e he => ?_, fun e he => ?_, fun j hj hrj => ?_⟩
  · rcases hq e he with h1 | ⟨h1, h2⟩
    · obtain ⟨q1, q2, q3, q4⟩ := h.q e h1
      exact ⟨q1, q2, at_set_keep _ _ _ q3, q4⟩
    · subst h1
      exact ⟨hl.1, hl.2, at_set_same _ _ _ _ hl2, h2⟩
  · rcases h.c e he with h1 | h1
    · exact .inl (hq2 _ h1)
    · by_cases e1 : e = x.f.r.toNat
      · by_cases e2 : dir (at_ Rc.o v.rs x.f.r.toNat) = true
        · refine .inl ?_
          rw [if_pos e2]
          exact List.mem_append_right _ (by simp; omega)
        · refine .inr fun _ h3 => ?_
          rw [e1] at h3
          exact absurd h3 e2
      · refine .inr fun h2 h3 y hy hr2 => ?_
        rcases at_set_or _ _ _ h2 with h4 | h4
        · exact at_set_keep _ _ _ (h1 h4 h3 y hy hr2)
        · exact absurd h4 e1
  · rcases Nat.lt_or_ge j k with h1 | h1
    · exact at_set_keep _ _ _ (h.k j h1 hrj)
    · obtain rfl : j = k := by omega
      rw [← hx]
      exact at_set_same _ _ _ _ hl2
theorem Mid.fin {v : Pt} {d k : Nat} {L : List Bool} {Q : List Int} (h : Mid v d k L Q) (hk : k = (at_ Rc.o v.rs d).es.length) : Que v L Q := by
  refine ⟨h.m, h.q, fun e => ?_⟩
  by_cases he : e = d
  · subst he
    refine .inr fun _ _ x hx hr => ?_
    obtain ⟨j, hj, rfl⟩ := List.getElem_of_mem hx
    have := h.k j (by omega)
    rw [at_eq _ _ _ hj] at this
    exact this hr
  · exact h.c e he
theorem Que.fin {v : Pt} {L : List Bool} (h : Que v L []) : L = rchL v := h.m.fin fun d _ => by
  rcases h.c d with h1 | h1
  · cases h1
  · exact h1
theorem runT_stop (c : Int) (r : Run) (t : List Bool) (n : Nat) (hn : n ≤ r.l.toNat) (h : ∀ k : Nat, n ≤ k → ¬ (r.s ≠ -1 ∧ r.s + k < c)) :
    it (fun t k => if r.s ≠ -1 ∧ r.s + k < c then t.set (r.s + k).toNat true else t) t n = runT c r t := by
  obtain ⟨j, hj⟩ : ∃ j, r.l.toNat = n + j := ⟨r.l.toNat - n, by omega⟩
  unfold runT
  rw [hj]
  clear hj hn
  induction j with
  | zero => rfl
  | succ j ih =>
    show _ = (if r.s ≠ -1 ∧ r.s + (n + j : Nat) < c then _ else _)
    rw [if_neg (h (n + j) (by omega))]
    exact ih
theorem bytesB_nil (n : Nat) : bytesB n [] = List.replicate n 0 := by
  unfold bytesB bytesF
  apply List.ext_getElem (by simp)
  intro j h1 h2
  have e : byteB (at_ false []) j = 0 := by
    apply UInt8.toNat_inj.1
    rw [byteB_nat]
    have : ∀ m, bsum (at_ false []) j m = 0 := by
      intro m
      induction m with
      | zero => rfl
      | succ m ih => unfold bsum; rw [ih]; rfl
    rw [this]
    rfl
  simp [e]
theorem rep_bytes (n c : Nat) : List.replicate n 0 = bytesB n ((List.replicate c false).take 0) := by rw [List.take_zero, bytesB_nil]
theorem bytesB_len (n : Nat) (t : List Bool) : (bytesB n t).length = n := bytesF_len _ _
end Ck
namespace Ck
open Go Go.Ex
theorem contL_map {α : Type} {enc : α → AV} (h : ∀ x, cont (enc x) = true) : ∀ l : List α, cont.contL (l.map enc) = true
  | [] => rfl
  | x :: l => by
    show (match cont (enc x) with | true => cont.contL (l.map enc) | false => false) = true
    rw [h x]
    exact contL_map h l
theorem wrow_eq {h : T AO} {z r : List Nat} {c1 c : List AV} (h1 : c1 = c) (hc : cont.contL c1 = true) : WRow h z r c1 c := Or.inr ⟨h1, h1 ▸ hc⟩
theorem row_app {α : Type} (enc : α → AV) (pre Q : List α) (x : α) : ([] ++ (Q ++ [x])).map enc = ((pre ++ Q).map enc).drop pre.length ++ [enc x] := by simp
theorem zeros_rep {x : AV} (n : Nat) (v : Value) (hv : v.cells.toList.map AV.sc = [x]) : zeros n v = List.replicate n x := by
  unfold zeros
  rw [hv]
  induction n with
  | zero => rfl
  | succ n ih => rw [List.replicate_succ, List.replicate_succ, List.flatten_cons, ih]; rfl
section
variable {P : Program} {s : St} {K : KC}
theorem loadM {α : Type} (enc : α → AV) (o : α) {l : List α} {T : TypeId} {b j off : Nat} {e : TypeId} {q n : Nat} (hoff : off = j) (hT : tyS P T = .ok (false, n)) (hr : s.h.get b = some (.row (l.map enc) e q)) (hj : j < l.length) : loadV P s T b off = .ok (enc (at_ o l j)) := by
  subst hoff
  refine loadV_one hr hT ?_
  rw [List.getElem?_map, List.getElem?_eq_getElem hj]
  rw [at_eq _ _ _ hj]
  rfl
theorem loadMx {α : Type} (enc : α → AV) (o x : α) {l : List α} {T : TypeId} {b j off : Nat} {e : TypeId} {q n : Nat} (hx : at_ o l j = x) (hoff : off = j) (hT : tyS P T = .ok (false, n)) (hr : s.h.get b = some (.row (l.map enc) e q)) (hj : j < l.length) : loadV P s T b off = .ok (enc x) := by
  rw [← hx]; exact loadM enc o hoff hT hr hj
theorem storeM {α : Type} (enc : α → AV) {x : AV} {l : List α} {T : TypeId} {b j off : Nat} (a : α) {e : TypeId} {q : Nat} (hv : x = enc a) (hoff : off = j) (hn : notAny (enc a) = true) {n : Bool} (hT : tyS P T = .ok (n, 1)) (hl : (enc a).cells = [enc a]) (h1 : oneA (enc a) = true) (hr : s.h.get b = some (.row (l.map enc) e q)) (hj : j < l.length)
    (hk : (s.set b (.row ((l.set j a).map enc) e q)).nfK fun s => K AV.undef s) : storeR (storeA P s T (.ptr b off) x) K := by
  subst hv
  exact store1 enc hoff hn hT hl h1 hr hj hk
theorem loadC_map {α : Type} {enc : α → AV} {l : List α} {b n : Nat} {e : TypeId} {q : Nat} (hr : s.h.get b = some (.row (l.map enc) e q)) (hn : n = l.length) : loadC s b 0 n = .ok (l.map enc) := by
  subst hn
  unfold loadC Ex.rowAt
  rw [hr]
  show takeN (l.map enc) 0 l.length = _
  unfold takeN
  rw [List.drop_zero, takeK_of (by simp)]
  rw [List.take_of_length_le (by simp)]
end
theorem bytesOf_map : ∀ l : List UInt8, bytesOf (l.map byteV) = .ok l
  | [] => rfl
  | x :: l => by
    show bd (bytesOf (l.map byteV)) (fun l => .ok (UInt8.ofNat (x.toNat : Int).toNat :: l)) = _
    rw [bytesOf_map l]
    simp [bd]
theorem or_u8 (a : UInt8) (n : Int) (h0 : 0 ≤ n) (h8 : n < 8) : bitsZ .or .u8 (a.toNat : Int) (shlZ .u8 1 n) = ((a ||| UInt8.ofNat (2 ^ n.toNat)).toNat : Int) := by
  have hk : ∃ k : Nat, k < 8 ∧ n = k := ⟨n.toNat, by omega, by omega⟩
  obtain ⟨k, hk, rfl⟩ := hk
  have key : ∀ k : Fin 8, ∀ a : Fin 256, bitsZ .or .u8 ((a : Nat) : Int) (shlZ .u8 1 ((k : Nat) : Int)) = (((UInt8.ofNat a.1) ||| UInt8.ofNat (2 ^ k.1)).toNat : Int) := by decide +kernel
  have := key ⟨k, hk⟩ ⟨a.toNat, a.toNat_lt⟩
  simpa using this
end Ck
namespace Go.Proofs.YtgcjejajljhnaaaGreatDoor
open Go.Ex Ck
set_option maxRecDepth 100000
set_option maxHeartbeats 1000000
theorem tdiv8 {c : Int} (h : 0 ≤ c) : c.tdiv 8 = ((c.toNat / 8 : Nat) : Int) := by
  rw [Int.tdiv_eq_ediv_of_nonneg h]; omega
theorem tmod8 {c : Int} (h : 0 ≤ c) : c.tmod 8 = ((c.toNat % 8 : Nat) : Int) := by
  rw [Int.tmod_eq_emod_of_nonneg h]; omega
theorem setBit_len (t : List UInt8) (c : Nat) : (setBit t c).length = t.length := by simp [setBit]
theorem mark1_len (c : Int) (r : Run) (t : List UInt8) (k : Nat) : (mark1 c r t k).length = t.length := by unfold mark1; split <;> simp [setBit_len]
theorem mark1s_len (c : Int) (r : Run) (t : List UInt8) (n : Nat) : (it (mark1 c r) t n).length = t.length := it_len (mark1_len c r) t n
theorem marks_len (c : Int) (l : List Run) (t : List UInt8) (n : Nat) : (it (fun t i => it (mark1 c (at_ Run.o l i)) t (at_ Run.o l i).l.toNat) t n).length = t.length := it_len (fun t k => mark1s_len c _ t _) t n
theorem mark_hc (v : Pt) (l : List Run) (b : List UInt8) (N : Nat) (hb : b.length = N) (hN : N = ((v.c + 7) / 8).toNat) (hc : 0 ≤ v.c ∧ v.c ≤ 100000) (hl : l.length ≤ 100000) (hr : ∀ r ∈ l, -1 ≤ r.s ∧ r.s ≤ 2147483647 ∧ r.l ≤ 100000) :
    Ex.HC Tryz.prog 3 125 [LS 2 aRun Run.o l, .ptr 0 0, .ptr 1 0] [.row (aPt v) 26 0, .row [.sl 2 0 N N] 117 0, .row (b.map byteV) 5 0] (.tup []) [.row (aPt v) 26 0, .row [.sl 2 0 N N] 117 0, .row ((Ck.mark v.c l b).map byteV) 5 0] := by
  refine Ex.HC.of kmix (Nat.le_refl 3) ?_
  conv => whnf
  refine WLoop.inv kmix (D := Nat) (fun d => l.length - d) (fun d => d ≤ l.length) (fun d => slots [(0, LS 2 aRun Run.o l), (1, .ptr 0 0), (2, .ptr 1 0), (8, LS 2 aRun Run.o l), (9, ib l.length), (10, ib d)] 44)
    (fun d => heapOf [.row (aPt v) 26 0, .row [.sl 2 0 N N] 117 0, .row ((it (fun t i => it (mark1 v.c (at_ Run.o l i)) t (at_ Run.o l i).l.toNat) b d).map byteV) 5 0]) 0 (Nat.zero_le _) ?_ ?_
  · (refine Ex.Weak.of [0, 1, 2] [] rfl rfl ?_ ?_ <;> (repeat' (first | exact True.intro | refine And.intro ?_ ?_)) <;> (conv => whnf) <;> (repeat' (exact rfl)) <;> (first | (intro _ _; rfl) | (first | exact Or.inr ⟨rfl, rfl⟩ | exact Or.inr ⟨rfl, Ck.contL_map (fun _ => rfl) _⟩ | (refine Or.inl ⟨rfl, ?_⟩; (conv => whnf); (repeat' (first | exact True.intro | exact rfl | refine And.intro ?_ ?_)) <;> (try (conv => whnf)) <;> (repeat' (fail)) <;> (fail)))))
  · intro d hd
    conv => whnf
    refine KIf.dec (fun h => ?_) (fun h => ?_)
    · have hlt : d < l.length := by omega
      have hm := hr _ (at_mem Run.o l d hlt)
      (conv => whnf); (repeat ((refine Ex.Need.mk ?_ ?_; (omega); conv => whnf)))
      refine WLoop.inv kmix (D := Nat) (fun k => (at_ Run.o l d).l.toNat - k) (fun k => k ≤ (at_ Run.o l d).l.toNat) (fun k => slots [(0, LS 2 aRun Run.o l), (1, .ptr 0 0), (2, .ptr 1 0), (5, .ptr 3 0), (8, LS 2 aRun Run.o l), (9, ib l.length), (10, ib d), (15, ib (at_ Run.o l d).l), (16, ib k)] 44)
        (fun k => heapOf [.row (aPt v) 26 0, .row [.sl 2 0 N N] 117 0, .row ((it (mark1 v.c (at_ Run.o l d)) (it (fun t i => it (mark1 v.c (at_ Run.o l i)) t (at_ Run.o l i).l.toNat) b d) k).map byteV) 5 0, .row [ib (at_ Run.o l d).s, ib (at_ Run.o l d).l] 78 0]) 0 (Nat.zero_le _) ?_ ?_
      · (refine Ex.Weak.of [0, 1, 2, 3] [] rfl rfl ?_ ?_ <;> (repeat' (first | exact True.intro | refine And.intro ?_ ?_)) <;> (conv => whnf) <;> (repeat' (exact rfl)) <;> (first | (intro _ _; rfl) | (first | exact Or.inr ⟨rfl, rfl⟩ | exact Or.inr ⟨rfl, Ck.contL_map (fun _ => rfl) _⟩ | (refine Or.inl ⟨rfl, ?_⟩; (conv => whnf); (repeat' (first | exact True.intro | exact rfl | refine And.intro ?_ ?_)) <;> (try (conv => whnf)) <;> (repeat' (fail)) <;> (fail)))))
      · intro k hk
        have hbl := marks_len v.c l b d
        have hout : it (fun t i => it (mark1 v.c (at_ Run.o l i)) t (at_ Run.o l i).l.toNat) b (d + 1) = it (mark1 v.c (at_ Run.o l d)) (it (fun t i => it (mark1 v.c (at_ Run.o l i)) t (at_ Run.o l i).l.toNat) b d) (at_ Run.o l d).l.toNat := rfl
        generalize it (fun t i => it (mark1 v.c (at_ Run.o l i)) t (at_ Run.o l i).l.toNat) b d = b1 at *
        have hb2 : (it (mark1 v.c (at_ Run.o l d)) b1 k).length = N := by rw [mark1s_len, hbl, hb]
        have hstep : it (mark1 v.c (at_ Run.o l d)) b1 (k + 1) = mark1 v.c (at_ Run.o l d) (it (mark1 v.c (at_ Run.o l d)) b1 k) k := rfl
        obtain ⟨b2, hb2'⟩ : ∃ b2, b2 = it (mark1 v.c (at_ Run.o l d)) b1 k := ⟨_, rfl⟩
        rw [← hb2'] at hb2 hstep
        dsimp only
        rw [← hb2']
        conv => whnf
        refine KIf.dec (fun h2 => ?_) (fun h2 => ?_)
        · have hk2 : k + 1 ≤ (at_ Run.o l d).l.toNat := by omega
          by_cases hs : (at_ Run.o l d).s = -1
          · have e2 : mark1 v.c (at_ Run.o l d) b2 k = b2 := if_neg (fun h => h.1 hs)
            (conv => whnf); (repeat (first | (refine Ex.KIf.f rfl ?_; conv => whnf) | (refine Ex.Need.mk ?_ ?_; ((constructor <;> omega)); conv => whnf) | (refine KIf.f (congrArg Bool.not (decide_eq_true hs)) ?_; conv => whnf)))
            refine ⟨k + 1, hk2, by dsimp only; omega, ?_⟩
            dsimp only; rw [hstep, e2]
            (refine Ex.Weak.of [0, 1, 2, 3] [] rfl rfl ?_ ?_ <;> (repeat' (first | exact True.intro | refine And.intro ?_ ?_)) <;> (conv => whnf) <;> (repeat' (exact rfl)) <;> (first | (intro _ _; rfl) | (first | exact Or.inr ⟨rfl, rfl⟩ | exact Or.inr ⟨rfl, Ck.contL_map (fun _ => rfl) _⟩ | (refine Or.inl ⟨rfl, ?_⟩; (conv => whnf); (repeat' (first | exact True.intro | exact rfl | refine And.intro ?_ ?_)) <;> (try (conv => whnf)) <;> (repeat' (fail)) <;> (fail)))))
          · by_cases hcc : (at_ Run.o l d).s + k < v.c
            · have hp : 0 ≤ (at_ Run.o l d).s + k := by omega
              have hix : (0 : Int) ≤ ((at_ Run.o l d).s + k).tdiv 8 ∧ ((at_ Run.o l d).s + k).tdiv 8 < N := by rw [tdiv8 hp]; omega
              have hq : (8 : Int) ≠ 0 ∧ Small (((at_ Run.o l d).s + k).tdiv 8) := ⟨by omega, by unfold Small; rw [tdiv8 hp]; omega⟩
              have hm8 : 0 ≤ ((at_ Run.o l d).s + (k : Int)).tmod 8 := by rw [tmod8 hp]; omega
              have hm88 : ((at_ Run.o l d).s + (k : Int)).tmod 8 < 8 := by rw [tmod8 hp]; omega
              have hj : ((at_ Run.o l d).s + (k : Int)).toNat / 8 < b2.length := by rw [hb2]; omega
              have hoff : 0 + (((at_ Run.o l d).s + (k : Int)).tdiv 8).toNat * 1 = ((at_ Run.o l d).s + (k : Int)).toNat / 8 := by rw [tdiv8 hp]; omega
              have e2 : mark1 v.c (at_ Run.o l d) b2 k = b2.set (((at_ Run.o l d).s + (k : Int)).toNat / 8) (at_ 0 b2 (((at_ Run.o l d).s + (k : Int)).toNat / 8) ||| UInt8.ofNat (2 ^ (((at_ Run.o l d).s + (k : Int)).toNat % 8))) := if_pos ⟨hs, hcc⟩
              have hv : AV.sc (.int .u8 (bitsZ .or .u8 (at_ 0 b2 (((at_ Run.o l d).s + (k : Int)).toNat / 8)).toNat (shlZ .u8 1 (((at_ Run.o l d).s + (k : Int)).tmod 8)))) = byteV (at_ 0 b2 (((at_ Run.o l d).s + (k : Int)).toNat / 8) ||| UInt8.ofNat (2 ^ (((at_ Run.o l d).s + (k : Int)).toNat % 8))) := by
                rw [or_u8 _ _ hm8 hm88, tmod8 hp]; rfl
              (conv => whnf); (repeat (first | (refine Ex.KIf.dt ?_ ?_; assumption; conv => whnf) | (refine Ex.Need.mk (p := Ex.okDraw _ = true) ?_ ?_; decide +kernel; conv => whnf) | (refine Ex.Need.mk ?_ ?_; (first | trivial | (constructor <;> omega)); conv => whnf) | (refine KIf.t (congrArg Bool.not (decide_eq_false hs)) ?_; conv => whnf) | (refine Ex.RK.of (Ck.loadM byteV 0 hoff rfl rfl hj) ?_; conv => whnf) | (refine Ck.storeM byteV _ hv hoff rfl rfl rfl rfl rfl hj ?_; conv => whnf)))
              refine ⟨k + 1, hk2, by dsimp only; omega, ?_⟩
              dsimp only; rw [hstep, e2]
              (refine Ex.Weak.of [0, 1, 2, 3] [] rfl rfl ?_ ?_ <;> (repeat' (first | exact True.intro | refine And.intro ?_ ?_)) <;> (conv => whnf) <;> (repeat' (exact rfl)) <;> (first | (intro _ _; rfl) | (first | exact Or.inr ⟨rfl, rfl⟩ | exact Or.inr ⟨rfl, Ck.contL_map (fun _ => rfl) _⟩ | (refine Or.inl ⟨rfl, ?_⟩; (conv => whnf); (repeat' (first | exact True.intro | exact rfl | refine And.intro ?_ ?_)) <;> (try (conv => whnf)) <;> (repeat' (fail)) <;> (fail)))))
            · have e2 : mark1 v.c (at_ Run.o l d) b2 k = b2 := if_neg (fun h => hcc h.2)
              (conv => whnf); (repeat (first | (refine Ex.KIf.df ?_ ?_; assumption; conv => whnf) | (refine Ex.Need.mk ?_ ?_; ((constructor <;> omega)); conv => whnf) | (refine KIf.t (congrArg Bool.not (decide_eq_false hs)) ?_; conv => whnf)))
              refine ⟨k + 1, hk2, by dsimp only; omega, ?_⟩
              dsimp only; rw [hstep, e2]
              (refine Ex.Weak.of [0, 1, 2, 3] [] rfl rfl ?_ ?_ <;> (repeat' (first | exact True.intro | refine And.intro ?_ ?_)) <;> (conv => whnf) <;> (repeat' (exact rfl)) <;> (first | (intro _ _; rfl) | (first | exact Or.inr ⟨rfl, rfl⟩ | exact Or.inr ⟨rfl, Ck.contL_map (fun _ => rfl) _⟩ | (refine Or.inl ⟨rfl, ?_⟩; (conv => whnf); (repeat' (first | exact True.intro | exact rfl | refine And.intro ?_ ?_)) <;> (try (conv => whnf)) <;> (repeat' (fail)) <;> (fail)))))
        · have hke : k = (at_ Run.o l d).l.toNat := by omega
          (conv => whnf); (repeat ((refine Ex.Need.mk ?_ ?_; ((constructor <;> omega)); conv => whnf)))
          refine ⟨d + 1, hlt, by dsimp only; omega, ?_⟩
          dsimp only
          rw [hout, ← hke, ← hb2']
          (refine Ex.Weak.of [0, 1, 2] [] rfl rfl ?_ ?_ <;> (repeat' (first | exact True.intro | refine And.intro ?_ ?_)) <;> (conv => whnf) <;> (repeat' (exact rfl)) <;> (first | (intro _ _; rfl) | (first | exact Or.inr ⟨rfl, rfl⟩ | exact Or.inr ⟨rfl, Ck.contL_map (fun _ => rfl) _⟩ | (refine Or.inl ⟨rfl, ?_⟩; (conv => whnf); (repeat' (first | exact True.intro | exact rfl | refine And.intro ?_ ?_)) <;> (try (conv => whnf)) <;> (repeat' (fail)) <;> (fail)))))
    · have hde : d = l.length := by omega
      subst hde
      (conv => whnf); (repeat (fail))
      (refine ⟨[0, 1, 2], [], rfl, ?_, ?_⟩ <;> (repeat' (first | exact True.intro | refine And.intro ?_ ?_)) <;> (conv => whnf) <;> (repeat' (fail)) <;> ((first | exact Or.inr ⟨rfl, rfl⟩ | exact Or.inr ⟨rfl, Ck.contL_map (fun _ => rfl) _⟩ | (refine Or.inl ⟨rfl, ?_⟩; (conv => whnf); (repeat' (first | exact True.intro | exact rfl | refine And.intro ?_ ?_)) <;> (try (conv => whnf)) <;> (repeat' (fail)) <;> (fail)))))
def RunOk (r : Run) : Prop := -1 ≤ r.s ∧ r.s ≤ 2147483647 ∧ r.l ≤ 100000
structure Okv (v : Pt) : Prop where
  c : 0 ≤ v.c ∧ v.c ≤ 100000
  rs : v.rs.length ≤ 100000
  ss : ∀ x ∈ v.rs, x.ss.length ≤ 100000
  al : v.al.length ≤ 100000
  ar : ∀ r ∈ v.al, RunOk r
  sr : ∀ x ∈ v.rs, ∀ s ∈ x.ss, s.r.length ≤ 100000 ∧ ∀ r ∈ s.r, RunOk r
theorem mark_len (c : Int) (l : List Run) (t : List UInt8) : (Ck.mark c l t).length = t.length := marks_len c l t _
theorem markRec_len (c : Int) (x : Rc) (t : List UInt8) (n : Nat) : (it (fun t k => Ck.mark c (at_ Sm.o x.ss k).r t) t n).length = t.length := it_len (fun t k => mark_len c _ t) t n
theorem markRecs_len (c : Int) (l : List Rc) (t : List UInt8) (n : Nat) : (it (fun t i => markRec c (at_ Rc.o l i) t) t n).length = t.length := it_len (fun t k => markRec_len c _ t _) t n
theorem used_k (v : Pt) (hv : Okv v) : Ex.PureC Tryz.prog 75 [aPts v] (tb (Ck.used v)) := by
  have hc := hv.c
  have hn := hv.rs
  obtain ⟨N, hN⟩ : ∃ N, N = ((v.c + 7) / 8).toNat := ⟨_, rfl⟩
  have h7 : (v.c + 7).tdiv 8 = (N : Int) := by rw [tdiv8 (by omega), hN]; omega
  have h77 : (8 : Int) ≠ 0 ∧ Small ((v.c + 7).tdiv 8) := ⟨by omega, by unfold Small; rw [h7]; omega⟩
  have hmk : 0 ≤ (v.c + 7).tdiv 8 ∧ (v.c + 7).tdiv 8 ≤ (v.c + 7).tdiv 8 ∧ ((v.c + 7).tdiv 8).toNat * 1 ≤ 2 ^ 47 ∧ (v.c + 7).tdiv 8 ≤ 2 ^ 60 := by rw [h7]; refine ⟨?_, ?_, ?_, ?_⟩ <;> omega
  have hz : zeros ((v.c + 7).tdiv 8).toNat (.int .u8 0) = (List.replicate N (0 : UInt8)).map byteV := by
    rw [h7, zeros_rep (x := .sc (.int .u8 0)) _ _ rfl]
    simp [byteV]
  have hb0 : (List.replicate N (0 : UInt8)).length = N := by simp
  refine Ex.PureC.of kmix rfl ?_
  (conv => whnf); (repeat ((refine Ex.Need.mk ?_ ?_; (first | trivial | (constructor <;> omega)); conv => whnf)))
  (refine KCall.lift [0, 2, 1] [] (.tup []) [.row (aPt v) 26 0, .row [.sl 1 0 N N] 117 0, .row ((Ck.mark v.c v.al (List.replicate N 0)).map byteV) 5 0] (mark_hc v v.al (List.replicate N 0) N hb0 hN hc hv.al hv.ar) rfl ?_ ?_ ?_ ?_; (focus ((repeat' (first | exact True.intro | refine And.intro ?_ ?_)) <;> (conv => whnf) <;> (repeat' (fail)) <;> ((first | exact Or.inr ⟨hz.symm, hz ▸ contL_map (enc := byteV) (fun _ => rfl) _⟩ | (first | exact Or.inr ⟨rfl, rfl⟩ | (refine Or.inl ⟨rfl, ?_⟩; (conv => whnf); (repeat' (first | exact True.intro | exact rfl | refine And.intro ?_ ?_)) <;> (try (conv => whnf)) <;> (repeat' (fail)) <;> (omega))))))); (focus ((repeat' (first | exact True.intro | exact rfl | refine And.intro ?_ ?_)) <;> (try (conv => whnf)) <;> (repeat' ((intro _ _; rfl))))); (focus ((repeat' (first | exact True.intro | exact rfl | refine And.intro ?_ ?_)) <;> (try (conv => whnf)) <;> (repeat' (fail)) <;> (first | exact Or.inr ⟨rfl, rfl⟩ | exact Or.inr ⟨rfl, Ck.contL_map (fun _ => rfl) _⟩ | ((refine Or.inl ?_); (repeat' (first | exact True.intro | exact rfl | refine And.intro ?_ ?_)) <;> (try (conv => whnf)) <;> (repeat' (fail)))))); (conv => whnf))
  have hl0 : (Ck.mark v.c v.al (List.replicate N 0)).length = N := by rw [mark_len, hb0]
  have hfin : Ck.used v = it (fun t i => markRec v.c (at_ Rc.o v.rs i) t) (Ck.mark v.c v.al (List.replicate N 0)) v.rs.length := by rw [hN]; rfl
  generalize Ck.mark v.c v.al (List.replicate N 0) = B at *
  (conv => whnf); (repeat (fail))
  refine WLoop.inv kmix (D := Nat) (fun d => v.rs.length - d) (fun d => d ≤ v.rs.length)
    (fun d => slots [(1, .ptr 0 0), (3, .ptr 2 0), (4, .fn (.func 125) [] [.ptr 0 0, .ptr 2 0]), (20, LS 10 aRc Rc.o v.rs), (21, ib v.rs.length), (22, ib d)] 41)
    (fun d => heapOf [.row (aPt v) 26 0, .row ((it (fun t i => markRec v.c (at_ Rc.o v.rs i) t) B d).map byteV) 5 0, .row [.sl 1 0 N N] 117 0]) 0 (Nat.zero_le _) ?_ ?_
  · (refine Ex.Weak.of [0, 1, 2] [] rfl rfl ?_ ?_ <;> (repeat' (first | exact True.intro | refine And.intro ?_ ?_)) <;> (conv => whnf) <;> (repeat' (exact rfl)) <;> (first | (intro _ _; rfl) | (first | exact Or.inr ⟨rfl, rfl⟩ | exact Or.inr ⟨rfl, Ck.contL_map (fun _ => rfl) _⟩ | (refine Or.inl ⟨rfl, ?_⟩; (conv => whnf); (repeat' (first | exact True.intro | exact rfl | refine And.intro ?_ ?_)) <;> (try (conv => whnf)) <;> (repeat' (fail)) <;> (fail)))))
  · intro d hd
    have hbl := markRecs_len v.c v.rs B d
    have hout : it (fun t i => markRec v.c (at_ Rc.o v.rs i) t) B (d + 1) = it (fun t k => Ck.mark v.c (at_ Sm.o (at_ Rc.o v.rs d).ss k).r t) (it (fun t i => markRec v.c (at_ Rc.o v.rs i) t) B d) (at_ Rc.o v.rs d).ss.length := rfl
    obtain ⟨b1, hb1⟩ : ∃ b1, b1 = it (fun t i => markRec v.c (at_ Rc.o v.rs i) t) B d := ⟨_, rfl⟩
    rw [← hb1] at hbl hout
    dsimp only
    rw [← hb1]
    conv => whnf
    refine KIf.dec (fun h => ?_) (fun h => ?_)
    · have hlt : d < v.rs.length := by omega
      have hm := at_mem Rc.o v.rs d hlt
      have hss := hv.ss _ hm
      (conv => whnf); (repeat ((refine Ex.Need.mk ?_ ?_; (omega); conv => whnf)))
      refine WLoop.inv kmix (D := Nat) (fun k => (at_ Rc.o v.rs d).ss.length - k) (fun k => k ≤ (at_ Rc.o v.rs d).ss.length)
        (fun k => slots [(1, .ptr 0 0), (3, .ptr 2 0), (4, .fn (.func 125) [] [.ptr 0 0, .ptr 2 0]), (20, LS 10 aRc Rc.o v.rs), (21, ib v.rs.length), (22, ib d), (27, LS 2 aSm Sm.o (at_ Rc.o v.rs d).ss), (28, ib (at_ Rc.o v.rs d).ss.length), (29, ib k)] 41)
        (fun k => heapOf [.row (aPt v) 26 0, .row ((it (fun t k => Ck.mark v.c (at_ Sm.o (at_ Rc.o v.rs d).ss k).r t) b1 k).map byteV) 5 0, .row [.sl 1 0 N N] 117 0]) 0 (Nat.zero_le _) ?_ ?_
      · (refine Ex.Weak.of [0, 1, 2] [] rfl rfl ?_ ?_ <;> (repeat' (first | exact True.intro | refine And.intro ?_ ?_)) <;> (conv => whnf) <;> (repeat' (exact rfl)) <;> (first | (intro _ _; rfl) | (first | exact Or.inr ⟨rfl, rfl⟩ | exact Or.inr ⟨rfl, Ck.contL_map (fun _ => rfl) _⟩ | (refine Or.inl ⟨rfl, ?_⟩; (conv => whnf); (repeat' (first | exact True.intro | exact rfl | refine And.intro ?_ ?_)) <;> (try (conv => whnf)) <;> (repeat' (fail)) <;> (fail)))))
      · intro k hk
        have hbl2 := markRec_len v.c (at_ Rc.o v.rs d) b1 k
        have hstep : it (fun t k => Ck.mark v.c (at_ Sm.o (at_ Rc.o v.rs d).ss k).r t) b1 (k + 1) = Ck.mark v.c (at_ Sm.o (at_ Rc.o v.rs d).ss k).r (it (fun t k => Ck.mark v.c (at_ Sm.o (at_ Rc.o v.rs d).ss k).r t) b1 k) := rfl
        obtain ⟨b2, hb2⟩ : ∃ b2, b2 = it (fun t k => Ck.mark v.c (at_ Sm.o (at_ Rc.o v.rs d).ss k).r t) b1 k := ⟨_, rfl⟩
        rw [← hb2] at hbl2 hstep
        dsimp only
        rw [← hb2]
        conv => whnf
        refine KIf.dec (fun h2 => ?_) (fun h2 => ?_)
        · have hk2 : k < (at_ Rc.o v.rs d).ss.length := by omega
          have hsr := hv.sr _ hm _ (at_mem Sm.o _ k hk2)
          (conv => whnf); (repeat ((refine Ex.Need.mk ?_ ?_; (omega); conv => whnf)))
          (refine KCall.lift [0, 2, 1] [] (.tup []) [.row (aPt v) 26 0, .row [.sl 1 0 N N] 117 0, .row ((Ck.mark v.c (at_ Sm.o (at_ Rc.o v.rs d).ss k).r b2).map byteV) 5 0] (mark_hc v (at_ Sm.o (at_ Rc.o v.rs d).ss k).r b2 N (by omega) hN hc hsr.1 hsr.2) rfl ?_ ?_ ?_ ?_; (focus ((repeat' (first | exact True.intro | refine And.intro ?_ ?_)) <;> (conv => whnf) <;> (repeat' (fail)) <;> ((first | exact Or.inr ⟨rfl, rfl⟩ | exact Or.inr ⟨rfl, Ck.contL_map (fun _ => rfl) _⟩ | (refine Or.inl ⟨rfl, ?_⟩; (conv => whnf); (repeat' (first | exact True.intro | exact rfl | refine And.intro ?_ ?_)) <;> (try (conv => whnf)) <;> (repeat' (fail)) <;> (fail)))))); (focus ((repeat' (first | exact True.intro | exact rfl | refine And.intro ?_ ?_)) <;> (try (conv => whnf)) <;> (repeat' ((intro _ _; rfl))))); (focus ((repeat' (first | exact True.intro | exact rfl | refine And.intro ?_ ?_)) <;> (try (conv => whnf)) <;> (repeat' (fail)) <;> (first | exact Or.inr ⟨rfl, rfl⟩ | exact Or.inr ⟨rfl, Ck.contL_map (fun _ => rfl) _⟩ | ((refine Or.inl ?_); (repeat' (first | exact True.intro | exact rfl | refine And.intro ?_ ?_)) <;> (try (conv => whnf)) <;> (repeat' (fail)))))); (conv => whnf))
          (conv => whnf); (repeat ((refine Ex.Need.mk ?_ ?_; ((constructor <;> omega)); conv => whnf)))
          refine ⟨k + 1, hk2, by dsimp only; omega, ?_⟩
          dsimp only; rw [hstep]
          (refine Ex.Weak.of [0, 1, 2] [] rfl rfl ?_ ?_ <;> (repeat' (first | exact True.intro | refine And.intro ?_ ?_)) <;> (conv => whnf) <;> (repeat' (exact rfl)) <;> (first | (intro _ _; rfl) | (first | exact Or.inr ⟨rfl, rfl⟩ | exact Or.inr ⟨rfl, Ck.contL_map (fun _ => rfl) _⟩ | (refine Or.inl ⟨rfl, ?_⟩; (conv => whnf); (repeat' (first | exact True.intro | exact rfl | refine And.intro ?_ ?_)) <;> (try (conv => whnf)) <;> (repeat' (fail)) <;> (fail)))))
        · have hke : k = (at_ Rc.o v.rs d).ss.length := by omega
          (conv => whnf); (repeat ((refine Ex.Need.mk ?_ ?_; ((constructor <;> omega)); conv => whnf)))
          refine ⟨d + 1, hlt, by dsimp only; omega, ?_⟩
          dsimp only; rw [hout, ← hke, ← hb2]
          (refine Ex.Weak.of [0, 1, 2] [] rfl rfl ?_ ?_ <;> (repeat' (first | exact True.intro | refine And.intro ?_ ?_)) <;> (conv => whnf) <;> (repeat' (exact rfl)) <;> (first | (intro _ _; rfl) | (first | exact Or.inr ⟨rfl, rfl⟩ | exact Or.inr ⟨rfl, Ck.contL_map (fun _ => rfl) _⟩ | (refine Or.inl ⟨rfl, ?_⟩; (conv => whnf); (repeat' (first | exact True.intro | exact rfl | refine And.intro ?_ ?_)) <;> (try (conv => whnf)) <;> (repeat' (fail)) <;> (fail)))))
    · have hde : d = v.rs.length := by omega
      (conv => whnf); (repeat (first | (refine Ex.RK.of (loadC_map (enc := byteV) (l := b1) rfl (by omega)) ?_; conv => whnf) | (refine Ex.RK.of (bytesOf_map b1) ?_; conv => whnf)))
      (refine .z [] ?_; conv => whnf); (repeat' (fail)) <;> (try (conv => whnf)) <;> (repeat' (fail)) <;> ((rw [hfin, ← hde]; exact hb1.symm))
end Go.Proofs.YtgcjejajljhnaaaGreatDoor
namespace Ck
open Go Go.Ex
def aB (b : Bool) : List AV := [bb b]
inductive Sh
  | init
  | mt0
  | op (pre : List Int)
def qv : Sh → List Int → AV
  | .init, _ => .sl 2 0 1 1
  | .mt0, _ => .sl 2 0 0 0
  | .op pre, Q => .so 2 pre.length Q.length pre.length
def qr : Sh → List Int → AO
  | .init, _ => .row [ib 5] 3 0
  | .mt0, _ => .row [ib 5] 3 0
  | .op pre, Q => .row ((pre ++ Q).map ib) 3 1
def okS : Sh → List Int → Prop
  | .init, Q => Q = [5]
  | .mt0, Q => Q = []
  | .op _, _ => True
def okI : Sh → List Int → Prop
  | .init, _ => False
  | .mt0, Q => Q = []
  | .op _, _ => True
theorem okI.s {sh : Sh} {Q : List Int} (h : okI sh Q) : okS sh Q := by cases sh <;> first | exact h.elim | exact h
def rx (v : Pt) (r : Ref) : Rc := if wi r.r 0 (v.rs.length - 1) then Ck.rc v r.r else Rc.o
theorem map_flat {α : Type} (enc : α → AV) (o : α) (l : List α) : l.map enc = (List.range l.length).flatMap fun i => [enc (at_ o l i)] := by
  induction l with
  | nil => rfl
  | cons a l ih =>
    rw [List.map_cons, List.length_cons, List.range_succ_eq_map, List.flatMap_cons, List.flatMap_map, ih]
    rfl
theorem cnt_rep : ∀ n, cntF (List.replicate n false) = n
  | 0 => rfl
  | n + 1 => by rw [List.replicate_succ]; simp only [cntF]; rw [cnt_rep n]; simp; omega
end Ck
namespace Go.Proofs.YtgcjejajljhnaaaGreatDoor
open Go.Ex Ck
set_option maxRecDepth 100000
set_option maxHeartbeats 4000000
theorem right_t (v : Pt) (r : Ref) (hn : v.rs.length ≤ 100000) (h : Ck.right v r = true) : Ex.PureC Tryz.prog 101 [aPts v, .agg (aRef r)] (.tup [aRcs (at_ Rc.o v.rs r.r.toNat), bb true]) := by
  have := right_k v r hn
  have hw : wi r.r 0 (v.rs.length - 1) = true := by unfold Ck.right at h; simp only [Bool.and_eq_true] at h; exact h.1.1
  rw [h, if_pos hw] at this
  exact this
theorem right_f (v : Pt) (r : Ref) (hn : v.rs.length ≤ 100000) (h : Ck.right v r = false) : Ex.PureC Tryz.prog 101 [aPts v, .agg (aRef r)] (.tup [aRcs (rx v r), bb false]) := by
  have := right_k v r hn
  rw [h] at this
  exact this
theorem reached_k (v : Pt) (h1 : v.rs.length ≤ 100000) (h5 : 5 < v.rs.length) (hd5 : dir (at_ Rc.o v.rs 5) = true) (hes : ∀ x ∈ v.rs, x.es.length ≤ 100000) : Ex.PureC Tryz.prog 74 [aPts v] (LS 1 aB false (rchL v)) := by
  have hmk : (0 : Int) ≤ v.rs.length ∧ (v.rs.length : Int) ≤ v.rs.length ∧ ((v.rs.length : Int)).toNat * 1 ≤ 2 ^ 47 ∧ (v.rs.length : Int) ≤ 2 ^ 60 := by refine ⟨?_, ?_, ?_, ?_⟩ <;> omega
  have hcnt0 : [5].length + cntF (marks0 v) ≤ v.rs.length := by
    have := cntF_set (List.replicate v.rs.length false) 5 (by simpa using h5) (rep_at _ _)
    rw [cnt_rep] at this
    unfold marks0
    simp only [List.length_cons, List.length_nil]
    omega
  have hzr : zeros v.rs.length (.bool false) = (List.replicate v.rs.length false).map bb := by
    rw [zeros_rep (x := bb false) _ _ rfl]; simp
  have hoff5 : 0 + 5 * 1 = 5 := rfl
  have hj5 : 5 < (List.replicate v.rs.length false).length := by simpa using h5
  refine Ex.PureC.of kmix rfl ?_
  (conv => whnf); (repeat (first | (refine Ex.Need.mk ?_ ?_; (first | trivial | omega); conv => whnf) | (refine Ck.storeM bb true rfl hoff5 rfl rfl rfl rfl (congrArg (fun c => some (AO.row c 4 0)) hzr) hj5 ?_; conv => whnf)))
  refine WLoop.inv kmix (D := List Bool × List Int × Sh) (fun d => 2 * cntF d.1 + d.2.1.length) (fun d => Que v d.1 d.2.1 ∧ okS d.2.2 d.2.1 ∧ d.2.1.length + cntF d.1 ≤ v.rs.length)
    (fun d => slots [(1, .ptr 0 0), (3, .sl 1 0 v.rs.length v.rs.length), (4, qv d.2.2 d.2.1)] 68)
    (fun d => heapOf [.row (aPt v) 26 0, .row (d.1.map bb) 4 0, qr d.2.2 d.2.1]) (marks0 v, [5], .init) ⟨.start h5 hd5, rfl, hcnt0⟩ ?_ ?_
  · (refine Ex.Weak.of [0, 1, 2] [] rfl rfl ?_ ?_ <;> (repeat' (first | exact True.intro | refine And.intro ?_ ?_)) <;> (conv => whnf) <;> (repeat' (exact rfl)) <;> ((first | exact Or.inr ⟨rfl, rfl⟩ | exact Or.inr ⟨rfl, Ck.contL_map (fun _ => rfl) _⟩)))
  · rintro ⟨L, Q, sh⟩ ⟨hq, hs, hcn⟩
    dsimp only at hq hs hcn ⊢
    have hLl := hq.m.len
    cases sh with
    | init =>
      subst hs
      have hmid := hq.pop
      clear hq
      (conv => whnf); (repeat (first | (refine Ex.KIf.t rfl ?_; conv => whnf) | (refine Ex.Need.mk ?_ ?_; (first | trivial | omega); conv => whnf)))
      have hcq : ([] : List Int).length + 1 + cntF L ≤ v.rs.length ∧ 2 * cntF L + ([] : List Int).length < 2 * cntF L + ([5] : List Int).length := by simp only [List.length_cons, List.length_nil] at hcn ⊢; omega
      have hel := hes _ (at_mem Rc.o v.rs 5 (by omega))
      refine WLoop.inv kmix (D := List Bool × List Int × Sh × Nat) (fun m => (at_ Rc.o v.rs 5).es.length - m.2.2.2) (fun m => Mid v 5 m.2.2.2 m.1 m.2.1 ∧ okI m.2.2.1 m.2.1 ∧ m.2.2.2 ≤ (at_ Rc.o v.rs 5).es.length ∧ m.2.1.length + 1 + cntF m.1 ≤ v.rs.length ∧ 2 * cntF m.1 + m.2.1.length < 2 * cntF L + ([5] : List Int).length)
        (fun m => slots [(1, .ptr 0 0), (3, .sl 1 0 v.rs.length v.rs.length), (4, qv m.2.2.1 m.2.1), (5, ib 5), (30, LS 4 aEn En.o (at_ Rc.o v.rs 5).es), (31, ib (at_ Rc.o v.rs 5).es.length), (32, ib m.2.2.2)] 68)
        (fun m => heapOf [.row (aPt v) 26 0, .row (m.1.map bb) 4 0, qr m.2.2.1 m.2.1]) (L, ([] : List Int), .mt0, 0) ⟨hmid, rfl, Nat.zero_le _, hcq.1, hcq.2⟩ ?_ ?_
      · (refine Ex.Weak.of [0, 1, 2] [] rfl rfl ?_ ?_ <;> (repeat' (first | exact True.intro | refine And.intro ?_ ?_)) <;> (conv => whnf) <;> (repeat' (exact rfl)) <;> (first | (intro _ _; rfl) | (first | exact Or.inr ⟨rfl, rfl⟩ | exact Or.inr ⟨rfl, Ck.contL_map (fun _ => rfl) _⟩)))
      · clear hmid hcq hcn
        rintro ⟨L, Q, sh, k⟩ ⟨hm, hs, hk, hcn, hme⟩
        dsimp only at hm hs hk hcn hme ⊢
        cases sh with
        | init => exact hs.elim
        | mt0 =>
          subst hs
          have hLl := hm.m.len
          conv => whnf
          refine KIf.dec (fun h => ?_) (fun h => ?_)
          · have hlt : k < (at_ Rc.o v.rs 5).es.length := by omega
            obtain ⟨x, hx⟩ : ∃ x, x = (at_ En.o (at_ Rc.o v.rs 5).es k) := ⟨_, rfl⟩
            by_cases hr : right v x.f = true
            · have hrl := right_lt hr
              have hri : 0 ≤ x.f.r ∧ x.f.r < v.rs.length := by omega
              have hoff : 0 + x.f.r.toNat * 1 = x.f.r.toNat := by omega
              have hj : x.f.r.toNat < L.length := by omega
              have hset := fun hn => hm.set hx hlt hr hn
              have hskip := fun hn : at_ false L x.f.r.toNat = true => hm.skip (by rw [← hx]; exact fun _ => hn)
              rw [hx] at hr hri hoff hj hset hskip
              cases hmk : at_ false L (at_ En.o (at_ Rc.o v.rs 5).es k).f.r.toNat
              · have hm2 := hset hmk
                have hcs := cntF_set L _ hj hmk
                clear hset hskip
                cases hd : dir (at_ Rc.o v.rs (at_ En.o (at_ Rc.o v.rs 5).es k).f.r.toNat)
                · rw [hd] at hm2
                  (conv => whnf); (repeat (first | (refine Ex.KIf.f ?_ ?_; assumption; conv => whnf) | (refine Ex.KIf.t rfl ?_; conv => whnf) | (refine Ex.Need.mk ?_ ?_; (first | trivial | omega | (constructor <;> omega)); conv => whnf) | ((refine Ex.KCall.pure (right_t v _ h1 hr) ?_); conv => whnf) | (refine Ex.RK.of (Ck.loadMx bb false false hmk hoff rfl rfl hj) ?_; conv => whnf) | (refine Ck.storeM bb true rfl hoff rfl rfl rfl rfl rfl hj ?_; conv => whnf) | ((refine Ex.KCall.pure (isDirectory_k (at_ Rc.o v.rs (at_ En.o (at_ Rc.o v.rs 5).es k).f.r.toNat)) ?_); conv => whnf)))
                  refine ⟨(L.set (at_ En.o (at_ Rc.o v.rs 5).es k).f.r.toNat true, ([] : List Int), Sh.mt0, k + 1), ⟨hm2, rfl, hlt, by dsimp only; omega, by dsimp only at hme ⊢; omega⟩, by dsimp only; omega, ?_⟩
                  (refine Ex.Weak.of [0, 1, 2] [] rfl rfl ?_ ?_ <;> (repeat' (first | exact True.intro | refine And.intro ?_ ?_)) <;> (conv => whnf) <;> (repeat' (exact rfl)) <;> (first | (intro _ _; rfl) | (first | exact Or.inr ⟨rfl, rfl⟩ | exact Or.inr ⟨rfl, Ck.contL_map (fun _ => rfl) _⟩)))
                · rw [hd, if_pos rfl] at hm2
                  (conv => whnf); (repeat (first | (refine Ex.KIf.t ?_ ?_; assumption; conv => whnf) | (refine Ex.KIf.t rfl ?_; conv => whnf) | (refine Ex.KIf.f rfl ?_; conv => whnf) | (refine Ex.Need.mk ?_ ?_; (first | trivial | omega | (constructor <;> omega)); conv => whnf) | ((refine Ex.KCall.pure (right_t v _ h1 hr) ?_); conv => whnf) | (refine Ex.RK.of (Ck.loadMx bb false false hmk hoff rfl rfl hj) ?_; conv => whnf) | (refine Ck.storeM bb true rfl hoff rfl rfl rfl rfl rfl hj ?_; conv => whnf) | ((refine Ex.KCall.pure (isDirectory_k (at_ Rc.o v.rs (at_ En.o (at_ Rc.o v.rs 5).es k).f.r.toNat)) ?_); conv => whnf)))
                  refine ⟨(L.set (at_ En.o (at_ Rc.o v.rs 5).es k).f.r.toNat true, ([] : List Int) ++ [(at_ En.o (at_ Rc.o v.rs 5).es k).f.r], (Sh.op []), k + 1), ⟨hm2, trivial, hlt, by simp only [List.length_append, List.length_cons, List.length_nil] at hcn ⊢; omega, by simp only [List.length_append, List.length_cons, List.length_nil] at hme ⊢; omega⟩, by dsimp only; omega, ?_⟩
                  (refine Ex.Weak.of [0, 1, 6] [] rfl rfl ?_ ?_ <;> (repeat' (first | exact True.intro | refine And.intro ?_ ?_)) <;> (conv => whnf) <;> (repeat' (exact rfl)) <;> (first | (intro _ _; rfl) | ((first | exact Or.inr ⟨rfl, rfl⟩ | exact Or.inr ⟨rfl, Ck.contL_map (fun _ => rfl) _⟩))))
              · have hm2 := hskip hmk
                clear hset hskip
                (conv => whnf); (repeat (first | (refine Ex.KIf.t rfl ?_; conv => whnf) | (refine Ex.KIf.f rfl ?_; conv => whnf) | (refine Ex.Need.mk ?_ ?_; (first | trivial | omega | (constructor <;> omega)); conv => whnf) | ((refine Ex.KCall.pure (right_t v _ h1 hr) ?_); conv => whnf) | (refine Ex.RK.of (Ck.loadMx bb false true hmk hoff rfl rfl hj) ?_; conv => whnf)))
                refine ⟨(L, ([] : List Int), Sh.mt0, k + 1), ⟨hm2, rfl, hlt, hcn, hme⟩, by dsimp only; omega, ?_⟩
                (refine Ex.Weak.of [0, 1, 2] [] rfl rfl ?_ ?_ <;> (repeat' (first | exact True.intro | refine And.intro ?_ ?_)) <;> (conv => whnf) <;> (repeat' (exact rfl)) <;> (first | (intro _ _; rfl) | (first | exact Or.inr ⟨rfl, rfl⟩ | exact Or.inr ⟨rfl, Ck.contL_map (fun _ => rfl) _⟩)))
            · have hr' : right v x.f = false := by simpa using hr
              have hm2 := hm.skip (by rw [← hx]; exact fun h => absurd h hr)
              rw [hx] at hr'
              (conv => whnf); (repeat (first | (refine Ex.KIf.f rfl ?_; conv => whnf) | (refine Ex.Need.mk ?_ ?_; (first | omega | (constructor <;> omega)); conv => whnf) | ((refine Ex.KCall.pure (right_f v _ h1 hr') ?_); conv => whnf)))
              refine ⟨(L, ([] : List Int), Sh.mt0, k + 1), ⟨hm2, rfl, hlt, hcn, hme⟩, by dsimp only; omega, ?_⟩
              (refine Ex.Weak.of [0, 1, 2] [] rfl rfl ?_ ?_ <;> (repeat' (first | exact True.intro | refine And.intro ?_ ?_)) <;> (conv => whnf) <;> (repeat' (exact rfl)) <;> (first | (intro _ _; rfl) | (first | exact Or.inr ⟨rfl, rfl⟩ | exact Or.inr ⟨rfl, Ck.contL_map (fun _ => rfl) _⟩)))
          · have hke : k = (at_ Rc.o v.rs 5).es.length := by omega
            (conv => whnf); (repeat (fail))
            refine ⟨(L, ([] : List Int), Sh.mt0), ⟨hm.fin hke, rfl, by dsimp only; omega⟩, hme, ?_⟩
            (refine Ex.Weak.of [0, 1, 2] [] rfl rfl ?_ ?_ <;> (repeat' (first | exact True.intro | refine And.intro ?_ ?_)) <;> (conv => whnf) <;> (repeat' (exact rfl)) <;> ((first | exact Or.inr ⟨rfl, rfl⟩ | exact Or.inr ⟨rfl, Ck.contL_map (fun _ => rfl) _⟩)))
        | op pre =>
          have hLl := hm.m.len
          conv => whnf
          refine KIf.dec (fun h => ?_) (fun h => ?_)
          · have hlt : k < (at_ Rc.o v.rs 5).es.length := by omega
            obtain ⟨x, hx⟩ : ∃ x, x = (at_ En.o (at_ Rc.o v.rs 5).es k) := ⟨_, rfl⟩
            by_cases hr : right v x.f = true
            · have hrl := right_lt hr
              have hri : 0 ≤ x.f.r ∧ x.f.r < v.rs.length := by omega
              have hoff : 0 + x.f.r.toNat * 1 = x.f.r.toNat := by omega
              have hj : x.f.r.toNat < L.length := by omega
              have hset := fun hn => hm.set hx hlt hr hn
              have hskip := fun hn : at_ false L x.f.r.toNat = true => hm.skip (by rw [← hx]; exact fun _ => hn)
              rw [hx] at hr hri hoff hj hset hskip
              cases hmk : at_ false L (at_ En.o (at_ Rc.o v.rs 5).es k).f.r.toNat
              · have hm2 := hset hmk
                have hcs := cntF_set L _ hj hmk
                clear hset hskip
                cases hd : dir (at_ Rc.o v.rs (at_ En.o (at_ Rc.o v.rs 5).es k).f.r.toNat)
                · rw [hd] at hm2
                  (conv => whnf); (repeat (first | (refine Ex.KIf.f ?_ ?_; assumption; conv => whnf) | (refine Ex.KIf.t rfl ?_; conv => whnf) | (refine Ex.Need.mk ?_ ?_; (first | trivial | omega | (constructor <;> omega)); conv => whnf) | ((refine Ex.KCall.pure (right_t v _ h1 hr) ?_); conv => whnf) | (refine Ex.RK.of (Ck.loadMx bb false false hmk hoff rfl rfl hj) ?_; conv => whnf) | (refine Ck.storeM bb true rfl hoff rfl rfl rfl rfl rfl hj ?_; conv => whnf) | ((refine Ex.KCall.pure (isDirectory_k (at_ Rc.o v.rs (at_ En.o (at_ Rc.o v.rs 5).es k).f.r.toNat)) ?_); conv => whnf)))
                  refine ⟨(L.set (at_ En.o (at_ Rc.o v.rs 5).es k).f.r.toNat true, Q, (Sh.op pre), k + 1), ⟨hm2, trivial, hlt, by dsimp only; omega, by dsimp only at hme ⊢; omega⟩, by dsimp only; omega, ?_⟩
                  (refine Ex.Weak.of [0, 1, 2] [] rfl rfl ?_ ?_ <;> (repeat' (first | exact True.intro | refine And.intro ?_ ?_)) <;> (conv => whnf) <;> (repeat' (exact rfl)) <;> (first | (intro _ _; rfl) | (first | exact Or.inr ⟨rfl, rfl⟩ | exact Or.inr ⟨rfl, Ck.contL_map (fun _ => rfl) _⟩)))
                · rw [hd, if_pos rfl] at hm2
                  (conv => whnf); (repeat (first | (refine Ex.NCase.s (Nat.succ_ne_zero _) ?_; conv => whnf) | (refine Ex.KIf.t ?_ ?_; assumption; conv => whnf) | (refine Ex.KIf.t rfl ?_; conv => whnf) | (refine Ex.Need.mk ?_ ?_; (first | trivial | omega | (constructor <;> omega)); conv => whnf) | ((refine Ex.KCall.pure (right_t v _ h1 hr) ?_); conv => whnf) | (refine Ex.RK.of (Ck.loadMx bb false false hmk hoff rfl rfl hj) ?_; conv => whnf) | (refine Ck.storeM bb true rfl hoff rfl rfl rfl rfl rfl hj ?_; conv => whnf) | ((refine Ex.KCall.pure (isDirectory_k (at_ Rc.o v.rs (at_ En.o (at_ Rc.o v.rs 5).es k).f.r.toNat)) ?_); conv => whnf) | (refine Need.mk ?_ ?_; (focus (exact (by simp))); conv => whnf)))
                  refine ⟨(L.set (at_ En.o (at_ Rc.o v.rs 5).es k).f.r.toNat true, Q ++ [(at_ En.o (at_ Rc.o v.rs 5).es k).f.r], (Sh.op []), k + 1), ⟨hm2, trivial, hlt, by simp only [List.length_append, List.length_cons, List.length_nil] at hcn ⊢; omega, by simp only [List.length_append, List.length_cons, List.length_nil] at hme ⊢; omega⟩, by dsimp only; omega, ?_⟩
                  (refine Ex.Weak.of [0, 1, 6] [] rfl rfl ?_ ?_ <;> (repeat' (first | exact True.intro | refine And.intro ?_ ?_)) <;> (conv => whnf) <;> (repeat' (exact rfl)) <;> (first | (intro _ _; rfl) | (first | exact wrow_eq (row_app ib _ _ _) (contL_map (enc := ib) (fun _ => rfl) _) | (first | exact Or.inr ⟨rfl, rfl⟩ | exact Or.inr ⟨rfl, Ck.contL_map (fun _ => rfl) _⟩) | (simp; done))))
              · have hm2 := hskip hmk
                clear hset hskip
                (conv => whnf); (repeat (first | (refine Ex.KIf.t rfl ?_; conv => whnf) | (refine Ex.KIf.f rfl ?_; conv => whnf) | (refine Ex.Need.mk ?_ ?_; (first | trivial | omega | (constructor <;> omega)); conv => whnf) | ((refine Ex.KCall.pure (right_t v _ h1 hr) ?_); conv => whnf) | (refine Ex.RK.of (Ck.loadMx bb false true hmk hoff rfl rfl hj) ?_; conv => whnf)))
                refine ⟨(L, Q, (Sh.op pre), k + 1), ⟨hm2, trivial, hlt, hcn, hme⟩, by dsimp only; omega, ?_⟩
                (refine Ex.Weak.of [0, 1, 2] [] rfl rfl ?_ ?_ <;> (repeat' (first | exact True.intro | refine And.intro ?_ ?_)) <;> (conv => whnf) <;> (repeat' (exact rfl)) <;> (first | (intro _ _; rfl) | (first | exact Or.inr ⟨rfl, rfl⟩ | exact Or.inr ⟨rfl, Ck.contL_map (fun _ => rfl) _⟩)))
            · have hr' : right v x.f = false := by simpa using hr
              have hm2 := hm.skip (by rw [← hx]; exact fun h => absurd h hr)
              rw [hx] at hr'
              (conv => whnf); (repeat (first | (refine Ex.KIf.f rfl ?_; conv => whnf) | (refine Ex.Need.mk ?_ ?_; (first | omega | (constructor <;> omega)); conv => whnf) | ((refine Ex.KCall.pure (right_f v _ h1 hr') ?_); conv => whnf)))
              refine ⟨(L, Q, (Sh.op pre), k + 1), ⟨hm2, trivial, hlt, hcn, hme⟩, by dsimp only; omega, ?_⟩
              (refine Ex.Weak.of [0, 1, 2] [] rfl rfl ?_ ?_ <;> (repeat' (first | exact True.intro | refine And.intro ?_ ?_)) <;> (conv => whnf) <;> (repeat' (exact rfl)) <;> (first | (intro _ _; rfl) | (first | exact Or.inr ⟨rfl, rfl⟩ | exact Or.inr ⟨rfl, Ck.contL_map (fun _ => rfl) _⟩)))
          · have hke : k = (at_ Rc.o v.rs 5).es.length := by omega
            (conv => whnf); (repeat (fail))
            refine ⟨(L, Q, Sh.op pre), ⟨hm.fin hke, trivial, by dsimp only; omega⟩, hme, ?_⟩
            (refine Ex.Weak.of [0, 1, 2] [] rfl rfl ?_ ?_ <;> (repeat' (first | exact True.intro | refine And.intro ?_ ?_)) <;> (conv => whnf) <;> (repeat' (exact rfl)) <;> ((first | exact Or.inr ⟨rfl, rfl⟩ | exact Or.inr ⟨rfl, Ck.contL_map (fun _ => rfl) _⟩)))
    | mt0 =>
      subst hs
      have hL := hq.fin
      (conv => whnf); (repeat ((refine Ex.KIf.f rfl ?_; conv => whnf)))
      refine .z [1] ?_
      rw [← hL]
      exact Wz.ownS rfl (by simp) hLl.symm (Nat.le_of_eq hLl) (fun _ _ => rfl) (map_flat bb false L) (fun _ _ => rfl)
    | op pre =>
      cases Q with
      | nil =>
        have hL := hq.fin
        (conv => whnf); (repeat ((refine Ex.KIf.f rfl ?_; conv => whnf)))
        refine .z [1] ?_
        rw [← hL]
        exact Wz.ownS rfl (by simp) hLl.symm (Nat.le_of_eq hLl) (fun _ _ => rfl) (map_flat bb false L) (fun _ _ => rfl)
      | cons d Q =>
        have hmid := hq.pop
        obtain ⟨hd0, hd1, hd2, hd3⟩ := hq.q d (by simp)
        clear hd2 hd3
        clear hq hs
        cases Q with
        | nil =>
          have hle : (0 : Int) ≤ 0 ∧ (0 : Int) < ([d].length : Nat) := ⟨Int.le_refl _, by simp only [List.length_cons, List.length_nil]; omega⟩
          have hat : at_ 0 (pre ++ [d]) pre.length = d := by unfold at_; simp
          have hjl : pre.length < (pre ++ [d]).length := by simp
          have hdn : 0 ≤ d ∧ d < v.rs.length := by omega
          (conv => whnf); (repeat (first | (refine Ex.KIf.t rfl ?_; conv => whnf) | (refine Ex.KIf.f rfl ?_; conv => whnf) | (refine Ex.Need.mk ?_ ?_; (first | trivial | omega); conv => whnf) | (refine Need.mk ?_ ?_; (focus (exact ⟨(Nat.mul_one _).symm, by simp, rfl, rfl⟩)); conv => whnf) | (refine Ex.RK.of (Ck.loadMx ib 0 d hat rfl rfl rfl hjl) ?_; conv => whnf)))
          have hcq : ([] : List Int).length + 1 + cntF L ≤ v.rs.length ∧ 2 * cntF L + ([] : List Int).length < 2 * cntF L + ([d] : List Int).length := by simp only [List.length_cons, List.length_nil] at hcn ⊢; omega
          have hel := hes _ (at_mem Rc.o v.rs d.toNat (by omega))
          refine WLoop.inv kmix (D := List Bool × List Int × List Int × Nat) (fun m => (at_ Rc.o v.rs d.toNat).es.length - m.2.2.2) (fun m => Mid v d.toNat m.2.2.2 m.1 m.2.1 ∧ okI (.op m.2.2.1) m.2.1 ∧ m.2.2.2 ≤ (at_ Rc.o v.rs d.toNat).es.length ∧ m.2.1.length + 1 + cntF m.1 ≤ v.rs.length ∧ 2 * cntF m.1 + m.2.1.length < 2 * cntF L + ([d] : List Int).length)
            (fun m => slots [(1, .ptr 0 0), (3, .sl 1 0 v.rs.length v.rs.length), (4, qv (.op m.2.2.1) m.2.1), (5, ib d), (30, LS 4 aEn En.o (at_ Rc.o v.rs d.toNat).es), (31, ib (at_ Rc.o v.rs d.toNat).es.length), (32, ib m.2.2.2)] 68)
            (fun m => heapOf [.row (aPt v) 26 0, .row (m.1.map bb) 4 0, qr (.op m.2.2.1) m.2.1]) (L, ([] : List Int), [], 0) ⟨hmid, trivial, Nat.zero_le _, hcq.1, hcq.2⟩ ?_ ?_
          · (refine Ex.Weak.of [0, 1, 3] [] rfl rfl ?_ ?_ <;> (repeat' (first | exact True.intro | refine And.intro ?_ ?_)) <;> (conv => whnf) <;> (repeat' (exact rfl)) <;> (first | (intro _ _; rfl) | (first | exact Or.inr ⟨rfl, rfl⟩ | exact Or.inr ⟨rfl, Ck.contL_map (fun _ => rfl) _⟩)))
          · clear hmid hcq hcn hat hjl hle
            rintro ⟨L, Q, pre, k⟩ ⟨hm, hs, hk, hcn, hme⟩
            dsimp only at hm hs hk hcn hme ⊢
            have hLl := hm.m.len
            conv => whnf
            refine KIf.dec (fun h => ?_) (fun h => ?_)
            · have hlt : k < (at_ Rc.o v.rs d.toNat).es.length := by omega
              obtain ⟨x, hx⟩ : ∃ x, x = (at_ En.o (at_ Rc.o v.rs d.toNat).es k) := ⟨_, rfl⟩
              by_cases hr : right v x.f = true
              · have hrl := right_lt hr
                have hri : 0 ≤ x.f.r ∧ x.f.r < v.rs.length := by omega
                have hoff : 0 + x.f.r.toNat * 1 = x.f.r.toNat := by omega
                have hj : x.f.r.toNat < L.length := by omega
                have hset := fun hn => hm.set hx hlt hr hn
                have hskip := fun hn : at_ false L x.f.r.toNat = true => hm.skip (by rw [← hx]; exact fun _ => hn)
                rw [hx] at hr hri hoff hj hset hskip
                cases hmk : at_ false L (at_ En.o (at_ Rc.o v.rs d.toNat).es k).f.r.toNat
                · have hm2 := hset hmk
                  have hcs := cntF_set L _ hj hmk
                  clear hset hskip
                  cases hd : dir (at_ Rc.o v.rs (at_ En.o (at_ Rc.o v.rs d.toNat).es k).f.r.toNat)
                  · rw [hd] at hm2
                    (conv => whnf); (repeat (first | (refine Ex.KIf.f ?_ ?_; assumption; conv => whnf) | (refine Ex.KIf.t rfl ?_; conv => whnf) | (refine Ex.Need.mk ?_ ?_; (first | trivial | omega | (constructor <;> omega)); conv => whnf) | ((refine Ex.KCall.pure (right_t v _ h1 hr) ?_); conv => whnf) | (refine Ex.RK.of (Ck.loadMx bb false false hmk hoff rfl rfl hj) ?_; conv => whnf) | (refine Ck.storeM bb true rfl hoff rfl rfl rfl rfl rfl hj ?_; conv => whnf) | ((refine Ex.KCall.pure (isDirectory_k (at_ Rc.o v.rs (at_ En.o (at_ Rc.o v.rs d.toNat).es k).f.r.toNat)) ?_); conv => whnf)))
                    refine ⟨(L.set (at_ En.o (at_ Rc.o v.rs d.toNat).es k).f.r.toNat true, Q, pre, k + 1), ⟨hm2, trivial, hlt, by dsimp only; omega, by dsimp only at hme ⊢; omega⟩, by dsimp only; omega, ?_⟩
                    (refine Ex.Weak.of [0, 1, 2] [] rfl rfl ?_ ?_ <;> (repeat' (first | exact True.intro | refine And.intro ?_ ?_)) <;> (conv => whnf) <;> (repeat' (exact rfl)) <;> (first | (intro _ _; rfl) | (first | exact Or.inr ⟨rfl, rfl⟩ | exact Or.inr ⟨rfl, Ck.contL_map (fun _ => rfl) _⟩)))
                  · rw [hd, if_pos rfl] at hm2
                    (conv => whnf); (repeat (first | (refine Ex.NCase.s (Nat.succ_ne_zero _) ?_; conv => whnf) | (refine Ex.KIf.t ?_ ?_; assumption; conv => whnf) | (refine Ex.KIf.t rfl ?_; conv => whnf) | (refine Ex.Need.mk ?_ ?_; (first | trivial | omega | (constructor <;> omega)); conv => whnf) | ((refine Ex.KCall.pure (right_t v _ h1 hr) ?_); conv => whnf) | (refine Ex.RK.of (Ck.loadMx bb false false hmk hoff rfl rfl hj) ?_; conv => whnf) | (refine Ck.storeM bb true rfl hoff rfl rfl rfl rfl rfl hj ?_; conv => whnf) | ((refine Ex.KCall.pure (isDirectory_k (at_ Rc.o v.rs (at_ En.o (at_ Rc.o v.rs d.toNat).es k).f.r.toNat)) ?_); conv => whnf) | (refine Need.mk ?_ ?_; (focus (exact (by simp))); conv => whnf)))
                    refine ⟨(L.set (at_ En.o (at_ Rc.o v.rs d.toNat).es k).f.r.toNat true, Q ++ [(at_ En.o (at_ Rc.o v.rs d.toNat).es k).f.r], [], k + 1), ⟨hm2, trivial, hlt, by simp only [List.length_append, List.length_cons, List.length_nil] at hcn ⊢; omega, by simp only [List.length_append, List.length_cons, List.length_nil] at hme ⊢; omega⟩, by dsimp only; omega, ?_⟩
                    (refine Ex.Weak.of [0, 1, 6] [] rfl rfl ?_ ?_ <;> (repeat' (first | exact True.intro | refine And.intro ?_ ?_)) <;> (conv => whnf) <;> (repeat' (exact rfl)) <;> (first | (intro _ _; rfl) | (first | exact wrow_eq (row_app ib _ _ _) (contL_map (enc := ib) (fun _ => rfl) _) | (first | exact Or.inr ⟨rfl, rfl⟩ | exact Or.inr ⟨rfl, Ck.contL_map (fun _ => rfl) _⟩) | (simp; done))))
                · have hm2 := hskip hmk
                  clear hset hskip
                  (conv => whnf); (repeat (first | (refine Ex.KIf.t rfl ?_; conv => whnf) | (refine Ex.KIf.f rfl ?_; conv => whnf) | (refine Ex.Need.mk ?_ ?_; (first | trivial | omega | (constructor <;> omega)); conv => whnf) | ((refine Ex.KCall.pure (right_t v _ h1 hr) ?_); conv => whnf) | (refine Ex.RK.of (Ck.loadMx bb false true hmk hoff rfl rfl hj) ?_; conv => whnf)))
                  refine ⟨(L, Q, pre, k + 1), ⟨hm2, trivial, hlt, hcn, hme⟩, by dsimp only; omega, ?_⟩
                  (refine Ex.Weak.of [0, 1, 2] [] rfl rfl ?_ ?_ <;> (repeat' (first | exact True.intro | refine And.intro ?_ ?_)) <;> (conv => whnf) <;> (repeat' (exact rfl)) <;> (first | (intro _ _; rfl) | (first | exact Or.inr ⟨rfl, rfl⟩ | exact Or.inr ⟨rfl, Ck.contL_map (fun _ => rfl) _⟩)))
              · have hr' : right v x.f = false := by simpa using hr
                have hm2 := hm.skip (by rw [← hx]; exact fun h => absurd h hr)
                rw [hx] at hr'
                (conv => whnf); (repeat (first | (refine Ex.KIf.f rfl ?_; conv => whnf) | (refine Ex.Need.mk ?_ ?_; (first | omega | (constructor <;> omega)); conv => whnf) | ((refine Ex.KCall.pure (right_f v _ h1 hr') ?_); conv => whnf)))
                refine ⟨(L, Q, pre, k + 1), ⟨hm2, trivial, hlt, hcn, hme⟩, by dsimp only; omega, ?_⟩
                (refine Ex.Weak.of [0, 1, 2] [] rfl rfl ?_ ?_ <;> (repeat' (first | exact True.intro | refine And.intro ?_ ?_)) <;> (conv => whnf) <;> (repeat' (exact rfl)) <;> (first | (intro _ _; rfl) | (first | exact Or.inr ⟨rfl, rfl⟩ | exact Or.inr ⟨rfl, Ck.contL_map (fun _ => rfl) _⟩)))
            · have hke : k = (at_ Rc.o v.rs d.toNat).es.length := by omega
              (conv => whnf); (repeat (fail))
              refine ⟨(L, Q, Sh.op pre), ⟨hm.fin hke, trivial, by dsimp only; omega⟩, hme, ?_⟩
              (refine Ex.Weak.of [0, 1, 2] [] rfl rfl ?_ ?_ <;> (repeat' (first | exact True.intro | refine And.intro ?_ ?_)) <;> (conv => whnf) <;> (repeat' (exact rfl)) <;> ((first | exact Or.inr ⟨rfl, rfl⟩ | exact Or.inr ⟨rfl, Ck.contL_map (fun _ => rfl) _⟩)))
        | cons d2 Q =>
          have hle : (0 : Int) ≤ 0 ∧ (0 : Int) < ((d :: d2 :: Q).length : Nat) := ⟨Int.le_refl _, by simp only [List.length_cons, List.length_nil]; omega⟩
          have hat : at_ 0 (pre ++ (d :: d2 :: Q)) pre.length = d := by unfold at_; simp
          have hjl : pre.length < (pre ++ (d :: d2 :: Q)).length := by simp
          have hdn : 0 ≤ d ∧ d < v.rs.length := by omega
          (conv => whnf); (repeat (first | (refine Ex.KIf.t rfl ?_; conv => whnf) | (refine Ex.Need.mk ?_ ?_; (first | trivial | omega); conv => whnf) | (refine KIf.t (decide_eq_true hle.2) ?_; conv => whnf) | (refine Ex.RK.of (Ck.loadMx ib 0 d hat rfl rfl rfl hjl) ?_; conv => whnf)))
          have hcq : (d2 :: Q).length + 1 + cntF L ≤ v.rs.length ∧ 2 * cntF L + (d2 :: Q).length < 2 * cntF L + (d :: d2 :: Q).length := by simp only [List.length_cons, List.length_nil] at hcn ⊢; omega
          have hel := hes _ (at_mem Rc.o v.rs d.toNat (by omega))
          refine WLoop.inv kmix (D := List Bool × List Int × List Int × Nat) (fun m => (at_ Rc.o v.rs d.toNat).es.length - m.2.2.2) (fun m => Mid v d.toNat m.2.2.2 m.1 m.2.1 ∧ okI (.op m.2.2.1) m.2.1 ∧ m.2.2.2 ≤ (at_ Rc.o v.rs d.toNat).es.length ∧ m.2.1.length + 1 + cntF m.1 ≤ v.rs.length ∧ 2 * cntF m.1 + m.2.1.length < 2 * cntF L + (d :: d2 :: Q).length)
            (fun m => slots [(1, .ptr 0 0), (3, .sl 1 0 v.rs.length v.rs.length), (4, qv (.op m.2.2.1) m.2.1), (5, ib d), (30, LS 4 aEn En.o (at_ Rc.o v.rs d.toNat).es), (31, ib (at_ Rc.o v.rs d.toNat).es.length), (32, ib m.2.2.2)] 68)
            (fun m => heapOf [.row (aPt v) 26 0, .row (m.1.map bb) 4 0, qr (.op m.2.2.1) m.2.1]) (L, (d2 :: Q), pre ++ [d], 0) ⟨hmid, trivial, Nat.zero_le _, hcq.1, hcq.2⟩ ?_ ?_
          · (refine Ex.Weak.of [0, 1, 2] [] rfl rfl ?_ ?_ <;> (repeat' (first | exact True.intro | refine And.intro ?_ ?_)) <;> (conv => whnf) <;> (repeat' (exact rfl)) <;> (first | (intro _ _; rfl) | (first | exact Or.inr ⟨by simp, contL_map (enc := ib) (fun _ => rfl) _⟩ | (first | exact Or.inr ⟨rfl, rfl⟩ | exact Or.inr ⟨rfl, Ck.contL_map (fun _ => rfl) _⟩) | (simp; done))))
          · clear hmid hcq hcn hat hjl hle
            rintro ⟨L, Q, pre, k⟩ ⟨hm, hs, hk, hcn, hme⟩
            dsimp only at hm hs hk hcn hme ⊢
            have hLl := hm.m.len
            conv => whnf
            refine KIf.dec (fun h => ?_) (fun h => ?_)
            · have hlt : k < (at_ Rc.o v.rs d.toNat).es.length := by omega
              obtain ⟨x, hx⟩ : ∃ x, x = (at_ En.o (at_ Rc.o v.rs d.toNat).es k) := ⟨_, rfl⟩
              by_cases hr : right v x.f = true
              · have hrl := right_lt hr
                have hri : 0 ≤ x.f.r ∧ x.f.r < v.rs.length := by omega
                have hoff : 0 + x.f.r.toNat * 1 = x.f.r.toNat := by omega
                have hj : x.f.r.toNat < L.length := by omega
                have hset := fun hn => hm.set hx hlt hr hn
                have hskip := fun hn : at_ false L x.f.r.toNat = true => hm.skip (by rw [← hx]; exact fun _ => hn)
                rw [hx] at hr hri hoff hj hset hskip
                cases hmk : at_ false L (at_ En.o (at_ Rc.o v.rs d.toNat).es k).f.r.toNat
                · have hm2 := hset hmk
                  have hcs := cntF_set L _ hj hmk
                  clear hset hskip
                  cases hd : dir (at_ Rc.o v.rs (at_ En.o (at_ Rc.o v.rs d.toNat).es k).f.r.toNat)
                  · rw [hd] at hm2
                    (conv => whnf); (repeat (first | (refine Ex.KIf.f ?_ ?_; assumption; conv => whnf) | (refine Ex.KIf.t rfl ?_; conv => whnf) | (refine Ex.Need.mk ?_ ?_; (first | trivial | omega | (constructor <;> omega)); conv => whnf) | ((refine Ex.KCall.pure (right_t v _ h1 hr) ?_); conv => whnf) | (refine Ex.RK.of (Ck.loadMx bb false false hmk hoff rfl rfl hj) ?_; conv => whnf) | (refine Ck.storeM bb true rfl hoff rfl rfl rfl rfl rfl hj ?_; conv => whnf) | ((refine Ex.KCall.pure (isDirectory_k (at_ Rc.o v.rs (at_ En.o (at_ Rc.o v.rs d.toNat).es k).f.r.toNat)) ?_); conv => whnf)))
                    refine ⟨(L.set (at_ En.o (at_ Rc.o v.rs d.toNat).es k).f.r.toNat true, Q, pre, k + 1), ⟨hm2, trivial, hlt, by dsimp only; omega, by dsimp only at hme ⊢; omega⟩, by dsimp only; omega, ?_⟩
                    (refine Ex.Weak.of [0, 1, 2] [] rfl rfl ?_ ?_ <;> (repeat' (first | exact True.intro | refine And.intro ?_ ?_)) <;> (conv => whnf) <;> (repeat' (exact rfl)) <;> (first | (intro _ _; rfl) | (first | exact Or.inr ⟨rfl, rfl⟩ | exact Or.inr ⟨rfl, Ck.contL_map (fun _ => rfl) _⟩)))
                  · rw [hd, if_pos rfl] at hm2
                    (conv => whnf); (repeat (first | (refine Ex.NCase.s (Nat.succ_ne_zero _) ?_; conv => whnf) | (refine Ex.KIf.t ?_ ?_; assumption; conv => whnf) | (refine Ex.KIf.t rfl ?_; conv => whnf) | (refine Ex.Need.mk ?_ ?_; (first | trivial | omega | (constructor <;> omega)); conv => whnf) | ((refine Ex.KCall.pure (right_t v _ h1 hr) ?_); conv => whnf) | (refine Ex.RK.of (Ck.loadMx bb false false hmk hoff rfl rfl hj) ?_; conv => whnf) | (refine Ck.storeM bb true rfl hoff rfl rfl rfl rfl rfl hj ?_; conv => whnf) | ((refine Ex.KCall.pure (isDirectory_k (at_ Rc.o v.rs (at_ En.o (at_ Rc.o v.rs d.toNat).es k).f.r.toNat)) ?_); conv => whnf) | (refine Need.mk ?_ ?_; (focus (exact (by simp))); conv => whnf)))
                    refine ⟨(L.set (at_ En.o (at_ Rc.o v.rs d.toNat).es k).f.r.toNat true, Q ++ [(at_ En.o (at_ Rc.o v.rs d.toNat).es k).f.r], [], k + 1), ⟨hm2, trivial, hlt, by simp only [List.length_append, List.length_cons, List.length_nil] at hcn ⊢; omega, by simp only [List.length_append, List.length_cons, List.length_nil] at hme ⊢; omega⟩, by dsimp only; omega, ?_⟩
                    (refine Ex.Weak.of [0, 1, 6] [] rfl rfl ?_ ?_ <;> (repeat' (first | exact True.intro | refine And.intro ?_ ?_)) <;> (conv => whnf) <;> (repeat' (exact rfl)) <;> (first | (intro _ _; rfl) | (first | exact wrow_eq (row_app ib _ _ _) (contL_map (enc := ib) (fun _ => rfl) _) | (first | exact Or.inr ⟨rfl, rfl⟩ | exact Or.inr ⟨rfl, Ck.contL_map (fun _ => rfl) _⟩) | (simp; done))))
                · have hm2 := hskip hmk
                  clear hset hskip
                  (conv => whnf); (repeat (first | (refine Ex.KIf.t rfl ?_; conv => whnf) | (refine Ex.KIf.f rfl ?_; conv => whnf) | (refine Ex.Need.mk ?_ ?_; (first | trivial | omega | (constructor <;> omega)); conv => whnf) | ((refine Ex.KCall.pure (right_t v _ h1 hr) ?_); conv => whnf) | (refine Ex.RK.of (Ck.loadMx bb false true hmk hoff rfl rfl hj) ?_; conv => whnf)))
                  refine ⟨(L, Q, pre, k + 1), ⟨hm2, trivial, hlt, hcn, hme⟩, by dsimp only; omega, ?_⟩
                  (refine Ex.Weak.of [0, 1, 2] [] rfl rfl ?_ ?_ <;> (repeat' (first | exact True.intro | refine And.intro ?_ ?_)) <;> (conv => whnf) <;> (repeat' (exact rfl)) <;> (first | (intro _ _; rfl) | (first | exact Or.inr ⟨rfl, rfl⟩ | exact Or.inr ⟨rfl, Ck.contL_map (fun _ => rfl) _⟩)))
              · have hr' : right v x.f = false := by simpa using hr
                have hm2 := hm.skip (by rw [← hx]; exact fun h => absurd h hr)
                rw [hx] at hr'
                (conv => whnf); (repeat (first | (refine Ex.KIf.f rfl ?_; conv => whnf) | (refine Ex.Need.mk ?_ ?_; (first | omega | (constructor <;> omega)); conv => whnf) | ((refine Ex.KCall.pure (right_f v _ h1 hr') ?_); conv => whnf)))
                refine ⟨(L, Q, pre, k + 1), ⟨hm2, trivial, hlt, hcn, hme⟩, by dsimp only; omega, ?_⟩
                (refine Ex.Weak.of [0, 1, 2] [] rfl rfl ?_ ?_ <;> (repeat' (first | exact True.intro | refine And.intro ?_ ?_)) <;> (conv => whnf) <;> (repeat' (exact rfl)) <;> (first | (intro _ _; rfl) | (first | exact Or.inr ⟨rfl, rfl⟩ | exact Or.inr ⟨rfl, Ck.contL_map (fun _ => rfl) _⟩)))
            · have hke : k = (at_ Rc.o v.rs d.toNat).es.length := by omega
              (conv => whnf); (repeat (fail))
              refine ⟨(L, Q, Sh.op pre), ⟨hm.fin hke, trivial, by dsimp only; omega⟩, hme, ?_⟩
              (refine Ex.Weak.of [0, 1, 2] [] rfl rfl ?_ ?_ <;> (repeat' (first | exact True.intro | refine And.intro ?_ ?_)) <;> (conv => whnf) <;> (repeat' (exact rfl)) <;> ((first | exact Or.inr ⟨rfl, rfl⟩ | exact Or.inr ⟨rfl, Ck.contL_map (fun _ => rfl) _⟩)))
end Go.Proofs.YtgcjejajljhnaaaGreatDoor
namespace Go.Proofs.YtgcjejajljhnaaaGreatDoor
open Go.Ex Ck
set_option maxRecDepth 100000
set_option maxHeartbeats 4000000
theorem rRight_k (v : Pt) (r : Ref) (hn : v.rs.length ≤ 100000) : Ex.PureC Tryz.prog 78 [aPts v, .agg (aRef r)] (bb (Ck.right v r)) := by
  have e : Ck.right v r = ((wi r.r 0 (v.rs.length - 1) && Ck.own (Ck.rc v r.r)) && (Ck.rc v r.r).q == r.q) := rfl
  by_cases ho : (wi r.r 0 (v.rs.length - 1) && Ck.own (Ck.rc v r.r)) = true
  · have h2 : 0 ≤ r.r ∧ r.r < v.rs.length := by simp [wi] at ho; omega
    refine Ex.PureC.of kmix rfl ?_
    (conv => whnf); (repeat (first | (refine Ex.KIf.t ?_ ?_; assumption; conv => whnf) | (refine Ex.Need.mk (p := Ex.okDraw _ = true) ?_ ?_; decide +kernel; conv => whnf) | (refine Ex.Need.mk ?_ ?_; (trivial); conv => whnf) | ((refine Ex.DCall.pure (rOwn_k v r.r hn) ?_); conv => whnf)))
    (refine .z [] ?_; conv => whnf); (repeat' (fail)) <;> (try (conv => whnf)) <;> (repeat' (fail)) <;> ((rw [e, ho]; simp [Ck.rc]; rfl))
  · have ho' : (wi r.r 0 (v.rs.length - 1) && Ck.own (Ck.rc v r.r)) = false := by simpa using ho
    refine Ex.PureC.of kmix rfl ?_
    (conv => whnf); (repeat (first | (refine Ex.KIf.f ?_ ?_; assumption; conv => whnf) | (refine Ex.Need.mk (p := Ex.okDraw _ = true) ?_ ?_; decide +kernel; conv => whnf) | ((refine Ex.DCall.pure (rOwn_k v r.r hn) ?_); conv => whnf)))
    (refine .z [] ?_; conv => whnf); (repeat' (fail)) <;> (try (conv => whnf)) <;> (repeat' (fail)) <;> ((rw [e, ho']; simp))
theorem rRight_b (v : Pt) (r : Ref) (hn : v.rs.length ≤ 100000) {b : Bool} (h : Ck.right v r = b) : Ex.PureC Tryz.prog 78 [aPts v, .agg (aRef r)] (bb b) := by
  rw [← h]; exact rRight_k v r hn
theorem rIsDir_k (v : Pt) (i : Int) (hn : v.rs.length ≤ 100000) : Ex.PureC Tryz.prog 77 [aPts v, ib i] (bb (wi i 0 (v.rs.length - 1) && Ck.dir (Ck.rc v i))) := by
  by_cases ho : (wi i 0 (v.rs.length - 1) && Ck.own (Ck.rc v i)) = true
  · have h2 : 0 ≤ i ∧ i < v.rs.length := by simp [wi] at ho; omega
    refine Ex.PureC.of kmix rfl ?_
    (conv => whnf); (repeat (first | (refine Ex.KIf.t ?_ ?_; assumption; conv => whnf) | (refine Ex.Need.mk ?_ ?_; (trivial); conv => whnf) | ((refine Ex.KCall.pure (rOwn_k v i hn) ?_); conv => whnf)))
    (refine .z [] ?_; conv => whnf); (repeat' (fail)) <;> (try (conv => whnf)) <;> (repeat' (fail)) <;> ((simp only [Bool.and_eq_true] at ho; unfold Ck.own at ho; unfold Ck.dir; simp [Ck.rc] at ho ⊢; simp [ho]; rfl))
  · have ho' : (wi i 0 (v.rs.length - 1) && Ck.own (Ck.rc v i)) = false := by simpa using ho
    refine Ex.PureC.of kmix rfl ?_
    (conv => whnf); (repeat (first | (refine Ex.KIf.f ?_ ?_; assumption; conv => whnf) | ((refine Ex.KCall.pure (rOwn_k v i hn) ?_); conv => whnf)))
    (refine .z [] ?_; conv => whnf); (repeat' (fail)) <;> (try (conv => whnf)) <;> (repeat' (fail)) <;> ((unfold Ck.own at ho'; unfold Ck.dir; simp at ho' ⊢; intro h1 h2; have := ho' h1 h2; omega))
theorem rIsDir_b (v : Pt) (i : Int) (hn : v.rs.length ≤ 100000) {b : Bool} (h : (wi i 0 (v.rs.length - 1) && Ck.dir (Ck.rc v i)) = b) : Ex.PureC Tryz.prog 77 [aPts v, ib i] (bb b) := by
  rw [← h]; exact rIsDir_k v i hn
theorem rReached_k (v : Pt) (h1 : v.rs.length ≤ 100000) (h5 : 5 < v.rs.length) (hes : ∀ x ∈ v.rs, x.es.length ≤ 100000) : Ex.PureC Tryz.prog 39 [aPts v] (LS 1 aB false (rchL v)) := by
  have hmk : (0 : Int) ≤ v.rs.length ∧ (v.rs.length : Int) ≤ v.rs.length ∧ ((v.rs.length : Int)).toNat * 1 ≤ 2 ^ 47 ∧ (v.rs.length : Int) ≤ 2 ^ 60 := by refine ⟨?_, ?_, ?_, ?_⟩ <;> omega
  have hzr : zeros v.rs.length (.bool false) = (List.replicate v.rs.length false).map bb := by
    rw [zeros_rep (x := bb false) _ _ rfl]; simp
  have hoff5 : 0 + 5 * 1 = 5 := rfl
  have hj5 : 5 < (List.replicate v.rs.length false).length := by simpa using h5
  refine Ex.PureC.of kmix rfl ?_
  (conv => whnf); (repeat (first | (refine Ex.Need.mk ?_ ?_; (first | trivial | omega); conv => whnf) | (refine Ck.storeM bb true rfl hoff5 rfl rfl rfl rfl (congrArg (fun c => some (AO.row c 4 0)) hzr) hj5 ?_; conv => whnf)))
  refine WLoop.inv kmix (D := List Bool × Bool) (fun d => 2 * cntF d.1 + (if d.2 then 1 else 0)) (fun d => Mks v d.1 ∧ (d.2 = false → d.1 = rchL v))
    (fun d => slots [(1, .ptr 0 0), (3, .sl 1 0 v.rs.length v.rs.length), (4, bb d.2)] 73)
    (fun d => heapOf [.row (aPt v) 26 0, .row (d.1.map bb) 4 0]) (marks0 v, true) ⟨.start h5, fun h => (by cases h)⟩ ?_ ?_
  · (refine Ex.Weak.of [0, 1] [] rfl rfl ?_ ?_ <;> (repeat' (first | exact True.intro | refine And.intro ?_ ?_)) <;> (conv => whnf) <;> (repeat' (exact rfl)) <;> ((first | exact Or.inr ⟨rfl, rfl⟩ | exact Or.inr ⟨rfl, Ck.contL_map (fun _ => rfl) _⟩)))
  · rintro ⟨L0, ag0⟩ ⟨hm0, hf0⟩
    dsimp only at hm0 hf0 ⊢
    have hLl0 := hm0.len
    cases ag0 with
    | false =>
      have hL := hf0 rfl
      (conv => whnf); (repeat ((refine Ex.KIf.f rfl ?_; conv => whnf)))
      refine .z [1] ?_
      rw [← hL]
      exact Wz.ownS rfl (by simp) hLl0.symm (Nat.le_of_eq hLl0) (fun _ _ => rfl) (map_flat bb false L0) (fun _ _ => rfl)
    | true =>
      clear hf0
      (conv => whnf); (repeat ((refine Ex.KIf.t rfl ?_; conv => whnf)))
      refine WLoop.inv kmix (D := List Bool × Bool × Nat) (fun d => v.rs.length - d.2.2) (fun d => Rnd v L0 d.1 d.2.1 ∧ (d.2.1 = false → ∀ e, e < d.2.2 → Clo v d.1 e) ∧ d.2.2 ≤ v.rs.length)
        (fun d => slots [(1, .ptr 0 0), (3, .sl 1 0 v.rs.length v.rs.length), (4, bb d.2.1), (5, ib d.2.2)] 73)
        (fun d => heapOf [.row (aPt v) 26 0, .row (d.1.map bb) 4 0]) (L0, false, 0) ⟨.start hm0, fun _ e he => absurd he (Nat.not_lt_zero _), Nat.zero_le _⟩ ?_ ?_
      · (refine Ex.Weak.of [0, 1] [] rfl rfl ?_ ?_ <;> (repeat' (first | exact True.intro | refine And.intro ?_ ?_)) <;> (conv => whnf) <;> (repeat' (exact rfl)) <;> ((first | exact Or.inr ⟨rfl, rfl⟩ | exact Or.inr ⟨rfl, Ck.contL_map (fun _ => rfl) _⟩)))
      · rintro ⟨L, ag, i⟩ ⟨hr, hc, hi⟩
        dsimp only at hr hc hi ⊢
        have hLl := hr.m.len
        conv => whnf
        refine KIf.dec (fun h => ?_) (fun h => ?_)
        · have hlt : i < v.rs.length := by omega
          have hix : (0 : Int) ≤ i ∧ (i : Int) < v.rs.length := by omega
          have hoff : 0 + ((i : Nat) : Int).toNat * 1 = i := by omega
          have hj : i < L.length := by omega
          have hdi : (wi i 0 (v.rs.length - 1) && Ck.dir (Ck.rc v i)) = Ck.dir (at_ Rc.o v.rs i) := by
            have : wi i 0 (v.rs.length - 1) = true := by simp [wi]; omega
            rw [this]; rfl
          obtain ⟨mk, hmk⟩ : ∃ b, at_ false L i = b := ⟨_, rfl⟩
          (conv => whnf); (repeat (first | (refine Ex.Need.mk ?_ ?_; (trivial); conv => whnf) | (refine Ex.RK.of (Ck.loadMx bb false mk hmk hoff rfl rfl hj) ?_; conv => whnf)))
          cases mk
          · (conv => whnf); (repeat (first | (refine Ex.KIf.t rfl ?_; conv => whnf) | (refine Ex.Need.mk ?_ ?_; ((constructor <;> omega)); conv => whnf)))
            refine ⟨(L, ag, i + 1), ⟨hr, fun ha e he => ?_, hlt⟩, by dsimp only; omega, ?_⟩
            · rcases Nat.lt_or_ge e i with h3 | h3
              · exact hc ha e h3
              · obtain rfl : e = i := by have he : e < i + 1 := he; omega
                intro h4; rw [hmk] at h4; cases h4
            · (refine Ex.Weak.of [0, 1] [] rfl rfl ?_ ?_ <;> (repeat' (first | exact True.intro | refine And.intro ?_ ?_)) <;> (conv => whnf) <;> (repeat' (exact rfl)) <;> ((first | exact Or.inr ⟨rfl, rfl⟩ | exact Or.inr ⟨rfl, Ck.contL_map (fun _ => rfl) _⟩)))
          · cases hd : Ck.dir (at_ Rc.o v.rs i)
            · rw [hd] at hdi
              (conv => whnf); (repeat (first | (refine Ex.KIf.t rfl ?_; conv => whnf) | (refine Ex.KIf.f rfl ?_; conv => whnf) | (refine Ex.Need.mk ?_ ?_; ((constructor <;> omega)); conv => whnf) | ((refine Ex.KCall.pure (rIsDir_b v (i : Int) h1 hdi) ?_); conv => whnf)))
              refine ⟨(L, ag, i + 1), ⟨hr, fun ha e he => ?_, hlt⟩, by dsimp only; omega, ?_⟩
              · rcases Nat.lt_or_ge e i with h3 | h3
                · exact hc ha e h3
                · obtain rfl : e = i := by have he : e < i + 1 := he; omega
                  intro _ h5; rw [hd] at h5; cases h5
              · (refine Ex.Weak.of [0, 1] [] rfl rfl ?_ ?_ <;> (repeat' (first | exact True.intro | refine And.intro ?_ ?_)) <;> (conv => whnf) <;> (repeat' (exact rfl)) <;> ((first | exact Or.inr ⟨rfl, rfl⟩ | exact Or.inr ⟨rfl, Ck.contL_map (fun _ => rfl) _⟩)))
            · rw [hd] at hdi
              have hel := hes _ (at_mem Rc.o v.rs i hlt)
              (conv => whnf); (repeat (first | (refine Ex.KIf.f rfl ?_; conv => whnf) | (refine Ex.Need.mk ?_ ?_; (trivial); conv => whnf) | ((refine Ex.KCall.pure (rIsDir_b v (i : Int) h1 hdi) ?_); conv => whnf)))
              refine WLoop.inv kmix (D := List Bool × Bool × Nat) (fun d => (at_ Rc.o v.rs i).es.length - d.2.2) (fun d => Rnd v L0 d.1 d.2.1 ∧ (d.2.1 = false → ∀ e, e < i → Clo v d.1 e) ∧ at_ false d.1 i = true ∧ (d.2.1 = false → ∀ j, j < d.2.2 → right v (at_ En.o (at_ Rc.o v.rs i).es j).f = true → at_ false d.1 (at_ En.o (at_ Rc.o v.rs i).es j).f.r.toNat = true) ∧ d.2.2 ≤ (at_ Rc.o v.rs i).es.length)
                (fun d => slots [(1, .ptr 0 0), (3, .sl 1 0 v.rs.length v.rs.length), (4, bb d.2.1), (5, ib i), (6, LS 4 aEn En.o (at_ Rc.o v.rs i).es), (7, ib d.2.2)] 73)
                (fun d => heapOf [.row (aPt v) 26 0, .row (d.1.map bb) 4 0]) (L, ag, 0) ⟨hr, hc, hmk, fun _ e he => absurd he (Nat.not_lt_zero _), Nat.zero_le _⟩ ?_ ?_
              · (refine Ex.Weak.of [0, 1] [] rfl rfl ?_ ?_ <;> (repeat' (first | exact True.intro | refine And.intro ?_ ?_)) <;> (conv => whnf) <;> (repeat' (exact rfl)) <;> (first | (intro _ _; rfl) | (first | exact Or.inr ⟨rfl, rfl⟩ | exact Or.inr ⟨rfl, Ck.contL_map (fun _ => rfl) _⟩)))
              · clear hr hc hLl hmk hj
                rintro ⟨L, ag, k⟩ ⟨hr, hc, hmi, hk, hkl⟩
                dsimp only at hr hc hmi hk hkl ⊢
                have hLl := hr.m.len
                conv => whnf
                refine KIf.dec (fun h2 => ?_) (fun h2 => ?_)
                · have hlk : k < (at_ Rc.o v.rs i).es.length := by omega
                  obtain ⟨x, hx⟩ : ∃ x, x = at_ En.o (at_ Rc.o v.rs i).es k := ⟨_, rfl⟩
                  obtain ⟨rb, hrx⟩ : ∃ b, right v (at_ En.o (at_ Rc.o v.rs i).es k).f = b := ⟨_, rfl⟩
                  (conv => whnf); (repeat (first | (refine Ex.Need.mk (p := Ex.okDraw _ = true) ?_ ?_; decide +kernel; conv => whnf) | (refine Ex.Need.mk ?_ ?_; (omega); conv => whnf) | ((refine Ex.DCall.pure (rRight_b v (at_ En.o (at_ Rc.o v.rs i).es k).f h1 hrx) ?_); conv => whnf)))
                  cases rb
                  · (conv => whnf); (repeat (first | (refine Ex.KIf.f rfl ?_; conv => whnf) | (refine Ex.Need.mk ?_ ?_; ((constructor <;> omega)); conv => whnf)))
                    refine ⟨(L, ag, k + 1), ⟨hr, hc, hmi, fun ha j hj hrj => ?_, hlk⟩, by dsimp only; omega, ?_⟩
                    · rcases Nat.lt_or_ge j k with h3 | h3
                      · exact hk ha j h3 hrj
                      · obtain rfl : j = k := by have hj : j < k + 1 := hj; omega
                        rw [hrx] at hrj; cases hrj
                    · (refine Ex.Weak.of [0, 1] [] rfl rfl ?_ ?_ <;> (repeat' (first | exact True.intro | refine And.intro ?_ ?_)) <;> (conv => whnf) <;> (repeat' (exact rfl)) <;> (first | (intro _ _; rfl) | (first | exact Or.inr ⟨rfl, rfl⟩ | exact Or.inr ⟨rfl, Ck.contL_map (fun _ => rfl) _⟩)))
                  · rw [← hx] at hrx
                    have hrl := right_lt hrx
                    have hri : 0 ≤ x.f.r ∧ x.f.r < v.rs.length := by omega
                    have hoffx : 0 + x.f.r.toNat * 1 = x.f.r.toNat := by omega
                    have hjx : x.f.r.toNat < L.length := by omega
                    have hset := fun hn => hr.set (hr.m.snd _ hmi) hd (x := x) (by rw [hx]; exact at_mem _ _ _ hlk) hrx hn
                    rw [hx] at hrx hri hoffx hjx hset
                    obtain ⟨mx, hmx⟩ : ∃ b, at_ false L (at_ En.o (at_ Rc.o v.rs i).es k).f.r.toNat = b := ⟨_, rfl⟩
                    (conv => whnf); (repeat (first | (refine Ex.KIf.t rfl ?_; conv => whnf) | (refine Ex.Need.mk ?_ ?_; (first | trivial | omega); conv => whnf) | (refine Ex.RK.of (Ck.loadMx bb false mx hmx hoffx rfl rfl hjx) ?_; conv => whnf)))
                    cases mx
                    · have hr2 := hset hmx
                      (conv => whnf); (repeat (first | (refine Ex.KIf.t rfl ?_; conv => whnf) | (refine Ex.Need.mk ?_ ?_; (first | trivial | omega); conv => whnf)))
                      (refine Ck.storeM bb true rfl hoffx rfl rfl rfl rfl rfl hjx ?_; conv => whnf)
                      (conv => whnf); (repeat ((refine Ex.Need.mk ?_ ?_; ((constructor <;> omega)); conv => whnf)))
                      refine ⟨(L.set (at_ En.o (at_ Rc.o v.rs i).es k).f.r.toNat true, true, k + 1), ⟨hr2, fun h => (by cases h), at_set_keep _ _ _ hmi, fun h => (by cases h), hlk⟩, by dsimp only; omega, ?_⟩
                      (refine Ex.Weak.of [0, 1] [] rfl rfl ?_ ?_ <;> (repeat' (first | exact True.intro | refine And.intro ?_ ?_)) <;> (conv => whnf) <;> (repeat' (exact rfl)) <;> (first | (intro _ _; rfl) | (first | exact Or.inr ⟨rfl, rfl⟩ | exact Or.inr ⟨rfl, Ck.contL_map (fun _ => rfl) _⟩)))
                    · (conv => whnf); (repeat (first | (refine Ex.KIf.f rfl ?_; conv => whnf) | (refine Ex.Need.mk ?_ ?_; ((constructor <;> omega)); conv => whnf)))
                      refine ⟨(L, ag, k + 1), ⟨hr, hc, hmi, fun ha j hj hrj => ?_, hlk⟩, by dsimp only; omega, ?_⟩
                      · rcases Nat.lt_or_ge j k with h3 | h3
                        · exact hk ha j h3 hrj
                        · obtain rfl : j = k := by have hj : j < k + 1 := hj; omega
                          exact hmx
                      · (refine Ex.Weak.of [0, 1] [] rfl rfl ?_ ?_ <;> (repeat' (first | exact True.intro | refine And.intro ?_ ?_)) <;> (conv => whnf) <;> (repeat' (exact rfl)) <;> (first | (intro _ _; rfl) | (first | exact Or.inr ⟨rfl, rfl⟩ | exact Or.inr ⟨rfl, Ck.contL_map (fun _ => rfl) _⟩)))
                · have hke : k = (at_ Rc.o v.rs i).es.length := by omega
                  (conv => whnf); (repeat ((refine Ex.Need.mk ?_ ?_; ((constructor <;> omega)); conv => whnf)))
                  refine ⟨(L, ag, i + 1), ⟨hr, fun ha e he => ?_, hlt⟩, by dsimp only; omega, ?_⟩
                  · rcases Nat.lt_or_ge e i with h3 | h3
                    · exact hc ha e h3
                    · obtain rfl : e = i := by have he : e < i + 1 := he; omega
                      intro _ _ x hx hrx
                      obtain ⟨j, hj, rfl⟩ := List.getElem_of_mem hx
                      have := hk ha j (by omega)
                      rw [at_eq _ _ _ hj] at this
                      exact this hrx
                  · (refine Ex.Weak.of [0, 1] [] rfl rfl ?_ ?_ <;> (repeat' (first | exact True.intro | refine And.intro ?_ ?_)) <;> (conv => whnf) <;> (repeat' (exact rfl)) <;> ((first | exact Or.inr ⟨rfl, rfl⟩ | exact Or.inr ⟨rfl, Ck.contL_map (fun _ => rfl) _⟩)))
        · have hie : i = v.rs.length := Nat.le_antisymm hi (Int.ofNat_le.1 (Int.not_lt.1 h))
          (conv => whnf); (repeat (fail))
          refine ⟨(L, ag), ⟨hr.m, fun ha => hr.m.fin fun d hd => hc ha d (by omega)⟩, ?_, ?_⟩
          · dsimp only
            cases ag with
            | false => have := hr.f rfl; rw [this]; simp
            | true => have := hr.t rfl; simp; omega
          · (refine Ex.Weak.of [0, 1] [] rfl rfl ?_ ?_ <;> (repeat' (first | exact True.intro | refine And.intro ?_ ?_)) <;> (conv => whnf) <;> (repeat' (exact rfl)) <;> ((first | exact Or.inr ⟨rfl, rfl⟩ | exact Or.inr ⟨rfl, Ck.contL_map (fun _ => rfl) _⟩)))
end Go.Proofs.YtgcjejajljhnaaaGreatDoor
namespace Ck
open Go Go.Ex
theorem add_u8 (a : UInt8) (n : Int) (h0 : 0 ≤ n) (h8 : n < 8) : wrapZ .u8 ((a.toNat : Int) + wrapZ .u8 (2 ^ n.toNat)) = ((a + UInt8.ofNat (2 ^ n.toNat)).toNat : Int) := by
  have hk : ∃ k : Nat, k < 8 ∧ n = k := ⟨n.toNat, by omega, by omega⟩
  obtain ⟨k, hk, rfl⟩ := hk
  have key : ∀ k : Fin 8, ∀ a : Fin 256, wrapZ .u8 (((a : Nat) : Int) + wrapZ .u8 (2 ^ k.1)) = (((UInt8.ofNat a.1) + UInt8.ofNat (2 ^ k.1)).toNat : Int) := by decide +kernel
  have := key ⟨k, hk⟩ ⟨a.toNat, a.toNat_lt⟩
  simpa using this
theorem shl_pow (n : Int) (h0 : 0 ≤ n) (h8 : n < 8) : shlZ .i64 1 n = 2 ^ n.toNat := by
  have hk : ∃ k : Nat, k < 8 ∧ n = k := ⟨n.toNat, by omega, by omega⟩
  obtain ⟨k, hk, rfl⟩ := hk
  have key : ∀ k : Fin 8, shlZ .i64 1 ((k.1 : Nat) : Int) = 2 ^ k.1 := by decide +kernel
  exact key ⟨k, hk⟩
end Ck
namespace Go.Proofs.YtgcjejajljhnaaaGreatDoor
open Go.Ex Ck
set_option maxRecDepth 100000
set_option maxHeartbeats 4000000
theorem Power_k (n : Int) (h0 : 0 ≤ n) (h8 : n < 8) : Ex.PureC Tryz.prog 81 [ib n] (ib (2 ^ n.toNat)) := by
  refine Ex.PureC.of kmix rfl ?_
  (conv => whnf); (repeat ((refine Ex.Need.mk ?_ ?_; (trivial); conv => whnf)))
  (refine .z [] ?_; conv => whnf); (repeat' (first | exact rfl | refine And.intro ?_ ?_)) <;> (try (conv => whnf)) <;> (repeat' (fail)) <;> (exact (shl_pow n h0 h8).symm)
theorem Floor_k (n c : Int) (hn : n = -c) (h : 0 ≤ c ∧ c ≤ 100000) : Ex.PureC Tryz.prog 126 [ib n, ib 8] (ib (-((c + 7) / 8))) := by
  have e1 : n.tdiv 8 = -(c / 8) := by rw [hn, Int.neg_tdiv, Int.tdiv_eq_ediv_of_nonneg h.1]
  have e2 : n.tmod 8 = -(c % 8) := by rw [hn, Int.neg_tmod, Int.tmod_eq_emod_of_nonneg h.1]
  have h1 : (8 : Int) ≠ 0 ∧ Small (n.tdiv 8) := ⟨by omega, by unfold Small; rw [e1]; omega⟩
  have h2 : Small (n.tdiv 8 - 1) := by unfold Small; rw [e1]; omega
  refine Ex.PureC.of kmix rfl ?_
  (conv => whnf); (repeat ((refine Ex.Need.mk ?_ ?_; (trivial); conv => whnf)))
  refine KIf.dec (fun hlt => ?_) (fun hlt => ?_)
  · rw [e2] at hlt
    (conv => whnf); (repeat ((refine Ex.Need.mk ?_ ?_; (trivial); conv => whnf)))
    (refine .z [] ?_; conv => whnf); (repeat' (first | exact rfl | refine And.intro ?_ ?_)) <;> (try (conv => whnf)) <;> (repeat' (fail)) <;> (omega)
  · rw [e2] at hlt
    (conv => whnf); (repeat (fail))
    (refine .z [] ?_; conv => whnf); (repeat' (first | exact rfl | refine And.intro ?_ ?_)) <;> (try (conv => whnf)) <;> (repeat' (fail)) <;> (omega)
theorem Ceil_k (c : Int) (h : 0 ≤ c ∧ c ≤ 100000) : Ex.PureC Tryz.prog 80 [ib c, ib 8] (ib ((c + 7) / 8)) := by
  have e1 : IntKind.i64.wrap (0 - c) = -c := by rw [IntKind.wrap_i64]; omega
  have e2 : IntKind.i64.wrap (0 - (-((c + 7) / 8))) = (c + 7) / 8 := by rw [IntKind.wrap_i64]; omega
  refine Ex.PureC.of kmix rfl ?_
  (conv => whnf); (repeat (((refine Ex.KCall.pure (Floor_k _ c e1 h) ?_); conv => whnf)))
  (refine .z [] ?_; conv => whnf); (repeat' (first | exact rfl | refine And.intro ?_ ?_)) <;> (try (conv => whnf)) <;> (repeat' (fail)) <;> (omega)
theorem always_hc (v : Pt) (hc : 0 ≤ v.c ∧ v.c ≤ 100000) (hl : v.al.length ≤ 100000) (hr : ∀ r ∈ v.al, 0 ≤ r.s ∧ r.s + r.l ≤ v.c) (N : Nat) (hN : N = v.c.toNat) :
    Ex.HC Tryz.prog 0 79 [aPts v] [] (.sl 0 0 N N) [.row ((runsT v.c v.al (List.replicate v.c.toNat false)).map bb) 4 0] := by
  have hmk : (0 : Int) ≤ v.c ∧ v.c ≤ v.c ∧ v.c.toNat * 1 ≤ 2 ^ 47 ∧ v.c ≤ 2 ^ 60 := by refine ⟨?_, ?_, ?_, ?_⟩ <;> omega
  have hzr : zeros v.c.toNat (.bool false) = (List.replicate v.c.toNat false).map bb := by
    rw [zeros_rep (x := bb false) _ _ rfl]; simp
  refine Ex.HC.of kmix (Nat.le_refl 0) ?_
  (conv => whnf); (repeat ((refine Ex.Need.mk ?_ ?_; (trivial); conv => whnf)))
  obtain ⟨T, hT⟩ : ∃ T, T = List.replicate v.c.toNat false := ⟨_, rfl⟩
  have hTl : T.length = N := by rw [hT, hN]; simp
  rw [← hT] at hzr ⊢
  clear hT
  refine WLoop.inv kmix (D := Nat) (fun d => v.al.length - d) (fun d => d ≤ v.al.length) (fun d => slots [(1, .ptr 0 0), (3, .sl 1 0 N N), (4, ib d)] 37)
    (fun d => heapOf [.row (aPt v) 26 0, .row ((it (fun t i => Ck.runT v.c (at_ Run.o v.al i) t) T d).map bb) 4 0]) 0 (Nat.zero_le _) ?_ ?_
  · (refine Ex.Weak.of [0, 1] [] rfl rfl ?_ ?_ <;> (repeat' (first | exact True.intro | refine And.intro ?_ ?_)) <;> (conv => whnf) <;> (repeat' (exact rfl)) <;> (first | omega | (first | exact wrow_eq hzr.symm (contL_map (enc := bb) (fun _ => rfl) _) | (exact Or.inr ⟨rfl, rfl⟩))))
  · intro d hd
    have hbl : (it (fun t i => Ck.runT v.c (at_ Run.o v.al i) t) T d).length = N := by rw [it_len (fun t k => Ck.runT_len _ _ _), hTl]
    have hout : it (fun t i => Ck.runT v.c (at_ Run.o v.al i) t) T (d + 1) = Ck.runT v.c (at_ Run.o v.al d) (it (fun t i => Ck.runT v.c (at_ Run.o v.al i) t) T d) := rfl
    obtain ⟨b1, hb1⟩ : ∃ b1, b1 = it (fun t i => Ck.runT v.c (at_ Run.o v.al i) t) T d := ⟨_, rfl⟩
    rw [← hb1] at hbl hout
    dsimp only
    rw [← hb1]
    conv => whnf
    refine KIf.dec (fun h => ?_) (fun h => ?_)
    · have hlt : d < v.al.length := by omega
      have hm := hr _ (at_mem Run.o v.al d hlt)
      (conv => whnf); (repeat (fail))
      refine WLoop.inv kmix (D := Nat) (fun k => (at_ Run.o v.al d).l.toNat - k) (fun k => k ≤ (at_ Run.o v.al d).l.toNat) (fun k => slots [(1, .ptr 0 0), (3, .sl 1 0 N N), (4, ib d), (5, ib k)] 37)
        (fun k => heapOf [.row (aPt v) 26 0, .row ((it (fun t k => if (at_ Run.o v.al d).s ≠ -1 ∧ (at_ Run.o v.al d).s + (k : Nat) < v.c then t.set ((at_ Run.o v.al d).s + (k : Nat)).toNat true else t) b1 k).map bb) 4 0]) 0 (Nat.zero_le _) ?_ ?_
      · (refine Ex.Weak.of [0, 1] [] rfl rfl ?_ ?_ <;> (repeat' (first | exact True.intro | refine And.intro ?_ ?_)) <;> (conv => whnf) <;> (repeat' (exact rfl)) <;> ((first | exact Or.inr ⟨rfl, rfl⟩ | exact Or.inr ⟨rfl, Ck.contL_map (fun _ => rfl) _⟩)))
      · intro k hk
        have hlen : ∀ n, (it (fun t k => if (at_ Run.o v.al d).s ≠ -1 ∧ (at_ Run.o v.al d).s + (k : Nat) < v.c then t.set ((at_ Run.o v.al d).s + (k : Nat)).toNat true else t) b1 n).length = N := fun n => by rw [it_len (fun t k => by split <;> simp), hbl]
        have hstep : k < (at_ Run.o v.al d).l.toNat → it (fun t k => if (at_ Run.o v.al d).s ≠ -1 ∧ (at_ Run.o v.al d).s + (k : Nat) < v.c then t.set ((at_ Run.o v.al d).s + (k : Nat)).toNat true else t) b1 (k + 1) = (it (fun t k => if (at_ Run.o v.al d).s ≠ -1 ∧ (at_ Run.o v.al d).s + (k : Nat) < v.c then t.set ((at_ Run.o v.al d).s + (k : Nat)).toNat true else t) b1 k).set ((at_ Run.o v.al d).s + (k : Nat)).toNat true := fun hk2 => if_pos ⟨by omega, by omega⟩
        have hl2 := hlen k
        have hfin : k = (at_ Run.o v.al d).l.toNat → Ck.runT v.c (at_ Run.o v.al d) b1 = it (fun t k => if (at_ Run.o v.al d).s ≠ -1 ∧ (at_ Run.o v.al d).s + (k : Nat) < v.c then t.set ((at_ Run.o v.al d).s + (k : Nat)).toNat true else t) b1 k := fun hk2 => by rw [hk2]; rfl
        obtain ⟨b2, hb2⟩ : ∃ b2, b2 = it (fun t k => if (at_ Run.o v.al d).s ≠ -1 ∧ (at_ Run.o v.al d).s + (k : Nat) < v.c then t.set ((at_ Run.o v.al d).s + (k : Nat)).toNat true else t) b1 k := ⟨_, rfl⟩
        rw [← hb2] at hl2 hstep hfin
        dsimp only
        rw [← hb2]
        clear hlen hb1 hb2
        (conv => whnf); (repeat ((refine Ex.Need.mk ?_ ?_; (omega); conv => whnf)))
        refine KIf.dec (fun h2 => ?_) (fun h2 => ?_)
        · have hk2 : k < (at_ Run.o v.al d).l.toNat := by (try simp only [Int.toNat_natCast] at h2); omega
          have hix : 0 ≤ (at_ Run.o v.al d).s + (k : Int) ∧ (at_ Run.o v.al d).s + (k : Int) < N := by omega
          have hoff : 0 + ((at_ Run.o v.al d).s + (k : Int)).toNat * 1 = ((at_ Run.o v.al d).s + (k : Int)).toNat := by omega
          have hj : ((at_ Run.o v.al d).s + (k : Int)).toNat < b2.length := by omega
          (conv => whnf); (repeat (first | (refine Ex.Need.mk ?_ ?_; (first | trivial | omega | (constructor <;> omega) | (simp only [Int.toNat_natCast]; ((constructor <;> omega)))); conv => whnf) | (refine Ck.storeM bb true rfl hoff rfl rfl rfl rfl rfl hj ?_; conv => whnf)))
          refine ⟨k + 1, hk2, by dsimp only; omega, ?_⟩
          dsimp only; rw [hstep hk2]
          (refine Ex.Weak.of [0, 1] [] rfl rfl ?_ ?_ <;> (repeat' (first | exact True.intro | refine And.intro ?_ ?_)) <;> (conv => whnf) <;> (repeat' (exact rfl)) <;> ((first | exact Or.inr ⟨rfl, rfl⟩ | exact Or.inr ⟨rfl, Ck.contL_map (fun _ => rfl) _⟩)))
        · have hke : k = (at_ Run.o v.al d).l.toNat := by (try simp only [Int.toNat_natCast] at h2); omega
          (conv => whnf); (repeat ((refine Ex.Need.mk ?_ ?_; ((constructor <;> omega)); conv => whnf)))
          refine ⟨d + 1, hlt, by dsimp only; omega, ?_⟩
          dsimp only; rw [hout, hfin hke]
          (refine Ex.Weak.of [0, 1] [] rfl rfl ?_ ?_ <;> (repeat' (first | exact True.intro | refine And.intro ?_ ?_)) <;> (conv => whnf) <;> (repeat' (exact rfl)) <;> ((first | exact Or.inr ⟨rfl, rfl⟩ | exact Or.inr ⟨rfl, Ck.contL_map (fun _ => rfl) _⟩)))
    · have hde : d = v.al.length := by omega
      have hfin : runsT v.c v.al T = b1 := by rw [hb1, hde]; rfl
      rw [hfin]
      (conv => whnf); (repeat (fail))
      (refine ⟨[1], [], rfl, ?_, ?_⟩ <;> (repeat' (first | exact True.intro | refine And.intro ?_ ?_)) <;> (conv => whnf) <;> (repeat' (exact rfl)) <;> ((exact Or.inr ⟨rfl, Ck.contL_map (fun _ => rfl) _⟩)))
structure Okr (v : Pt) : Prop extends Okv v where
  ab : ∀ r ∈ v.al, 0 ≤ r.s ∧ r.s + r.l ≤ v.c
theorem rUsed_k (v : Pt) (hv : Okr v) : Ex.PureC Tryz.prog 40 [aPts v] (tb (Ck.used v)) := by
  have hc := hv.c
  have hn := hv.rs
  obtain ⟨N, hN⟩ : ∃ N, N = v.c.toNat := ⟨_, rfl⟩
  obtain ⟨N8, hN8⟩ : ∃ N, N = ((v.c + 7) / 8).toNat := ⟨_, rfl⟩
  have hub := used_bits v (fun r hr => (hv.ar r hr).1) (fun x hx s hs r hr => ((hv.sr x hx s hs).2 r hr).1)
  refine Ex.PureC.of kmix rfl ?_
  (conv => whnf); (repeat (fail))
  (refine KCall.lift [] [] (.sl 1 0 N N) [.row ((runsT v.c v.al (List.replicate v.c.toNat false)).map bb) 4 0] (always_hc v hc hv.al hv.ab N hN) rfl ?_ ?_ ?_ ?_; (focus ((repeat' (exact True.intro)) <;> (conv => whnf) <;> (repeat' (fail)) <;> (fail))); (focus ((repeat' (first | exact True.intro | exact rfl | refine And.intro ?_ ?_)) <;> (try (conv => whnf)) <;> (repeat' ((intro _ _; rfl))))); (focus ((repeat' (first | exact True.intro | exact rfl | refine And.intro ?_ ?_)) <;> (try (conv => whnf)) <;> (repeat' (fail)) <;> (exact Or.inr ⟨rfl, Ck.contL_map (fun _ => rfl) _⟩))); (conv => whnf))
  have hT0 : (runsT v.c v.al (List.replicate v.c.toNat false)).length = N := by rw [runsT_len, List.length_replicate, hN]
  have hfin : usedT v = it (fun t i => smsT v.c (at_ Rc.o v.rs i).ss t) (runsT v.c v.al (List.replicate v.c.toNat false)) v.rs.length := rfl
  generalize runsT v.c v.al (List.replicate v.c.toNat false) = T0 at *
  (conv => whnf); (repeat (fail))
  refine WLoop.inv kmix (D := Nat) (fun x => v.rs.length - x) (fun x => x ≤ v.rs.length)
    (fun x => slots [(1, .ptr 0 0), (3, .sl 1 0 N N), (4, ib x)] 115)
    (fun x => heapOf [.row (aPt v) 26 0, .row ((it (fun t i => smsT v.c (at_ Rc.o v.rs i).ss t) T0 x).map bb) 4 0]) 0 (Nat.zero_le _) ?_ ?_
  · (refine Ex.Weak.of [0, 1] [] rfl rfl ?_ ?_ <;> (repeat' (first | exact True.intro | refine And.intro ?_ ?_)) <;> (conv => whnf) <;> (repeat' (exact rfl)) <;> ((first | exact Or.inr ⟨rfl, rfl⟩ | exact Or.inr ⟨rfl, Ck.contL_map (fun _ => rfl) _⟩)))
  · intro d hd
    have hlt1 : (it (fun t i => smsT v.c (at_ Rc.o v.rs i).ss t) T0 d).length = N := by rw [it_len (fun t k => smsT_len _ _ _), hT0]
    have hst1 : it (fun t i => smsT v.c (at_ Rc.o v.rs i).ss t) T0 (d + 1) = smsT v.c (at_ Rc.o v.rs d).ss (it (fun t i => smsT v.c (at_ Rc.o v.rs i).ss t) T0 d) := rfl
    obtain ⟨t1, hdt1⟩ : ∃ x, x = it (fun t i => smsT v.c (at_ Rc.o v.rs i).ss t) T0 d := ⟨_, rfl⟩
    rw [← hdt1] at hlt1 hst1
    dsimp only
    rw [← hdt1]
    (conv => whnf); (repeat (fail))
    refine KIf.dec (fun h => ?_) (fun h => ?_)
    · have hlt : d < v.rs.length := by omega
      have hm := at_mem Rc.o v.rs d hlt
      have hss := hv.ss _ hm
      (conv => whnf); (repeat (fail))
      refine WLoop.inv kmix (D := Nat) (fun x => (at_ Rc.o v.rs d).ss.length - x) (fun x => x ≤ (at_ Rc.o v.rs d).ss.length)
        (fun x => slots [(1, .ptr 0 0), (3, .sl 1 0 N N), (4, ib d), (5, ib x)] 115)
        (fun x => heapOf [.row (aPt v) 26 0, .row ((it (fun t i => runsT v.c (at_ Sm.o (at_ Rc.o v.rs d).ss i).r t) t1 x).map bb) 4 0]) 0 (Nat.zero_le _) ?_ ?_
      · (refine Ex.Weak.of [0, 1] [] rfl rfl ?_ ?_ <;> (repeat' (first | exact True.intro | refine And.intro ?_ ?_)) <;> (conv => whnf) <;> (repeat' (exact rfl)) <;> ((first | exact Or.inr ⟨rfl, rfl⟩ | exact Or.inr ⟨rfl, Ck.contL_map (fun _ => rfl) _⟩)))
      · intro k hk
        have hlt2 : (it (fun t i => runsT v.c (at_ Sm.o (at_ Rc.o v.rs d).ss i).r t) t1 k).length = N := by rw [it_len (fun t k => runsT_len _ _ _), hlt1]
        have hst2 : it (fun t i => runsT v.c (at_ Sm.o (at_ Rc.o v.rs d).ss i).r t) t1 (k + 1) = runsT v.c (at_ Sm.o (at_ Rc.o v.rs d).ss k).r (it (fun t i => runsT v.c (at_ Sm.o (at_ Rc.o v.rs d).ss i).r t) t1 k) := rfl
        obtain ⟨t2, hdt2⟩ : ∃ x, x = it (fun t i => runsT v.c (at_ Sm.o (at_ Rc.o v.rs d).ss i).r t) t1 k := ⟨_, rfl⟩
        rw [← hdt2] at hlt2 hst2
        dsimp only
        rw [← hdt2]
        (conv => whnf); (repeat ((refine Ex.Need.mk ?_ ?_; (omega); conv => whnf)))
        refine KIf.dec (fun h2 => ?_) (fun h2 => ?_)
        · have hk2 : k < (at_ Rc.o v.rs d).ss.length := by (try simp only [Int.toNat_natCast] at h2); omega
          have hsr := hv.sr _ hm _ (at_mem Sm.o _ k hk2)
          have hrl := hsr.1
          (conv => whnf); (repeat ((refine Ex.Need.mk ?_ ?_; (omega); conv => whnf)))
          refine WLoop.inv kmix (D := Nat) (fun x => (at_ Sm.o (at_ Rc.o v.rs d).ss k).r.length - x) (fun x => x ≤ (at_ Sm.o (at_ Rc.o v.rs d).ss k).r.length)
            (fun x => slots [(1, .ptr 0 0), (3, .sl 1 0 N N), (4, ib d), (5, ib k), (6, LS 2 aRun Run.o (at_ Sm.o (at_ Rc.o v.rs d).ss k).r), (7, ib x)] 115)
            (fun x => heapOf [.row (aPt v) 26 0, .row ((it (fun t i => Ck.runT v.c (at_ Run.o (at_ Sm.o (at_ Rc.o v.rs d).ss k).r i) t) t2 x).map bb) 4 0]) 0 (Nat.zero_le _) ?_ ?_
          · (refine Ex.Weak.of [0, 1] [] rfl rfl ?_ ?_ <;> (repeat' (first | exact True.intro | refine And.intro ?_ ?_)) <;> (conv => whnf) <;> (repeat' (exact rfl)) <;> (first | (intro _ _; rfl) | (first | exact Or.inr ⟨rfl, rfl⟩ | exact Or.inr ⟨rfl, Ck.contL_map (fun _ => rfl) _⟩)))
          · intro m hm
            have hlt3 : (it (fun t i => Ck.runT v.c (at_ Run.o (at_ Sm.o (at_ Rc.o v.rs d).ss k).r i) t) t2 m).length = N := by rw [it_len (fun t k => runT_len _ _ _), hlt2]
            have hst3 : it (fun t i => Ck.runT v.c (at_ Run.o (at_ Sm.o (at_ Rc.o v.rs d).ss k).r i) t) t2 (m + 1) = Ck.runT v.c (at_ Run.o (at_ Sm.o (at_ Rc.o v.rs d).ss k).r m) (it (fun t i => Ck.runT v.c (at_ Run.o (at_ Sm.o (at_ Rc.o v.rs d).ss k).r i) t) t2 m) := rfl
            obtain ⟨t3, hdt3⟩ : ∃ x, x = it (fun t i => Ck.runT v.c (at_ Run.o (at_ Sm.o (at_ Rc.o v.rs d).ss k).r i) t) t2 m := ⟨_, rfl⟩
            rw [← hdt3] at hlt3 hst3
            dsimp only
            rw [← hdt3]
            (conv => whnf); (repeat (fail))
            refine KIf.dec (fun h3 => ?_) (fun h3 => ?_)
            · have hm2 : m < (at_ Sm.o (at_ Rc.o v.rs d).ss k).r.length := by (try simp only [Int.toNat_natCast] at h3); omega
              have hrr := hsr.2 _ (at_mem Run.o _ m hm2)
              have hr1 := hrr.1
              have hr2 := hrr.2.1
              have hr3 := hrr.2.2
              (conv => whnf); (repeat (fail))
              refine WLoop.inv kmix (D := Nat) (fun x => (at_ Run.o (at_ Sm.o (at_ Rc.o v.rs d).ss k).r m).l.toNat - x) (fun x => x ≤ (at_ Run.o (at_ Sm.o (at_ Rc.o v.rs d).ss k).r m).l.toNat)
                (fun x => slots [(1, .ptr 0 0), (3, .sl 1 0 N N), (4, ib d), (5, ib k), (6, LS 2 aRun Run.o (at_ Sm.o (at_ Rc.o v.rs d).ss k).r), (7, ib m), (8, ib x)] 115)
                (fun x => heapOf [.row (aPt v) 26 0, .row ((it (fun t (j : Nat) => if (at_ Run.o (at_ Sm.o (at_ Rc.o v.rs d).ss k).r m).s ≠ -1 ∧ (at_ Run.o (at_ Sm.o (at_ Rc.o v.rs d).ss k).r m).s + j < v.c then t.set ((at_ Run.o (at_ Sm.o (at_ Rc.o v.rs d).ss k).r m).s + j).toNat true else t) t3 x).map bb) 4 0]) 0 (Nat.zero_le _) ?_ ?_
              · (refine Ex.Weak.of [0, 1] [] rfl rfl ?_ ?_ <;> (repeat' (first | exact True.intro | refine And.intro ?_ ?_)) <;> (conv => whnf) <;> (repeat' (exact rfl)) <;> (first | (intro _ _; rfl) | (first | exact Or.inr ⟨rfl, rfl⟩ | exact Or.inr ⟨rfl, Ck.contL_map (fun _ => rfl) _⟩)))
              · intro n hn4
                have hl4 : (it (fun t (j : Nat) => if (at_ Run.o (at_ Sm.o (at_ Rc.o v.rs d).ss k).r m).s ≠ -1 ∧ (at_ Run.o (at_ Sm.o (at_ Rc.o v.rs d).ss k).r m).s + j < v.c then t.set ((at_ Run.o (at_ Sm.o (at_ Rc.o v.rs d).ss k).r m).s + j).toNat true else t) t3 n).length = N := by rw [it_len (fun t k => by split <;> simp), hlt3]
                have hs4 : it (fun t (j : Nat) => if (at_ Run.o (at_ Sm.o (at_ Rc.o v.rs d).ss k).r m).s ≠ -1 ∧ (at_ Run.o (at_ Sm.o (at_ Rc.o v.rs d).ss k).r m).s + j < v.c then t.set ((at_ Run.o (at_ Sm.o (at_ Rc.o v.rs d).ss k).r m).s + j).toNat true else t) t3 (n + 1) = if (at_ Run.o (at_ Sm.o (at_ Rc.o v.rs d).ss k).r m).s ≠ -1 ∧ (at_ Run.o (at_ Sm.o (at_ Rc.o v.rs d).ss k).r m).s + (n : Nat) < v.c then (it (fun t (j : Nat) => if (at_ Run.o (at_ Sm.o (at_ Rc.o v.rs d).ss k).r m).s ≠ -1 ∧ (at_ Run.o (at_ Sm.o (at_ Rc.o v.rs d).ss k).r m).s + j < v.c then t.set ((at_ Run.o (at_ Sm.o (at_ Rc.o v.rs d).ss k).r m).s + j).toNat true else t) t3 n).set ((at_ Run.o (at_ Sm.o (at_ Rc.o v.rs d).ss k).r m).s + (n : Nat)).toNat true else it (fun t (j : Nat) => if (at_ Run.o (at_ Sm.o (at_ Rc.o v.rs d).ss k).r m).s ≠ -1 ∧ (at_ Run.o (at_ Sm.o (at_ Rc.o v.rs d).ss k).r m).s + j < v.c then t.set ((at_ Run.o (at_ Sm.o (at_ Rc.o v.rs d).ss k).r m).s + j).toNat true else t) t3 n := rfl
                have hstop := runT_stop v.c (at_ Run.o (at_ Sm.o (at_ Rc.o v.rs d).ss k).r m) t3 n hn4
                obtain ⟨t4, hd4⟩ : ∃ x, x = it (fun t (j : Nat) => if (at_ Run.o (at_ Sm.o (at_ Rc.o v.rs d).ss k).r m).s ≠ -1 ∧ (at_ Run.o (at_ Sm.o (at_ Rc.o v.rs d).ss k).r m).s + j < v.c then t.set ((at_ Run.o (at_ Sm.o (at_ Rc.o v.rs d).ss k).r m).s + j).toNat true else t) t3 n := ⟨_, rfl⟩
                rw [← hd4] at hl4 hs4 hstop
                dsimp only
                rw [← hd4]
                by_cases h4 : (n : Int) < (at_ Run.o (at_ Sm.o (at_ Rc.o v.rs d).ss k).r m).l
                · by_cases h5 : (at_ Run.o (at_ Sm.o (at_ Rc.o v.rs d).ss k).r m).s = -1
                  · (conv => whnf); (repeat (first | (refine Ex.KIf.dt ?_ ?_; assumption; conv => whnf) | (refine Ex.KIf.f rfl ?_; conv => whnf) | (refine Ex.Need.mk (p := Ex.okDraw _ = true) ?_ ?_; decide +kernel; conv => whnf) | (refine Ex.Need.mk ?_ ?_; (first | omega | (constructor <;> omega)); conv => whnf) | (refine KIf.f (congrArg Bool.not (decide_eq_true h5)) ?_; conv => whnf)))
                    refine ⟨m + 1, hm2, by dsimp only; omega, ?_⟩
                    dsimp only; rw [hst3, ← hstop (fun j _ h => h.1 h5)]
                    (refine Ex.Weak.of [0, 1] [] rfl rfl ?_ ?_ <;> (repeat' (first | exact True.intro | refine And.intro ?_ ?_)) <;> (conv => whnf) <;> (repeat' (exact rfl)) <;> (first | (intro _ _; rfl) | (first | exact Or.inr ⟨rfl, rfl⟩ | exact Or.inr ⟨rfl, Ck.contL_map (fun _ => rfl) _⟩)))
                  · by_cases h6 : (at_ Run.o (at_ Sm.o (at_ Rc.o v.rs d).ss k).r m).s + (n : Int) < v.c
                    · have hp : 0 ≤ (at_ Run.o (at_ Sm.o (at_ Rc.o v.rs d).ss k).r m).s + (n : Int) := by omega
                      have hix : 0 ≤ (at_ Run.o (at_ Sm.o (at_ Rc.o v.rs d).ss k).r m).s + (n : Int) ∧ (at_ Run.o (at_ Sm.o (at_ Rc.o v.rs d).ss k).r m).s + (n : Int) < N := by omega
                      have hoff : 0 + ((at_ Run.o (at_ Sm.o (at_ Rc.o v.rs d).ss k).r m).s + (n : Int)).toNat * 1 = ((at_ Run.o (at_ Sm.o (at_ Rc.o v.rs d).ss k).r m).s + (n : Int)).toNat := by omega
                      have hj : ((at_ Run.o (at_ Sm.o (at_ Rc.o v.rs d).ss k).r m).s + (n : Int)).toNat < t4.length := by omega
                      (conv => whnf); (repeat (first | (refine Ex.KIf.dt ?_ ?_; assumption; conv => whnf) | (refine Ex.Need.mk (p := Ex.okDraw _ = true) ?_ ?_; decide +kernel; conv => whnf) | (refine Ex.Need.mk ?_ ?_; (first | trivial | omega | (simp only [Int.toNat_natCast]; ((constructor <;> omega)))); conv => whnf) | (refine KIf.t (congrArg Bool.not (decide_eq_false h5)) ?_; conv => whnf)))
                      (refine Ck.storeM bb true rfl hoff rfl rfl rfl rfl rfl hj ?_; conv => whnf)
                      (conv => whnf); (repeat ((refine Ex.Need.mk ?_ ?_; ((constructor <;> omega)); conv => whnf)))
                      refine ⟨n + 1, by omega, by dsimp only; omega, ?_⟩
                      dsimp only; rw [hs4, if_pos ⟨h5, h6⟩]
                      (refine Ex.Weak.of [0, 1] [] rfl rfl ?_ ?_ <;> (repeat' (first | exact True.intro | refine And.intro ?_ ?_)) <;> (conv => whnf) <;> (repeat' (exact rfl)) <;> (first | (intro _ _; rfl) | (first | exact Or.inr ⟨rfl, rfl⟩ | exact Or.inr ⟨rfl, Ck.contL_map (fun _ => rfl) _⟩)))
                    · (conv => whnf); (repeat (first | (refine Ex.KIf.dt ?_ ?_; assumption; conv => whnf) | (refine Ex.KIf.df ?_ ?_; assumption; conv => whnf) | (refine Ex.Need.mk (p := Ex.okDraw _ = true) ?_ ?_; decide +kernel; conv => whnf) | (refine Ex.Need.mk ?_ ?_; (first | omega | (constructor <;> omega) | (simp only [Int.toNat_natCast]; ((constructor <;> omega)))); conv => whnf) | (refine KIf.t (congrArg Bool.not (decide_eq_false h5)) ?_; conv => whnf)))
                      refine ⟨m + 1, hm2, by dsimp only; omega, ?_⟩
                      dsimp only; rw [hst3, ← hstop (fun j hj h => h6 (by have := h.2; omega))]
                      (refine Ex.Weak.of [0, 1] [] rfl rfl ?_ ?_ <;> (repeat' (first | exact True.intro | refine And.intro ?_ ?_)) <;> (conv => whnf) <;> (repeat' (exact rfl)) <;> (first | (intro _ _; rfl) | (first | exact Or.inr ⟨rfl, rfl⟩ | exact Or.inr ⟨rfl, Ck.contL_map (fun _ => rfl) _⟩)))
                · have hne : n = (at_ Run.o (at_ Sm.o (at_ Rc.o v.rs d).ss k).r m).l.toNat := by omega
                  (conv => whnf); (repeat (first | (refine Ex.KIf.df ?_ ?_; assumption; conv => whnf) | (refine Ex.KIf.f rfl ?_; conv => whnf) | (refine Ex.Need.mk (p := Ex.okDraw _ = true) ?_ ?_; decide +kernel; conv => whnf) | (refine Ex.Need.mk ?_ ?_; (first | omega | (constructor <;> omega)); conv => whnf)))
                  refine ⟨m + 1, hm2, by dsimp only; omega, ?_⟩
                  dsimp only; rw [hst3, show Ck.runT v.c (at_ Run.o (at_ Sm.o (at_ Rc.o v.rs d).ss k).r m) t3 = t4 by rw [hd4, hne]; rfl]
                  (refine Ex.Weak.of [0, 1] [] rfl rfl ?_ ?_ <;> (repeat' (first | exact True.intro | refine And.intro ?_ ?_)) <;> (conv => whnf) <;> (repeat' (exact rfl)) <;> (first | (intro _ _; rfl) | (first | exact Or.inr ⟨rfl, rfl⟩ | exact Or.inr ⟨rfl, Ck.contL_map (fun _ => rfl) _⟩)))
            · have hme : m = (at_ Sm.o (at_ Rc.o v.rs d).ss k).r.length := by (try simp only [Int.toNat_natCast] at h3); omega
              (conv => whnf); (repeat ((refine Ex.Need.mk ?_ ?_; ((constructor <;> omega)); conv => whnf)))
              refine ⟨k + 1, hk2, by dsimp only; omega, ?_⟩
              dsimp only; rw [hst2, show runsT v.c (at_ Sm.o (at_ Rc.o v.rs d).ss k).r t2 = t3 by rw [hdt3, hme]; rfl]
              (refine Ex.Weak.of [0, 1] [] rfl rfl ?_ ?_ <;> (repeat' (first | exact True.intro | refine And.intro ?_ ?_)) <;> (conv => whnf) <;> (repeat' (exact rfl)) <;> ((first | exact Or.inr ⟨rfl, rfl⟩ | exact Or.inr ⟨rfl, Ck.contL_map (fun _ => rfl) _⟩)))
        · have hke : k = (at_ Rc.o v.rs d).ss.length := by (try simp only [Int.toNat_natCast] at h2); omega
          (conv => whnf); (repeat ((refine Ex.Need.mk ?_ ?_; ((constructor <;> omega)); conv => whnf)))
          refine ⟨d + 1, hlt, by dsimp only; omega, ?_⟩
          dsimp only; rw [hst1, show smsT v.c (at_ Rc.o v.rs d).ss t1 = t2 by rw [hdt2, hke]; rfl]
          (refine Ex.Weak.of [0, 1] [] rfl rfl ?_ ?_ <;> (repeat' (first | exact True.intro | refine And.intro ?_ ?_)) <;> (conv => whnf) <;> (repeat' (exact rfl)) <;> ((first | exact Or.inr ⟨rfl, rfl⟩ | exact Or.inr ⟨rfl, Ck.contL_map (fun _ => rfl) _⟩)))
    · have hde : d = v.rs.length := by omega
      have hu : usedT v = t1 := by rw [hfin, hdt1, hde]
      rw [hu] at hub
      have hmk : 0 ≤ (v.c + 7) / 8 ∧ (v.c + 7) / 8 ≤ (v.c + 7) / 8 ∧ ((v.c + 7) / 8).toNat * 1 ≤ 2 ^ 47 ∧ (v.c + 7) / 8 ≤ 2 ^ 60 := by refine ⟨?_, ?_, ?_, ?_⟩ <;> omega
      have hz : zeros ((v.c + 7) / 8).toNat (.int .u8 0) = (bytesB N8 (t1.take 0)).map byteV := by
        rw [zeros_rep (x := .sc (.int .u8 0)) _ _ rfl, List.take_zero, bytesB_nil, hN8]; simp [byteV]
      clear hd hdt1 hst1 hfin hT0 hu h hde
      (conv => whnf); (repeat (first | (refine Ex.Need.mk ?_ ?_; (trivial); conv => whnf) | ((refine Ex.KCall.pure (Ceil_k v.c hc) ?_); conv => whnf)))
      refine WLoop.inv kmix (D := Nat × List UInt8) (fun x => N - x.1) (fun x => x.1 ≤ N ∧ x.2 = bytesB N8 (t1.take x.1)) (fun x => slots [(3, .sl 1 0 N N), (9, .sl 2 0 N8 N8), (10, ib x.1)] 115)
        (fun x => heapOf [.row (aPt v) 26 0, .row (t1.map bb) 4 0, .row (x.2.map byteV) 5 0]) (0, bytesB N8 (t1.take 0)) ⟨Nat.zero_le _, rfl⟩ ?_ ?_
      · (refine Ex.Weak.of [0, 1, 2] [] rfl rfl ?_ ?_ <;> (repeat' (first | exact True.intro | refine And.intro ?_ ?_)) <;> (conv => whnf) <;> (repeat' (exact rfl)) <;> (first | omega | (first | exact wrow_eq hz.symm (contL_map (enc := byteV) (fun _ => rfl) _) | (first | exact Or.inr ⟨rfl, rfl⟩ | exact Or.inr ⟨rfl, Ck.contL_map (fun _ => rfl) _⟩))))
      · rintro ⟨i, b⟩ ⟨hi, hb⟩
        dsimp only at hi hb
        have hlb := bytesB_len N8 (t1.take i)
        have hadd := addBit_bytes N8 t1 i
        have hno := noBit_bytes N8 t1 i
        rw [← hb] at hlb hadd hno
        (conv => whnf); (repeat (fail))
        refine KIf.dec (fun h => ?_) (fun h => ?_)
        · have hlt : i < N := by omega
          have hj1 : i < t1.length := by omega
          have hof1 : 0 + ((i : Nat) : Int).toNat * 1 = i := by omega
          have hix1 : (0 : Int) ≤ i ∧ (i : Int) < N := by omega
          obtain ⟨mk, hmk1⟩ : ∃ x, at_ false t1 i = x := ⟨_, rfl⟩
          (conv => whnf); (repeat (first | (refine Ex.Need.mk ?_ ?_; (trivial); conv => whnf) | (refine Ex.RK.of (Ck.loadMx bb false mk hmk1 hof1 rfl rfl hj1) ?_; conv => whnf)))
          cases mk
          · (conv => whnf); (repeat (first | (refine Ex.KIf.f rfl ?_; conv => whnf) | (refine Ex.Need.mk ?_ ?_; ((constructor <;> omega)); conv => whnf)))
            refine ⟨(i + 1, b), ⟨hlt, hno hmk1⟩, by dsimp only; omega, ?_⟩
            (refine Ex.Weak.of [0, 1, 2] [] rfl rfl ?_ ?_ <;> (repeat' (first | exact True.intro | refine And.intro ?_ ?_)) <;> (conv => whnf) <;> (repeat' (exact rfl)) <;> ((first | exact Or.inr ⟨rfl, rfl⟩ | exact Or.inr ⟨rfl, Ck.contL_map (fun _ => rfl) _⟩)))
          · have hp : (0 : Int) ≤ i := by omega
            have hix : (0 : Int) ≤ (i : Int).tdiv 8 ∧ (i : Int).tdiv 8 < N8 := by rw [tdiv8 hp]; omega
            have hq : (8 : Int) ≠ 0 ∧ Small ((i : Int).tdiv 8) := ⟨by omega, by unfold Small; rw [tdiv8 hp]; omega⟩
            have hm8 : 0 ≤ (i : Int).tmod 8 := by rw [tmod8 hp]; omega
            have hm88 : (i : Int).tmod 8 < 8 := by rw [tmod8 hp]; omega
            have hj : i / 8 < b.length := by omega
            have hoff : 0 + ((i : Int).tdiv 8).toNat * 1 = i / 8 := by rw [tdiv8 hp]; omega
            have ev : AV.sc (.int .u8 (wrapZ .u8 (((at_ 0 b (i / 8)).toNat : Int) + wrapZ .u8 (2 ^ ((i : Int).tmod 8).toNat)))) = byteV (at_ 0 b (i / 8) + UInt8.ofNat (2 ^ (i % 8))) := by
              rw [add_u8 _ _ hm8 hm88, tmod8 hp]; rfl
            (conv => whnf); (repeat (first | (refine Ex.KIf.t rfl ?_; conv => whnf) | (refine Ex.Need.mk (p := Ex.okDraw _ = true) ?_ ?_; decide +kernel; conv => whnf) | (refine Ex.Need.mk ?_ ?_; (trivial); conv => whnf) | ((refine Ex.DCall.pure (Power_k _ hm8 hm88) ?_); conv => whnf) | (refine Ex.RK.of (Ck.loadM byteV 0 hoff rfl rfl hj) ?_; conv => whnf)))
            (refine Ck.storeM byteV _ ev hoff rfl rfl rfl rfl rfl hj ?_; conv => whnf)
            (conv => whnf); (repeat ((refine Ex.Need.mk ?_ ?_; ((constructor <;> omega)); conv => whnf)))
            refine ⟨(i + 1, b.set (i / 8) (at_ 0 b (i / 8) + UInt8.ofNat (2 ^ (i % 8)))), ⟨hlt, hadd hj1 (by omega) hmk1⟩, by dsimp only; omega, ?_⟩
            (refine Ex.Weak.of [0, 1, 2] [] rfl rfl ?_ ?_ <;> (repeat' (first | exact True.intro | refine And.intro ?_ ?_)) <;> (conv => whnf) <;> (repeat' (exact rfl)) <;> ((first | exact Or.inr ⟨rfl, rfl⟩ | exact Or.inr ⟨rfl, Ck.contL_map (fun _ => rfl) _⟩)))
        · have hie : i = N := by omega
          have hbe : b = Ck.used v := by rw [hb, hie, List.take_of_length_le (by omega), hN8]; exact hub.1.symm
          (conv => whnf); (repeat (first | (refine Ex.RK.of (loadC_map (enc := byteV) (l := b) rfl (by omega)) ?_; conv => whnf) | (refine Ex.RK.of (bytesOf_map b) ?_; conv => whnf)))
          (refine .z [] ?_; conv => whnf); (repeat' (fail)) <;> (try (conv => whnf)) <;> (repeat' (fail)) <;> (exact hbe.symm)
end Go.Proofs.YtgcjejajljhnaaaGreatDoor
namespace Go.Proofs.YtgcjejajljhnaaaGreatDoor
open Go.Ex Ck
set_option maxRecDepth 100000
set_option maxHeartbeats 1000000
theorem UsedBy_bad (v : Pt) (h : FitP v) (he : Ck.partsErr v ≠ 0) : Ex.PureC Tryz.prog 36 [aPts v] (.tup [tb [], ib (Ck.partsErr v)]) := by
  refine Ex.PureC.of kmix rfl ?_
  (conv => whnf); (repeat (first | ((refine Ex.KCall.pure (partsErr_k v h) ?_); conv => whnf) | (refine KIf.t (congrArg Bool.not (decide_eq_false he)) ?_; conv => whnf)))
  (refine .z [] ?_; conv => whnf); (repeat' (first | exact True.intro | exact rfl | refine And.intro ?_ ?_)) <;> (try (conv => whnf)) <;> (repeat' (fail)) <;> (fail)
theorem ReachedIn_bad (v : Pt) (h : FitP v) (he : Ck.partsErr v ≠ 0) : Ex.PureC Tryz.prog 31 [aPts v] (.tup [LS 1 aI 0 [], ib (Ck.partsErr v)]) := by
  refine Ex.PureC.of kmix rfl ?_
  (conv => whnf); (repeat (first | ((refine Ex.KCall.pure (partsErr_k v h) ?_); conv => whnf) | (refine KIf.t (congrArg Bool.not (decide_eq_false he)) ?_; conv => whnf)))
  (refine .z [] ?_; conv => whnf); (repeat' (first | exact True.intro | exact rfl | refine And.intro ?_ ?_)) <;> (try (conv => whnf)) <;> (repeat' (fail)) <;> (fail)
theorem NamesOf_bad (v : Pt) (r : Int) (h : FitP v) (he : Ck.partsErr v ≠ 0) : Ex.PureC Tryz.prog 38 [aPts v, ib r] (.tup [LS 3 aNm Nm.o [], ib (Ck.partsErr v)]) := by
  refine Ex.PureC.of kmix rfl ?_
  (conv => whnf); (repeat (first | ((refine Ex.KCall.pure (partsErr_k v h) ?_); conv => whnf) | (refine KIf.t (congrArg Bool.not (decide_eq_false he)) ?_; conv => whnf)))
  (refine .z [] ?_; conv => whnf); (repeat' (first | exact True.intro | exact rfl | refine And.intro ?_ ?_)) <;> (try (conv => whnf)) <;> (repeat' (fail)) <;> (fail)
theorem PathsIn_bad (v : Pt) (h : FitP v) (he : Ck.partsErr v ≠ 0) : Ex.PureC Tryz.prog 15 [aPts v] (.tup [.lst 1 0 fun _ => [], ib (Ck.partsErr v)]) := by
  refine Ex.PureC.of kmix rfl ?_
  (conv => whnf); (repeat (first | ((refine Ex.KCall.pure (partsErr_k v h) ?_); conv => whnf) | (refine KIf.t (congrArg Bool.not (decide_eq_false he)) ?_; conv => whnf)))
  (refine .z [] ?_; conv => whnf); (repeat' (first | exact True.intro | exact rfl | refine And.intro ?_ ?_)) <;> (try (conv => whnf)) <;> (repeat' (fail)) <;> (fail)
theorem NamesOf_out (v : Pt) (r : Int) (h : FitP v) (he : Ck.partsErr v = 0) (hr : wi r 0 (v.rs.length - 1) = false) : Ex.PureC Tryz.prog 38 [aPts v, ib r] (.tup [LS 3 aNm Nm.o [], ib 6]) := by
  refine Ex.PureC.of kmix rfl ?_
  have hn : v.rs.length ≤ 100000 := h.f.rs
  (conv => whnf); (repeat (first | (refine Ex.KIf.t rfl ?_; conv => whnf) | (refine Ex.KIf.t ?_ ?_; (focus (simp only [Bool.not_eq_true', Bool.not_eq_false', Bool.not_true, Bool.not_false]; assumption)); conv => whnf) | (refine Ex.Need.mk ?_ ?_; ((constructor <;> omega)); conv => whnf) | ((refine Ex.KCall.pure (partsErr_k v h) ?_); conv => whnf) | (refine KIf.f (congrArg Bool.not (decide_eq_true he)) ?_; conv => whnf) | ((refine Ex.KCall.pure (within_k _ _ _) ?_); conv => whnf)))
  (refine .z [] ?_; conv => whnf); (repeat' (first | exact True.intro | exact rfl | refine And.intro ?_ ?_)) <;> (try (conv => whnf)) <;> (repeat' (fail)) <;> (fail)
theorem NamesOf_unused (v : Pt) (r : Int) (h : FitP v) (he : Ck.partsErr v = 0) (hr : wi r 0 (v.rs.length - 1) = true) (hu : (Ck.rc v r).u = false) : Ex.PureC Tryz.prog 38 [aPts v, ib r] (.tup [LS 3 aNm Nm.o [], ib 6]) := by
  refine Ex.PureC.of kmix rfl ?_
  have h2 : 0 ≤ r ∧ r < v.rs.length := by simp [wi] at hr; omega
  have hn : v.rs.length ≤ 100000 := h.f.rs
  have hu' : (at_ Rc.o v.rs r.toNat).u = false := hu
  (conv => whnf); (repeat (first | (refine Ex.KIf.t ?_ ?_; (focus (simp only [Bool.not_eq_true', Bool.not_eq_false', Bool.not_true, Bool.not_false]; assumption)); conv => whnf) | (refine Ex.KIf.f ?_ ?_; (focus (simp only [Bool.not_eq_true', Bool.not_eq_false', Bool.not_true, Bool.not_false]; assumption)); conv => whnf) | (refine Ex.Need.mk ?_ ?_; (first | trivial | (constructor <;> omega)); conv => whnf) | ((refine Ex.KCall.pure (partsErr_k v h) ?_); conv => whnf) | (refine KIf.f (congrArg Bool.not (decide_eq_true he)) ?_; conv => whnf) | ((refine Ex.KCall.pure (within_k _ _ _) ?_); conv => whnf)))
  (refine .z [] ?_; conv => whnf); (repeat' (first | exact True.intro | exact rfl | refine And.intro ?_ ?_)) <;> (try (conv => whnf)) <;> (repeat' (fail)) <;> (fail)
end Go.Proofs.YtgcjejajljhnaaaGreatDoor
namespace Ck
open Go Go.Ex
theorem first_zero : ∀ {l : List Int}, first l = 0 → ∀ e ∈ l, e = 0
  | [], _, e, he => by cases he
  | a :: l, h, e, he => by
    unfold first at h
    by_cases h0 : a = 0
    · rw [if_pos h0] at h
      rcases List.mem_cons.1 he with rfl | h1
      · exact h0
      · exact first_zero h e h1
    · rw [if_neg h0] at h; exact absurd h h0
structure Valid (v : Pt) : Prop where
  c : 64 ≤ v.c ∧ v.c ≤ 512
  lens : v.al.length ≤ 24 ∧ v.rs.length ≤ 96 ∧ v.ds.length ≤ 64
  al : ∀ r ∈ v.al, 0 ≤ r.s ∧ r.s ≤ v.c - 1 ∧ 1 ≤ r.l ∧ r.s + r.l ≤ v.c
  root : 5 < v.rs.length ∧ (at_ Rc.o v.rs 5).u = true ∧ (at_ Rc.o v.rs 5).k = 0
  rcs : ∀ i, i < v.rs.length → recErr i (at_ Rc.o v.rs i) = 0
theorem Valid.of {v : Pt} (h : partsErr v = 0) : Valid v := by
  have h1 := first_zero h
  have hw : wholeErr v = 0 := h1 _ (by simp [partsErr])
  have hr : rootErr v = 0 := h1 _ (by simp)
  have hc : recsErr v = 0 := h1 _ (by simp)
  have h2 := first_zero hw
  have a1 := h2 _ (List.mem_cons_self)
  have a2 := h2 _ (List.mem_cons_of_mem _ List.mem_cons_self)
  have a3 := h2 _ (List.mem_cons_of_mem _ (List.mem_cons_of_mem _ List.mem_cons_self))
  refine ⟨?_, ?_, fun r hr' => ?_, ?_, goE_all _ _ hc⟩
  · split at a1
    · rename_i h3; unfold wi at h3; simp only [Bool.and_eq_true, decide_eq_true_eq] at h3; exact h3
    · omega
  · split at a2
    · omega
    · rename_i h3; simp only [not_or, Nat.not_lt] at h3; exact h3
  · obtain ⟨i, hi, rfl⟩ := List.getElem_of_mem hr'
    have : alErr v.c (at_ Run.o v.al i) = 0 := goE_all _ _ a3 i hi
    rw [at_eq _ _ _ hi] at this
    unfold alErr at this
    split at this
    · rename_i h3
      unfold wi at h3
      simp only [Bool.and_eq_true, decide_eq_true_eq] at h3
      omega
    · omega
  · unfold rootErr at hr
    split at hr
    · omega
    · rename_i h3
      simp only [not_or] at h3
      exact ⟨by omega, by simpa using h3.2.1, by simpa using h3.2.2⟩
theorem smsErr_run {x : Rc} (h : smsErr x = 0) : ∀ s ∈ x.ss, s.r.length ≤ 24 ∧ ∀ r ∈ s.r, -1 ≤ r.s ∧ r.s ≤ 2147483647 ∧ 1 ≤ r.l ∧ r.l ≤ 512 := by
  intro s hs
  obtain ⟨i, hi, rfl⟩ := List.getElem_of_mem hs
  have : smErr (at_ Sm.o x.ss i) = 0 := goE_all _ _ h i hi
  rw [at_eq _ _ _ hi] at this
  unfold smErr at this
  split at this
  · omega
  · rename_i h1
    split at this
    · rename_i h2
      simp only [Bool.and_eq_true, Bool.not_eq_true', List.any_eq_false] at h2
      refine ⟨by omega, fun r hr => ?_⟩
      have := h2.1 r hr
      unfold badRun wi at this
      simp only [Bool.or_eq_true, Bool.not_eq_true', Bool.and_eq_false_iff, decide_eq_false_iff_not] at this
      omega
    · omega
theorem recErr_parts {i : Int} {x : Rc} (h : recErr i x = 0) : headErr i x = 0 ∧ nmsErr x = 0 ∧ smsErr x = 0 ∧ ensErr x = 0 := by
  have := first_zero h
  exact ⟨this _ (by simp), this _ (by simp), this _ (by simp), this _ (by simp)⟩
open Go.Proofs.YtgcjejajljhnaaaGreatDoor
theorem Valid.okr {v : Pt} (h : Valid v) (hf : FitP v) : Okr v := by
  have hs : ∀ x ∈ v.rs, smsErr x = 0 := fun x hx => by
    obtain ⟨i, hi, rfl⟩ := List.getElem_of_mem hx
    have := h.rcs i hi
    rw [at_eq _ _ _ hi] at this
    exact (recErr_parts this).2.2.1
  refine ⟨⟨by have := h.c; omega, by have := h.lens; omega, hf.f.ss, by have := h.lens; omega, fun r hr => ?_, fun x hx s hsm => ?_⟩, fun r hr => ?_⟩
  · have := h.al r hr; have := h.c; unfold Go.Proofs.YtgcjejajljhnaaaGreatDoor.RunOk; omega
  · obtain ⟨h1, h2⟩ := smsErr_run (hs x hx) s hsm
    exact ⟨by omega, fun r hr => by have := h2 r hr; unfold Go.Proofs.YtgcjejajljhnaaaGreatDoor.RunOk; omega⟩
  · have := h.al r hr; omega
theorem Valid.dir5 {v : Pt} (h : Valid v) : Ck.dir (at_ Rc.o v.rs 5) = true := by
  obtain ⟨_, h1, h2⟩ := h.root
  unfold Ck.dir
  rw [h1, h2]
  rfl
end Ck
namespace Go.Proofs.YtgcjejajljhnaaaGreatDoor
open Go.Ex Ck
set_option maxRecDepth 100000
set_option maxHeartbeats 4000000
theorem UsedBy_ok (v : Pt) (h : FitP v) (he : Ck.partsErr v = 0) : Ex.PureC Tryz.prog 36 [aPts v] (.tup [tb (Ck.used v), ib 0]) := by
  have hv := (Valid.of he).okr h
  refine Ex.PureC.of kmix rfl ?_
  (conv => whnf); (repeat (first | ((refine Ex.KCall.pure (partsErr_k v h) ?_); conv => whnf) | (refine KIf.f (congrArg Bool.not (decide_eq_true he)) ?_; conv => whnf) | ((refine Ex.KCall.pure (used_k v hv.toOkv) ?_); conv => whnf)))
  (refine .z [] ?_; conv => whnf); (repeat' (first | exact True.intro | exact rfl | refine And.intro ?_ ?_)) <;> (try (conv => whnf)) <;> (repeat' (fail)) <;> (fail)
noncomputable def filt (v : Pt) (d : Nat) : List Int := ((List.range d).filter (fun i => at_ false (rchL v) i)).map fun (i : Nat) => (i : Int)
theorem filt_t (v : Pt) (d : Nat) (h : at_ false (rchL v) d = true) : filt v (d + 1) = filt v d ++ [(d : Int)] := by
  unfold filt
  rw [List.range_succ, List.filter_append, List.map_append]
  simp [h]
theorem filt_f (v : Pt) (d : Nat) (h : at_ false (rchL v) d = false) : filt v (d + 1) = filt v d := by
  unfold filt
  rw [List.range_succ, List.filter_append, List.map_append]
  simp [h]
theorem filt_len (v : Pt) (d : Nat) : (filt v d).length ≤ d := by
  unfold filt
  rw [List.length_map]
  exact Nat.le_trans (List.length_filter_le _ _) (by simp)
def lv (b : Nat) : List Int → AV
  | [] => .sc (.slice none 0 0)
  | x :: l => .so b 0 (x :: l).length 0
def lr : List Int → List AO
  | [] => []
  | x :: l => [.row ((x :: l).map ib) 3 1]
theorem ReachedIn_ok (v : Pt) (h : FitP v) (he : Ck.partsErr v = 0) : Ex.PureC Tryz.prog 31 [aPts v] (.tup [LS 1 aI 0 (filt v v.rs.length), ib 0]) := by
  have hv := Valid.of he
  have hn := hv.lens.2.1
  have hrl := rchL_len v
  refine Ex.PureC.of kmix rfl ?_
  (conv => whnf); (repeat (first | ((refine Ex.KCall.pure (partsErr_k v h) ?_); conv => whnf) | (refine KIf.f (congrArg Bool.not (decide_eq_true he)) ?_; conv => whnf) | ((refine Ex.KCall.pure (reached_k v (by omega) hv.root.1 (Valid.dir5 hv) h.f.es) ?_); conv => whnf)))
  refine WLoop.inv kmix (D := Nat × List Int) (fun d => (rchL v).length - d.1) (fun d => d.1 ≤ (rchL v).length ∧ d.2 = filt v d.1)
    (fun d => slots [(5, lv 1 d.2), (14, LS 1 aB false (rchL v)), (15, ib (rchL v).length), (16, ib d.1)] 28)
    (fun d => heapOf (.row (aPt v) 26 0 :: lr d.2)) (0, []) ⟨Nat.zero_le _, rfl⟩ ?_ ?_
  · (refine Ex.Weak.of [0] [] rfl rfl ?_ ?_ <;> (repeat' (first | exact True.intro | refine And.intro ?_ ?_)) <;> (conv => whnf) <;> (repeat' (exact rfl)) <;> (first | (intro _ _; rfl) | (exact Or.inr ⟨rfl, rfl⟩)))
  · rintro ⟨d, l⟩ ⟨hd, hl⟩
    dsimp only at hd hl
    have hll := filt_len v d
    rw [← hl] at hll
    obtain ⟨mk, hmk⟩ : ∃ b, at_ false (rchL v) d = b := ⟨_, rfl⟩
    cases l with
    | nil =>
      conv => whnf
      refine KIf.dec (fun h2 => ?_) (fun h2 => ?_)
      · have hlt : d < (rchL v).length := by omega
        cases mk
        · (conv => whnf); (repeat (first | (refine Ex.KIf.f ?_ ?_; assumption; conv => whnf) | (refine Ex.Need.mk ?_ ?_; (first | omega | (constructor <;> omega)); conv => whnf)))
          refine ⟨(d + 1, []), ⟨hlt, by rw [filt_f v d hmk]; exact hl⟩, by dsimp only; omega, ?_⟩
          (refine Ex.Weak.of [0] [] rfl rfl ?_ ?_ <;> (repeat' (first | exact True.intro | refine And.intro ?_ ?_)) <;> (conv => whnf) <;> (repeat' (exact rfl)) <;> (first | (intro _ _; rfl) | (exact Or.inr ⟨rfl, rfl⟩)))
        · (conv => whnf); (repeat (first | (refine Ex.NCase.s (Nat.succ_ne_zero _) ?_; conv => whnf) | (refine Ex.KIf.t ?_ ?_; assumption; conv => whnf) | (refine Ex.Need.mk ?_ ?_; (first | trivial | omega | (constructor <;> omega)); conv => whnf)))
          refine ⟨(d + 1, [(d : Int)]), ⟨hlt, by rw [filt_t v d hmk, ← hl]; rfl⟩, by dsimp only; omega, ?_⟩
          (refine Ex.Weak.of [0, 2] [] rfl rfl ?_ ?_ <;> (repeat' (first | exact True.intro | refine And.intro ?_ ?_)) <;> (conv => whnf) <;> (repeat' (exact rfl)) <;> (first | (intro _ _; rfl) | (exact Or.inr ⟨rfl, rfl⟩)))
      · have hde : d = (rchL v).length := by omega
        have hfe : filt v v.rs.length = [] := by rw [← hrl, ← hde]; exact hl.symm
        rw [hfe]
        (conv => whnf); (repeat (fail))
        (refine .z [] ?_; conv => whnf); (repeat' (first | exact True.intro | exact rfl | refine And.intro ?_ ?_)) <;> (try (conv => whnf)) <;> (repeat' (fail)) <;> (fail)
    | cons y l =>
      conv => whnf
      refine KIf.dec (fun h2 => ?_) (fun h2 => ?_)
      · have hlt : d < (rchL v).length := by omega
        cases mk
        · (conv => whnf); (repeat (first | (refine Ex.KIf.f ?_ ?_; assumption; conv => whnf) | (refine Ex.Need.mk ?_ ?_; (first | omega | (constructor <;> omega)); conv => whnf)))
          refine ⟨(d + 1, y :: l), ⟨hlt, by rw [filt_f v d hmk]; exact hl⟩, by dsimp only; omega, ?_⟩
          (refine Ex.Weak.of [0, 1] [] rfl rfl ?_ ?_ <;> (repeat' (first | exact True.intro | refine And.intro ?_ ?_)) <;> (conv => whnf) <;> (repeat' (exact rfl)) <;> (first | (intro _ _; rfl) | (first | exact Or.inr ⟨rfl, rfl⟩ | exact Or.inr ⟨rfl, Ck.contL_map (fun _ => rfl) _⟩)))
        · have hsz : ((y :: l).length + 1) * 8 ≤ 2 ^ 47 ∧ (y :: l).length + 1 ≤ 2 ^ 60 := by constructor <;> omega
          (conv => whnf); (repeat (first | (refine Ex.NCase.s (Nat.succ_ne_zero _) ?_; conv => whnf) | (refine Ex.KIf.t ?_ ?_; assumption; conv => whnf) | (refine Ex.Need.mk ?_ ?_; (first | trivial | omega | (constructor <;> omega)); conv => whnf) | (refine Need.mk ?_ ?_; (focus (exact (by simp))); conv => whnf)))
          refine ⟨(d + 1, y :: l ++ [(d : Int)]), ⟨hlt, by rw [filt_t v d hmk, ← hl]⟩, by dsimp only; omega, ?_⟩
          (refine Ex.Weak.of [0, 3] [] rfl rfl ?_ ?_ <;> (repeat' (first | exact True.intro | refine And.intro ?_ ?_)) <;> (conv => whnf) <;> (repeat' (exact rfl)) <;> (first | (intro _ _; rfl) | (first | exact wrow_eq (by simp) (contL_map (enc := ib) (fun _ => rfl) (y :: (l ++ [(d : Int)]))) | (exact Or.inr ⟨rfl, rfl⟩) | (simp; done))))
      · have hde : d = (rchL v).length := by omega
        have hfe : filt v v.rs.length = y :: l := by rw [← hrl, ← hde]; exact hl.symm
        rw [hfe]
        (conv => whnf); (repeat (fail))
        refine .z [1] ?_
        conv => whnf
        exact ⟨Wz.own rfl (by simp) rfl (fun _ _ => rfl) (map_flat ib 0 (y :: l)) (fun _ _ => rfl), Wz_refl rfl, trivial⟩
theorem eqO_lst {P : Program} {T e : TypeId} {d : Ty} {sz n : Nat} {f : Nat → List AV} (hi : ty P T = .ok d) (hd : d.d = .slice e) (h : 0 < n) : eqO P T (.lst sz n f) (.sc (.slice none 0 0)) = .ok false := by
  have hb : Nat.blt 0 n = true := blt_of h
  unfold eqO
  rw [hi]
  simp only [bd, hd, eqA, hb]
theorem mt2 {P : Program} (hmix : P.follows .mixedOrders = true) {f : FuncId} {sz sz' : Nat} {g g' : Nat → List AV} (h1 : ∀ s, CallOk P f [.sc (.slice none 0 0)] s (.sc (.slice none 0 0)) s) (h2 : ∀ a cap, funK P 0 f [.sc (.slice (some a) 0 cap)] ⟨.e, 0⟩ (PRet (.lst sz' 0 g'))) : Ex.PureC P f [.lst sz 0 g] (.lst sz' 0 g') := by
  intro s0 m w args' hR hok hfr
  obtain ⟨x, _, rfl, ⟨A, cap, rfl, hcap, hA, _⟩, rfl⟩ := hR
  cases A with
  | none =>
    obtain ⟨_, rfl⟩ := hA rfl
    refine Calls.mono (h1 s0 m w _ ⟨_, _, rfl, rfl, rfl⟩ hok hfr) ?_
    rintro e w' ⟨y, m', rfl, hg, hy⟩
    cases hy
    exact ⟨_, m', rfl, hg, ⟨none, 0, rfl, Nat.le_refl _, fun _ => ⟨rfl, rfl⟩, fun i hi => absurd hi (Nat.not_lt_zero _)⟩⟩
  | some a => exact PureC.core hmix (h2 a cap) hok (m0 := ⟨fun _ => none, m.z⟩) rfl (fun _ _ => rfl) ⟨_, _, rfl, rfl, rfl⟩
theorem Clone_nil : Ex.bang Tryz.prog awext 2000 76 [.slice none 0 0] (.slice none 0 0) = true := by decide +kernel
theorem Clone_k (l : List Nm) (hl : l.length ≤ 100000) : Ex.PureC Tryz.prog 76 [LS 3 aNm Nm.o l] (LS 3 aNm Nm.o l) := by
  by_cases h0 : l.length = 0
  · obtain rfl : l = [] := List.eq_nil_of_length_eq_zero h0
    refine mt2 kmix (fun s => CallOk.of_below (args := [.slice none 0 0]) fun w => Ex.calls_of_bang awmix awext_ok (args := [.slice none 0 0]) Clone_nil w) (fun a cap => ?_)
    · (conv => whnf); (repeat (first | (refine Ex.KIf.t rfl ?_; conv => whnf) | (refine Ex.KIf.f rfl ?_; conv => whnf) | (refine Ex.Need.mk ?_ ?_; (trivial); conv => whnf)))
      refine .z [0] ?_
      exact Wz.ownS rfl (by simp) rfl (Nat.le_refl _) (fun i hi => absurd hi (Nat.not_lt_zero _)) rfl (fun i hi => absurd hi (Nat.not_lt_zero _))
  · have hb : Nat.ble (0 + l.length) 0 = false := by cases h : Nat.ble (0 + l.length) 0 with | false => rfl | true => have := Nat.le_of_ble_eq_true h; omega
    refine Ex.PureC.of kmix rfl ?_
    (conv => whnf); (repeat (first | (refine Ex.KIf.f ?_ ?_; assumption; conv => whnf) | (refine Ex.KIf.f rfl ?_; conv => whnf) | (refine Ex.Need.mk ?_ ?_; (omega); conv => whnf) | (refine Ex.Need.mk (fun _ _ => rfl) ?_; conv => whnf) | (refine Ex.RK.of (eqO_lst rfl rfl (Nat.pos_of_ne_zero h0)) ?_; conv => whnf)))
    refine .z [1] ?_
    exact Wz.list (fun _ => rfl) (fun _ => rfl) rfl (by simp) (Nat.zero_add _) (by exact flat_range aNm Nm.o l)
theorem NamesOf_ok (v : Pt) (r : Int) (h : FitP v) (he : Ck.partsErr v = 0) (hr : wi r 0 (v.rs.length - 1) = true) (hu : (Ck.rc v r).u = true) : Ex.PureC Tryz.prog 38 [aPts v, ib r] (.tup [LS 3 aNm Nm.o (at_ Rc.o v.rs r.toNat).ns, ib 0]) := by
  have h2 : 0 ≤ r ∧ r < v.rs.length := by simp [wi] at hr; omega
  have hn : v.rs.length ≤ 100000 := h.f.rs
  have hu' : (at_ Rc.o v.rs r.toNat).u = true := hu
  have hns := h.f.ns _ (at_mem Rc.o v.rs r.toNat (by omega))
  refine Ex.PureC.of kmix rfl ?_
  (conv => whnf); (repeat (first | (refine Ex.KIf.f ?_ ?_; (focus (simp only [Bool.not_eq_true', Bool.not_eq_false', Bool.not_true, Bool.not_false]; assumption)); conv => whnf) | (refine Ex.Need.mk ?_ ?_; (first | trivial | (constructor <;> omega)); conv => whnf) | ((refine Ex.KCall.pure (partsErr_k v h) ?_); conv => whnf) | (refine KIf.f (congrArg Bool.not (decide_eq_true he)) ?_; conv => whnf) | ((refine Ex.KCall.pure (within_k _ _ _) ?_); conv => whnf) | ((refine Ex.KCall.pure (Clone_k _ hns) ?_); conv => whnf)))
  (refine .z [] ?_; conv => whnf); (repeat' (first | exact True.intro | exact rfl | refine And.intro ?_ ?_)) <;> (try (conv => whnf)) <;> (repeat' (fail)) <;> ((intro _ _; rfl))
theorem SameRecord_eq (x : Rc) (h1 : x.ns.length ≤ 100000) (h2 : x.es.length ≤ 100000) (h3 : x.ss.length ≤ 100000) (h4 : ∀ y ∈ x.ss, y.r.length ≤ 100000) : Ex.PureC Tryz.prog 34 [aRcs x, aRcs x] (bb true) := by
  have hse : decide (x.ss = x.ss) = true := by simp
  refine Ex.PureC.of kmix rfl ?_
  (conv => whnf); (repeat (first | ((refine Ex.KCall.pure (SameStreams_k x.ss x.ss h3 h3 h4 h4) ?_); conv => whnf) | (refine Ex.RK.of (eqO_ref x.b x.b) ?_; conv => whnf) | (refine KIf.f (by simp) ?_; conv => whnf)))
  refine WLoop.inv kmix (D := Nat) (fun d => x.ns.length - d) (fun d => d ≤ x.ns.length) (fun d => slots [(2, .ptr 0 0), (3, .ptr 1 0), (4, bb false), (5, ib d)] 109) (fun d => heapOf [.row (aRc x) 66 0, .row (aRc x) 66 0]) 0 (Nat.zero_le _) ?_ ?_
  · (refine Ex.Weak.of [0, 1] [] rfl rfl ?_ ?_ <;> (repeat' (first | exact True.intro | refine And.intro ?_ ?_)) <;> (conv => whnf) <;> (repeat' (exact rfl)) <;> ((exact Or.inr ⟨rfl, rfl⟩)))
  · intro d hd
    (conv => whnf); (repeat (fail))
    refine KIf.dec (fun hlt => ?_) (fun hlt => ?_)
    · have h5 : d < x.ns.length := by omega
      (conv => whnf); (repeat (first | (refine Ex.Need.mk (p := Ex.okDraw _ = true) ?_ ?_; decide +kernel; conv => whnf) | (refine Ex.Need.mk ?_ ?_; (first | omega | (constructor <;> omega)); conv => whnf) | (refine Ex.RK.of (eqO_nm _ _) ?_; conv => whnf) | (refine KIf.f (by simp) ?_; conv => whnf)))
      refine ⟨d + 1, h5, by dsimp only; omega, ?_⟩
      (refine Ex.Weak.of [0, 1] [] rfl rfl ?_ ?_ <;> (repeat' (first | exact True.intro | refine And.intro ?_ ?_)) <;> (conv => whnf) <;> (repeat' (exact rfl)) <;> ((exact Or.inr ⟨rfl, rfl⟩)))
    · (conv => whnf); (repeat (fail))
      refine WLoop.inv kmix (D := Nat) (fun d => x.es.length - d) (fun d => d ≤ x.es.length) (fun d => slots [(2, .ptr 0 0), (3, .ptr 1 0), (4, bb false), (6, ib d)] 109) (fun d => heapOf [.row (aRc x) 66 0, .row (aRc x) 66 0]) 0 (Nat.zero_le _) ?_ ?_
      · (refine Ex.Weak.of [0, 1] [] rfl rfl ?_ ?_ <;> (repeat' (first | exact True.intro | refine And.intro ?_ ?_)) <;> (conv => whnf) <;> (repeat' (exact rfl)) <;> ((exact Or.inr ⟨rfl, rfl⟩)))
      · intro d hd
        (conv => whnf); (repeat (fail))
        refine KIf.dec (fun hlt => ?_) (fun hlt => ?_)
        · have h5 : d < x.es.length := by omega
          (conv => whnf); (repeat (first | (refine Ex.Need.mk (p := Ex.okDraw _ = true) ?_ ?_; decide +kernel; conv => whnf) | (refine Ex.Need.mk ?_ ?_; (first | omega | (constructor <;> omega)); conv => whnf) | (refine Ex.RK.of (eqO_en _ _) ?_; conv => whnf) | (refine KIf.f (by simp) ?_; conv => whnf)))
          refine ⟨d + 1, h5, by dsimp only; omega, ?_⟩
          (refine Ex.Weak.of [0, 1] [] rfl rfl ?_ ?_ <;> (repeat' (first | exact True.intro | refine And.intro ?_ ?_)) <;> (conv => whnf) <;> (repeat' (exact rfl)) <;> ((exact Or.inr ⟨rfl, rfl⟩)))
        · (conv => whnf); (repeat (fail))
          refine .z [] ?_
          exact Wz_refl rfl
end Go.Proofs.YtgcjejajljhnaaaGreatDoor
namespace Go.Proofs.YtgcjejajljhnaaaGreatDoor
open Go.Ex Ck
set_option maxRecDepth 100000
set_option maxHeartbeats 4000000
theorem awake_k : Ex.PureC Tryz.prog 10 [] (bb true) := fun _ => CallOk.of_below (args := []) awake_any
theorem few_b (v : Pt) {b : Bool} (h : fewP v = b) : Ex.PureC Tryz.prog 11 [aPts v] (bb b) := by rw [← h]; exact few_k v
theorem NamesOf_any (v : Pt) (r : Int) (h : FitP v) (he : Ck.partsErr v = 0) : ∃ (l : List Nm) (e : Int), Ex.PureC Tryz.prog 38 [aPts v, ib r] (.tup [LS 3 aNm Nm.o l, ib e]) ∧
    ((wi r 0 (v.rs.length - 1) = true ∧ (at_ Rc.o v.rs r.toNat).u = true ∧ l = (at_ Rc.o v.rs r.toNat).ns ∧ e = 0) ∨ ((wi r 0 (v.rs.length - 1) = false ∨ (wi r 0 (v.rs.length - 1) = true ∧ (at_ Rc.o v.rs r.toNat).u = false)) ∧ l = [] ∧ e = 6)) := by
  cases hw : wi r 0 (v.rs.length - 1)
  · exact ⟨_, _, NamesOf_out v r h he hw, .inr ⟨.inl rfl, rfl, rfl⟩⟩
  · cases hu : (at_ Rc.o v.rs r.toNat).u
    · exact ⟨_, _, NamesOf_unused v r h he hw hu, .inr ⟨.inr ⟨rfl, rfl⟩, rfl, rfl⟩⟩
    · exact ⟨_, _, NamesOf_ok v r h he hw hu, .inl ⟨rfl, rfl, rfl, rfl⟩⟩
theorem names_wz1 {h : T AO} {z : List Nat} (ns : List Nm) : Wz h z (aRcs ⟨false, 0, 0, Ref.o, 0, 0, ns, [], []⟩) (.agg [bb false, ib 0, ib 0, ib 0, ib 0, ib 0, ib 0, LS 3 aNm Nm.o ns, .sc (.slice none 0 0), .sc (.slice none 0 0)]) :=
  ⟨Wz_refl rfl, Wz_refl rfl, Wz_refl rfl, Wz_refl rfl, Wz_refl rfl, Wz_refl rfl, Wz_refl rfl, Wz_refl rfl, Wz.nil rfl, Wz.nil rfl, trivial⟩
theorem CheckerLooks_few (v : Pt) (r : Int) (h : fewP v = false) : Ex.PureC Tryz.prog 8 [aPts v, ib r] (bb true) := by
  refine Ex.PureC.of kmix rfl ?_
  (conv => whnf); (repeat (first | (refine Ex.KIf.t rfl ?_; conv => whnf) | (refine Ex.KIf.f rfl ?_; conv => whnf) | ((refine Ex.KCall.pure (awake_k) ?_); conv => whnf) | ((refine Ex.KCall.pure (few_b v h) ?_); conv => whnf)))
  refine .z [] ?_
  exact Wz_refl rfl
theorem CheckerLooks_bad (v : Pt) (r : Int) (hfew : fewP v = true) (he : Ck.partsErr v ≠ 0) : Ex.PureC Tryz.prog 8 [aPts v, ib r] (bb true) := by
  have h := few_fitP hfew
  refine Ex.PureC.of kmix rfl ?_
  (conv => whnf); (repeat (first | (refine Ex.KIf.t rfl ?_; conv => whnf) | (refine Ex.KIf.f rfl ?_; conv => whnf) | ((refine Ex.KCall.pure (awake_k) ?_); conv => whnf) | ((refine Ex.KCall.pure (few_b v hfew) ?_); conv => whnf) | ((refine Ex.KCall.pure (Copy_k v h.f) ?_); conv => whnf) | ((refine Ex.KCall.pure (UsedBy_bad v h he) ?_); conv => whnf) | ((refine Ex.KCall.pure (ReachedIn_bad v h he) ?_); conv => whnf) | ((refine Ex.KCall.pure (NamesOf_bad v r h he) ?_); conv => whnf) | ((refine Ex.KCall.pure (rErr_k v h) ?_); conv => whnf) | (refine KIf.t (congrArg Bool.not (decide_eq_false he)) ?_; conv => whnf) | ((refine Ex.KCall.pure (PathsIn_bad v h he) ?_); conv => whnf) | (refine KIf.t (decide_eq_true rfl) ?_; conv => whnf)))
  (refine .z [] ?_; conv => whnf); (repeat' (exact rfl)) <;> (try (conv => whnf)) <;> (repeat' (fail)) <;> (fail)
theorem CheckerLooks_good (v : Pt) (r : Int) (hfew : fewP v = true) (he : Ck.partsErr v = 0) : Ex.PureC Tryz.prog 8 [aPts v, ib r] (bb true) := by
  have h := few_fitP hfew
  have hv := Valid.of he
  have hok := hv.okr h
  have hn := hv.lens.2.1
  have hrl := rchL_len v
  obtain ⟨nl, ne, hN, hcase⟩ := NamesOf_any v r h he
  refine Ex.PureC.of kmix rfl ?_
  (conv => whnf); (repeat (first | (refine Ex.KIf.f rfl ?_; conv => whnf) | ((refine Ex.KCall.pure (awake_k) ?_); conv => whnf) | ((refine Ex.KCall.pure (few_b v hfew) ?_); conv => whnf) | ((refine Ex.KCall.pure (Copy_k v h.f) ?_); conv => whnf) | ((refine Ex.KCall.pure (UsedBy_ok v h he) ?_); conv => whnf) | ((refine Ex.KCall.pure (ReachedIn_ok v h he) ?_); conv => whnf) | ((refine Ex.KCall.pure (hN) ?_); conv => whnf) | ((refine Ex.KCall.pure (rErr_k v h) ?_); conv => whnf) | (refine KIf.f (congrArg Bool.not (decide_eq_true he)) ?_; conv => whnf) | ((refine Ex.KCall.pure (rReached_k v (by omega) hv.root.1 h.f.es) ?_); conv => whnf)))
  refine WLoop.inv kmix (D := Nat × List Int) (fun d => (rchL v).length - d.1) (fun d => d.1 ≤ (rchL v).length ∧ d.2 = filt v d.1)
    (fun d => slots [(1, ib r), (2, .ptr 0 0), (5, tb (Ck.used v)), (6, ib 0), (7, LS 1 aI 0 (filt v v.rs.length)), (8, ib 0), (9, LS 3 aNm Nm.o nl), (10, ib ne), (14, lv 1 d.2), (15, LS 1 aB false (rchL v)), (16, ib d.1)] 160)
    (fun d => heapOf (.row (aPt v) 26 0 :: lr d.2)) (0, []) ⟨Nat.zero_le _, rfl⟩ ?_ ?_
  · (refine Ex.Weak.of [0] [] rfl rfl ?_ ?_ <;> (repeat' (first | exact True.intro | refine And.intro ?_ ?_)) <;> (conv => whnf) <;> (repeat' (exact rfl)) <;> (first | (intro _ _; rfl) | (exact Or.inr ⟨rfl, rfl⟩)))
  · rintro ⟨d, l⟩ ⟨hd, hl⟩
    dsimp only at hd hl
    have hll := filt_len v d
    rw [← hl] at hll
    obtain ⟨mk, hmk⟩ : ∃ b, at_ false (rchL v) d = b := ⟨_, rfl⟩
    cases l with
    | nil =>
      (conv => whnf); (repeat (fail))
      refine KIf.dec (fun h2 => ?_) (fun h2 => ?_)
      · have hlt : d < (rchL v).length := by omega
        cases mk
        · (conv => whnf); (repeat (first | (refine Ex.KIf.f ?_ ?_; assumption; conv => whnf) | (refine Ex.Need.mk ?_ ?_; (first | omega | (constructor <;> omega)); conv => whnf)))
          refine ⟨(d + 1, []), ⟨hlt, by rw [filt_f v d hmk]; exact hl⟩, by dsimp only; omega, ?_⟩
          (refine Ex.Weak.of [0] [] rfl rfl ?_ ?_ <;> (repeat' (first | exact True.intro | refine And.intro ?_ ?_)) <;> (conv => whnf) <;> (repeat' (exact rfl)) <;> (first | (intro _ _; rfl) | (exact Or.inr ⟨rfl, rfl⟩)))
        · (conv => whnf); (repeat (first | (refine Ex.NCase.s (Nat.succ_ne_zero _) ?_; conv => whnf) | (refine Ex.KIf.t ?_ ?_; assumption; conv => whnf) | (refine Ex.Need.mk ?_ ?_; (first | trivial | omega | (constructor <;> omega)); conv => whnf)))
          refine ⟨(d + 1, [(d : Int)]), ⟨hlt, by rw [filt_t v d hmk, ← hl]; rfl⟩, by dsimp only; omega, ?_⟩
          (refine Ex.Weak.of [0, 2] [] rfl rfl ?_ ?_ <;> (repeat' (first | exact True.intro | refine And.intro ?_ ?_)) <;> (conv => whnf) <;> (repeat' (exact rfl)) <;> (first | (intro _ _; rfl) | (exact Or.inr ⟨rfl, rfl⟩)))
      · have hde : d = (rchL v).length := by omega
        have hfe : filt v v.rs.length = [] := by rw [← hrl, ← hde]; exact hl.symm
        (conv => whnf); (repeat (first | (refine Ex.KIf.f rfl ?_; conv => whnf) | (refine Ex.Need.mk ?_ ?_; ((constructor <;> omega)); conv => whnf) | ((refine Ex.KCall.pure (rUsed_k v hok) ?_); conv => whnf) | (refine KIf.f (congrArg Bool.not (decide_eq_true rfl)) ?_; conv => whnf) | (refine Ex.KCall.frz [] (Ints_k (filt v v.rs.length) (filt v v.rs.length) (by have := filt_len v v.rs.length; omega) (by have := filt_len v v.rs.length; omega)) ⟨Wz_refl rfl, Wz.nil hfe, trivial⟩ ?_; conv => whnf) | ((refine Ex.KCall.pure (rwithin_k _ _ _) ?_); conv => whnf)))
        rcases hcase with ⟨hw, hu, rfl, rfl⟩ | ⟨hwu, rfl, rfl⟩
        · have h2 : 0 ≤ r ∧ r < v.rs.length := by simp [wi] at hw; omega
          have hns := h.f.ns _ (at_mem Rc.o v.rs r.toNat (by omega))
          (conv => whnf); (repeat (first | (refine Ex.KIf.f rfl ?_; conv => whnf) | (refine Ex.KIf.f ?_ ?_; (focus (simp only [Bool.not_eq_true', Bool.not_eq_false', Bool.not_true, Bool.not_false]; assumption)); conv => whnf) | (refine Ex.Need.mk ?_ ?_; (trivial); conv => whnf) | (refine Ex.KCall.frz [] (SameRecord_eq ⟨false, 0, 0, Ref.o, 0, 0, (at_ Rc.o v.rs r.toNat).ns, [], []⟩ hns (Nat.zero_le _) (Nat.zero_le _) (fun y hy => by cases hy)) ⟨names_wz1 _, names_wz1 _, trivial⟩ ?_; conv => whnf)))
          refine .z [] ?_
          exact Wz_refl rfl
        · rcases hwu with hw | ⟨hw, hu⟩
          · (conv => whnf); (repeat (first | (refine Ex.KIf.t rfl ?_; conv => whnf) | (refine Ex.KIf.t ?_ ?_; (focus (simp only [Bool.not_eq_true', Bool.not_eq_false', Bool.not_true, Bool.not_false]; assumption)); conv => whnf)))
            refine .z [] ?_
            exact Wz_refl rfl
          · have h2 : 0 ≤ r ∧ r < v.rs.length := by simp [wi] at hw; omega
            (conv => whnf); (repeat (first | (refine Ex.KIf.t rfl ?_; conv => whnf) | (refine Ex.KIf.t ?_ ?_; (focus (simp only [Bool.not_eq_true', Bool.not_eq_false', Bool.not_true, Bool.not_false]; assumption)); conv => whnf) | (refine Ex.KIf.f ?_ ?_; (focus (simp only [Bool.not_eq_true', Bool.not_eq_false', Bool.not_true, Bool.not_false]; assumption)); conv => whnf) | (refine Ex.Need.mk ?_ ?_; (trivial); conv => whnf)))
            refine .z [] ?_
            exact Wz_refl rfl
    | cons y l =>
      (conv => whnf); (repeat (fail))
      refine KIf.dec (fun h2 => ?_) (fun h2 => ?_)
      · have hlt : d < (rchL v).length := by omega
        cases mk
        · (conv => whnf); (repeat (first | (refine Ex.KIf.f ?_ ?_; assumption; conv => whnf) | (refine Ex.Need.mk ?_ ?_; (first | omega | (constructor <;> omega)); conv => whnf)))
          refine ⟨(d + 1, y :: l), ⟨hlt, by rw [filt_f v d hmk]; exact hl⟩, by dsimp only; omega, ?_⟩
          (refine Ex.Weak.of [0, 1] [] rfl rfl ?_ ?_ <;> (repeat' (first | exact True.intro | refine And.intro ?_ ?_)) <;> (conv => whnf) <;> (repeat' (exact rfl)) <;> (first | (intro _ _; rfl) | (first | exact Or.inr ⟨rfl, rfl⟩ | exact Or.inr ⟨rfl, Ck.contL_map (fun _ => rfl) _⟩)))
        · have hsz : ((y :: l).length + 1) * 8 ≤ 2 ^ 47 ∧ (y :: l).length + 1 ≤ 2 ^ 60 := by constructor <;> omega
          (conv => whnf); (repeat (first | (refine Ex.NCase.s (Nat.succ_ne_zero _) ?_; conv => whnf) | (refine Ex.KIf.t ?_ ?_; assumption; conv => whnf) | (refine Ex.Need.mk ?_ ?_; (first | trivial | omega | (constructor <;> omega)); conv => whnf) | (refine Need.mk ?_ ?_; (focus (exact (by simp))); conv => whnf)))
          refine ⟨(d + 1, y :: l ++ [(d : Int)]), ⟨hlt, by rw [filt_t v d hmk, ← hl]⟩, by dsimp only; omega, ?_⟩
          (refine Ex.Weak.of [0, 3] [] rfl rfl ?_ ?_ <;> (repeat' (first | exact True.intro | refine And.intro ?_ ?_)) <;> (conv => whnf) <;> (repeat' (exact rfl)) <;> (first | (intro _ _; rfl) | (first | exact wrow_eq (by simp) (contL_map (enc := ib) (fun _ => rfl) (y :: (l ++ [(d : Int)]))) | (exact Or.inr ⟨rfl, rfl⟩) | (simp; done))))
      · have hde : d = (rchL v).length := by omega
        have hfe : filt v v.rs.length = y :: l := by rw [← hrl, ← hde]; exact hl.symm
        (conv => whnf); (repeat (first | (refine Ex.KIf.f rfl ?_; conv => whnf) | (refine Ex.Need.mk ?_ ?_; ((constructor <;> omega)); conv => whnf) | ((refine Ex.KCall.pure (rUsed_k v hok) ?_); conv => whnf) | (refine KIf.f (congrArg Bool.not (decide_eq_true rfl)) ?_; conv => whnf) | (refine Ex.KCall.frz [1] (Ints_k (filt v v.rs.length) (filt v v.rs.length) (by have := filt_len v v.rs.length; omega) (by have := filt_len v v.rs.length; omega)) ⟨Wz_refl rfl, (by rw [hfe]; exact Wz.own rfl (by simp) rfl (fun _ _ => rfl) (map_flat ib 0 (y :: l)) (fun _ _ => rfl)), trivial⟩ ?_; conv => whnf) | ((refine Ex.KCall.pure (rwithin_k _ _ _) ?_); conv => whnf)))
        rcases hcase with ⟨hw, hu, rfl, rfl⟩ | ⟨hwu, rfl, rfl⟩
        · have h2 : 0 ≤ r ∧ r < v.rs.length := by simp [wi] at hw; omega
          have hns := h.f.ns _ (at_mem Rc.o v.rs r.toNat (by omega))
          (conv => whnf); (repeat (first | (refine Ex.KIf.f rfl ?_; conv => whnf) | (refine Ex.KIf.f ?_ ?_; (focus (simp only [Bool.not_eq_true', Bool.not_eq_false', Bool.not_true, Bool.not_false]; assumption)); conv => whnf) | (refine Ex.Need.mk ?_ ?_; (trivial); conv => whnf) | (refine Ex.KCall.frz [] (SameRecord_eq ⟨false, 0, 0, Ref.o, 0, 0, (at_ Rc.o v.rs r.toNat).ns, [], []⟩ hns (Nat.zero_le _) (Nat.zero_le _) (fun y hy => by cases hy)) ⟨names_wz1 _, names_wz1 _, trivial⟩ ?_; conv => whnf)))
          refine .z [] ?_
          exact Wz_refl rfl
        · rcases hwu with hw | ⟨hw, hu⟩
          · (conv => whnf); (repeat (first | (refine Ex.KIf.t rfl ?_; conv => whnf) | (refine Ex.KIf.t ?_ ?_; (focus (simp only [Bool.not_eq_true', Bool.not_eq_false', Bool.not_true, Bool.not_false]; assumption)); conv => whnf)))
            refine .z [] ?_
            exact Wz_refl rfl
          · have h2 : 0 ≤ r ∧ r < v.rs.length := by simp [wi] at hw; omega
            (conv => whnf); (repeat (first | (refine Ex.KIf.t rfl ?_; conv => whnf) | (refine Ex.KIf.t ?_ ?_; (focus (simp only [Bool.not_eq_true', Bool.not_eq_false', Bool.not_true, Bool.not_false]; assumption)); conv => whnf) | (refine Ex.KIf.f ?_ ?_; (focus (simp only [Bool.not_eq_true', Bool.not_eq_false', Bool.not_true, Bool.not_false]; assumption)); conv => whnf) | (refine Ex.Need.mk ?_ ?_; (trivial); conv => whnf)))
            refine .z [] ?_
            exact Wz_refl rfl
theorem CheckerLooks_k (v : Pt) (r : Int) : Ex.PureC Tryz.prog 8 [aPts v, ib r] (bb true) := by
  cases hf : fewP v
  · exact CheckerLooks_few v r hf
  · by_cases he : Ck.partsErr v = 0
    · exact CheckerLooks_good v r hf he
    · exact CheckerLooks_bad v r hf he
end Go.Proofs.YtgcjejajljhnaaaGreatDoor
