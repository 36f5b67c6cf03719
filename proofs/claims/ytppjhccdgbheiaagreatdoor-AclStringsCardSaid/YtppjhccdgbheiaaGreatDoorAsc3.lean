/- For every input the law AclStrings (the string of a descriptor, and the descriptor with any string, are as specified, or the errors; both reverse each other) returns true without a panic, and each argument reads behind the call as it read before: its tied card holds. Conditions: none but the row's own (the listed tables and errors of the standard library read as their text lays them). -/
import Derived.Test.YtppjhccdgbheiaaGreatDoorAsc2
import Derived.Test.YtppjhccdgbheiaaGreatDoorBase1
import Derived.Test.YtppjhccdgbheiaaGreatDoorBase3
import Derived.Test.YtppjhccdgbheiaaGreatDoorAsc1
import Derived.Test.YtppjhccdgbheiaaGreatDoorRows
import Derived.HandedShaped
import Derived.Handed
import Derived.Stop.LaidErr
import Derived.MakeChecks
import Derived.Shelf.Vars
import Derived.Stop.Joined
import Derived.Lib.LaidTab
import Derived.Lay
import Derived.Test.YtppjhccdgbheiaaGreatDoorTie
import Derived.Test.YtppjhccdgbheiaaGreatDoorCards
import Derived.SevenTiedAt
import Derived.ChangeMaps5
set_option linter.all false
namespace Go.Hp
open Go.RowKit
inductive MixK where
  | val (x : Value)
  | fact (φ : Phi)
  | free (x : Value)
  | store
def MixK.phi : MixK → Phi
  | .val x => isV x
  | .fact φ => φ
  | .free x => isV x
  | .store => fun _ _ _ _ => True
def MixK.isFree : MixK → Bool
  | .free _ => true
  | _ => false
def MixK.isStore : MixK → Bool
  | .store => true
  | _ => false
def fixF : List MixK → List Value → List Value
  | .free x :: Φ, _ :: xs => x :: fixF Φ xs
  | .val _ :: Φ, y :: xs => y :: fixF Φ xs
  | .fact _ :: Φ, y :: xs => y :: fixF Φ xs
  | .store :: Φ, y :: xs => y :: fixF Φ xs
  | [], xs => xs
  | _ :: _, [] => []
theorem fixF_eq : ∀ (Φ : List MixK) (xs ys : List Value), ys.length = xs.length → xs.length = Φ.length → (∀ (k : Nat) (x : Value), Φ[k]? = some (.free x) → ys.getD k undef = x) →
    (∀ (k : Nat) (φ : MixK), Φ[k]? = some φ → φ.isFree = false → ys.getD k undef = xs.getD k undef) → fixF Φ xs = ys
  | [], [], [], _, _, _, _ => rfl
  | [], x :: xs, _, _, h, _, _ => by simp at h
  | φ :: Φ, [], _, _, h, _, _ => by simp at h
  | φ :: Φ, x :: xs, [], h, _, _, _ => by simp at h
  | φ :: Φ, x :: xs, y :: ys, h1, h2, hf, hn => by
    have ih := fixF_eq Φ xs ys (by simpa using h1) (by simpa using h2) (fun k x hk => by have := hf (k + 1) x (by simpa using hk); simpa using this) (fun k φ hk hfr => by have := hn (k + 1) φ (by simpa using hk) hfr; simpa using this)
    cases φ with
    | free z =>
      have := hf 0 z rfl
      simp only [List.getD_cons_zero] at this
      subst this
      simp only [fixF, ih]
    | val z =>
      have := hn 0 _ rfl rfl
      simp only [List.getD_cons_zero] at this
      subst this
      simp only [fixF, ih]
    | fact z =>
      have := hn 0 _ rfl rfl
      simp only [List.getD_cons_zero] at this
      subst this
      simp only [fixF, ih]
    | store =>
      have := hn 0 _ rfl rfl
      simp only [List.getD_cons_zero] at this
      subst this
      simp only [fixF, ih]
section
variable {P : Program} {Q : Exit → Act → World → Prop} {a : Act} {w : World} {l : List Oper} {n s : Nat} {Φ : List MixK}
def MixDeps (l : List Oper) (n : Nat) (Φ : List MixK) (B i : Nat) (xs : List Value) (w1 : World) : Prop :=
  ∀ k φ, k < n → Region.waitsFor .any l.toArray i k = true → Φ[k]? = some φ → ∃ lo hi, B ≤ lo ∧ hi ≤ w1.heap.size ∧ φ.phi lo hi (xs.getD k undef) w1
structure MixPre (l : List Oper) (n s : Nat) (Φ : List MixK) (a : Act) (w : World) (L : Array Bool) (a' : Act) (w1 : World) : Prop where
  phi : PhiInv l n (Φ.map MixK.phi) a w L a' w1
  not : L.getD s false = false
def SameBelow (n₀ : Nat) (w w2 : World) : Prop := ∀ b o, b < n₀ → w2.cell? ⟨b, o, none⟩ = w.cell? ⟨b, o, none⟩
theorem SameBelow.of_below {n₀ B : Nat} {w w2 : World} (h : Below B w w2) (hn : n₀ ≤ B) : SameBelow n₀ w w2 := fun b o hb => h.cell (p := ⟨b, o, none⟩) (show b < B by omega)
theorem SameBelow.of_st {w0 w w2 : World} {rs rs' : List Res} (st : St w0 w rs) (st' : St w0 w2 rs') : SameBelow w0.heap.size w w2 := fun b o hb => (st'.old hb).trans (st.old hb).symm
structure MixPost (n₀ : Nat) (P : Program) (Q : Exit → Act → World → Prop) (l : List Oper) (n s : Nat) (Φ : List MixK) (a : Act) (w : World) (L : Array Bool) (a' : Act) (w2 : World) : Prop where
  inv : HeadInv .any l.toArray n L
  low : SameBelow n₀ w w2
  is : L.getD s false = true
  all : ∀ k φ, k < n → Φ[k]? = some φ → φ.isFree = false → L.getD k false = true
  ex : ∃ (xs : List Value) (w1 : World), xs.length = n ∧ a' = fillA (l.take n) xs a ∧ Below w.heap.size w w1 ∧
    (∀ (k : Nat) (φ : MixK), Φ[k]? = some φ → φ.isFree = false → ∃ lo hi, w.heap.size ≤ lo ∧ hi ≤ w1.heap.size ∧ φ.phi lo hi (xs.getD k undef) w1) ∧
    (∀ (k : Nat) (x : Value), Φ[k]? = some (.free x) → L.getD k false = true → xs.getD k undef = x) ∧
    (∀ ys : List Value, ys.length = n → (∀ (k : Nat) (x : Value), Φ[k]? = some (.free x) → ys.getD k undef = x) → (∀ (k : Nat) (φ : MixK), Φ[k]? = some φ → φ.isFree = false → ys.getD k undef = xs.getD k undef) →
      wpList P l.toArray Q (l.drop n) (fillA (l.take n) ys a) w2)
theorem wp_region_mix0 {id n₀ : Nat} (hn₀ : n₀ ≤ w.drew.heap.size) (hm : P.follows .mixedOrders = true) (hB : phiB l n = true) (hΦ : Φ.length = n) (hs : s < n) (hst : Φ[s]? = some .store) (one : ∀ k, Φ[k]? = some .store → k = s) (stable : ∀ φ ∈ Φ, φ.phi.stable)
    (waits : ∀ (k : Nat) (φ : MixK), k < n → k ≠ s → Φ[k]? = some φ → φ.isFree = false → ∃ j, k < j ∧ j ≤ s ∧ Region.waitsFor .any l.toArray j k = true ∧ (j = s ∨ ∃ φj, Φ[j]? = some φj ∧ φj.isFree = false))
    (step : ∀ i o φ, i < n → i ≠ s → l[i]? = some o → Φ[i]? = some φ → φ.isFree = false → ∀ xs : List Value, xs.length = n → ∀ w1, Below w.drew.heap.size w.drew w1 → MixDeps l n Φ w.drew.heap.size i xs w1 → Yphi P l.toArray o (fillA (l.take n) xs a) w1 φ.phi)
    (free : ∀ i o x, i < n → l[i]? = some o → Φ[i]? = some (.free x) → ∀ xs : List Value, xs.length = n → ∀ w1, Below w.drew.heap.size w.drew w1 → MixDeps l n Φ w.drew.heap.size i xs w1 → ∀ w2, SameBelow n₀ w.drew w2 → YX P l.toArray o (fillA (l.take n) xs a) w2 x)
    (store : ∀ o, l[s]? = some o → ∀ (xs : List Value) (lo hi : Nat → Nat) w1, xs.length = n → Below w.drew.heap.size w.drew w1 →
      (∀ (k : Nat) (φ : MixK), Φ[k]? = some φ → φ.isFree = false → φ.isStore = false → w.drew.heap.size ≤ lo k ∧ hi k ≤ w1.heap.size ∧ φ.phi (lo k) (hi k) (xs.getD k undef) w1) →
      (∀ j k, j < n → k < n → j ≠ k → hi j ≤ lo k ∨ hi k ≤ lo j) →
      Region.wanted o (yielded l.toArray (fillA (l.take n) xs a).tmps) = true ∧ o.wp P (fillA (l.take n) xs a) w1 (fun a' w2 => ∃ v, a' = (fillA (l.take n) xs a).put o.dst v ∧ SameBelow n₀ w.drew w2 ∧ wpList P l.toArray Q (l.drop n) (fillA (l.take n) (fixF Φ (xs.set s v)) a) w2) (fun _ _ _ => False)) :
    (Code.region id l.toArray true).wp P Q a w := by
  have hB' := hB
  simp only [phiB, Bool.and_eq_true, decide_eq_true_eq, Bool.or_eq_true] at hB'
  obtain ⟨⟨⟨⟨hdist, hn⟩, hback⟩, _⟩, _⟩ := hB'
  have htl : (l.take n).length = n := by simp; omega
  have getD_step : ∀ (xs : List Value) (i k : Nat) (v : Value), xs.length = n → i < n → (xs.set i v).getD k undef = if k = i then v else xs.getD k undef := by
    intro xs i k v hl hi
    split
    · rename_i h; subst h; simp [List.getD, hl, hi]
    · rename_i h; simp [List.getD, List.getElem?_set_ne (Ne.symm h)]
  refine wp_region_head hm hB (fun L a1 w1 => MixPre l n s Φ a w.drew L a1 w1 ∨ MixPost n₀ P Q l n s Φ a w.drew L a1 w1) (fun L a1 w1 h => ?_) (fun L a1 w1 i o hI hin hun ho hdeps => ?_) (fun L a1 w1 hI hall => ?_) (.inl ⟨⟨start_inv, Below.refl _ _,
      ⟨(l.take n).map (fun o => match o.dst with | some d => a.tmps.getD d undef | none => undef), fun _ => 0, fun _ => 0, by simp; omega, (fillA_self _ a).symm, fun k φ _ hl => (by rw [getD_replicate_false] at hl; cases hl), fun j k _ hj _ => (by rw [getD_replicate_false] at hj; cases hj)⟩⟩, getD_replicate_false _ _⟩)
  · rcases h with h | h
    · exact h.phi.inv
    · exact h.inv
  · have hsz : L.size = l.length := by rcases hI with h | h; simpa using h.phi.inv.size; simpa using h.inv.size
    have hlt : i < L.size := by omega
    have hrdy : i ∈ Region.ready .any l.toArray L := mem_ready.2 ⟨getD_in hlt hun, o, by simpa using ho, hdeps⟩
    have hφ : ∃ φ, Φ[i]? = some φ := ⟨Φ[i]'(by omega), List.getElem?_eq_getElem (by omega)⟩
    obtain ⟨φ, hφ⟩ := hφ
    have hdep : ∀ k, Region.waitsFor .any l.toArray i k = true → L.getD k false = true := fun k hwt => by
      obtain ⟨o2, ho2, e, he, hb, hon⟩ := Region.waitsFor_spec hwt
      have : o2 = o := Option.some.inj (ho2.symm.trans (by simpa using ho))
      subst this
      have := hdeps e he hb
      rwa [hon] at this
    have htrue : (L.setIfInBounds i true).getD i false = true := by simp [hlt]
    rcases hI with hI | hI
    · obtain ⟨xs, lo, hi, hlen, rfl, h1, h2⟩ := hI.phi.ex
      have hb0 := hI.phi.below.size
      have hfact : ∀ (k : Nat) (φk : MixK), Φ[k]? = some φk → L.getD k false = true → w.drew.heap.size ≤ lo k ∧ hi k ≤ w1.heap.size ∧ φk.phi (lo k) (hi k) (xs.getD k undef) w1 := fun k φk hk hl =>
        h1 k φk.phi (by rw [List.getElem?_map, hk]; rfl) hl
      have hD : MixDeps l n Φ w.drew.heap.size i xs w1 := fun k φk hk hwt hφk => ⟨lo k, hi k, hfact k φk hφk (hdep k hwt)⟩
      by_cases his : i = s
      · subst his
        have hnf0 : ∀ (m k : Nat) (φk : MixK), i - k ≤ m → k < n → k ≠ i → Φ[k]? = some φk → φk.isFree = false → L.getD k false = true := by
          intro m
          induction m with
          | zero =>
            intro k φk hm hk hne hφk hf
            obtain ⟨j, h1, h2, _⟩ := waits k φk hk hne hφk hf
            omega
          | succ m ihm =>
            intro k φk hm hk hne hφk hf
            obtain ⟨j, h1, h2, h3, h4⟩ := waits k φk hk hne hφk hf
            by_cases hji : j = i
            · subst hji; exact hdep k h3
            · obtain ⟨φj, hφj, hfj⟩ := h4.resolve_left hji
              have hjl := ihm j φj (by omega) (by omega) hji hφj hfj
              obtain ⟨o2, ho2, e, he, hb, hon⟩ := Region.waitsFor_spec h3
              have := hI.phi.inv.closed j o2 ho2 hjl e he hb
              rwa [hon] at this
        have hnf : ∀ (k : Nat) (φk : MixK), k < n → k ≠ i → Φ[k]? = some φk → φk.isFree = false → L.getD k false = true := fun k φk => hnf0 (i - k) k φk (Nat.le_refl _)
        have hlo : ∀ (k : Nat) (φk : MixK), Φ[k]? = some φk → φk.isFree = false → φk.isStore = false → k ≠ i ∧ L.getD k false = true := fun k φk hk hf hst' => by
          have hne : k ≠ i := fun e => by
            subst e
            have : φk = .store := Option.some.inj (hk.symm.trans hst)
            subst this
            cases hst'
          exact ⟨hne, hnf k φk (by rw [← hΦ]; exact (List.getElem?_eq_some_iff.1 hk).1) hne hk hf⟩
        obtain ⟨hw, hy⟩ := store o ho xs (fun k => if L.getD k false then lo k else w1.heap.size) (fun k => if L.getD k false then hi k else 0) w1 hlen hI.phi.below
          (fun k φk hk hf hst' => by
            obtain ⟨_, hl⟩ := hlo k φk hk hf hst'
            simp only [hl, if_true]
            exact hfact k φk hk hl)
          (fun j k hj hk hjk => by
            cases hlj : L.getD j false with
            | false => left; simp
            | true =>
              cases hlk : L.getD k false with
              | false => right; simp
              | true => simpa using h2 j k hjk hlj hlk)
        refine .inl ⟨hw, wp_strong (fun a2 w2 ⟨v, e, hlow, h3⟩ => .inr ?_) hy⟩
        subst e
        refine ⟨hI.phi.inv.set hrdy hin, hlow, htrue, fun k φk hk hφk hf => ?_, xs.set i v, w1, by simpa using hlen, fillA_put (l.take n) xs a i o v hdist (by rw [List.getElem?_take, if_pos hin]; exact ho) (by rw [hlen, htl]), hI.phi.below, fun k φk hφk hf => ?_, fun k x hφk hl => ?_, fun ys hy1 hy2 hy3 => ?_⟩
        · by_cases hki : k = i
          · subst hki; exact htrue
          · rw [getD_set_ne false (Ne.symm hki)]
            exact hnf k φk hk hki hφk hf
        · by_cases hki : k = i
          · subst hki
            have : φk = .store := Option.some.inj (hφk.symm.trans hst)
            subst this
            exact ⟨_, 0, Nat.le_refl _, Nat.zero_le _, True.intro⟩
          · rw [getD_step xs i k v hlen hin, if_neg hki]
            exact ⟨lo k, hi k, hfact k φk hφk (hnf k φk (by rw [← hΦ]; exact (List.getElem?_eq_some_iff.1 hφk).1) hki hφk hf)⟩
        · by_cases hki : k = i
          · subst hki
            rw [hst] at hφk
            cases hφk
          · rw [getD_set_ne false (Ne.symm hki)] at hl
            rw [getD_step xs i k v hlen hin, if_neg hki]
            exact (hfact k _ hφk hl).2.2
        · rw [← fixF_eq Φ (xs.set i v) ys (by rw [hy1, List.length_set, hlen]) (by rw [List.length_set, hlen, hΦ]) hy2 hy3]
          exact h3
      · have hnext : ∀ v w2, Below w1.heap.size w1 w2 → φ.phi w1.heap.size w2.heap.size v w2 → MixPre l n s Φ a w.drew (L.setIfInBounds i true) ((fillA (l.take n) xs a).put o.dst v) w2 := by
          intro v w2 hb hv
          refine ⟨⟨hI.phi.inv.set hrdy hin, hI.phi.below.trans (hb.mono hb0), xs.set i v, fun k => if k = i then w1.heap.size else lo k, fun k => if k = i then w2.heap.size else hi k, by simpa using hlen, ?_, ?_, ?_⟩, ?_⟩
          · exact fillA_put (l.take n) xs a i o v hdist (by rw [List.getElem?_take, if_pos hin]; exact ho) (by rw [hlen, htl])
          · intro k ψ hk hlk
            rw [List.getElem?_map] at hk
            obtain ⟨φk, hφk, rfl⟩ := Option.map_eq_some_iff.1 hk
            rw [getD_step xs i k v hlen hin]
            by_cases hki : k = i
            · subst hki
              have : φk = φ := Option.some.inj (hφk.symm.trans hφ)
              subst this
              simp only [if_true]
              exact ⟨hb0, Nat.le_refl _, hv⟩
            · rw [getD_set_ne false (Ne.symm hki)] at hlk
              obtain ⟨b1, b2, b3⟩ := hfact k φk hφk hlk
              simp only [hki, if_false]
              exact ⟨b1, Nat.le_trans b2 hb.size, stable φk (List.mem_of_getElem? hφk) _ _ _ _ _ hb b2 b3⟩
          · intro j k hjk hj hk
            have hle : ∀ m, m ≠ i → (L.setIfInBounds i true).getD m false = true → hi m ≤ w1.heap.size := fun m hm hml => by
              rw [getD_set_ne false (Ne.symm hm)] at hml
              rcases Nat.lt_or_ge m n with hmn | hmn
              · exact (hfact m (Φ[m]'(by omega)) (List.getElem?_eq_getElem (by omega)) hml).2.1
              · rcases Nat.lt_or_ge m l.length with hm2 | hm2
                · have := hI.phi.inv.tail m hmn (by simpa using hm2)
                  rw [getD_both this] at hml; cases hml
                · simp [Array.getElem?_eq_none (show L.size ≤ m by omega)] at hml
            by_cases hji : j = i
            · subst hji
              simp only [if_true, if_neg (Ne.symm hjk)]
              exact .inr (hle k (Ne.symm hjk) hk)
            · by_cases hki : k = i
              · subst hki
                simp only [if_true, if_neg hji]
                exact .inl (hle j hji hj)
              · simp only [if_neg hji, if_neg hki]
                rw [getD_set_ne false (Ne.symm hji)] at hj
                rw [getD_set_ne false (Ne.symm hki)] at hk
                exact h2 j k hjk hj hk
          · rw [getD_set_ne false his]; exact hI.not
        have hy : Yphi P l.toArray o (fillA (l.take n) xs a) w1 φ.phi := by
          cases hfr : φ.isFree with
          | false => exact step i o φ hin his ho hφ hfr xs hlen w1 hI.phi.below hD
          | true =>
            cases φ with
            | free x =>
              rcases free i o x hin ho hφ xs hlen w1 hI.phi.below hD w1 (SameBelow.of_below hI.phi.below hn₀) with ⟨h3, h4⟩ | ⟨h3, h4⟩
              · refine .inl ⟨h3, wp_strong (fun a2 w2 ⟨e1, e2⟩ => ?_) h4⟩
                subst e1; subst e2
                exact ⟨x, rfl, Below.refl _ _, rfl⟩
              · exact .inr ⟨h3, h4.symm⟩
            | val x => cases hfr
            | fact x => cases hfr
            | store => cases hfr
        rcases hy with ⟨hw, hy⟩ | ⟨hw, hy⟩
        · refine .inl ⟨hw, wp_strong (fun a2 w2 ⟨v, e, hb, hv⟩ => .inl ?_) hy⟩
          subst e
          exact hnext v w2 hb hv
        · exact .inr ⟨hw, .inl (hnext undef w1 (Below.refl _ _) hy)⟩
    · obtain ⟨xs, w0, hlen, rfl, hb, h1, h2, h3⟩ := hI.ex
      have hfree : ∃ x, φ = .free x := by
        cases φ with
        | free x => exact ⟨x, rfl⟩
        | val x => have := hI.all i _ hin hφ rfl; rw [hun] at this; cases this
        | fact x => have := hI.all i _ hin hφ rfl; rw [hun] at this; cases this
        | store => have := hI.all i _ hin hφ rfl; rw [hun] at this; cases this
      obtain ⟨x, rfl⟩ := hfree
      have hD : MixDeps l n Φ w.drew.heap.size i xs w0 := fun k φk hk hwt hφk => by
        cases hfr : φk.isFree with
        | false => exact h1 k φk hφk hfr
        | true =>
          cases φk with
          | free y => exact ⟨_, 0, Nat.le_refl _, Nat.zero_le _, h2 k y hφk (hdep k hwt)⟩
          | val y => cases hfr
          | fact y => cases hfr
          | store => cases hfr
      have hnext : MixPost n₀ P Q l n s Φ a w.drew (L.setIfInBounds i true) ((fillA (l.take n) xs a).put o.dst x) w1 := by
        have his : i ≠ s := fun e => by subst e; rw [hst] at hφ; cases hφ
        refine ⟨hI.inv.set hrdy hin, hI.low, by rw [getD_set_ne false his]; exact hI.is, fun k φk hk hφk hf => ?_, xs.set i x, w0, by simpa using hlen, ?_, hb, fun k φk hφk hf => ?_, fun k y hφk hl => ?_, fun ys hy1 hy2 hy3 => ?_⟩
        · by_cases hki : k = i
          · subst hki; exact htrue
          · rw [getD_set_ne false (Ne.symm hki)]; exact hI.all k φk hk hφk hf
        · exact fillA_put (l.take n) xs a i o x hdist (by rw [List.getElem?_take, if_pos hin]; exact ho) (by rw [hlen, htl])
        · rw [getD_step xs i k x hlen hin]
          have hki : k ≠ i := fun e => by
            subst e
            have : φk = .free x := Option.some.inj (hφk.symm.trans hφ)
            subst this
            cases hf
          rw [if_neg hki]
          exact h1 k φk hφk hf
        · rw [getD_step xs i k x hlen hin]
          by_cases hki : k = i
          · subst hki
            rw [if_pos rfl]
            have := Option.some.inj (hφk.symm.trans hφ)
            injection this with h
            exact h.symm
          · rw [if_neg hki]
            rw [getD_set_ne false (Ne.symm hki)] at hl
            exact h2 k y hφk hl
        · refine h3 ys hy1 hy2 fun k φk hφk hf => ?_
          have := hy3 k φk hφk hf
          rw [getD_step xs i k x hlen hin] at this
          have hki : k ≠ i := fun e => by
            subst e
            have : φk = .free x := Option.some.inj (hφk.symm.trans hφ)
            subst this
            cases hf
          rwa [if_neg hki] at this
      rcases free i o x hin ho hφ xs hlen w0 hb hD w1 hI.low with ⟨hw, hy⟩ | ⟨hw, hy⟩
      · refine .inl ⟨hw, wp_strong (fun a2 w2 ⟨e1, e2⟩ => .inr ?_) hy⟩
        subst e1; subst e2
        exact hnext
      · exact .inr ⟨hw, .inr (hy ▸ hnext)⟩
  · rcases hI with hI | hI
    · have := hall s hs
      rw [hI.not] at this
      cases this
    · obtain ⟨xs, w0, hlen, rfl, hb, h1, h2, h3⟩ := hI.ex
      exact h3 xs hlen (fun k x hk => h2 k x hk (hall k (by rw [← hΦ]; exact (List.getElem?_eq_some_iff.1 hk).1))) (fun _ _ _ _ => rfl)
end
end Go.Hp
namespace Go.Hp
open Go.RowKit
def depM (Φ : List MixK) (B : Nat) (xs : List Value) (w1 : World) (G : Prop) : List Edge → Prop
  | [] => G
  | e :: es =>
    match Region.binds .any e, Φ[e.on]? with
    | true, some (.val x) => xs.getD e.on undef = x → depM Φ B xs w1 G es
    | true, some (.free x) => xs.getD e.on undef = x → depM Φ B xs w1 G es
    | true, some (.fact φ) => ∀ lo hi, B ≤ lo → hi ≤ w1.heap.size → φ lo hi (xs.getD e.on undef) w1 → depM Φ B xs w1 G es
    | _, _ => depM Φ B xs w1 G es
theorem depM_spec {Φ : List MixK} {B : Nat} {xs : List Value} {w1 : World} {G : Prop} : ∀ (es : List Edge), depM Φ B xs w1 G es →
    (∀ e ∈ es, Region.binds .any e = true → ∀ k, Φ[e.on]? = some k → ∃ lo hi, B ≤ lo ∧ hi ≤ w1.heap.size ∧ k.phi lo hi (xs.getD e.on undef) w1) → G
  | [], h, _ => h
  | e :: es, h, hd => by
    have ht := fun h' => depM_spec (Φ := Φ) (B := B) (xs := xs) (w1 := w1) (G := G) es h' (fun e' he' => hd e' (List.mem_cons_of_mem _ he'))
    unfold depM at h
    split at h
    · rename_i x hb hk
      obtain ⟨_, _, _, _, h3⟩ := hd e (List.mem_cons_self ..) hb _ hk
      exact ht (h h3)
    · rename_i x hb hk
      obtain ⟨_, _, _, _, h3⟩ := hd e (List.mem_cons_self ..) hb _ hk
      exact ht (h h3)
    · rename_i φ hb hk
      obtain ⟨lo, hi, h1, h2, h3⟩ := hd e (List.mem_cons_self ..) hb _ hk
      exact ht (h lo hi h1 h2 h3)
    · exact ht h
section
variable {P : Program} {Q : Exit → Act → World → Prop} {a : Act} {w : World} {l : List Oper} {n s n₀ : Nat}
def mixOb (n₀ : Nat) (P : Program) (l : List Oper) (n s : Nat) (a : Act) (w : World) (i : Nat) (Φ : List MixK) (k : MixK) : Prop :=
  match l[i]? with
  | some o => (match k with
    | .store => decide (i = s) = true
    | .free x => allV n fun xs => ∀ w1, Below w.heap.size w w1 → depM Φ w.heap.size xs w1 (∀ w2, SameBelow n₀ w w2 → YX P l.toArray o (fillA (l.take n) xs a) w2 x) o.after.toList
    | .val x => allV n fun xs => ∀ w1, Below w.heap.size w w1 → depM Φ w.heap.size xs w1 (Yphi P l.toArray o (fillA (l.take n) xs a) w1 (isV x)) o.after.toList
    | .fact φ => allV n fun xs => ∀ w1, Below w.heap.size w w1 → depM Φ w.heap.size xs w1 (Yphi P l.toArray o (fillA (l.take n) xs a) w1 φ) o.after.toList)
  | none => False
def allMix (B : Nat) (lo hi : Nat → Nat) (w1 : World) : Nat → List MixK → List Value → Prop → Prop
  | k, .val x :: Φ, y :: ys, G => y = x → allMix B lo hi w1 (k + 1) Φ ys G
  | k, .fact φ :: Φ, y :: ys, G => B ≤ lo k → hi k ≤ w1.heap.size → φ (lo k) (hi k) y w1 → allMix B lo hi w1 (k + 1) Φ ys G
  | k, .free _ :: Φ, _ :: ys, G => allMix B lo hi w1 (k + 1) Φ ys G
  | k, .store :: Φ, _ :: ys, G => allMix B lo hi w1 (k + 1) Φ ys G
  | _, [], _, G => G
  | _, _ :: _, [], G => G
theorem allMix_spec {B : Nat} {lo hi : Nat → Nat} {w1 : World} {G : Prop} : ∀ (Φ : List MixK) (k : Nat) (ys : List Value), allMix B lo hi w1 k Φ ys G → ys.length = Φ.length →
    (∀ j x, Φ[j]? = some x → x.isFree = false → x.isStore = false → B ≤ lo (k + j) ∧ hi (k + j) ≤ w1.heap.size ∧ x.phi (lo (k + j)) (hi (k + j)) (ys.getD j undef) w1) → G
  | [], k, ys, h, _, _ => by unfold allMix at h; exact h
  | x :: Φ, k, [], _, hl, _ => by simp at hl
  | .val x :: Φ, k, y :: ys, h, hl, hd => by
    unfold allMix at h
    have h0 := (hd 0 _ rfl rfl rfl).2.2
    exact allMix_spec Φ (k + 1) ys (h h0) (by simpa using hl) (fun j x hj hf hs => by have := hd (j + 1) x (by simpa using hj) hf hs; rw [show k + 1 + j = k + (j + 1) by omega]; simpa using this)
  | .fact φ :: Φ, k, y :: ys, h, hl, hd => by
    unfold allMix at h
    obtain ⟨h1, h2, h3⟩ := hd 0 _ rfl rfl rfl
    exact allMix_spec Φ (k + 1) ys (h h1 h2 h3) (by simpa using hl) (fun j x hj hf hs => by have := hd (j + 1) x (by simpa using hj) hf hs; rw [show k + 1 + j = k + (j + 1) by omega]; simpa using this)
  | .free x :: Φ, k, y :: ys, h, hl, hd => by
    unfold allMix at h
    exact allMix_spec Φ (k + 1) ys h (by simpa using hl) (fun j x hj hf hs => by have := hd (j + 1) x (by simpa using hj) hf hs; rw [show k + 1 + j = k + (j + 1) by omega]; simpa using this)
  | .store :: Φ, k, y :: ys, h, hl, hd => by
    unfold allMix at h
    exact allMix_spec Φ (k + 1) ys h (by simpa using hl) (fun j x hj hf hs => by have := hd (j + 1) x (by simpa using hj) hf hs; rw [show k + 1 + j = k + (j + 1) by omega]; simpa using this)
def mixWaits (l : List Oper) (n s : Nat) (Φ : List MixK) : Bool :=
  (List.range n).all fun k => decide (k = s) || (match Φ[k]? with | some φ => φ.isFree | none => false) || (List.range (s + 1)).any fun j => decide (k < j) && (Region.waitsFor .any l.toArray j k && (decide (j = s) || (match Φ[j]? with | some φ => !φ.isFree | none => false)))
def mixStore (s : Nat) (Φ : List MixK) : Bool := match Φ[s]? with | some φ => φ.isStore | none => false
def mixFin (n₀ : Nat) (P : Program) (l : List Oper) (n s : Nat) (a : Act) (w : World) (Q : Exit → Act → World → Prop) (Φ : List MixK) : Prop :=
  mixWaits l n s Φ = true ∧ mixStore s Φ = true ∧
  match l[s]? with
  | some o => allV n fun xs => ∀ (lo hi : Nat → Nat) (w1 : World), Below w.heap.size w w1 → (∀ j k, j < n → k < n → j ≠ k → hi j ≤ lo k ∨ hi k ≤ lo j) →
      allMix w.heap.size lo hi w1 0 Φ xs (Region.wanted o (yielded l.toArray (fillA (l.take n) xs a).tmps) = true ∧ OW P o (fillA (l.take n) xs a) w1 (fun a' w2 => ∃ v, a' = (fillA (l.take n) xs a).put o.dst v ∧ SameBelow n₀ w w2 ∧ WL P l.toArray Q (l.drop n) (fillA (l.take n) (fixF Φ (xs.set s v)) a) w2) (fun _ _ _ => False))
  | none => False
def Mix (n₀ : Nat) (P : Program) (l : List Oper) (n s : Nat) (a : Act) (w : World) (Q : Exit → Act → World → Prop) : Nat → List MixK → Prop
  | 0, Φ => mixFin n₀ P l n s a w Q Φ
  | r + 1, Φ => ∃ k : MixK, k.phi.stable ∧ mixOb n₀ P l n s a w Φ.length Φ k ∧ Mix n₀ P l n s a w Q r (Φ ++ [k])
theorem Mix.val' {r : Nat} {Φ Φ' : List MixK} {x : Value} (h : mixOb n₀ P l n s a w Φ.length Φ (.val x)) (hΦ : Φ ++ [.val x] = Φ') (h' : Mix n₀ P l n s a w Q r Φ') : Mix n₀ P l n s a w Q (r + 1) Φ := ⟨.val x, isV_stable x, h, hΦ ▸ h'⟩
theorem Mix.free' {r : Nat} {Φ Φ' : List MixK} {x : Value} (h : mixOb n₀ P l n s a w Φ.length Φ (.free x)) (hΦ : Φ ++ [.free x] = Φ') (h' : Mix n₀ P l n s a w Q r Φ') : Mix n₀ P l n s a w Q (r + 1) Φ := ⟨.free x, isV_stable x, h, hΦ ▸ h'⟩
theorem Mix.fact' {r : Nat} {Φ Φ' : List MixK} (φ : Phi) (hs : φ.stable) (h : mixOb n₀ P l n s a w Φ.length Φ (.fact φ)) (hΦ : Φ ++ [.fact φ] = Φ') (h' : Mix n₀ P l n s a w Q r Φ') : Mix n₀ P l n s a w Q (r + 1) Φ := ⟨.fact φ, hs, h, hΦ ▸ h'⟩
theorem Mix.store' {r : Nat} {Φ Φ' : List MixK} (h : mixOb n₀ P l n s a w Φ.length Φ .store) (hΦ : Φ ++ [.store] = Φ') (h' : Mix n₀ P l n s a w Q r Φ') : Mix n₀ P l n s a w Q (r + 1) Φ := ⟨.store, fun _ _ _ _ _ _ _ _ => True.intro, h, hΦ ▸ h'⟩
theorem Mix.fin {Φ : List MixK} {o : Oper} (h1 : mixWaits l n s Φ = true) (h2 : mixStore s Φ = true) (ho : l[s]? = some o)
    (h : allV n fun xs => ∀ (lo hi : Nat → Nat) (w1 : World), Below w.heap.size w w1 → (∀ j k, j < n → k < n → j ≠ k → hi j ≤ lo k ∨ hi k ≤ lo j) →
      allMix w.heap.size lo hi w1 0 Φ xs (Region.wanted o (yielded l.toArray (fillA (l.take n) xs a).tmps) = true ∧ OW P o (fillA (l.take n) xs a) w1 (fun a' w2 => ∃ v, a' = (fillA (l.take n) xs a).put o.dst v ∧ SameBelow n₀ w w2 ∧ WL P l.toArray Q (l.drop n) (fillA (l.take n) (fixF Φ (xs.set s v)) a) w2) (fun _ _ _ => False))) : Mix n₀ P l n s a w Q 0 Φ := by
  show mixFin n₀ P l n s a w Q Φ
  unfold mixFin
  rw [ho]
  exact ⟨h1, h2, h⟩
theorem Mix.all : ∀ (r : Nat) (Φ : List MixK), Mix n₀ P l n s a w Q r Φ → (∀ k ∈ Φ, k.phi.stable) → (∀ i k, Φ[i]? = some k → mixOb n₀ P l n s a w i (Φ.take i) k) →
    ∃ Ψ : List MixK, Ψ.length = Φ.length + r ∧ (∀ k ∈ Ψ, k.phi.stable) ∧ (∀ i k, Ψ[i]? = some k → mixOb n₀ P l n s a w i (Ψ.take i) k) ∧ mixFin n₀ P l n s a w Q Ψ
  | 0, Φ, h, h1, h2 => ⟨Φ, rfl, h1, h2, h⟩
  | r + 1, Φ, ⟨k, hk, hs, h⟩, h1, h2 => by
    obtain ⟨Ψ, a1, a2, a3, a4⟩ := Mix.all r (Φ ++ [k]) h (fun x hx => by
      rcases List.mem_append.1 hx with hx | hx
      · exact h1 x hx
      · rw [List.mem_singleton.1 hx]; exact hk) (fun i x hx => by
      rcases Nat.lt_or_ge i Φ.length with hi | hi
      · rw [List.getElem?_append_left hi] at hx
        rw [List.take_append_of_le_length (by omega)]
        exact h2 i x hx
      · rw [List.getElem?_append_right hi] at hx
        have hi0 : i - Φ.length = 0 := by
          rcases Nat.eq_zero_or_pos (i - Φ.length) with h0 | h0
          · exact h0
          · rw [List.getElem?_eq_none (by simp; omega)] at hx; cases hx
        rw [hi0] at hx
        simp only [List.getElem?_cons_zero, Option.some.injEq] at hx
        have : i = Φ.length := by omega
        subst this
        rw [List.take_append_of_le_length (Nat.le_refl _), List.take_length, ← hx]
        exact hs)
    exact ⟨Ψ, by rw [a1]; simp; omega, a2, a3, a4⟩
theorem wp_region_mix {id : Nat} (n s : Nat) (hm : P.follows .mixedOrders = true) (hB : phiB l n = true) (hs : s < n) (hn₀ : n₀ ≤ w.heap.size) (h : Mix n₀ P l n s a w.drew Q n []) : (Code.region id l.toArray true).wp P Q a w := by
  obtain ⟨Ψ, hlen, hst, hstep, hfin⟩ := Mix.all n [] h (fun _ h => by cases h) (fun i k hk => by simp at hk)
  simp only [List.length_nil, Nat.zero_add] at hlen
  obtain ⟨hwt, hms, hfin⟩ := hfin
  have hB' := hB
  simp only [phiB, Bool.and_eq_true, decide_eq_true_eq, Bool.or_eq_true] at hB'
  obtain ⟨⟨⟨⟨_, hn⟩, hback⟩, _⟩, _⟩ := hB'
  have hdep : ∀ i o (xs : List Value) w1, i < n → l[i]? = some o → MixDeps l n Ψ w.drew.heap.size i xs w1 → ∀ e ∈ o.after.toList, Region.binds .any e = true → ∀ k, (Ψ.take i)[e.on]? = some k → ∃ lo hi, w.drew.heap.size ≤ lo ∧ hi ≤ w1.heap.size ∧ k.phi lo hi (xs.getD e.on undef) w1 := by
    intro i o xs w1 hi ho hD e he hb k hk
    have hon : e.on < i := by
      have := List.all_eq_true.1 hback i (List.mem_range.2 hi)
      simp only [List.getElem?_toArray, ho] at this
      have := Array.all_eq_true_iff_forall_mem.1 this e (by simpa using he)
      simpa [hb] using this
    rw [List.getElem?_take, if_pos hon] at hk
    refine hD e.on k (by omega) ?_ hk
    unfold Region.waitsFor
    simp only [List.getElem?_toArray, ho]
    exact Array.any_eq_true'.2 ⟨e, by simpa using he, by simp [hb]⟩
  have hstore : Ψ[s]? = some .store := by
    unfold mixStore at hms
    split at hms
    · rename_i φ hφ
      cases φ with
      | store => exact hφ
      | val x => cases hms
      | fact x => cases hms
      | free x => cases hms
    · cases hms
  refine wp_region_mix0 (Φ := Ψ) (n₀ := n₀) hn₀ hm hB hlen hs hstore (fun k hk => ?_) hst (fun k φ hk hne hφ hf => ?_) (fun i o φ hi hne ho hφ hf xs hxs w1 hb hD => ?_) (fun i o x hi ho hφ xs hxs w1 hb hD => ?_) (fun o ho xs lo hi w1 hxs hb hall hap => ?_)
  · have := hstep k _ hk
    unfold mixOb at this
    split at this
    · simpa using this
    · exact this.elim
  · have := List.all_eq_true.1 hwt k (List.mem_range.2 hk)
    simp only [hφ, hf, Bool.or_false, Bool.or_eq_true, decide_eq_true_eq] at this
    rcases this with h | h
    · exact absurd h hne
    · obtain ⟨j, hj, h⟩ := List.any_eq_true.1 h
      simp only [Bool.and_eq_true, Bool.or_eq_true, decide_eq_true_eq] at h
      refine ⟨j, h.1, by have := List.mem_range.1 hj; omega, h.2.1, ?_⟩
      rcases h.2.2 with h3 | h3
      · exact .inl h3
      · split at h3
        · rename_i φj hφj
          exact .inr ⟨φj, hφj, by simpa using h3⟩
        · cases h3
  · have hs' := hstep i φ hφ
    unfold mixOb at hs'
    rw [ho] at hs'
    cases φ with
    | val x => exact depM_spec _ (allV_spec n _ hs' xs hxs w1 hb) (hdep i o xs w1 hi ho hD)
    | fact x => exact depM_spec _ (allV_spec n _ hs' xs hxs w1 hb) (hdep i o xs w1 hi ho hD)
    | free x => cases hf
    | store =>
      simp only [decide_eq_true_eq] at hs'
      exact absurd hs' hne
  · have hs' := hstep i _ hφ
    unfold mixOb at hs'
    rw [ho] at hs'
    exact depM_spec _ (allV_spec n _ hs' xs hxs w1 hb) (hdep i o xs w1 hi ho hD)
  · rw [ho] at hfin
    have := allMix_spec Ψ 0 xs (allV_spec n _ hfin xs hxs lo hi w1 hb hap) (by rw [hxs, hlen]) (fun j x hj hf hst => by rw [Nat.zero_add]; exact hall j x hj hf hst)
    exact ⟨this.1, wp_strong (fun a2 w2 ⟨v, e, hl, h⟩ => ⟨v, e, hl, h.out⟩) this.2.out⟩
end
section
variable {P : Program} {ops : Array Oper} {o : Oper} {a : Act} {w0 w : World} {rs : List Res}
def freshBox (t : TypeId) (cs : List Value) : Phi := fun lo hi v w => ∃ b, v = .pointer (some ⟨b, 0, none⟩) ∧ (Res.box b t cs).holds lo w ∧ b < hi
theorem freshBox_stable (t : TypeId) (cs : List Value) : (freshBox t cs).stable := by
  rintro lo hi v w1 w2 hb hh ⟨b, rfl, ho, hk⟩
  exact ⟨b, rfl, Res.holds_keep ho hb.size (fun k h => hb.block k (by cases h; omega)), hk⟩
theorem Yphi.alloc {t : TypeId} {z : Value} {cs : List Value} (ho : o.op = .alloc t) (hT : ZeroT P t z) (hv : z.cells.toList = cs) (hw : Region.wanted o (yielded ops a.tmps) = true) : Yphi P ops o a w (freshBox t cs) := by
  refine .inl ⟨hw, wp_alloc (St.start w) ho hT hv fun b w' st => ⟨_, rfl, st.below, b, rfl, st.get (i := 0) rfl, (Res.holds_lt (st.get (i := 0) rfl) rfl).2⟩⟩
theorem Yphi.known {φ : Phi} {v : Value} {r : Result Next} (hw : Region.wanted o (yielded ops a.tmps) = true) (hr : (execOp a.eval o).run P w = r) (hv : r = .ok (.value v) w) (hφ : φ w.heap.size w.heap.size v w) : Yphi P ops o a w φ :=
  .inl ⟨hw, wp_value (hr.trans hv) ⟨v, rfl, Below.refl _ _, hφ⟩⟩
def Res.within (lo hi : Nat) (r : Res) : Prop := ∀ k, r.blk = some k → lo ≤ k ∧ k < hi
theorem Res.apart {r s : Res} {lo1 hi1 lo2 hi2 : Nat} (h1 : r.within lo1 hi1) (h2 : s.within lo2 hi2) (hd : hi1 ≤ lo2 ∨ hi2 ≤ lo1) : r.ne s := fun k hk hk' => by
  have a1 := h1 k hk
  have a2 := h2 k hk'
  omega
theorem Res.within_row {w : World} {lo hi e size n c : Nat} {A : Option Addr} {xs : List Value} (h : w.ownsRow lo e size (.slice A n c) n xs) (hk : ∀ k, (Value.slice A n c).ownBlock = some k → k < hi) : (Res.row e size (.slice A n c) n xs).within lo hi :=
  fun k hb => ⟨(World.ownsRow.lt h k hb).1, hk k hb⟩
theorem St.also {r : Res} {w' : World} {lo hi : Nat} (st : St w0 w' rs) (old : w0.heap.size ≤ lo) (h : r.holds lo w') (hn : ∀ s ∈ rs, r.ne s) : St w0 w' (r :: rs) :=
  st.cons (Res.holds_mono h old) hn
end
end Go.Hp
namespace Go.Proofs.YtppjhccdgbheiaaGreatDoor
open Go.RowKit Go.Hp
def DescRows (base : Nat) (d : L.Desc) (w : World) (A1 : Option Addr) (n1 c1 : Nat) (A2 : Option Addr) (n2 c2 : Nat) : Prop :=
  (aceRow (.slice A1 n1 c1) n1 d.e).holds base w ∧ (aceRow (.slice A2 n2 c2) n2 d.a).holds base w ∧ Res.ne (aceRow (.slice A1 n1 c1) n1 d.e) (aceRow (.slice A2 n2 c2) n2 d.a)
section
variable {base : Nat} {d : L.Desc} {w w' w0 : World} {A1 A2 : Option Addr} {n1 c1 n2 c2 : Nat} {rs : List Res}
theorem DescRows.keep (h : DescRows base d w A1 n1 c1 A2 n2 c2) (hb : Below w.heap.size w w') : DescRows base d w' A1 n1 c1 A2 n2 c2 :=
  ⟨Res.holds_keep h.1 hb.size fun k hk => hb.block k (Res.holds_lt h.1 hk).2, Res.holds_keep h.2.1 hb.size fun k hk => hb.block k (Res.holds_lt h.2.1 hk).2, h.2.2⟩
theorem DescRows.of_st (hb : base ≤ w.heap.size) (st : St w w' [aceRow (.slice A1 n1 c1) n1 d.e, aceRow (.slice A2 n2 c2) n2 d.a]) : DescRows base d w' A1 n1 c1 A2 n2 c2 :=
  ⟨Res.holds_mono (st.get (i := 0) rfl) hb, Res.holds_mono (st.get (i := 1) rfl) hb, (List.pairwise_cons.1 st.apart).1 _ (List.mem_cons_self ..)⟩
theorem DescRows.a1 (h : DescRows base d w A1 n1 c1 A2 n2 c2) : Aces w w.heap.size A1 n1 d.e := Rd.aces (Rd.of_row h.1)
theorem DescRows.a2 (h : DescRows base d w A1 n1 c1 A2 n2 c2) : Aces w w.heap.size A2 n2 d.a := Rd.aces (Rd.of_row h.2.1)
theorem St.desc (st : St w0 w rs) (hb : Below w.heap.size w w') (h : DescRows base d w' A1 n1 c1 A2 n2 c2) (hbase : w.heap.size ≤ base) :
    St w0 w' (aceRow (.slice A1 n1 c1) n1 d.e :: aceRow (.slice A2 n2 c2) n2 d.a :: rs) := by
  have hs := st.size
  have far : ∀ {r : Res}, r.holds base w' → ∀ s ∈ rs, r.ne s := fun hr s hs k hk hk' => by
    have a1 := (Res.holds_lt hr hk).1
    have a2 := (Res.holds_lt (st.holds s hs) hk').2
    omega
  refine ((st.call hb).cons (Res.holds_mono h.2.1 (by omega)) (far h.2.1)).cons (Res.holds_mono h.1 (by omega)) fun s hs => ?_
  rcases List.mem_cons.1 hs with rfl | hs
  · exact h.2.2
  · exact far h.1 s hs
theorem St.descBox {b t lo : Nat} {cs : List Value} (st : St w0 w rs) (hb : Below w.heap.size w w') (h : DescRows base d w' A1 n1 c1 A2 n2 c2) (hx : (Res.box b t cs).holds lo w') (hlo : w.heap.size ≤ lo) (hbase : w.heap.size ≤ base) (ht : t ≠ 37) :
    St w0 w' (.box b t cs :: aceRow (.slice A1 n1 c1) n1 d.e :: aceRow (.slice A2 n2 c2) n2 d.a :: rs) := by
  have hs := st.size
  have st2 := St.desc st hb h hbase
  have far : ∀ {A : Option Addr} {n c : Nat} {l : List L.Ace}, (aceRow (.slice A n c) n l).holds base w' → (Res.box b t cs).ne (aceRow (.slice A n c) n l) := by
    intro A n c l hr k hk hk'
    cases hk
    rcases hr.2 with ⟨hn, _⟩ | ⟨g, cap, cur, hv, _, hg, _⟩
    · rw [hn] at hk'; cases hk'
    · rw [hv] at hk'
      cases hk'
      have := hx.2.symm.trans hg
      injection this with this
      injection this with _ h2
      exact ht h2
  refine st2.cons (Res.holds_mono hx (by omega)) fun s hs => ?_
  rcases List.mem_cons.1 hs with rfl | hs
  · exact far h.1
  · rcases List.mem_cons.1 hs with rfl | hs
    · exact far h.2.1
    · intro k hk hk'
      have a1 := (Res.holds_lt hx hk).1
      have a2 := (Res.holds_lt (st.holds s hs) hk').2
      omega
end
def descFrom (base : Nat) (d : L.Desc) : Phi := fun _ _ v w => ∃ A1 n1 c1 A2 n2 c2, v = .agg #[.int .i64 d.o, .int .i64 d.g, .bool d.p, .bool d.h, .slice A1 n1 c1, .slice A2 n2 c2] ∧ DescRows base d w A1 n1 c1 A2 n2 c2
theorem descFrom_stable (base : Nat) (d : L.Desc) : (descFrom base d).stable := by
  rintro lo hi v w1 w2 hb hh ⟨A1, n1, c1, A2, n2, c2, rfl, h⟩
  exact ⟨A1, n1, c1, A2, n2, c2, rfl, h.keep hb⟩
def tupDesc (base : Nat) (d : L.Desc) (E : Value) : Phi := fun _ _ v w => ∃ A1 n1 c1 A2 n2 c2, v = .tuple #[.agg #[.int .i64 d.o, .int .i64 d.g, .bool d.p, .bool d.h, .slice A1 n1 c1, .slice A2 n2 c2], E] ∧ DescRows base d w A1 n1 c1 A2 n2 c2
theorem tupDesc_stable (base : Nat) (d : L.Desc) (E : Value) : (tupDesc base d E).stable := by
  rintro lo hi v w1 w2 hb hh ⟨A1, n1, c1, A2, n2, c2, rfl, h⟩
  exact ⟨A1, n1, c1, A2, n2, c2, rfl, h.keep hb⟩
theorem ChildOf_at {d' d m : L.Desc} {dir : Bool} {E : Int} (h : L.childOf d' d dir = (m, E)) (A1 A2 A1' A2' : Option Addr) (n1 n2 n1' n2' c1 c2 c1' c2' B : Nat) (w : World)
    (h1 : Aces w B A1 n1 d.e) (h2 : Aces w B A2 n2 d.a) (h1' : Aces w B A1' n1' d'.e) (h2' : Aces w B A2' n2' d'.a) (hB1 : B ≤ w.heap.size) (hn1 : n1 ≤ 100) (hn2 : n2 ≤ 100) (hn1' : n1' ≤ 100) (hn2' : n2' ≤ 100) :
    Calls Tryz.prog 25 #[.agg #[.int .i64 d'.o, .int .i64 d'.g, .bool d'.p, .bool d'.h, .slice A1' n1' c1', .slice A2' n2' c2'], .agg #[.int .i64 d.o, .int .i64 d.g, .bool d.p, .bool d.h, .slice A1 n1 c1, .slice A2 n2 c2], .bool dir] w (RetDescErr w (m, E)) := by
  rw [← h]
  exact ChildOf_any d' d dir A1 A2 A1' A2' n1 n2 n1' n2' c1 c2 c1' c2' B w h1 h2 h1' h2' hB1 hn1 hn2 hn1' hn2'
theorem rChild_at {d' d m : L.Desc} {dir ok : Bool} (h : L.rChild d' d dir = (m, ok)) (A1 A2 A1' A2' : Option Addr) (n1 n2 n1' n2' c1 c2 c1' c2' B : Nat) (w : World)
    (h1 : Aces w B A1 n1 d.e) (h2 : Aces w B A2 n2 d.a) (h1' : Aces w B A1' n1' d'.e) (h2' : Aces w B A2' n2' d'.a) (hB1 : B ≤ w.heap.size) (hn1 : n1 ≤ 20) (hn2 : n2 ≤ 20) (hn1' : n1' ≤ 20) (hn2' : n2' ≤ 20) (hg1 : L.Good d.e) (hg2 : L.Good d.a) (hg1' : L.Good d'.e) (hg2' : L.Good d'.a) :
    Calls Tryz.prog 36 #[.agg #[.int .i64 d'.o, .int .i64 d'.g, .bool d'.p, .bool d'.h, .slice A1' n1' c1', .slice A2' n2' c2'], .agg #[.int .i64 d.o, .int .i64 d.g, .bool d.p, .bool d.h, .slice A1 n1 c1, .slice A2 n2 c2], .bool dir] w (fun e w' => ∃ A1 n1 c1 A2 n2 c2, e = .returned (.tuple #[.agg #[.int .i64 m.o, .int .i64 m.g, .bool m.p, .bool m.h, .slice A1 n1 c1, .slice A2 n2 c2], .bool ok]) ∧ St w w' [aceRow (.slice A1 n1 c1) n1 m.e, aceRow (.slice A2 n2 c2) n2 m.a]) := by
  show Calls Tryz.prog 36 _ w (RetDescOk w (m, ok))
  rw [← h]
  exact rChild_any d.o d.g d.p d.h d.e d.a d'.o d'.g d'.p d'.h d'.e d'.a dir A1 A2 A1' A2' n1 n2 n1' n2' c1 c2 c1' c2' B w h1 h2 h1' h2' hB1 hn1 hn2 hn1' hn2' hg1 hg2 hg1' hg2'
namespace L
theorem rChild_no {d' d : Desc} {dir : Bool} (h : (rChild d' d dir).2 = false) : (rChild d' d dir).1 = Desc.none := by
  unfold rChild at h ⊢
  split at h
  · cases h
  · rename_i hl; rw [if_neg hl]
theorem childOf_len (d' d : Desc) (dir : Bool) : (childOf d' d dir).1.e.length ≤ 16 ∧ (childOf d' d dir).1.a.length ≤ 16 := by
  unfold childOf
  split
  · unfold child
    split
    · rename_i h; exact ⟨by rw [canon_length]; exact h.1, by rw [canon_length]; exact h.2⟩
    · exact ⟨by decide, by decide⟩
  · exact ⟨Nat.zero_le 16, Nat.zero_le 16⟩
theorem rChild_len (d' d : Desc) (dir : Bool) : (rChild d' d dir).1.e.length ≤ 16 ∧ (rChild d' d dir).1.a.length ≤ 16 := by
  unfold rChild
  split
  · rename_i h; exact ⟨by rw [canon_length]; exact h.1, by rw [canon_length]; exact h.2⟩
  · exact ⟨by decide, by decide⟩
theorem Desc.same_refl (d : Desc) : d.same d = true := by
  unfold Desc.same
  have : ∀ l : List Ace, L.same l l = true := by
    intro l
    induction l with
    | nil => rfl
    | cons a l ih => unfold L.same; rw [ih]; simp [aeq]
  rw [this, this]
  simp
end L
end Go.Proofs.YtppjhccdgbheiaaGreatDoor
namespace Go.Proofs.YtppjhccdgbheiaaGreatDoor
open Go.RowKit Go.Hp
namespace L
def pR (l : List UInt8) : Desc × Int := if 200000 < l.length then (Desc.none, 8) else pRes l
def PIn (l : List UInt8) : Prop := (l.length ≤ 100000 ∧ ∀ d, rd l = some d → d.e.length ≤ 100 ∧ d.a.length ≤ 100) ∨ 200000 < l.length
theorem itoa_pos (n : Int) : 1 ≤ (Lib.itoa n).length := by
  unfold Lib.itoa
  split
  · simp
  · have := List.length_pos_iff.2 (dd_ne n.toNat)
    omega
theorem fmtAces_ge : ∀ l : List Ace, 7 * l.length ≤ (fmtAces l).length
  | [] => Nat.zero_le _
  | a :: l => by
    have ih := fmtAces_ge l
    have h := congrArg List.length (fmtAce_app a [])
    obtain ⟨c, hc, _, _⟩ := kindL_one a.k
    have h1 := itoa_pos a.w
    rw [hc] at h
    simp only [List.append_nil, List.length_cons, List.length_append, List.length_nil] at h
    rw [fmtAces_cons, List.length_append, List.length_cons]
    omega
theorem fmt_ge (d : Desc) : 7 * d.e.length ≤ d.fmt.length ∧ 7 * d.a.length ≤ d.fmt.length := by
  have h1 := fmtAces_ge d.e
  have h2 := fmtAces_ge d.a
  rw [fmt_eq]
  simp only [List.length_append]
  refine ⟨by omega, ?_⟩
  by_cases h0 : d.a.length = 0
  · omega
  · have : (tail d.a).length = 3 + (fmtAces d.a).length := by unfold tail; rw [if_neg h0]; simp; omega
    omega
theorem pIn_short {l : List UInt8} (h : l.length ≤ 700) : PIn l := .inl ⟨by omega, fun d hd => by
  obtain ⟨h1, _⟩ := rd_to hd
  have := fmt_ge d
  rw [← h1] at this
  omega⟩
theorem pR_len {l : List UInt8} (h : PIn l) : (pR l).1.e.length ≤ 100 ∧ (pR l).1.a.length ≤ 100 := by
  unfold pR
  split
  · exact ⟨Nat.zero_le _, Nat.zero_le _⟩
  · rename_i hn
    rcases h with ⟨_, h⟩ | h
    · unfold pRes
      rcases hr : rd l with _ | d
      · exact ⟨Nat.zero_le _, Nat.zero_le _⟩
      · simp only []
        split
        · exact h d hr
        · exact ⟨Nat.zero_le _, Nat.zero_le _⟩
    · exact absurd h hn
theorem pR_good {l : List UInt8} {m : Desc} (h : pR l = (m, 0)) : m.err.2 = 0 ∧ m.fmt = l := by
  unfold pR at h
  split at h
  · exact absurd (Prod.mk.inj h).2 (by decide)
  · unfold pRes at h
    rcases hr : rd l with _ | d
    · rw [hr] at h
      exact absurd (Prod.mk.inj h).2 (by decide)
    · rw [hr] at h
      simp only [] at h
      split at h
      · rename_i h0
        obtain ⟨rfl, _⟩ := Prod.mk.inj h
        exact ⟨by rw [Desc.err_eq]; exact h0, (rd_to hr).1.symm⟩
      · rename_i h0
        exact absurd (Prod.mk.inj h).2 h0
theorem F_of {d : Desc} (h : d.rErrs.2 = 0) : d.F := by
  have hv := Desc.valid_of h
  have h3 : d.err.2 = 0 := by rw [Desc.err_eq]; exact h
  have hh := Desc.err_holders h3
  have hA : ∀ {x : Ace}, Ok x → AceF x := fun {x} ho => ⟨ho.k0, ho.k1, ho.f0, by have := ho.f1; omega, by have := ho.m0; omega, by have := ho.m1; omega, by have := ho.w0; omega, by have := ho.w1; omega⟩
  exact ⟨by omega, by omega, by omega, by omega, hv.form, fun x hx => hA (Desc.err_e h3 x hx), fun x hx => hA (Desc.err_a h3 x hx)⟩
theorem fmt_le {d : Desc} (h : d.rErrs.2 = 0) : d.fmt.length ≤ 100000 := by
  have hv := Desc.valid_of h
  have h3 : d.err.2 = 0 := by rw [Desc.err_eq]; exact h
  have hh := Desc.err_holders h3
  have l1 := itoa_len (n := d.o) (by omega) (by omega)
  have l2 := itoa_len (n := d.g) (by omega) (by omega)
  have f1 := fmtAces_len (Desc.err_e h3)
  have f2 := fmtAces_len (Desc.err_a h3)
  have v1 := hv.le
  have v2 := hv.la
  have ht : (tail d.a).length ≤ 3 + (fmtAces d.a).length := by unfold tail; split <;> simp <;> omega
  have hm : d.mid.length ≤ 4 := by unfold Desc.mid; split <;> split <;> simp
  rw [fmt_eq]
  simp only [List.length_append, List.length_cons, List.length_nil]
  omega
theorem pR_fmt {d : Desc} (h : d.rErrs.2 = 0) : pR d.fmt = (d, 0) ∧ PIn d.fmt := by
  have hr := rd_of (F_of h)
  have hl := fmt_le h
  have hv := Desc.valid_of h
  refine ⟨?_, .inl ⟨hl, fun d' hd => ?_⟩⟩
  · unfold pR
    rw [if_neg (by omega)]
    unfold pRes
    rw [hr]
    exact if_pos h
  · rw [hr] at hd
    obtain rfl := Option.some.inj hd
    have v1 := hv.le
    have v2 := hv.la
    omega
theorem aRes_eq (l : List UInt8) : aRes l = pRes l := by
  unfold aRes pRes
  rcases rd l with _ | d
  · rfl
  · simp only [Desc.err_eq]
end L
theorem itoaAt_env {w : World} (hE : Env w) {n : Int} (h0 : 0 ≤ n) (h1 : n ≤ 1000) : ItoaAt w n := fun W hW => by
  obtain ⟨k, rfl⟩ := Int.eq_ofNat_of_zero_le h0
  exact itoa_env (hE.later hW) k (by omega)
set_option maxRecDepth 8000 in
set_option maxHeartbeats 4000000 in
theorem Format_err (d : L.Desc) (A1 A2 : Option Addr) (n1 n2 c1 c2 B : Nat) (w : World) (h1 : Aces w B A1 n1 d.e) (h2 : Aces w B A2 n2 d.a) (hB1 : B ≤ w.heap.size) (hn1 : n1 ≤ 100) (hn2 : n2 ≤ 100) (hx : ¬ d.err.2 = 0) :
    Calls Tryz.prog 21 #[.agg #[.int .i64 d.o, .int .i64 d.g, .bool d.p, .bool d.h, .slice A1 n1 c1, .slice A2 n2 c2]] w fun e w' => e = .returned (.tuple #[L.strOf (fmtRes d).1, .int .i64 (fmtRes d).2]) ∧ Below w.heap.size w w' := by
  have H1 := Lib.hid h1
  have H2 := Lib.hid h2
  clear h1 h2
  have st := St.start w
  have hb : (d.err.2 == 0) = false := by simpa using hx
  obtain ⟨E, hE2⟩ : ∃ E, d.err.2 = E := ⟨_, rfl⟩
  rw [hE2] at hb hx
  have HE2 := Lib.hid hE2
  have hX := Lib.hid hx
  clear hE2 hx
  go_enter Tryz.func21, Tryz.ntmps21
  go_wp2_with (refine WL.out ?_; (repeat ((refine WL.op ?_ ?_; (exact rfl); intro K hK; (first | ((((with_reducible apply ow_assign); exact rfl)); (go_simp <;> (try simp (disch := omega) only [wrap_id, sub_left, zac]) <;> rfl)) | ((((with_reducible apply ow_loadN st); exact rfl; exact inferInstance; exact rfl; (exact get0); ((try simp only [zta, ztz, zda, zdz, zca, zcn, zan, zsz, zss]) <;> exact rfl))); exact rfl) | ((((with_reducible apply ow_box st); exact rfl; (go_simp <;> (try simp (disch := omega) only [wrap_id, sub_left, zac]) <;> rfl); (go_simp <;> (try simp (disch := omega) only [wrap_id, sub_left, zac]) <;> rfl))); (try clear st); intro b w' st) | ((with_reducible apply ow_eval); (go_simp <;> (try simp (disch := omega) only [wrap_id, sub_left, zac]) <;> rfl); first | (with_reducible apply up_value) | ((with_reducible apply up_enter); ((go_at_call 37; refine (descriptorErr_any d A1 A2 n1 n2 c1 c2 B _ (H1.out.st st hB1) (H2.out.st st hB1) (Nat.le_trans hB1 st.size) hn1 hn2).mono ?_; rintro e w' ⟨rfl, hb⟩; replace st := st.call hb; clear hb; rw [HE2.out]; refine ⟨_, rfl, ?_⟩))))); refine WL.next hK (by simp only [Act.put, zpt, zsz, zss]; exact rfl) ?_; clear hK K))); (try refine WL.nil ?_))
  go_ret2
  unfold fmtRes
  rw [if_neg (by rw [HE2.out]; exact hX.out), HE2.out]
  exact ⟨rfl, st.below⟩
theorem Format_is {d : L.Desc} {X : List UInt8} {E : Int} (hX : fmtRes d = (X, E)) (A1 A2 : Option Addr) (n1 n2 c1 c2 B : Nat) (w : World) (hEV : Env w) (h1 : Aces w B A1 n1 d.e) (h2 : Aces w B A2 n2 d.a) (hB1 : B ≤ w.heap.size) (hn1 : n1 ≤ 100) (hn2 : n2 ≤ 100) :
    Calls Tryz.prog 21 #[.agg #[.int .i64 d.o, .int .i64 d.g, .bool d.p, .bool d.h, .slice A1 n1 c1, .slice A2 n2 c2]] w fun e w' => e = .returned (.tuple #[.string ⟨X.toArray⟩, .int .i64 E]) ∧ Below w.heap.size w w' := by
  have main : Calls Tryz.prog 21 #[.agg #[.int .i64 d.o, .int .i64 d.g, .bool d.p, .bool d.h, .slice A1 n1 c1, .slice A2 n2 c2]] w fun e w' => e = .returned (.tuple #[L.strOf (fmtRes d).1, .int .i64 (fmtRes d).2]) ∧ Below w.heap.size w w' := by
    by_cases hx : d.err.2 = 0
    · have hh := L.Desc.err_holders hx
      refine FormatDescriptor_any d A1 A2 n1 n2 c1 c2 B w h1 h2 hB1 hn1 hn2 (itoaAt_env hEV (by omega) (by omega)) (itoaAt_env hEV (by omega) (by omega)) fun a ha => ?_
      have ho : L.Ok a := by
        rcases List.mem_append.1 ha with h | h
        · exact L.Desc.err_e hx a h
        · exact L.Desc.err_a hx a h
      exact itoaAt_env hEV (by have := ho.w0; omega) (by have := ho.w1; omega)
    · exact Format_err d A1 A2 n1 n2 c1 c2 B w h1 h2 hB1 hn1 hn2 hx
  exact main.mono fun e w' h => by rw [hX] at h; exact h
theorem rFormat_is {d : L.Desc} {X : List UInt8} (hX : d.fmt = X) (A1 A2 : Option Addr) (n1 n2 c1 c2 B : Nat) (w : World) (h1 : Aces w B A1 n1 d.e) (h2 : Aces w B A2 n2 d.a) (hB1 : B ≤ w.heap.size) (hn1 : n1 ≤ 100) (hn2 : n2 ≤ 100) (hE : d.err.2 = 0) :
    Calls Tryz.prog 24 #[.agg #[.int .i64 d.o, .int .i64 d.g, .bool d.p, .bool d.h, .slice A1 n1 c1, .slice A2 n2 c2]] w fun e w' => e = .returned (.string ⟨X.toArray⟩) ∧ Below w.heap.size w w' :=
  (Format_any d A1 A2 n1 n2 c1 c2 B w h1 h2 hB1 hn1 hn2 hE).mono fun e w' h => by rw [hX] at h; exact h
def RetDescIs (w : World) (m : L.Desc) (E : Int) (e : Ending) (w' : World) : Prop := ∃ A1 n1 c1 A2 n2 c2, e = .returned (.tuple #[.agg #[.int .i64 m.o, .int .i64 m.g, .bool m.p, .bool m.h, .slice A1 n1 c1, .slice A2 n2 c2], .int .i64 E]) ∧ St w w' [aceRow (.slice A1 n1 c1) n1 m.e, aceRow (.slice A2 n2 c2) n2 m.a]
theorem rParse_is {l : List UInt8} {m : L.Desc} {E : Int} (hD : L.pR l = (m, E)) (w : World) (hl : L.PIn l) : Calls Tryz.prog 23 #[.string ⟨l.toArray⟩] w (RetDescIs w m E) := by
  unfold L.pR at hD
  split at hD
  · rename_i h
    obtain ⟨rfl, rfl⟩ := Prod.mk.inj hD
    exact rParse_large l w h
  · rename_i hn
    rcases hl with ⟨h1, h2⟩ | h
    · exact (rParse_any l w h1 h2).mono fun e w' h => by rw [hD] at h; exact h
    · exact absurd h hn
theorem Parse_is {l : List UInt8} {m : L.Desc} {E : Int} (hD : L.pR l = (m, E)) (w : World) (hl : L.PIn l) (hEV : Env w) : Calls Tryz.prog 22 #[.string ⟨l.toArray⟩] w (RetDescIs w m E) := by
  unfold L.pR at hD
  split at hD
  · rename_i h
    obtain ⟨rfl, rfl⟩ := Prod.mk.inj hD
    exact aParse_large l w h
  · rename_i hn
    rcases hl with ⟨h1, h2⟩ | h
    · exact (aParse_any l w h1 hEV h2).mono fun e w' h => by rw [L.aRes_eq, hD] at h; exact h
    · exact absurd h hn
set_option maxRecDepth 8000 in
set_option maxHeartbeats 4000000 in
theorem AclStrings_gv (d : L.Desc) (l : List UInt8) (A1 A2 : Option Addr) (n1 n2 c1 c2 B : Nat) (w : World) (h1 : Aces w B A1 n1 d.e) (h2 : Aces w B A2 n2 d.a) (hB1 : B ≤ w.heap.size) (hn1 : n1 ≤ 20) (hn2 : n2 ≤ 20) (hEV : Env w) (hl : l.length ≤ 700) (m : L.Desc) (hD : L.pR l = (m, 0)) (hXM : fmtRes m = (l, 0)) (X : List UInt8) (hXe : d.fmt = X) (hX : fmtRes d = (X, 0)) (hE : d.rErrs.2 = 0) (hE3 : d.err.2 = 0) (hD2 : L.pR X = (d, 0)) :
    Calls Tryz.prog 5 #[.agg #[.int .i64 d.o, .int .i64 d.g, .bool d.p, .bool d.h, .slice A1 n1 c1, .slice A2 n2 c2], .string ⟨l.toArray⟩] w fun e w' => e = .returned (.bool true) ∧ Below w.heap.size w w' := by
  have H1 := Lib.hid h1
  have H2 := Lib.hid h2
  clear h1 h2
  have hf : (decide (n1 ≤ 20) && decide (n2 ≤ 20)) = true := by simp [hn1, hn2]
  have HN1 : Hid (n1 ≤ maxLen) := Lib.hid (by unfold maxLen; omega)
  have HN2 : Hid (n2 ≤ maxLen) := Lib.hid (by unfold maxLen; omega)
  have HEV := Lib.hid hEV
  have HPI : Hid (L.PIn l) := Lib.hid (L.pIn_short hl)
  have hml := L.pR_len HPI.out
  rw [hD] at hml
  have HM : Hid (m.e.length ≤ 100 ∧ m.a.length ≤ 100) := Lib.hid hml
  have HD := Lib.hid hD
  have HX := Lib.hid hX
  have HE := Lib.hid hE
  clear hml hD hX hE hEV
  have hsz := bytes_size l
  have hta := bytes_list
  have g1 : ¬ ((700 : Int) < (l.length : Int)) := by omega
  have g3 : ¬ ((200010 : Int) < (l.length : Int)) := by omega
  clear hl
  have HXM := Lib.hid hXM
  clear hXM
  have HE3 := Lib.hid hE3
  have HD2 := Lib.hid hD2
  have HL2 : Hid (L.PIn X) := Lib.hid (by rw [← hXe]; exact (L.pR_fmt HE.out).2)
  have HXE := Lib.hid hXe
  clear hE3 hD2 hXe
  have st := St.start w
  go_enter Tryz.func5, Tryz.ntmps5
  go_wp2_with (refine WL.out ?_; (repeat (first | (refine WL.op ?_ ?_; (exact rfl); intro K hK; (first | ((first | ((with_reducible apply ow_move); exact rfl) | ((with_reducible apply ow_assign); exact rfl)); (go_simp <;> (try simp (disch := omega) only [wrap_id, sub_left, zac]) <;> rfl)) | ((((with_reducible apply ow_loadN st); exact rfl; exact inferInstance; exact rfl; (first | exact get0 | exact get3 | exact get6); ((try simp only [zta, ztz, zda, zdz, zca, zcn, zan, zsz, zss]) <;> exact rfl))); exact rfl) | ((first | ((with_reducible apply ow_box st); exact rfl; (go_simp <;> (try simp (disch := omega) only [wrap_id, sub_left, zac]) <;> rfl); (go_simp <;> (try simp (disch := omega) only [wrap_id, sub_left, zac]) <;> rfl)) | ((with_reducible apply ow_alloc st); exact rfl; exact inferInstance; (go_simp <;> (try simp (disch := omega) only [wrap_id, sub_left, zac]) <;> rfl))); (try clear st); intro b w' st) | ((((with_reducible apply ow_storeN' st); exact rfl; exact inferInstance; exact rfl; (exact get0); exact rfl)); exact rfl; exact rfl; (simp <;> done); ((try simp only [zta, ztz, zda, zdz, zca, zcn, zan, zsz, zss]) <;> exact rfl); (try clear st); intro w' st) | ((with_reducible apply ow_eval); (go_simp <;> (try simp (disch := omega) only [wrap_id, sub_left, zac]) <;> rfl); first | (with_reducible apply up_value) | ((with_reducible apply up_enter); first | (go_at_call 6; refine (awake_any _).mono ?_; rintro e w' ⟨rfl, hb⟩; replace st := st.call hb; clear hb; refine ⟨_, rfl, ?_⟩) | (go_at_call 11; ((with_reducible refine (Few_any d A1 A2 n1 n2 c1 c2 _ HN1.out HN2.out).mono ?_); rw [hf]); rintro e w' ⟨rfl, hb⟩; replace st := st.call hb; clear hb; refine ⟨_, rfl, ?_⟩) | (go_at_call 15; ((with_reducible refine (CopyDescriptor_any d A1 A2 n1 n2 c1 c2 B _ (H1.out.st st hB1) (H2.out.st st hB1) (Nat.le_trans hB1 st.size) (by omega) (by omega)).mono ?_); rintro e w' ⟨A5, n5, c5, A6, n6, c6, rfl, st'⟩; replace st := st.join st'; clear st'; simp only [List.cons_append, List.nil_append] at st; refine ⟨_, rfl, ?_⟩)) | (go_at_call 21; ((with_reducible refine (Format_is HX.out A5 A6 n5 n6 c5 c6 _ _ (HEV.out.later st.below) (St.aces st (i := 0) rfl) (St.aces st (i := 1) rfl) (Nat.le_refl _) (by have h3 := St.len st (i := 0) rfl; have h4 := H1.out.len; omega) (by have h3 := St.len st (i := 1) rfl; have h4 := H2.out.len; omega)).mono ?_); rintro e w' ⟨rfl, hb⟩; replace st := st.call hb; clear hb; replace st := st.tail.tail; refine ⟨_, rfl, ?_⟩)) | (go_at_call 22; ((with_reducible refine (Parse_is HD.out _ HPI.out (HEV.out.later st.below)).mono ?_); rintro e w' ⟨A7, n7, c7, A8, n8, c8, rfl, st'⟩; replace st := st.join st'; clear st'; simp only [List.cons_append, List.nil_append] at st; refine ⟨_, rfl, ?_⟩)) | (go_at_call 23; ((with_reducible refine (rParse_is HD.out _ HPI.out).mono ?_); rintro e w' ⟨A9, n9, c9, Aa, na, ca, rfl, st'⟩; replace st := st.join st'; clear st'; simp only [List.cons_append, List.nil_append] at st; refine ⟨_, rfl, ?_⟩)) | (go_at_call 16; ((with_reducible refine (SameDescriptor_any m m A7 A8 A9 Aa n7 n8 n9 na c7 c8 c9 ca _ _ (St.aces st (i := 4) rfl) (St.aces st (i := 5) rfl) (St.aces st (i := 1) rfl) (St.aces st (i := 2) rfl) (Nat.le_refl _) (by have h3 := St.len st (i := 4) rfl; have h4 := HM.out.1; omega) (by have h3 := St.len st (i := 5) rfl; have h4 := HM.out.2; omega) (by have h3 := St.len st (i := 1) rfl; have h4 := HM.out.1; omega) (by have h3 := St.len st (i := 2) rfl; have h4 := HM.out.2; omega)).mono ?_); rw [L.Desc.same_refl]; rintro e w' ⟨rfl, hb⟩; replace st := st.call hb; clear hb; refine ⟨_, rfl, ?_⟩)) | (go_at_call 15; ((with_reducible refine (CopyDescriptor_any m A7 A8 n7 n8 c7 c8 _ _ (St.aces st (i := 4) rfl) (St.aces st (i := 5) rfl) (Nat.le_refl _) (by have h3 := St.len st (i := 4) rfl; have h4 := HM.out.1; omega) (by have h3 := St.len st (i := 5) rfl; have h4 := HM.out.2; omega)).mono ?_); rintro e w' ⟨Ab, nb, cb, Ac, nc, cc, rfl, st'⟩; replace st := st.join st'; clear st'; simp only [List.cons_append, List.nil_append] at st; refine ⟨_, rfl, ?_⟩)) | (go_at_call 21; ((with_reducible refine (Format_is HXM.out Ab Ac nb nc cb cc _ _ (HEV.out.later st.below) (St.aces st (i := 0) rfl) (St.aces st (i := 1) rfl) (Nat.le_refl _) (by have h3 := St.len st (i := 0) rfl; have h4 := HM.out.1; omega) (by have h3 := St.len st (i := 1) rfl; have h4 := HM.out.2; omega)).mono ?_); rintro e w' ⟨rfl, hb⟩; replace st := st.call hb; clear hb; replace st := st.tail.tail; refine ⟨_, rfl, ?_⟩)) | (go_at_call 14; ((with_reducible refine (rDescriptorErr_any d A1 A2 n1 n2 c1 c2 B _ (H1.out.st st hB1) (H2.out.st st hB1) (Nat.le_trans hB1 st.size) (by omega) (by omega)).mono ?_); rw [HE.out]; rintro e w' ⟨rfl, hb⟩; replace st := st.call hb; clear hb; replace st := st.drop 6; refine ⟨_, rfl, ?_⟩)) | (go_at_call 22; ((with_reducible refine (Parse_is HD2.out _ HL2.out (HEV.out.later st.below)).mono ?_); rintro e w' ⟨Ad, nd, cd, Ae, ne, ce, rfl, st'⟩; replace st := st.join st'; clear st'; simp only [List.cons_append, List.nil_append] at st; refine ⟨_, rfl, ?_⟩)) | (go_at_call 24; ((with_reducible refine (rFormat_is HXE.out A1 A2 n1 n2 c1 c2 B _ (H1.out.st st hB1) (H2.out.st st hB1) (Nat.le_trans hB1 st.size) (by omega) (by omega) HE3.out).mono ?_); rintro e w' ⟨rfl, hb⟩; replace st := st.call hb; clear hb; refine ⟨_, rfl, ?_⟩)) | (go_at_call 16; ((with_reducible refine (SameDescriptor_any d d Ad Ae A1 A2 nd ne n1 n2 cd ce c1 c2 _ _ (St.aces st (i := 1) rfl) (St.aces st (i := 2) rfl) ((H1.out.st st hB1).more (Nat.le_trans hB1 st.size)) ((H2.out.st st hB1).more (Nat.le_trans hB1 st.size)) (Nat.le_refl _) (by have h3 := St.len st (i := 1) rfl; have h4 := H1.out.len; omega) (by have h3 := St.len st (i := 2) rfl; have h4 := H2.out.len; omega) (by omega) (by omega)).mono ?_); rw [L.Desc.same_refl]; rintro e w' ⟨rfl, hb⟩; replace st := st.call hb; clear hb; refine ⟨_, rfl, ?_⟩))))); refine WL.next hK (by simp only [Act.put, zpt, zsz, zss]; exact rfl) ?_; clear hK K) | (refine WL.skip ?_ (by simp only [Act.put, zpt, zsz, zss]; exact rfl) ?_; (exact rfl)))); (try refine WL.nil ?_))
  go_ret
  exact ⟨(by (rfl)), st.below⟩
set_option maxRecDepth 8000 in
set_option maxHeartbeats 4000000 in
theorem AclStrings_ge (d : L.Desc) (l : List UInt8) (A1 A2 : Option Addr) (n1 n2 c1 c2 B : Nat) (w : World) (h1 : Aces w B A1 n1 d.e) (h2 : Aces w B A2 n2 d.a) (hB1 : B ≤ w.heap.size) (hn1 : n1 ≤ 20) (hn2 : n2 ≤ 20) (hEV : Env w) (hl : l.length ≤ 700) (m : L.Desc) (hD : L.pR l = (m, 0)) (hXM : fmtRes m = (l, 0)) (X : List UInt8) (E1 : Int) (hX : fmtRes d = ([], E1)) (hE : d.rErrs.2 = E1) (hE0 : E1 ≠ 0) :
    Calls Tryz.prog 5 #[.agg #[.int .i64 d.o, .int .i64 d.g, .bool d.p, .bool d.h, .slice A1 n1 c1, .slice A2 n2 c2], .string ⟨l.toArray⟩] w fun e w' => e = .returned (.bool true) ∧ Below w.heap.size w w' := by
  have H1 := Lib.hid h1
  have H2 := Lib.hid h2
  clear h1 h2
  have hf : (decide (n1 ≤ 20) && decide (n2 ≤ 20)) = true := by simp [hn1, hn2]
  have HN1 : Hid (n1 ≤ maxLen) := Lib.hid (by unfold maxLen; omega)
  have HN2 : Hid (n2 ≤ maxLen) := Lib.hid (by unfold maxLen; omega)
  have HEV := Lib.hid hEV
  have HPI : Hid (L.PIn l) := Lib.hid (L.pIn_short hl)
  have hml := L.pR_len HPI.out
  rw [hD] at hml
  have HM : Hid (m.e.length ≤ 100 ∧ m.a.length ≤ 100) := Lib.hid hml
  have HD := Lib.hid hD
  have HX := Lib.hid hX
  have HE := Lib.hid hE
  clear hml hD hX hE hEV
  have hsz := bytes_size l
  have hta := bytes_list
  have g1 : ¬ ((700 : Int) < (l.length : Int)) := by omega
  have g3 : ¬ ((200010 : Int) < (l.length : Int)) := by omega
  clear hl
  have HXM := Lib.hid hXM
  clear hXM
  have st := St.start w
  go_enter Tryz.func5, Tryz.ntmps5
  go_wp2_with (refine WL.out ?_; (repeat (first | (refine WL.op ?_ ?_; (exact rfl); intro K hK; (first | ((first | ((with_reducible apply ow_move); exact rfl) | ((with_reducible apply ow_assign); exact rfl)); (go_simp <;> (try simp (disch := omega) only [wrap_id, sub_left, zac]) <;> rfl)) | ((((with_reducible apply ow_loadN st); exact rfl; exact inferInstance; exact rfl; (first | exact get0 | exact get3 | exact get6); ((try simp only [zta, ztz, zda, zdz, zca, zcn, zan, zsz, zss]) <;> exact rfl))); exact rfl) | ((first | ((with_reducible apply ow_box st); exact rfl; (go_simp <;> (try simp (disch := omega) only [wrap_id, sub_left, zac]) <;> rfl); (go_simp <;> (try simp (disch := omega) only [wrap_id, sub_left, zac]) <;> rfl)) | ((with_reducible apply ow_alloc st); exact rfl; exact inferInstance; (go_simp <;> (try simp (disch := omega) only [wrap_id, sub_left, zac]) <;> rfl))); (try clear st); intro b w' st) | ((((with_reducible apply ow_storeN' st); exact rfl; exact inferInstance; exact rfl; (exact get0); exact rfl)); exact rfl; exact rfl; (simp <;> done); ((try simp only [zta, ztz, zda, zdz, zca, zcn, zan, zsz, zss]) <;> exact rfl); (try clear st); intro w' st) | ((with_reducible apply ow_eval); (go_simp <;> (try simp (disch := omega) only [wrap_id, sub_left, zac]) <;> rfl); first | (with_reducible apply up_value) | ((with_reducible apply up_enter); first | (go_at_call 6; refine (awake_any _).mono ?_; rintro e w' ⟨rfl, hb⟩; replace st := st.call hb; clear hb; refine ⟨_, rfl, ?_⟩) | (go_at_call 11; ((with_reducible refine (Few_any d A1 A2 n1 n2 c1 c2 _ HN1.out HN2.out).mono ?_); rw [hf]); rintro e w' ⟨rfl, hb⟩; replace st := st.call hb; clear hb; refine ⟨_, rfl, ?_⟩) | (go_at_call 15; ((with_reducible refine (CopyDescriptor_any d A1 A2 n1 n2 c1 c2 B _ (H1.out.st st hB1) (H2.out.st st hB1) (Nat.le_trans hB1 st.size) (by omega) (by omega)).mono ?_); rintro e w' ⟨A5, n5, c5, A6, n6, c6, rfl, st'⟩; replace st := st.join st'; clear st'; simp only [List.cons_append, List.nil_append] at st; refine ⟨_, rfl, ?_⟩)) | (go_at_call 21; ((with_reducible refine (Format_is HX.out A5 A6 n5 n6 c5 c6 _ _ (HEV.out.later st.below) (St.aces st (i := 0) rfl) (St.aces st (i := 1) rfl) (Nat.le_refl _) (by have h3 := St.len st (i := 0) rfl; have h4 := H1.out.len; omega) (by have h3 := St.len st (i := 1) rfl; have h4 := H2.out.len; omega)).mono ?_); rintro e w' ⟨rfl, hb⟩; replace st := st.call hb; clear hb; replace st := st.tail.tail; refine ⟨_, rfl, ?_⟩)) | (go_at_call 22; ((with_reducible refine (Parse_is HD.out _ HPI.out (HEV.out.later st.below)).mono ?_); rintro e w' ⟨A7, n7, c7, A8, n8, c8, rfl, st'⟩; replace st := st.join st'; clear st'; simp only [List.cons_append, List.nil_append] at st; refine ⟨_, rfl, ?_⟩)) | (go_at_call 23; ((with_reducible refine (rParse_is HD.out _ HPI.out).mono ?_); rintro e w' ⟨A9, n9, c9, Aa, na, ca, rfl, st'⟩; replace st := st.join st'; clear st'; simp only [List.cons_append, List.nil_append] at st; refine ⟨_, rfl, ?_⟩)) | (go_at_call 16; ((with_reducible refine (SameDescriptor_any m m A7 A8 A9 Aa n7 n8 n9 na c7 c8 c9 ca _ _ (St.aces st (i := 4) rfl) (St.aces st (i := 5) rfl) (St.aces st (i := 1) rfl) (St.aces st (i := 2) rfl) (Nat.le_refl _) (by have h3 := St.len st (i := 4) rfl; have h4 := HM.out.1; omega) (by have h3 := St.len st (i := 5) rfl; have h4 := HM.out.2; omega) (by have h3 := St.len st (i := 1) rfl; have h4 := HM.out.1; omega) (by have h3 := St.len st (i := 2) rfl; have h4 := HM.out.2; omega)).mono ?_); rw [L.Desc.same_refl]; rintro e w' ⟨rfl, hb⟩; replace st := st.call hb; clear hb; refine ⟨_, rfl, ?_⟩)) | (go_at_call 15; ((with_reducible refine (CopyDescriptor_any m A7 A8 n7 n8 c7 c8 _ _ (St.aces st (i := 4) rfl) (St.aces st (i := 5) rfl) (Nat.le_refl _) (by have h3 := St.len st (i := 4) rfl; have h4 := HM.out.1; omega) (by have h3 := St.len st (i := 5) rfl; have h4 := HM.out.2; omega)).mono ?_); rintro e w' ⟨Ab, nb, cb, Ac, nc, cc, rfl, st'⟩; replace st := st.join st'; clear st'; simp only [List.cons_append, List.nil_append] at st; refine ⟨_, rfl, ?_⟩)) | (go_at_call 21; ((with_reducible refine (Format_is HXM.out Ab Ac nb nc cb cc _ _ (HEV.out.later st.below) (St.aces st (i := 0) rfl) (St.aces st (i := 1) rfl) (Nat.le_refl _) (by have h3 := St.len st (i := 0) rfl; have h4 := HM.out.1; omega) (by have h3 := St.len st (i := 1) rfl; have h4 := HM.out.2; omega)).mono ?_); rintro e w' ⟨rfl, hb⟩; replace st := st.call hb; clear hb; replace st := st.tail.tail; refine ⟨_, rfl, ?_⟩)) | (go_at_call 14; ((with_reducible refine (rDescriptorErr_any d A1 A2 n1 n2 c1 c2 B _ (H1.out.st st hB1) (H2.out.st st hB1) (Nat.le_trans hB1 st.size) (by omega) (by omega)).mono ?_); rw [HE.out]; rintro e w' ⟨rfl, hb⟩; replace st := st.call hb; clear hb; replace st := st.drop 6; refine ⟨_, rfl, ?_⟩))))); refine WL.next hK (by simp only [Act.put, zpt, zsz, zss]; exact rfl) ?_; clear hK K) | (refine WL.skip ?_ (by simp only [Act.put, zpt, zsz, zss]; exact rfl) ?_; (exact rfl)))); (try refine WL.nil ?_))
  go_ret
  exact ⟨(by (rfl)), st.below⟩
set_option maxRecDepth 8000 in
set_option maxHeartbeats 4000000 in
theorem AclStrings_bv (d : L.Desc) (l : List UInt8) (A1 A2 : Option Addr) (n1 n2 c1 c2 B : Nat) (w : World) (h1 : Aces w B A1 n1 d.e) (h2 : Aces w B A2 n2 d.a) (hB1 : B ≤ w.heap.size) (hn1 : n1 ≤ 20) (hn2 : n2 ≤ 20) (hEV : Env w) (hl : l.length ≤ 700) (m : L.Desc) (E2 : Int) (hD : L.pR l = (m, E2)) (hE2 : E2 ≠ 0) (X : List UInt8) (hXe : d.fmt = X) (hX : fmtRes d = (X, 0)) (hE : d.rErrs.2 = 0) (hE3 : d.err.2 = 0) (hD2 : L.pR X = (d, 0)) :
    Calls Tryz.prog 5 #[.agg #[.int .i64 d.o, .int .i64 d.g, .bool d.p, .bool d.h, .slice A1 n1 c1, .slice A2 n2 c2], .string ⟨l.toArray⟩] w fun e w' => e = .returned (.bool true) ∧ Below w.heap.size w w' := by
  have H1 := Lib.hid h1
  have H2 := Lib.hid h2
  clear h1 h2
  have hf : (decide (n1 ≤ 20) && decide (n2 ≤ 20)) = true := by simp [hn1, hn2]
  have HN1 : Hid (n1 ≤ maxLen) := Lib.hid (by unfold maxLen; omega)
  have HN2 : Hid (n2 ≤ maxLen) := Lib.hid (by unfold maxLen; omega)
  have HEV := Lib.hid hEV
  have HPI : Hid (L.PIn l) := Lib.hid (L.pIn_short hl)
  have hml := L.pR_len HPI.out
  rw [hD] at hml
  have HM : Hid (m.e.length ≤ 100 ∧ m.a.length ≤ 100) := Lib.hid hml
  have HD := Lib.hid hD
  have HX := Lib.hid hX
  have HE := Lib.hid hE
  clear hml hD hX hE hEV
  have hsz := bytes_size l
  have hta := bytes_list
  have g1 : ¬ ((700 : Int) < (l.length : Int)) := by omega
  have g3 : ¬ ((200010 : Int) < (l.length : Int)) := by omega
  clear hl
  have hE2' : (E2 == 0) = false := by simpa using hE2
  have HE3 := Lib.hid hE3
  have HD2 := Lib.hid hD2
  have HL2 : Hid (L.PIn X) := Lib.hid (by rw [← hXe]; exact (L.pR_fmt HE.out).2)
  have HXE := Lib.hid hXe
  clear hE3 hD2 hXe
  have st := St.start w
  go_enter Tryz.func5, Tryz.ntmps5
  go_wp2_with (refine WL.out ?_; (repeat (first | (refine WL.op ?_ ?_; (exact rfl); intro K hK; (first | ((first | ((with_reducible apply ow_move); exact rfl) | ((with_reducible apply ow_assign); exact rfl)); (go_simp <;> (try simp (disch := omega) only [wrap_id, sub_left, zac]) <;> rfl)) | ((((with_reducible apply ow_loadN st); exact rfl; exact inferInstance; exact rfl; (first | exact get0 | exact get3 | exact get6); ((try simp only [zta, ztz, zda, zdz, zca, zcn, zan, zsz, zss]) <;> exact rfl))); exact rfl) | ((first | ((with_reducible apply ow_box st); exact rfl; (go_simp <;> (try simp (disch := omega) only [wrap_id, sub_left, zac]) <;> rfl); (go_simp <;> (try simp (disch := omega) only [wrap_id, sub_left, zac]) <;> rfl)) | ((with_reducible apply ow_alloc st); exact rfl; exact inferInstance; (go_simp <;> (try simp (disch := omega) only [wrap_id, sub_left, zac]) <;> rfl))); (try clear st); intro b w' st) | ((((with_reducible apply ow_storeN' st); exact rfl; exact inferInstance; exact rfl; (exact get0); exact rfl)); exact rfl; exact rfl; (simp <;> done); ((try simp only [zta, ztz, zda, zdz, zca, zcn, zan, zsz, zss]) <;> exact rfl); (try clear st); intro w' st) | ((with_reducible apply ow_eval); (go_simp <;> (try simp (disch := omega) only [wrap_id, sub_left, zac]) <;> rfl); first | (with_reducible apply up_value) | ((with_reducible apply up_enter); first | (go_at_call 6; refine (awake_any _).mono ?_; rintro e w' ⟨rfl, hb⟩; replace st := st.call hb; clear hb; refine ⟨_, rfl, ?_⟩) | (go_at_call 11; ((with_reducible refine (Few_any d A1 A2 n1 n2 c1 c2 _ HN1.out HN2.out).mono ?_); rw [hf]); rintro e w' ⟨rfl, hb⟩; replace st := st.call hb; clear hb; refine ⟨_, rfl, ?_⟩) | (go_at_call 15; ((with_reducible refine (CopyDescriptor_any d A1 A2 n1 n2 c1 c2 B _ (H1.out.st st hB1) (H2.out.st st hB1) (Nat.le_trans hB1 st.size) (by omega) (by omega)).mono ?_); rintro e w' ⟨A5, n5, c5, A6, n6, c6, rfl, st'⟩; replace st := st.join st'; clear st'; simp only [List.cons_append, List.nil_append] at st; refine ⟨_, rfl, ?_⟩)) | (go_at_call 21; ((with_reducible refine (Format_is HX.out A5 A6 n5 n6 c5 c6 _ _ (HEV.out.later st.below) (St.aces st (i := 0) rfl) (St.aces st (i := 1) rfl) (Nat.le_refl _) (by have h3 := St.len st (i := 0) rfl; have h4 := H1.out.len; omega) (by have h3 := St.len st (i := 1) rfl; have h4 := H2.out.len; omega)).mono ?_); rintro e w' ⟨rfl, hb⟩; replace st := st.call hb; clear hb; replace st := st.tail.tail; refine ⟨_, rfl, ?_⟩)) | (go_at_call 22; ((with_reducible refine (Parse_is HD.out _ HPI.out (HEV.out.later st.below)).mono ?_); rintro e w' ⟨A7, n7, c7, A8, n8, c8, rfl, st'⟩; replace st := st.join st'; clear st'; simp only [List.cons_append, List.nil_append] at st; refine ⟨_, rfl, ?_⟩)) | (go_at_call 23; ((with_reducible refine (rParse_is HD.out _ HPI.out).mono ?_); rintro e w' ⟨A9, n9, c9, Aa, na, ca, rfl, st'⟩; replace st := st.join st'; clear st'; simp only [List.cons_append, List.nil_append] at st; refine ⟨_, rfl, ?_⟩)) | (go_at_call 16; ((with_reducible refine (SameDescriptor_any m m A7 A8 A9 Aa n7 n8 n9 na c7 c8 c9 ca _ _ (St.aces st (i := 4) rfl) (St.aces st (i := 5) rfl) (St.aces st (i := 1) rfl) (St.aces st (i := 2) rfl) (Nat.le_refl _) (by have h3 := St.len st (i := 4) rfl; have h4 := HM.out.1; omega) (by have h3 := St.len st (i := 5) rfl; have h4 := HM.out.2; omega) (by have h3 := St.len st (i := 1) rfl; have h4 := HM.out.1; omega) (by have h3 := St.len st (i := 2) rfl; have h4 := HM.out.2; omega)).mono ?_); rw [L.Desc.same_refl]; rintro e w' ⟨rfl, hb⟩; replace st := st.call hb; clear hb; refine ⟨_, rfl, ?_⟩)) | (go_at_call 14; ((with_reducible refine (rDescriptorErr_any d A1 A2 n1 n2 c1 c2 B _ (H1.out.st st hB1) (H2.out.st st hB1) (Nat.le_trans hB1 st.size) (by omega) (by omega)).mono ?_); rw [HE.out]; rintro e w' ⟨rfl, hb⟩; replace st := st.call hb; clear hb; replace st := st.drop 6; refine ⟨_, rfl, ?_⟩)) | (go_at_call 22; ((with_reducible refine (Parse_is HD2.out _ HL2.out (HEV.out.later st.below)).mono ?_); rintro e w' ⟨Ad, nd, cd, Ae, ne, ce, rfl, st'⟩; replace st := st.join st'; clear st'; simp only [List.cons_append, List.nil_append] at st; refine ⟨_, rfl, ?_⟩)) | (go_at_call 24; ((with_reducible refine (rFormat_is HXE.out A1 A2 n1 n2 c1 c2 B _ (H1.out.st st hB1) (H2.out.st st hB1) (Nat.le_trans hB1 st.size) (by omega) (by omega) HE3.out).mono ?_); rintro e w' ⟨rfl, hb⟩; replace st := st.call hb; clear hb; refine ⟨_, rfl, ?_⟩)) | (go_at_call 16; ((with_reducible refine (SameDescriptor_any d d Ad Ae A1 A2 nd ne n1 n2 cd ce c1 c2 _ _ (St.aces st (i := 1) rfl) (St.aces st (i := 2) rfl) ((H1.out.st st hB1).more (Nat.le_trans hB1 st.size)) ((H2.out.st st hB1).more (Nat.le_trans hB1 st.size)) (Nat.le_refl _) (by have h3 := St.len st (i := 1) rfl; have h4 := H1.out.len; omega) (by have h3 := St.len st (i := 2) rfl; have h4 := H2.out.len; omega) (by omega) (by omega)).mono ?_); rw [L.Desc.same_refl]; rintro e w' ⟨rfl, hb⟩; replace st := st.call hb; clear hb; refine ⟨_, rfl, ?_⟩))))); refine WL.next hK (by simp only [Act.put, zpt, zsz, zss]; exact rfl) ?_; clear hK K) | (refine WL.skip ?_ (by simp only [Act.put, zpt, zsz, zss]; exact rfl) ?_; (exact rfl)))); (try refine WL.nil ?_))
  go_ret
  exact ⟨(by (rfl)), st.below⟩
set_option maxRecDepth 8000 in
set_option maxHeartbeats 4000000 in
theorem AclStrings_be (d : L.Desc) (l : List UInt8) (A1 A2 : Option Addr) (n1 n2 c1 c2 B : Nat) (w : World) (h1 : Aces w B A1 n1 d.e) (h2 : Aces w B A2 n2 d.a) (hB1 : B ≤ w.heap.size) (hn1 : n1 ≤ 20) (hn2 : n2 ≤ 20) (hEV : Env w) (hl : l.length ≤ 700) (m : L.Desc) (E2 : Int) (hD : L.pR l = (m, E2)) (hE2 : E2 ≠ 0) (X : List UInt8) (E1 : Int) (hX : fmtRes d = ([], E1)) (hE : d.rErrs.2 = E1) (hE0 : E1 ≠ 0) :
    Calls Tryz.prog 5 #[.agg #[.int .i64 d.o, .int .i64 d.g, .bool d.p, .bool d.h, .slice A1 n1 c1, .slice A2 n2 c2], .string ⟨l.toArray⟩] w fun e w' => e = .returned (.bool true) ∧ Below w.heap.size w w' := by
  have H1 := Lib.hid h1
  have H2 := Lib.hid h2
  clear h1 h2
  have hf : (decide (n1 ≤ 20) && decide (n2 ≤ 20)) = true := by simp [hn1, hn2]
  have HN1 : Hid (n1 ≤ maxLen) := Lib.hid (by unfold maxLen; omega)
  have HN2 : Hid (n2 ≤ maxLen) := Lib.hid (by unfold maxLen; omega)
  have HEV := Lib.hid hEV
  have HPI : Hid (L.PIn l) := Lib.hid (L.pIn_short hl)
  have hml := L.pR_len HPI.out
  rw [hD] at hml
  have HM : Hid (m.e.length ≤ 100 ∧ m.a.length ≤ 100) := Lib.hid hml
  have HD := Lib.hid hD
  have HX := Lib.hid hX
  have HE := Lib.hid hE
  clear hml hD hX hE hEV
  have hsz := bytes_size l
  have hta := bytes_list
  have g1 : ¬ ((700 : Int) < (l.length : Int)) := by omega
  have g3 : ¬ ((200010 : Int) < (l.length : Int)) := by omega
  clear hl
  have hE2' : (E2 == 0) = false := by simpa using hE2
  have st := St.start w
  go_enter Tryz.func5, Tryz.ntmps5
  go_wp2_with (refine WL.out ?_; (repeat (first | (refine WL.op ?_ ?_; (exact rfl); intro K hK; (first | ((first | ((with_reducible apply ow_move); exact rfl) | ((with_reducible apply ow_assign); exact rfl)); (go_simp <;> (try simp (disch := omega) only [wrap_id, sub_left, zac]) <;> rfl)) | ((((with_reducible apply ow_loadN st); exact rfl; exact inferInstance; exact rfl; (first | exact get0 | exact get3 | exact get6); ((try simp only [zta, ztz, zda, zdz, zca, zcn, zan, zsz, zss]) <;> exact rfl))); exact rfl) | ((first | ((with_reducible apply ow_box st); exact rfl; (go_simp <;> (try simp (disch := omega) only [wrap_id, sub_left, zac]) <;> rfl); (go_simp <;> (try simp (disch := omega) only [wrap_id, sub_left, zac]) <;> rfl)) | ((with_reducible apply ow_alloc st); exact rfl; exact inferInstance; (go_simp <;> (try simp (disch := omega) only [wrap_id, sub_left, zac]) <;> rfl))); (try clear st); intro b w' st) | ((((with_reducible apply ow_storeN' st); exact rfl; exact inferInstance; exact rfl; (exact get0); exact rfl)); exact rfl; exact rfl; (simp <;> done); ((try simp only [zta, ztz, zda, zdz, zca, zcn, zan, zsz, zss]) <;> exact rfl); (try clear st); intro w' st) | ((with_reducible apply ow_eval); (go_simp <;> (try simp (disch := omega) only [wrap_id, sub_left, zac]) <;> rfl); first | (with_reducible apply up_value) | ((with_reducible apply up_enter); first | (go_at_call 6; refine (awake_any _).mono ?_; rintro e w' ⟨rfl, hb⟩; replace st := st.call hb; clear hb; refine ⟨_, rfl, ?_⟩) | (go_at_call 11; ((with_reducible refine (Few_any d A1 A2 n1 n2 c1 c2 _ HN1.out HN2.out).mono ?_); rw [hf]); rintro e w' ⟨rfl, hb⟩; replace st := st.call hb; clear hb; refine ⟨_, rfl, ?_⟩) | (go_at_call 15; ((with_reducible refine (CopyDescriptor_any d A1 A2 n1 n2 c1 c2 B _ (H1.out.st st hB1) (H2.out.st st hB1) (Nat.le_trans hB1 st.size) (by omega) (by omega)).mono ?_); rintro e w' ⟨A5, n5, c5, A6, n6, c6, rfl, st'⟩; replace st := st.join st'; clear st'; simp only [List.cons_append, List.nil_append] at st; refine ⟨_, rfl, ?_⟩)) | (go_at_call 21; ((with_reducible refine (Format_is HX.out A5 A6 n5 n6 c5 c6 _ _ (HEV.out.later st.below) (St.aces st (i := 0) rfl) (St.aces st (i := 1) rfl) (Nat.le_refl _) (by have h3 := St.len st (i := 0) rfl; have h4 := H1.out.len; omega) (by have h3 := St.len st (i := 1) rfl; have h4 := H2.out.len; omega)).mono ?_); rintro e w' ⟨rfl, hb⟩; replace st := st.call hb; clear hb; replace st := st.tail.tail; refine ⟨_, rfl, ?_⟩)) | (go_at_call 22; ((with_reducible refine (Parse_is HD.out _ HPI.out (HEV.out.later st.below)).mono ?_); rintro e w' ⟨A7, n7, c7, A8, n8, c8, rfl, st'⟩; replace st := st.join st'; clear st'; simp only [List.cons_append, List.nil_append] at st; refine ⟨_, rfl, ?_⟩)) | (go_at_call 23; ((with_reducible refine (rParse_is HD.out _ HPI.out).mono ?_); rintro e w' ⟨A9, n9, c9, Aa, na, ca, rfl, st'⟩; replace st := st.join st'; clear st'; simp only [List.cons_append, List.nil_append] at st; refine ⟨_, rfl, ?_⟩)) | (go_at_call 16; ((with_reducible refine (SameDescriptor_any m m A7 A8 A9 Aa n7 n8 n9 na c7 c8 c9 ca _ _ (St.aces st (i := 4) rfl) (St.aces st (i := 5) rfl) (St.aces st (i := 1) rfl) (St.aces st (i := 2) rfl) (Nat.le_refl _) (by have h3 := St.len st (i := 4) rfl; have h4 := HM.out.1; omega) (by have h3 := St.len st (i := 5) rfl; have h4 := HM.out.2; omega) (by have h3 := St.len st (i := 1) rfl; have h4 := HM.out.1; omega) (by have h3 := St.len st (i := 2) rfl; have h4 := HM.out.2; omega)).mono ?_); rw [L.Desc.same_refl]; rintro e w' ⟨rfl, hb⟩; replace st := st.call hb; clear hb; refine ⟨_, rfl, ?_⟩)) | (go_at_call 14; ((with_reducible refine (rDescriptorErr_any d A1 A2 n1 n2 c1 c2 B _ (H1.out.st st hB1) (H2.out.st st hB1) (Nat.le_trans hB1 st.size) (by omega) (by omega)).mono ?_); rw [HE.out]; rintro e w' ⟨rfl, hb⟩; replace st := st.call hb; clear hb; replace st := st.drop 6; refine ⟨_, rfl, ?_⟩))))); refine WL.next hK (by simp only [Act.put, zpt, zsz, zss]; exact rfl) ?_; clear hK K) | (refine WL.skip ?_ (by simp only [Act.put, zpt, zsz, zss]; exact rfl) ?_; (exact rfl)))); (try refine WL.nil ?_))
  go_ret
  exact ⟨(by (rfl)), st.below⟩
set_option maxRecDepth 8000 in
set_option maxHeartbeats 4000000 in
theorem AclStrings_lv (d : L.Desc) (l : List UInt8) (A1 A2 : Option Addr) (n1 n2 c1 c2 B : Nat) (w : World) (h1 : Aces w B A1 n1 d.e) (h2 : Aces w B A2 n2 d.a) (hB1 : B ≤ w.heap.size) (hn1 : n1 ≤ 20) (hn2 : n2 ≤ 20) (hEV : Env w) (hl : 200000 < l.length) (hlb : l.length ≤ 200010) (m : L.Desc) (E2 : Int) (hD : L.pR l = (m, E2)) (hE2 : E2 ≠ 0) (X : List UInt8) (hXe : d.fmt = X) (hX : fmtRes d = (X, 0)) (hE : d.rErrs.2 = 0) (hE3 : d.err.2 = 0) (hD2 : L.pR X = (d, 0)) :
    Calls Tryz.prog 5 #[.agg #[.int .i64 d.o, .int .i64 d.g, .bool d.p, .bool d.h, .slice A1 n1 c1, .slice A2 n2 c2], .string ⟨l.toArray⟩] w fun e w' => e = .returned (.bool true) ∧ Below w.heap.size w w' := by
  have H1 := Lib.hid h1
  have H2 := Lib.hid h2
  clear h1 h2
  have hf : (decide (n1 ≤ 20) && decide (n2 ≤ 20)) = true := by simp [hn1, hn2]
  have HN1 : Hid (n1 ≤ maxLen) := Lib.hid (by unfold maxLen; omega)
  have HN2 : Hid (n2 ≤ maxLen) := Lib.hid (by unfold maxLen; omega)
  have HEV := Lib.hid hEV
  have HPI : Hid (L.PIn l) := Lib.hid (.inr hl)
  have hml := L.pR_len HPI.out
  rw [hD] at hml
  have HM : Hid (m.e.length ≤ 100 ∧ m.a.length ≤ 100) := Lib.hid hml
  have HD := Lib.hid hD
  have HX := Lib.hid hX
  have HE := Lib.hid hE
  clear hml hD hX hE hEV
  have hsz := bytes_size l
  have hta := bytes_list
  have g1 : (700 : Int) < (l.length : Int) := by omega
  have g2 : ¬ ((l.length : Int) ≤ 200000) := by omega
  have g3 : ¬ ((200010 : Int) < (l.length : Int)) := by omega
  clear hl hlb
  have hE2' : (E2 == 0) = false := by simpa using hE2
  have HE3 := Lib.hid hE3
  have HD2 := Lib.hid hD2
  have HL2 : Hid (L.PIn X) := Lib.hid (by rw [← hXe]; exact (L.pR_fmt HE.out).2)
  have HXE := Lib.hid hXe
  clear hE3 hD2 hXe
  have st := St.start w
  go_enter Tryz.func5, Tryz.ntmps5
  go_wp2_with (refine WL.out ?_; (repeat ((refine WL.op ?_ ?_; (exact rfl); intro K hK; (first | ((first | ((with_reducible apply ow_move); exact rfl) | ((with_reducible apply ow_assign); exact rfl)); (go_simp <;> (try simp (disch := omega) only [wrap_id, sub_left, zac]) <;> rfl)) | ((((with_reducible apply ow_loadN st); exact rfl; exact inferInstance; exact rfl; (first | exact get0 | exact get3 | exact get6); ((try simp only [zta, ztz, zda, zdz, zca, zcn, zan, zsz, zss]) <;> exact rfl))); exact rfl) | ((first | ((with_reducible apply ow_box st); exact rfl; (go_simp <;> (try simp (disch := omega) only [wrap_id, sub_left, zac]) <;> rfl); (go_simp <;> (try simp (disch := omega) only [wrap_id, sub_left, zac]) <;> rfl)) | ((with_reducible apply ow_alloc st); exact rfl; exact inferInstance; (go_simp <;> (try simp (disch := omega) only [wrap_id, sub_left, zac]) <;> rfl))); (try clear st); intro b w' st) | ((((with_reducible apply ow_storeN' st); exact rfl; exact inferInstance; exact rfl; (exact get0); exact rfl)); exact rfl; exact rfl; (simp <;> done); ((try simp only [zta, ztz, zda, zdz, zca, zcn, zan, zsz, zss]) <;> exact rfl); (try clear st); intro w' st) | ((with_reducible apply ow_eval); (go_simp <;> (try simp (disch := omega) only [wrap_id, sub_left, zac]) <;> rfl); first | (with_reducible apply up_value) | ((with_reducible apply up_enter); first | (go_at_call 6; refine (awake_any _).mono ?_; rintro e w' ⟨rfl, hb⟩; replace st := st.call hb; clear hb; refine ⟨_, rfl, ?_⟩) | (go_at_call 11; ((with_reducible refine (Few_any d A1 A2 n1 n2 c1 c2 _ HN1.out HN2.out).mono ?_); rw [hf]); rintro e w' ⟨rfl, hb⟩; replace st := st.call hb; clear hb; refine ⟨_, rfl, ?_⟩) | (go_at_call 15; ((with_reducible refine (CopyDescriptor_any d A1 A2 n1 n2 c1 c2 B _ (H1.out.st st hB1) (H2.out.st st hB1) (Nat.le_trans hB1 st.size) (by omega) (by omega)).mono ?_); rintro e w' ⟨A5, n5, c5, A6, n6, c6, rfl, st'⟩; replace st := st.join st'; clear st'; simp only [List.cons_append, List.nil_append] at st; refine ⟨_, rfl, ?_⟩)) | (go_at_call 21; ((with_reducible refine (Format_is HX.out A5 A6 n5 n6 c5 c6 _ _ (HEV.out.later st.below) (St.aces st (i := 0) rfl) (St.aces st (i := 1) rfl) (Nat.le_refl _) (by have h3 := St.len st (i := 0) rfl; have h4 := H1.out.len; omega) (by have h3 := St.len st (i := 1) rfl; have h4 := H2.out.len; omega)).mono ?_); rintro e w' ⟨rfl, hb⟩; replace st := st.call hb; clear hb; replace st := st.tail.tail; refine ⟨_, rfl, ?_⟩)) | (go_at_call 22; ((with_reducible refine (Parse_is HD.out _ HPI.out (HEV.out.later st.below)).mono ?_); rintro e w' ⟨A7, n7, c7, A8, n8, c8, rfl, st'⟩; replace st := st.join st'; clear st'; simp only [List.cons_append, List.nil_append] at st; refine ⟨_, rfl, ?_⟩)) | (go_at_call 23; ((with_reducible refine (rParse_is HD.out _ HPI.out).mono ?_); rintro e w' ⟨A9, n9, c9, Aa, na, ca, rfl, st'⟩; replace st := st.join st'; clear st'; simp only [List.cons_append, List.nil_append] at st; refine ⟨_, rfl, ?_⟩)) | (go_at_call 16; ((with_reducible refine (SameDescriptor_any m m A7 A8 A9 Aa n7 n8 n9 na c7 c8 c9 ca _ _ (St.aces st (i := 4) rfl) (St.aces st (i := 5) rfl) (St.aces st (i := 1) rfl) (St.aces st (i := 2) rfl) (Nat.le_refl _) (by have h3 := St.len st (i := 4) rfl; have h4 := HM.out.1; omega) (by have h3 := St.len st (i := 5) rfl; have h4 := HM.out.2; omega) (by have h3 := St.len st (i := 1) rfl; have h4 := HM.out.1; omega) (by have h3 := St.len st (i := 2) rfl; have h4 := HM.out.2; omega)).mono ?_); rw [L.Desc.same_refl]; rintro e w' ⟨rfl, hb⟩; replace st := st.call hb; clear hb; refine ⟨_, rfl, ?_⟩)) | (go_at_call 14; ((with_reducible refine (rDescriptorErr_any d A1 A2 n1 n2 c1 c2 B _ (H1.out.st st hB1) (H2.out.st st hB1) (Nat.le_trans hB1 st.size) (by omega) (by omega)).mono ?_); rw [HE.out]; rintro e w' ⟨rfl, hb⟩; replace st := st.call hb; clear hb; replace st := st.drop 6; refine ⟨_, rfl, ?_⟩)) | (go_at_call 22; ((with_reducible refine (Parse_is HD2.out _ HL2.out (HEV.out.later st.below)).mono ?_); rintro e w' ⟨Ad, nd, cd, Ae, ne, ce, rfl, st'⟩; replace st := st.join st'; clear st'; simp only [List.cons_append, List.nil_append] at st; refine ⟨_, rfl, ?_⟩)) | (go_at_call 24; ((with_reducible refine (rFormat_is HXE.out A1 A2 n1 n2 c1 c2 B _ (H1.out.st st hB1) (H2.out.st st hB1) (Nat.le_trans hB1 st.size) (by omega) (by omega) HE3.out).mono ?_); rintro e w' ⟨rfl, hb⟩; replace st := st.call hb; clear hb; refine ⟨_, rfl, ?_⟩)) | (go_at_call 16; ((with_reducible refine (SameDescriptor_any d d Ad Ae A1 A2 nd ne n1 n2 cd ce c1 c2 _ _ (St.aces st (i := 1) rfl) (St.aces st (i := 2) rfl) ((H1.out.st st hB1).more (Nat.le_trans hB1 st.size)) ((H2.out.st st hB1).more (Nat.le_trans hB1 st.size)) (Nat.le_refl _) (by have h3 := St.len st (i := 1) rfl; have h4 := H1.out.len; omega) (by have h3 := St.len st (i := 2) rfl; have h4 := H2.out.len; omega) (by omega) (by omega)).mono ?_); rw [L.Desc.same_refl]; rintro e w' ⟨rfl, hb⟩; replace st := st.call hb; clear hb; refine ⟨_, rfl, ?_⟩))))); refine WL.next hK (by simp only [Act.put, zpt, zsz, zss]; exact rfl) ?_; clear hK K))); (try refine WL.nil ?_))
  go_ret
  exact ⟨(by (rfl)), st.below⟩
set_option maxRecDepth 8000 in
set_option maxHeartbeats 4000000 in
theorem AclStrings_le (d : L.Desc) (l : List UInt8) (A1 A2 : Option Addr) (n1 n2 c1 c2 B : Nat) (w : World) (h1 : Aces w B A1 n1 d.e) (h2 : Aces w B A2 n2 d.a) (hB1 : B ≤ w.heap.size) (hn1 : n1 ≤ 20) (hn2 : n2 ≤ 20) (hEV : Env w) (hl : 200000 < l.length) (hlb : l.length ≤ 200010) (m : L.Desc) (E2 : Int) (hD : L.pR l = (m, E2)) (hE2 : E2 ≠ 0) (X : List UInt8) (E1 : Int) (hX : fmtRes d = ([], E1)) (hE : d.rErrs.2 = E1) (hE0 : E1 ≠ 0) :
    Calls Tryz.prog 5 #[.agg #[.int .i64 d.o, .int .i64 d.g, .bool d.p, .bool d.h, .slice A1 n1 c1, .slice A2 n2 c2], .string ⟨l.toArray⟩] w fun e w' => e = .returned (.bool true) ∧ Below w.heap.size w w' := by
  have H1 := Lib.hid h1
  have H2 := Lib.hid h2
  clear h1 h2
  have hf : (decide (n1 ≤ 20) && decide (n2 ≤ 20)) = true := by simp [hn1, hn2]
  have HN1 : Hid (n1 ≤ maxLen) := Lib.hid (by unfold maxLen; omega)
  have HN2 : Hid (n2 ≤ maxLen) := Lib.hid (by unfold maxLen; omega)
  have HEV := Lib.hid hEV
  have HPI : Hid (L.PIn l) := Lib.hid (.inr hl)
  have hml := L.pR_len HPI.out
  rw [hD] at hml
  have HM : Hid (m.e.length ≤ 100 ∧ m.a.length ≤ 100) := Lib.hid hml
  have HD := Lib.hid hD
  have HX := Lib.hid hX
  have HE := Lib.hid hE
  clear hml hD hX hE hEV
  have hsz := bytes_size l
  have hta := bytes_list
  have g1 : (700 : Int) < (l.length : Int) := by omega
  have g2 : ¬ ((l.length : Int) ≤ 200000) := by omega
  have g3 : ¬ ((200010 : Int) < (l.length : Int)) := by omega
  clear hl hlb
  have hE2' : (E2 == 0) = false := by simpa using hE2
  have st := St.start w
  go_enter Tryz.func5, Tryz.ntmps5
  go_wp2_with (refine WL.out ?_; (repeat ((refine WL.op ?_ ?_; (exact rfl); intro K hK; (first | ((first | ((with_reducible apply ow_move); exact rfl) | ((with_reducible apply ow_assign); exact rfl)); (go_simp <;> (try simp (disch := omega) only [wrap_id, sub_left, zac]) <;> rfl)) | ((((with_reducible apply ow_loadN st); exact rfl; exact inferInstance; exact rfl; (first | exact get0 | exact get3 | exact get6); ((try simp only [zta, ztz, zda, zdz, zca, zcn, zan, zsz, zss]) <;> exact rfl))); exact rfl) | ((first | ((with_reducible apply ow_box st); exact rfl; (go_simp <;> (try simp (disch := omega) only [wrap_id, sub_left, zac]) <;> rfl); (go_simp <;> (try simp (disch := omega) only [wrap_id, sub_left, zac]) <;> rfl)) | ((with_reducible apply ow_alloc st); exact rfl; exact inferInstance; (go_simp <;> (try simp (disch := omega) only [wrap_id, sub_left, zac]) <;> rfl))); (try clear st); intro b w' st) | ((((with_reducible apply ow_storeN' st); exact rfl; exact inferInstance; exact rfl; (exact get0); exact rfl)); exact rfl; exact rfl; (simp <;> done); ((try simp only [zta, ztz, zda, zdz, zca, zcn, zan, zsz, zss]) <;> exact rfl); (try clear st); intro w' st) | ((with_reducible apply ow_eval); (go_simp <;> (try simp (disch := omega) only [wrap_id, sub_left, zac]) <;> rfl); first | (with_reducible apply up_value) | ((with_reducible apply up_enter); first | (go_at_call 6; refine (awake_any _).mono ?_; rintro e w' ⟨rfl, hb⟩; replace st := st.call hb; clear hb; refine ⟨_, rfl, ?_⟩) | (go_at_call 11; ((with_reducible refine (Few_any d A1 A2 n1 n2 c1 c2 _ HN1.out HN2.out).mono ?_); rw [hf]); rintro e w' ⟨rfl, hb⟩; replace st := st.call hb; clear hb; refine ⟨_, rfl, ?_⟩) | (go_at_call 15; ((with_reducible refine (CopyDescriptor_any d A1 A2 n1 n2 c1 c2 B _ (H1.out.st st hB1) (H2.out.st st hB1) (Nat.le_trans hB1 st.size) (by omega) (by omega)).mono ?_); rintro e w' ⟨A5, n5, c5, A6, n6, c6, rfl, st'⟩; replace st := st.join st'; clear st'; simp only [List.cons_append, List.nil_append] at st; refine ⟨_, rfl, ?_⟩)) | (go_at_call 21; ((with_reducible refine (Format_is HX.out A5 A6 n5 n6 c5 c6 _ _ (HEV.out.later st.below) (St.aces st (i := 0) rfl) (St.aces st (i := 1) rfl) (Nat.le_refl _) (by have h3 := St.len st (i := 0) rfl; have h4 := H1.out.len; omega) (by have h3 := St.len st (i := 1) rfl; have h4 := H2.out.len; omega)).mono ?_); rintro e w' ⟨rfl, hb⟩; replace st := st.call hb; clear hb; replace st := st.tail.tail; refine ⟨_, rfl, ?_⟩)) | (go_at_call 22; ((with_reducible refine (Parse_is HD.out _ HPI.out (HEV.out.later st.below)).mono ?_); rintro e w' ⟨A7, n7, c7, A8, n8, c8, rfl, st'⟩; replace st := st.join st'; clear st'; simp only [List.cons_append, List.nil_append] at st; refine ⟨_, rfl, ?_⟩)) | (go_at_call 23; ((with_reducible refine (rParse_is HD.out _ HPI.out).mono ?_); rintro e w' ⟨A9, n9, c9, Aa, na, ca, rfl, st'⟩; replace st := st.join st'; clear st'; simp only [List.cons_append, List.nil_append] at st; refine ⟨_, rfl, ?_⟩)) | (go_at_call 16; ((with_reducible refine (SameDescriptor_any m m A7 A8 A9 Aa n7 n8 n9 na c7 c8 c9 ca _ _ (St.aces st (i := 4) rfl) (St.aces st (i := 5) rfl) (St.aces st (i := 1) rfl) (St.aces st (i := 2) rfl) (Nat.le_refl _) (by have h3 := St.len st (i := 4) rfl; have h4 := HM.out.1; omega) (by have h3 := St.len st (i := 5) rfl; have h4 := HM.out.2; omega) (by have h3 := St.len st (i := 1) rfl; have h4 := HM.out.1; omega) (by have h3 := St.len st (i := 2) rfl; have h4 := HM.out.2; omega)).mono ?_); rw [L.Desc.same_refl]; rintro e w' ⟨rfl, hb⟩; replace st := st.call hb; clear hb; refine ⟨_, rfl, ?_⟩)) | (go_at_call 14; ((with_reducible refine (rDescriptorErr_any d A1 A2 n1 n2 c1 c2 B _ (H1.out.st st hB1) (H2.out.st st hB1) (Nat.le_trans hB1 st.size) (by omega) (by omega)).mono ?_); rw [HE.out]; rintro e w' ⟨rfl, hb⟩; replace st := st.call hb; clear hb; replace st := st.drop 6; refine ⟨_, rfl, ?_⟩))))); refine WL.next hK (by simp only [Act.put, zpt, zsz, zss]; exact rfl) ?_; clear hK K))); (try refine WL.nil ?_))
  go_ret
  exact ⟨(by (rfl)), st.below⟩
set_option maxRecDepth 8000 in
set_option maxHeartbeats 4000000 in
theorem AclStrings_list (d : L.Desc) (l : List UInt8) (A1 A2 : Option Addr) (n1 n2 c1 c2 B : Nat) (w : World) (h1 : Aces w B A1 n1 d.e) (h2 : Aces w B A2 n2 d.a) (hB1 : B ≤ w.heap.size) (hn1 : n1 ≤ maxLen) (hn2 : n2 ≤ maxLen) (hEV : Env w) :
    Calls Tryz.prog 5 #[.agg #[.int .i64 d.o, .int .i64 d.g, .bool d.p, .bool d.h, .slice A1 n1 c1, .slice A2 n2 c2], .string ⟨l.toArray⟩] w fun e w' => e = .returned (.bool true) ∧ Below w.heap.size w w' := by
  by_cases hn : n1 ≤ 20 ∧ n2 ≤ 20
  · by_cases hl : l.length ≤ 700
    · obtain ⟨m, E2, hD⟩ : ∃ m E2, L.pR l = (m, E2) := ⟨_, _, rfl⟩
      by_cases hE : d.rErrs.2 = 0
      · have hE3 : d.err.2 = 0 := by rw [L.Desc.err_eq]; exact hE
        have hX : fmtRes d = (d.fmt, 0) := by unfold fmtRes; rw [if_pos hE3]
        by_cases h0 : E2 = 0
        · subst h0
          obtain ⟨g1, g2⟩ := L.pR_good hD
          exact AclStrings_gv d l A1 A2 n1 n2 c1 c2 B w h1 h2 hB1 hn.1 hn.2 hEV hl m hD (by unfold fmtRes; rw [if_pos g1, g2]) _ rfl hX hE hE3 (L.pR_fmt hE).1
        · exact AclStrings_bv d l A1 A2 n1 n2 c1 c2 B w h1 h2 hB1 hn.1 hn.2 hEV hl m E2 hD h0 _ rfl hX hE hE3 (L.pR_fmt hE).1
      · have hX : fmtRes d = ([], d.rErrs.2) := by unfold fmtRes; rw [L.Desc.err_eq, if_neg hE]
        by_cases h0 : E2 = 0
        · subst h0
          obtain ⟨g1, g2⟩ := L.pR_good hD
          exact AclStrings_ge d l A1 A2 n1 n2 c1 c2 B w h1 h2 hB1 hn.1 hn.2 hEV hl m hD (by unfold fmtRes; rw [if_pos g1, g2]) [] _ hX rfl hE
        · exact AclStrings_be d l A1 A2 n1 n2 c1 c2 B w h1 h2 hB1 hn.1 hn.2 hEV hl m E2 hD h0 [] _ hX rfl hE
    · by_cases hl1 : 200000 < l.length
      · by_cases hl2 : l.length ≤ 200010
        · have hD : L.pR l = (L.Desc.none, 8) := by unfold L.pR; rw [if_pos hl1]
          by_cases hE : d.rErrs.2 = 0
          · have hE3 : d.err.2 = 0 := by rw [L.Desc.err_eq]; exact hE
            have hX : fmtRes d = (d.fmt, 0) := by unfold fmtRes; rw [if_pos hE3]
            exact AclStrings_lv d l A1 A2 n1 n2 c1 c2 B w h1 h2 hB1 hn.1 hn.2 hEV hl1 hl2 _ 8 hD (by decide) _ rfl hX hE hE3 (L.pR_fmt hE).1
          · have hX : fmtRes d = ([], d.rErrs.2) := by unfold fmtRes; rw [L.Desc.err_eq, if_neg hE]
            exact AclStrings_le d l A1 A2 n1 n2 c1 c2 B w h1 h2 hB1 hn.1 hn.2 hEV hl1 hl2 _ 8 hD (by decide) [] _ hX rfl hE
        · have hf : (decide (n1 ≤ 20) && decide (n2 ≤ 20)) = true := by simp [hn.1, hn.2]
          have HN1 := Lib.hid hn1
          have HN2 := Lib.hid hn2
          have g1 : (700 : Int) < (l.length : Int) := by omega
          have g2 : ¬ ((l.length : Int) ≤ 200000) := by omega
          have g3 : (200010 : Int) < (l.length : Int) := by omega
          clear hl hl1 hl2
          have hsz := bytes_size l
          clear h1 h2 hn hn1 hn2 hEV
          have st := St.start w
          go_enter Tryz.func5, Tryz.ntmps5
          go_wp2_with (refine WL.out ?_; (repeat ((refine WL.op ?_ ?_; (exact rfl); intro K hK; (first | ((first | ((with_reducible apply ow_move); exact rfl) | ((with_reducible apply ow_assign); exact rfl)); (go_simp <;> (try simp (disch := omega) only [wrap_id, sub_left, zac]) <;> rfl)) | ((((with_reducible apply ow_loadN st); exact rfl; exact inferInstance; exact rfl; (exact get0); ((try simp only [zta, ztz, zda, zdz, zca, zcn, zan, zsz, zss]) <;> exact rfl))); exact rfl) | ((((with_reducible apply ow_box st); exact rfl; (go_simp <;> (try simp (disch := omega) only [wrap_id, sub_left, zac]) <;> rfl); (go_simp <;> (try simp (disch := omega) only [wrap_id, sub_left, zac]) <;> rfl))); (try clear st); intro b w' st) | ((with_reducible apply ow_eval); (go_simp <;> (try simp (disch := omega) only [wrap_id, sub_left, zac]) <;> rfl); first | (with_reducible apply up_value) | ((with_reducible apply up_enter); first | (go_at_call 6; refine (awake_any _).mono ?_; rintro e w' ⟨rfl, hb⟩; replace st := st.call hb; clear hb; refine ⟨_, rfl, ?_⟩) | (go_at_call 11; ((with_reducible refine (Few_any d A1 A2 n1 n2 c1 c2 _ HN1.out HN2.out).mono ?_); rw [hf]); rintro e w' ⟨rfl, hb⟩; replace st := st.call hb; clear hb; refine ⟨_, rfl, ?_⟩)))); refine WL.next hK (by simp only [Act.put, zpt, zsz, zss]; exact rfl) ?_; clear hK K))); (try refine WL.nil ?_))
          go_ret
          exact ⟨rfl, st.below⟩
      · have hf : (decide (n1 ≤ 20) && decide (n2 ≤ 20)) = true := by simp [hn.1, hn.2]
        have HN1 := Lib.hid hn1
        have HN2 := Lib.hid hn2
        have g1 : (700 : Int) < (l.length : Int) := by omega
        have g2 : (l.length : Int) ≤ 200000 := by omega
        clear hl hl1
        have hsz := bytes_size l
        clear h1 h2 hn hn1 hn2 hEV
        have st := St.start w
        go_enter Tryz.func5, Tryz.ntmps5
        go_wp2_with (refine WL.out ?_; (repeat (first | (refine WL.op ?_ ?_; (exact rfl); intro K hK; (first | ((first | ((with_reducible apply ow_move); exact rfl) | ((with_reducible apply ow_assign); exact rfl)); (go_simp <;> (try simp (disch := omega) only [wrap_id, sub_left, zac]) <;> rfl)) | ((((with_reducible apply ow_loadN st); exact rfl; exact inferInstance; exact rfl; (exact get0); ((try simp only [zta, ztz, zda, zdz, zca, zcn, zan, zsz, zss]) <;> exact rfl))); exact rfl) | ((((with_reducible apply ow_box st); exact rfl; (go_simp <;> (try simp (disch := omega) only [wrap_id, sub_left, zac]) <;> rfl); (go_simp <;> (try simp (disch := omega) only [wrap_id, sub_left, zac]) <;> rfl))); (try clear st); intro b w' st) | ((with_reducible apply ow_eval); (go_simp <;> (try simp (disch := omega) only [wrap_id, sub_left, zac]) <;> rfl); first | (with_reducible apply up_value) | ((with_reducible apply up_enter); first | (go_at_call 6; refine (awake_any _).mono ?_; rintro e w' ⟨rfl, hb⟩; replace st := st.call hb; clear hb; refine ⟨_, rfl, ?_⟩) | (go_at_call 11; ((with_reducible refine (Few_any d A1 A2 n1 n2 c1 c2 _ HN1.out HN2.out).mono ?_); rw [hf]); rintro e w' ⟨rfl, hb⟩; replace st := st.call hb; clear hb; refine ⟨_, rfl, ?_⟩)))); refine WL.next hK (by simp only [Act.put, zpt, zsz, zss]; exact rfl) ?_; clear hK K) | (refine WL.skip ?_ (by simp only [Act.put, zpt, zsz, zss]; exact rfl) ?_; (exact rfl)))); (try refine WL.nil ?_))
        go_ret
        exact ⟨rfl, st.below⟩
  · have hf : (decide (n1 ≤ 20) && decide (n2 ≤ 20)) = false := by
      cases h : (decide (n1 ≤ 20) && decide (n2 ≤ 20)) with
      | false => rfl
      | true => simp at h; exact absurd h hn
    have HN1 := Lib.hid hn1
    have HN2 := Lib.hid hn2
    clear h1 h2 hn hn1 hn2 hEV
    have st := St.start w
    go_enter Tryz.func5, Tryz.ntmps5
    go_wp2_with (refine WL.out ?_; (repeat (first | (refine WL.op ?_ ?_; (exact rfl); intro K hK; (first | ((first | ((with_reducible apply ow_move); exact rfl) | ((with_reducible apply ow_assign); exact rfl)); (go_simp <;> (try simp (disch := omega) only [wrap_id, sub_left, zac]) <;> rfl)) | ((((with_reducible apply ow_loadN st); exact rfl; exact inferInstance; exact rfl; (exact get0); ((try simp only [zta, ztz, zda, zdz, zca, zcn, zan, zsz, zss]) <;> exact rfl))); exact rfl) | ((((with_reducible apply ow_box st); exact rfl; (go_simp <;> (try simp (disch := omega) only [wrap_id, sub_left, zac]) <;> rfl); (go_simp <;> (try simp (disch := omega) only [wrap_id, sub_left, zac]) <;> rfl))); (try clear st); intro b w' st) | ((with_reducible apply ow_eval); (go_simp <;> (try simp (disch := omega) only [wrap_id, sub_left, zac]) <;> rfl); first | (with_reducible apply up_value) | ((with_reducible apply up_enter); first | (go_at_call 6; refine (awake_any _).mono ?_; rintro e w' ⟨rfl, hb⟩; replace st := st.call hb; clear hb; refine ⟨_, rfl, ?_⟩) | (go_at_call 11; ((with_reducible refine (Few_any d A1 A2 n1 n2 c1 c2 _ HN1.out HN2.out).mono ?_); rw [hf]); rintro e w' ⟨rfl, hb⟩; replace st := st.call hb; clear hb; refine ⟨_, rfl, ?_⟩)))); refine WL.next hK (by simp only [Act.put, zpt, zsz, zss]; exact rfl) ?_; clear hK K) | (refine WL.skip ?_ (by simp only [Act.put, zpt, zsz, zss]; exact rfl) ?_; (exact rfl)))); (try refine WL.nil ?_))
    go_ret
    exact ⟨rfl, st.below⟩
theorem AclStrings_any (d : L.Desc) (s : ByteArray) (A1 A2 : Option Addr) (n1 n2 c1 c2 B : Nat) (w : World) (h1 : Aces w B A1 n1 d.e) (h2 : Aces w B A2 n2 d.a) (hB1 : B ≤ w.heap.size) (hn1 : n1 ≤ maxLen) (hn2 : n2 ≤ maxLen) (hEV : Env w) :
    Calls Tryz.prog 5 #[.agg #[.int .i64 d.o, .int .i64 d.g, .bool d.p, .bool d.h, .slice A1 n1 c1, .slice A2 n2 c2], .string s] w fun e w' => e = .returned (.bool true) ∧ Below w.heap.size w w' := by
  have h := AclStrings_list d s.data.toList A1 A2 n1 n2 c1 c2 B w h1 h2 hB1 hn1 hn2 hEV
  rw [Array.toArray_toList] at h
  exact h
end Go.Proofs.YtppjhccdgbheiaaGreatDoor
namespace Go
variable {H : Type} {enc : TypeId × Value → H}
theorem returnsInHanded_of_change_both {a : Assume} {C : Checked} {os : Os} {f : FuncId} {fn : Func} {s : ChangeSpec} {conds : List PathCond} {apart fresh handsOn again : Bool} {X : World → Array Value → Prop}
    (hX : ∀ (w w' : World) (args : Array Value), w.heap = w'.heap → X w args → X w' args)
    (own : ownKnob C.prog.godebug = none) (started : os.Started) (noInit : C.prog.inits.idxOf? f = none) (hfn : C.prog.funcs[f]? = some fn)
    (witness : ∃ (w : World) (tape : Tape) (i : Input), w.os = os ∧ (w.forCall tape i).Shaped C.prog ∧ i.vars = [] ∧ Input.okWide C.prog (w.forCall tape i) .any w.heap.size f i ∧
      ((s.pre enc C.prog fn conds apart (w.forCall tape i).memory i.args ∧ X (w.forCall tape i).memory i.args) ∧ sizedMet enc C.prog fn (OpenSpec.ofChange s) apart (w.forCall tape i).memory i.args) ∧ a.holds C.prog (lone (Frame.enter C.prog f i.args .normal) [] (w.forCall tape i)))
    (contract : ∀ (W : World) (base : Nat) (args : Array Value) (ds gs : List (DataW H)) (before : List MemPlace),
      (∀ (j : Nat) t v, fn.params[j]? = some t → args[j]? = some v → Value.okWide C.prog W .any base t v) →
      DataW.Whole enc C.prog fn.params.toList s.vars apart W args.toList ds gs before →
      conds.all (PathCond.test C.prog ⟨fn.params.toList, ds, s.plain.varTypes C.prog, gs⟩) = true →
      (DataW.weightsEach C.prog (fn.params.toList ++ s.plain.varTypes C.prog) (ds ++ gs)).all (· ≤ reachBytes) = true → X W args → W.ShapedOpen C.prog →
      a.holds C.prog (lone (Frame.enter C.prog f args .normal) [] W) →
      Calls C.prog f args W fun e W' => ∃ v, e = .returned v ∧ s.post enc C.prog fn apart fresh handsOn again W args v W') :
    ReturnsInHanded a C os f .any (fun w args => (s.pre enc C.prog fn conds apart w args ∧ X w args) ∧ sizedMet enc C.prog fn (OpenSpec.ofChange s) apart w args) (s.post enc C.prog fn apart fresh handsOn again) := by
  refine returnsInHanded_of_calls own started noInit witness ?_
  intro w tape i _ hsh _ hok hpre hholds
  obtain ⟨_, _, _, fn', hfn', _, _, _, _, hval⟩ := hok
  have e : fn' = fn := Option.some.inj (hfn'.symm.trans hfn)
  subst e
  obtain ⟨⟨⟨ds, gs, before, hw, hc⟩, hx⟩, hz⟩ := hpre
  have hw' := DataW.Whole.of_heap (w' := w.forCall tape i) (by rfl) hw
  refine (contract (w.forCall tape i) w.heap.size i.args ds gs before hval hw' hc (hz.weights hw) (hX _ _ _ (by rfl) hx) hsh hholds).mono fun e W' ⟨v, he, hp⟩ => ?_
  subst he
  exact ChangeSpec.post_blind hp
end Go
namespace Go.Proofs.YtppjhccdgbheiaaGreatDoor
open Go.RowKit Go.ChangeShapes
theorem starW : "*" ++ "errors.errorString" = "*errors.errorString" := by decide
theorem rowErr (u : TypeId) (h : Tryz.prog.typeName? 3 u = some "*errors.errorString") : u = 193 :=
  typeName_ptr_named (nm := "errors.errorString") (by rw [starW]; kernel_rfl) (by kernel_rfl) (by decide) u (by rw [starW]; exact h)
theorem env_of_laid {W : World} (hL : laidMetH Tryz.prog Rows.aclStringsRow.laid W) (hsh : W.ShapedOpen Tryz.prog) : Env W := by
  rw [MakeChecks.laidMetH_plain Tryz.prog Rows.aclStringsRow.laid W (by kernel_rfl)] at hL
  have h2 := hL.tail.tail
  have h4 := h2.tail.tail
  have h5 := h4.tail
  have e0 : Tryz.prog.globalNamed "internal/strconv.uint64pow10" = some 0 := by kernel_rfl
  have t0 : (Tryz.prog.globals[0]?).map (·.type) = some 163 := by kernel_rfl
  have d0 : (Rows.laid_internal_strconv_uint64pow10 : DataW Unit) = Lib.tabData .u64 Lib.pow10Tab := by kernel_rfl
  have h3 : laidMet Tryz.prog (("internal/strconv.uint64pow10", Lib.tabData .u64 Lib.pow10Tab) :: [("unicode/utf8.acceptRanges", Rows.laid_unicode_utf8_acceptRanges), ("strconv.ErrRange", Rows.laid_strconv_ErrRange), ("strconv.ErrSyntax", Rows.laid_strconv_ErrSyntax), ("unicode/utf8.first", Rows.laid_unicode_utf8_first)]) W := by
    rw [← d0]; exact h2
  have htab : Lib.TabIs Tryz.prog W "internal/strconv.uint64pow10" .u64 Lib.pow10Tab :=
    Lib.tabIs_of_head (n := 20) (e := 149) e0 t0 (by kernel_rfl) (by kernel_rfl) (by kernel_rfl) (by kernel_rfl) h3
  have e3 : Tryz.prog.globalNamed "strconv.ErrRange" = some 3 := by kernel_rfl
  have t3 : (Tryz.prog.globals[3]?).map (·.type) = some 124 := by kernel_rfl
  obtain ⟨a3, s3, v3, _⟩ := laid_sentinel (te := 195) (ts := 9) h4 e3 t3 Tryz.underlying124 rowErr Tryz.underlying193 Tryz.underlying195 rfl rfl Tryz.underlying9 (by kernel_rfl) (by kernel_rfl)
  have e2 : Tryz.prog.globalNamed "strconv.ErrSyntax" = some 2 := by kernel_rfl
  have t2 : (Tryz.prog.globals[2]?).map (·.type) = some 124 := by kernel_rfl
  obtain ⟨a2, s2, v2, _⟩ := laid_sentinel (te := 195) (ts := 9) h5 e2 t2 Tryz.underlying124 rowErr Tryz.underlying193 Tryz.underlying195 rfl rfl Tryz.underlying9 (by kernel_rfl) (by kernel_rfl)
  have hm := cell_of_shapedOpen_int (g := 1) (zero := #[.int .i64 0]) (t := 3) hsh (of_decide_eq_true (by kernel_rfl)) (by kernel_rfl) rfl (by kernel_rfl) (by kernel_rfl) Tryz.underlying3
  have c3 := World.var?_cell e3 v3 0
  have c2 := World.var?_cell e2 v2 0
  exact ⟨htab, hm, ⟨_, c2, .inr ⟨_, _, rfl⟩⟩, ⟨_, c3, .inr ⟨_, _, rfl⟩⟩⟩
end Go.Proofs.YtppjhccdgbheiaaGreatDoor
namespace Go.Proofs.YtppjhccdgbheiaaGreatDoor
open Go.ChangeShapes Go.WideShapes Go.ChangeAt Go.WideElems Go.RowKit

theorem aclStrings_met (os : Os) (args : Array Value) : laidMetH Tryz.prog Rows.aclStringsRow.laid ((World.laidAll Tryz.prog os Rows.aclStringsRow.laid).forCall (fun _ _ => 0) ⟨#[], args, []⟩).memory :=
  by rw [MakeChecks.laidMetH_plain _ _ _ (by kernel_rfl)]; exact laidMet_laidAll _ (by kernel_rfl) (by kernel_rfl)

set_option maxRecDepth 100000 in
theorem aclStrings_lifted (os : Os) (started : os.Started) (H : Type) (enc : TypeId × Value → H) :
    ReturnsInHanded {} Tryz.checked os 5 .any (fun w args => (Rows.aclStringsSpec.pre enc Tryz.prog Tryz.f5 [] false w args ∧ laidMetH Tryz.prog Rows.aclStringsRow.laid w) ∧ sizedMet enc Tryz.prog Tryz.f5 (OpenSpec.ofChange Rows.aclStringsSpec) false w args)
      (Rows.aclStringsSpec.post enc Tryz.prog Tryz.f5 false true false false) := by
  refine returnsInHanded_of_change_both (C := Tryz.checked) (X := fun w _ => laidMetH Tryz.prog Rows.aclStringsRow.laid w) (fun _ _ _ hh h => h.of_heap hh) Tryz.own started (by kernel_rfl) Tryz.func5
    (ChangeSpec.witness_shaped (enc := enc) (C := Tryz.checked) (os := os) (X := fun w _ => laidMetH Tryz.prog Rows.aclStringsRow.laid w) false (World.laidAll Tryz.prog os Rows.aclStringsRow.laid) #[.agg #[.int .i64 0, .int .i64 0, .bool false, .bool false, .slice none 0 0, .slice none 0 0], .string ⟨#[]⟩] 8 (World.laidAll_os _ _ _) (World.shaped_of_ZipB (by kernel_rfl) (by kernel_rfl)) (by kernel_rfl) (by kernel_rfl) (by kernel_rfl) (aclStrings_met os _)) ?_
  intro W base args ds gs before hval0 hW _ _ hL hsh _
  have hval : ∀ (j : Nat) t v, Tryz.f5.params[j]? = some t → args[j]? = some v → Value.okWide Tryz.prog W .any base t v := hval0
  have hW' := hW
  obtain ⟨p, q, hA0, hV, rfl, hfz, hnd⟩ := hW
  have hA : DataW.TrodAll enc Tryz.prog W 0 (fun _ => true) true Tryz.f5.params.toList args.toList ds p := hA0
  have hlt : ∀ x ∈ p, x.block < W.heap.size := fun x hx => hW'.lt x (List.mem_append_left _ hx)
  rw [Tryz.params5] at hA hval
  obtain ⟨v0, v1, d0, d1, p0, p1, rfl, rfl, rfl, h0, h1⟩ := trodAll_two hA
  obtain ⟨rfl, rfl⟩ := trodVars_none hV
  obtain ⟨A10, A20, n10, n20, c10, c20, D0, rfl, hl10, hl20, hm10, hm20⟩ := open_descV (hval 0 _ v0 rfl rfl) h0 (fun x hx => hlt x (List.mem_append_left _ hx))
  obtain ⟨s1, rfl, rfl, rfl, ws1⟩ := Go.ChangeMaps.open_string Tryz.underlying9 (hval 1 _ v1 rfl rfl) h1
  clear hA0 hval0
  refine (AclStrings_any D0 s1 A10 A20 n10 n20 c10 c20 _ W hl10 hl20 (Nat.le_refl _) hm10 hm20 (env_of_laid hL hsh)).mono fun e W' ⟨he, hb⟩ => ?_
  subst he
  exact ⟨_, rfl, law_post Tryz.laidOut Tryz.underlying4 rfl (by kernel_rfl) rfl hW' (by rw [Tryz.params5]; intro t ht; simp at ht; rcases ht with rfl | rfl <;> exact ⟨by kernel_rfl, of_decide_eq_true (by kernel_rfl)⟩) hb⟩

theorem aclStrings_holds : Rows.AclStringsSaid :=
  OpenClaim.holds_of_wide 5 Tryz.f5 rfl rfl rfl rfl rfl rfl rfl ⟨rfl, rfl, rfl, rfl, rfl⟩ rfl rfl rfl rfl rfl (by kernel_rfl) Tryz.func5 (by kernel_rfl)
    (of_decide_eq_true (by kernel_rfl)) (by unfold Func.isWrapper; first | (rw [if_pos (by decide +kernel)]; kernel_rfl) | (rw [if_neg (by decide +kernel)]; exact ⟨rfl, rfl⟩))
    (fun os started H enc _ => aclStrings_lifted os started H enc)
set_option maxRecDepth 100000 in
theorem aclStrings_card : Rows.AclStringsCardSaid :=
  Claim7.holds_tied_plain_at .later [] [.data, .data, .data, .data, .sentinel, .sentinel, .pinned] true (true, "08c42e9c085e1437c869bc6cd1be150ac2304968525486f775f5bced7371d301") true
    aclStrings_holds (fun _ h => by cases h) (by kernel_rfl) (fun _ h => by cases h) aclStrings_row_tie rfl ⟨rfl, rfl⟩ (by kernel_rfl) rfl
    (fun f fn hf hfn => by
      obtain rfl : f = 5 := Option.some.inj ((show Tryz.prog.funcNamed Rows.aclStringsRow.func = some 5 by kernel_rfl).symm.trans hf) |>.symm
      obtain rfl : fn = Tryz.f5 := (Option.some.inj (Tryz.func5.symm.trans hfn)).symm
      exact ⟨by kernel_rfl, fun j t ht => by
        rw [Tryz.params5] at ht
        have hm : t ∈ [25, 9] := by simpa using Array.mem_of_getElem? ht
        have hall : ([25, 9].all fun u => !Tryz.prog.wantsStandIn u) = true := by kernel_rfl
        exact (show Tryz.prog.wantsStandIn t = false by simpa using List.all_eq_true.1 hall t hm)⟩)
    (by kernel_rfl)
end Go.Proofs.YtppjhccdgbheiaaGreatDoor
