/- Own text, part Byt 1: walks of the package acl and of its reference, and the plain laws that they lean on; no statement of the seat is here. -/
import Derived.Test.YtppjhccdgbheiaaDoorBase3
import Derived.Test.YtppjhccdgbheiaaDoorBase2
import Derived.Test.YtppjhccdgbheiaaDoorBase1
import Derived.Laws.IdiomStrings
set_option linter.all false
namespace Go.Proofs.YtppjhccdgbheiaaDoor
open Go.RowKit Go.Hp
namespace L
def dv : Nat → Int → Int
  | 0, n => n
  | k + 1, n => dv k n / 256
def little : Nat → Int → List UInt8
  | 0, _ => []
  | k + 1, n => b8 n :: little k (n / 256)
theorem dv_shift : ∀ (k : Nat) (n : Int), dv k (n / 256) = dv k n / 256
  | 0, _ => rfl
  | k + 1, n => by show dv k (n / 256) / 256 = dv k n / 256 / 256; rw [dv_shift k n]
theorem little_snoc : ∀ (k : Nat) (n : Int), little (k + 1) n = little k n ++ [b8 (dv k n)]
  | 0, _ => rfl
  | k + 1, n => by
    have ih := little_snoc k (n / 256)
    show b8 n :: little (k + 1) (n / 256) = (b8 n :: little k (n / 256)) ++ [b8 (dv k n / 256)]
    rw [ih, dv_shift]
    rfl
theorem little_len : ∀ (k : Nat) (n : Int), (little k n).length = k
  | 0, _ => rfl
  | k + 1, n => by show (little k (n / 256)).length + 1 = k + 1; rw [little_len k]
theorem dv_bound : ∀ (k : Nat) {n : Int}, 0 ≤ n → n ≤ 1099511627776 → 0 ≤ dv k n ∧ dv k n ≤ 1099511627776
  | 0, n, h0, h1 => ⟨h0, h1⟩
  | k + 1, n, h0, h1 => by
    have := dv_bound k h0 h1
    show 0 ≤ dv k n / 256 ∧ dv k n / 256 ≤ 1099511627776
    omega
theorem little2 (n : Int) : little 2 n = le16 n := rfl
theorem little4 (n : Int) : little 4 n = le32 n := by
  show [b8 n, b8 (n / 256), b8 (n / 256 / 256), b8 (n / 256 / 256 / 256)] = [b8 n, b8 (n / 256), b8 (n / 65536), b8 (n / 16777216)]
  rw [show n / 256 / 256 = n / 65536 by omega, show n / 65536 / 256 = n / 16777216 by omega]
theorem byt_one (x : Int) : ([.int .u8 (IntKind.u8.wrap (x % 256))] : List Value) = byt [b8 x] := by
  rw [b8_wrap, b8_mod (n := x % 256) (m := x) (by omega)]; rfl
def bx (l : List UInt8) (i : Nat) : Int := (((l[i]?.getD 0).toNat : Nat) : Int)
theorem bx_bound (l : List UInt8) (i : Nat) : 0 ≤ bx l i ∧ bx l i ≤ 255 := by
  unfold bx
  have := (l[i]?.getD 0).toNat_lt
  omega
def lev (l : List UInt8) : Nat → Nat → Int
  | _, 0 => 0
  | i, c + 1 => bx l i + 256 * lev l (i + 1) c
theorem lev_bound (l : List UInt8) : ∀ (c i : Nat), c ≤ 4 → 0 ≤ lev l i c ∧ lev l i c ≤ 4294967295
  | 0, _, _ => ⟨by show (0 : Int) ≤ 0; omega, by show (0 : Int) ≤ 4294967295; omega⟩
  | 1, i, _ => by
    have := bx_bound l i
    show 0 ≤ bx l i + 256 * 0 ∧ bx l i + 256 * 0 ≤ 4294967295
    omega
  | 2, i, _ => by
    have := bx_bound l i
    have := bx_bound l (i + 1)
    show 0 ≤ bx l i + 256 * (bx l (i + 1) + 256 * 0) ∧ bx l i + 256 * (bx l (i + 1) + 256 * 0) ≤ 4294967295
    omega
  | 3, i, _ => by
    have := bx_bound l i
    have := bx_bound l (i + 1)
    have := bx_bound l (i + 1 + 1)
    show 0 ≤ bx l i + 256 * (bx l (i + 1) + 256 * (bx l (i + 1 + 1) + 256 * 0)) ∧ bx l i + 256 * (bx l (i + 1) + 256 * (bx l (i + 1 + 1) + 256 * 0)) ≤ 4294967295
    omega
  | 4, i, _ => by
    have := bx_bound l i
    have := bx_bound l (i + 1)
    have := bx_bound l (i + 1 + 1)
    have := bx_bound l (i + 1 + 1 + 1)
    show 0 ≤ bx l i + 256 * (bx l (i + 1) + 256 * (bx l (i + 1 + 1) + 256 * (bx l (i + 1 + 1 + 1) + 256 * 0))) ∧ bx l i + 256 * (bx l (i + 1) + 256 * (bx l (i + 1 + 1) + 256 * (bx l (i + 1 + 1 + 1) + 256 * 0))) ≤ 4294967295
    omega
  | c + 5, _, h => by omega
end L
section
variable {P : Program} {o : Oper} {a : Act} {w0 w : World} {rs : List Res} {Q : Exit → Act → World → Prop} {K : Act → World → Prop}
theorem run_char {t : TypeId} {k : IntKind} {l : List UInt8} {j : Nat} (ht : P.underlying t = some .string) (hj : j < l.length) : (Instr.index t (.string ⟨l.toArray⟩) (.int k (j : Int))).run P w = .ok (.int .u8 (L.bx l j)) w := by
  rw [run_index_string w t _ k _ ht, dif_pos ⟨by omega, by show (j : Int) < ((l.toArray.size : Nat) : Int); simp; omega⟩]
  unfold L.bx
  rw [List.getElem?_eq_getElem hj]
  rfl
theorem ow_char {t : TypeId} {x y : Operand} {k : IntKind} {l : List UInt8} {iv : Int} (j : Nat) (ho : o.op = .index t x y) (ht : P.underlying t = some .string) (hx : a.eval x = .string ⟨l.toArray⟩) (hy : a.eval y = .int k iv) (hi : iv = (j : Int)) (hj : j < l.length)
    (h : K (a.put o.dst (.int .u8 (L.bx l j))) w) : OW P o a w K Q := by
  subst hi
  refine OW.mk (wp_value ?_ h)
  simp [execOp, ho, hx, hy, run_char (P := P) (k := k) ht hj]
end
set_option maxHeartbeats 2000000 in
theorem Little_any (n : Int) (c : Nat) (w : World) (h0 : 0 ≤ n) (h1 : n ≤ 1099511627776) (hc0 : 1 ≤ c) (hc : c ≤ 8) :
    Calls Tryd.prog 68 #[.int .i64 n, .int .i64 (c : Int)] w fun e w' => e = .returned (L.strOf (L.little c n)) ∧ Below w.heap.size w w' := by
  have st := St.start w
  go_enter Tryd.func68, Tryd.ntmps68
  go_wp2_with (refine WL.out ?_; (repeat (fail)); (try refine WL.nil ?_))
  go_loopw [0, 5, 6] (fun x v i wr => ∃ (k : Nat) (A' : Option Addr) (m c' : Nat), k ≤ c ∧ i = .int .i64 k ∧ x = .int .i64 (L.dv k n) ∧ v = .slice A' m c' ∧ St w wr [byteRow (.slice A' m c') m (L.little k n)]) (fun _ _ i _ => c - (intOf i).toNat)
  case atStart => exact ⟨0, none, 0, 0, by omega, rfl, rfl, rfl, st.nilRow _ _⟩
  case round =>
    clear st
    obtain ⟨k, A', m, c', hk, rfl, rfl, rfl, st⟩ := hrel
    have hm : m ≤ 8 := by have := byteRow_len st (i := 0) rfl; rw [L.little_len] at this; omega
    have hd := L.dv_bound k h0 h1
    have hd0 := hd.1
    have hd1 := hd.2
    clear hd
    by_cases hlt : k < c
    · have hs' := Lib.hid (L.little_snoc k n)
      have hdv : Hid (L.dv (k + 1) n = L.dv k n / 256) := Lib.hid rfl
      go_wp2_with (refine WL.out ?_; (repeat ((refine WL.op ?_ ?_; (exact rfl); intro K hK; (first | ((((with_reducible apply ow_assign); exact rfl)); (go_simp <;> (try simp (disch := omega) only [wrap_id, sub_left, zac]) <;> rfl)) | ((((with_reducible apply ow_newSlice st); exact rfl; (go_simp <;> (try simp (disch := omega) only [wrap_id, sub_left, zac]) <;> rfl); exact rfl)); (try clear st); intro b w' st) | ((with_reducible apply ow_append 1 st); exact rfl; exact inferInstance; exact rfl; exact rfl; exact rfl; exact st.rdBox (i := 0) (n := 1) (size := 1) rfl rfl; (focus ((simp [Value.oneCell']; done))); (focus (unfold maxLen; omega)); (focus omega); (try clear st); intro A' c' w' st; (try simp only [List.set_cons_zero, List.set_cons_succ, Nat.zero_add, List.nil_append] at st)) | ((with_reducible apply ow_eval); (go_simp <;> (try simp (disch := omega) only [wrap_id, sub_left, zac]) <;> rfl); ((with_reducible apply up_value)))); refine WL.next hK (by simp only [Act.put, zpt, zsz, zss]; exact rfl) ?_; clear hK K))); (try refine WL.nil ?_))
      rw [Int.tmod_eq_emod_of_nonneg hd0, L.byt_one, ← L.byt_append, ← hs'.out] at st
      exact ⟨⟨k + 1, A', m + 1, c', by omega, by go_num, by rw [hdv.out, Int.tdiv_eq_ediv_of_nonneg hd0, wrap_id (by omega) (by omega)], rfl, st.tail⟩, by simp [intOf]; omega⟩
    · obtain rfl : k = c := by omega
      have hm0 : 0 < m := by have := byteRow_len st (i := 0) rfl; rw [L.little_len] at this; omega
      go_wp2_with (refine WL.out ?_; (repeat ((refine WL.op ?_ ?_; (exact rfl); intro K hK; (first | ((((with_reducible apply ow_assign); exact rfl)); (go_simp <;> (try simp (disch := omega) only [wrap_id, sub_left, zac]) <;> rfl)) | ((with_reducible apply ow_string 0 st); exact rfl; exact rfl; exact rfl; exact hm0) | ((with_reducible apply ow_eval); (go_simp <;> (try simp (disch := omega) only [wrap_id, sub_left, zac]) <;> rfl); ((with_reducible apply up_value)))); refine WL.next hK (by simp only [Act.put, zpt, zsz, zss]; exact rfl) ?_; clear hK K))); (try refine WL.nil ?_))
      go_ret
      exact ⟨rfl, st.below⟩
set_option maxHeartbeats 2000000 in
theorem LittleAt_any (l : List UInt8) (p c : Nat) (w : World) (hl : l.length ≤ 100000) (hp : p + c ≤ l.length) (hc0 : 1 ≤ c) (hc : c ≤ 4) :
    Calls Tryd.prog 66 #[.string ⟨l.toArray⟩, .int .i64 (p : Int), .int .i64 (c : Int)] w fun e w' => e = .returned (.int .i64 (L.lev l p c)) ∧ Below w.heap.size w w' := by
  have st := St.start w
  have hp2 : p ≤ 100000 := by omega
  obtain ⟨d, rfl⟩ : ∃ d, c = d + 1 := ⟨c - 1, by omega⟩
  go_enter Tryd.func66, Tryd.ntmps66
  go_wp2_with (refine WL.out ?_; (repeat ((refine WL.op ?_ ?_; (exact rfl); intro K hK; (first | ((((with_reducible apply ow_assign); exact rfl)); (go_simp <;> (try simp (disch := omega) only [wrap_id, sub_left, zac]) <;> rfl)) | ((with_reducible apply ow_eval); (go_simp <;> (try simp (disch := omega) only [wrap_id, sub_left, zac]) <;> rfl); ((with_reducible apply up_value)))); refine WL.next hK (by simp only [Act.put, zpt, zsz, zss]; exact rfl) ?_; clear hK K))); (try refine WL.nil ?_))
  go_loopw [7, 8] (fun x i wr => ∃ k : Nat, k ≤ d + 1 ∧ i = .int .i64 ((k : Int) - 1) ∧ x = .int .i64 (L.lev l (p + k) (d + 1 - k)) ∧ St w wr []) (fun _ i _ => ((intOf i) + 1).toNat)
  case atStart => exact ⟨d + 1, by omega, by go_num, by rw [show d + 1 - (d + 1) = 0 by omega]; rfl, st⟩
  case round =>
    clear st
    obtain ⟨k, hk, rfl, rfl, st⟩ := hrel
    have hb := L.lev_bound l (d + 1 - k) (p + k) (by omega)
    rcases Nat.eq_zero_or_pos k with hk0 | hk0
    · subst hk0
      go_wp2_with (refine WL.out ?_; (repeat ((refine WL.op ?_ ?_; (exact rfl); intro K hK; (((with_reducible apply ow_eval); (go_simp <;> (try simp (disch := omega) only [wrap_id, sub_left, zac]) <;> rfl); ((with_reducible apply up_value)))); refine WL.next hK (by simp only [Act.put, zpt, zsz, zss]; exact rfl) ?_; clear hK K))); (try refine WL.nil ?_))
      go_ret
      exact ⟨rfl, st.below⟩
    · obtain ⟨j, rfl⟩ : ∃ j, k = j + 1 := ⟨k - 1, by omega⟩
      have hx := L.bx_bound l (p + j)
      have hst : Hid (L.lev l (p + j) (d + 1 - j) = L.bx l (p + j) + 256 * L.lev l (p + (j + 1)) (d + 1 - (j + 1))) := Lib.hid (by rw [show d + 1 - j = (d + 1 - (j + 1)) + 1 by omega]; rfl)
      generalize hV : L.lev l (p + (j + 1)) (d + 1 - (j + 1)) = V at hb hst ⊢
      generalize hX : L.bx l (p + j) = X at hx hst
      have HX := Lib.hid hX
      clear hV hX
      have hb0 := hb.1
      have hb1 := hb.2
      have hx0 := hx.1
      have hx1 := hx.2
      clear hb hx
      have hch : ∀ W : World, (Instr.index 9 (.string ⟨l.toArray⟩) (.int .i64 ((p : Int) + (j : Int)))).run Tryd.prog W = .ok (.int .u8 X) W := fun W => by
        have := run_char (P := Tryd.prog) (w := W) (t := 9) (k := .i64) (l := l) (j := p + j) Tryd.underlying9 (by omega)
        rw [HX.out] at this
        rw [← this]
        congr 3
      go_wp2_with (refine WL.out ?_; (repeat ((refine WL.op ?_ ?_; (exact rfl); intro K hK; (first | ((first | ((with_reducible apply ow_move); exact rfl) | ((with_reducible apply ow_assign); exact rfl)); (go_simp <;> (try simp (disch := omega) only [wrap_id, sub_left, zac]) <;> rfl)) | ((with_reducible apply ow_eval); (go_simp <;> (try simp (disch := omega) only [wrap_id, sub_left, zac]) <;> rfl); ((with_reducible apply up_value)))); refine WL.next hK (by simp only [Act.put, zpt, zsz, zss]; exact rfl) ?_; clear hK K))); (try refine WL.nil ?_))
      exact ⟨⟨j, by omega, rfl, by rw [hst.out]; congr 1; omega, st⟩, by simp [intOf]⟩
end Go.Proofs.YtppjhccdgbheiaaDoor
namespace Go.Proofs.YtppjhccdgbheiaaDoor
open Go.RowKit Go.Hp
namespace L
def rBelow (dir : Bool) (o g : Int) (p : Bool) (own above : List Ace) : List Ace := explicit own ++ if p then [] else rInherited dir o g above
def rChild (above own : Desc) (dir : Bool) : Desc × Bool :=
  if (rBelow dir own.o own.g own.p own.e above.e).length ≤ 16 ∧ (rBelow dir own.o own.g own.p own.a above.a).length ≤ 16 then
    (⟨own.o, own.g, own.p, own.h || (above.h && !own.p), canon (rBelow dir own.o own.g own.p own.e above.e), canon (rBelow dir own.o own.g own.p own.a above.a)⟩, true)
  else (Desc.none, false)
theorem explicit_FOk {l : List Ace} (h : Good l) : ∀ a ∈ explicit l, 0 ≤ a.f ∧ a.f ≤ 31 := fun a ha => ⟨(h a (List.mem_filter.1 ha).1).f0, (h a (List.mem_filter.1 ha).1).f1⟩
theorem onOf_bounds (fi di sp : Bool) : 0 ≤ onOf fi di sp ∧ onOf fi di sp ≤ 3 := by
  cases fi <;> cases di <;> cases sp <;> decide
theorem inh1_FOk (dir fi di sp : Bool) (who : Int) (a : Ace) : ∀ x ∈ inh1 dir fi di sp who a, 0 ≤ x.f ∧ x.f ≤ 31 := by
  intro x hx
  have hb := onOf_bounds fi true sp
  cases dir <;> cases di <;> simp only [inh1] at hx
  · split at hx
    · rw [List.mem_singleton.1 hx]; exact ⟨by show (0 : Int) ≤ 16; decide, by show (16 : Int) ≤ 31; decide⟩
    · cases hx
  · split at hx
    · rw [List.mem_singleton.1 hx]; exact ⟨by show (0 : Int) ≤ 16; decide, by show (16 : Int) ≤ 31; decide⟩
    · cases hx
  · split at hx
    · rw [List.mem_singleton.1 hx]; exact ⟨by show (0 : Int) ≤ 25; decide, by show (25 : Int) ≤ 31; decide⟩
    · cases hx
  · split at hx
    · rw [List.mem_singleton.1 hx]; exact ⟨by show (0 : Int) ≤ 16 + onOf fi true sp; omega, by show 16 + onOf fi true sp ≤ (31 : Int); omega⟩
    · rcases List.mem_cons.1 hx with rfl | hx
      · exact ⟨by show (0 : Int) ≤ 16; decide, by show (16 : Int) ≤ 31; decide⟩
      · rw [List.mem_singleton.1 hx]; exact ⟨by show (0 : Int) ≤ 16 + onOf fi true sp + 8; omega, by show 16 + onOf fi true sp + 8 ≤ (31 : Int); omega⟩
theorem rBelow_FOk (dir : Bool) (o g : Int) (p : Bool) {own above : List Ace} (h : Good own) : ∀ a ∈ rBelow dir o g p own above, 0 ≤ a.f ∧ a.f ≤ 31 := by
  intro a ha
  unfold rBelow at ha
  rcases List.mem_append.1 ha with ha | ha
  · exact explicit_FOk h a ha
  · split at ha
    · cases ha
    · obtain ⟨b, _, hx⟩ := List.mem_flatMap.1 ha
      exact inh1_FOk _ _ _ _ _ _ a hx
end L
def RetDescOk (w : World) (p : L.Desc × Bool) (e : Ending) (w' : World) : Prop := ∃ A1 n1 c1 A2 n2 c2, e = .returned (.tuple #[.agg #[.int .i64 p.1.o, .int .i64 p.1.g, .bool p.1.p, .bool p.1.h, .slice A1 n1 c1, .slice A2 n2 c2], .bool p.2]) ∧ St w w' [aceRow (.slice A1 n1 c1) n1 p.1.e, aceRow (.slice A2 n2 c2) n2 p.1.a]
set_option maxRecDepth 8000 in
set_option maxHeartbeats 4000000 in
theorem rChild_true (o g : Int) (h : Bool) (le la : List L.Ace) (o' g' : Int) (p' h' : Bool) (le' la' : List L.Ace) (dir : Bool) (A1 A2 A1' A2' : Option Addr) (n1 n2 n1' n2' c1 c2 c1' c2' B : Nat) (w : World)
    (h1 : Aces w B A1 n1 le) (h2 : Aces w B A2 n2 la) (h1' : Aces w B A1' n1' le') (h2' : Aces w B A2' n2' la') (hB1 : B ≤ w.heap.size) (hn1 : n1 ≤ 20) (hn2 : n2 ≤ 20) (hn1' : n1' ≤ 20) (hn2' : n2' ≤ 20) (hg1 : L.Good le) (hg2 : L.Good la) (hg1' : L.Good le') (hg2' : L.Good la') :
    Calls Tryd.prog 24 #[.agg #[.int .i64 o', .int .i64 g', .bool p', .bool h', .slice A1' n1' c1', .slice A2' n2' c2'], .agg #[.int .i64 o, .int .i64 g, .bool true, .bool h, .slice A1 n1 c1, .slice A2 n2 c2], .bool dir] w
      (RetDescOk w (L.rChild ⟨o', g', p', h', le', la'⟩ ⟨o, g, true, h, le, la⟩ dir)) := by
  have H1 := Lib.hid h1
  have H2 := Lib.hid h2
  have H1' := Lib.hid h1'
  have H2' := Lib.hid h2'
  have HG1 := Lib.hid hg1
  have HG2 := Lib.hid hg2
  have HG1' := Lib.hid hg1'
  have HG2' := Lib.hid hg2'
  clear h1 h2 h1' h2' hg1 hg2 hg1' hg2'
  have st := St.start w
  have eE := Lib.hid (rfl : L.rBelow dir o g true le le' = L.rBelow dir o g true le le')
  generalize hX : L.rBelow dir o g true le le' = X at eE
  generalize hY : L.rBelow dir o g true la la' = Y at eE
  replace hX := Lib.hid hX
  replace hY := Lib.hid hY
  have hR : Hid (L.rChild ⟨o', g', p', h', le', la'⟩ ⟨o, g, true, h, le, la⟩ dir = if X.length ≤ 16 ∧ Y.length ≤ 16 then (⟨o, g, true, h || (h' && !true), L.canon X, L.canon Y⟩, true) else (L.Desc.none, false)) := Lib.hid (by rw [← hX.out, ← hY.out]; rfl)
  clear eE
  have eX : X = L.explicit le := by rw [← hX.out]; unfold L.rBelow; simp
  have eY : Y = L.explicit la := by rw [← hY.out]; unfold L.rBelow; simp
  subst eX eY
  rcases (show h = true ∨ (h = false ∧ h' = false) ∨ (h = false ∧ h' = true) by cases h <;> cases h' <;> simp) with rfl | ⟨rfl, rfl⟩ | ⟨rfl, rfl⟩
  all_goals
    go_enter Tryd.func24, Tryd.ntmps24
    go_wp2_with (refine WL.out ?_; (repeat (first | (refine WL.op ?_ ?_; (exact rfl); intro K hK; (first | ((first | ((with_reducible apply ow_move); exact rfl) | ((with_reducible apply ow_assign); exact rfl)); (go_simp <;> (try simp (disch := omega) only [wrap_id, sub_left, zac]) <;> rfl)) | ((((with_reducible apply ow_load1 st); exact rfl; exact inferInstance; exact rfl; (first | exact get1 | exact get2 | exact get3))); exact rfl) | ((first | ((with_reducible apply ow_box st); exact rfl; (go_simp <;> (try simp (disch := omega) only [wrap_id, sub_left, zac]) <;> rfl); (go_simp <;> (try simp (disch := omega) only [wrap_id, sub_left, zac]) <;> rfl)) | ((with_reducible apply ow_alloc st); exact rfl; exact inferInstance; (go_simp <;> (try simp (disch := omega) only [wrap_id, sub_left, zac]) <;> rfl))); (try clear st); intro b w' st) | ((first | ((with_reducible apply ow_store1' st); exact rfl; exact inferInstance; exact rfl; (exact get0); (go_simp <;> (try simp (disch := omega) only [wrap_id, sub_left, zac]) <;> rfl)) | ((with_reducible apply ow_storeN' st); exact rfl; exact inferInstance; exact rfl; (exact get0); exact rfl)); exact rfl; exact rfl; (simp <;> done); ((try simp only [zta, ztz, zda, zdz, zca, zcn, zan, zsz, zss]) <;> exact rfl); (try clear st); intro w' st) | ((with_reducible apply ow_eval); (go_simp <;> (try simp (disch := omega) only [wrap_id, sub_left, zac]) <;> rfl); ((with_reducible apply up_value)))); refine WL.next hK (by simp only [Act.put, zpt, zsz, zss]; exact rfl) ?_; clear hK K) | (refine WL.skip ?_ (by simp only [Act.put, zpt, zsz, zss]; exact rfl) ?_; (exact rfl)))); (try refine WL.nil ?_))
    refine wp_region_plan 6 (by kernel_rfl) (by kernel_rfl) ?_; replace st := st.drew; generalize World.drew _ = W at st ⊢
    iterate 2 (apply Plan.val'; (focus (intro x0 x1 x2 x3 x4 x5 w1 hb; (try simp only [depF, fillA, Act.put, zta, ztz, zpt, zsz, zss, zl0, zls]); (repeat (rintro rfl)); have st := st.call hb; (first | (apply Yphi.run; (exact rfl); (go_simp <;> (try simp (disch := omega) only [wrap_id, sub_left, zac]) <;> rfl); exact rfl) | (apply Yphi.load1 st; exact rfl; exact inferInstance; (exact rfl); exact rfl; (exact get2); exact rfl)))); (simp only [zca, zcn] <;> exact rfl))
    (apply Plan.fact' (freshRow 23 4 (L.cellsOf (L.explicit le))) (freshRow_stable _ _ _); (focus (intro x0 x1 x2 x3 x4 x5 w1 hb; (try simp only [depF, fillA, Act.put, zta, ztz, zpt, zsz, zss, zl0, zls]); (repeat (rintro rfl)); have st := st.call hb; apply Yphi.call; (exact rfl); (go_simp <;> (try simp (disch := omega) only [wrap_id, sub_left, zac]) <;> rfl); exact rfl; refine (explicit_any A1 n1 c1 B le _ (H1.out.st st hB1) (by have := st.size; omega) (by omega) HG1.out).mono ?_; rintro e w' ⟨A', n', c', rfl, st'⟩; exact ⟨_, rfl, st'.below, freshRow_mk (st'.get (i := 0) rfl)⟩)); (simp only [zca, zcn] <;> exact rfl))
    iterate 2 (apply Plan.val'; (focus (intro x0 x1 x2 x3 x4 x5 w1 hb; (try simp only [depF, fillA, Act.put, zta, ztz, zpt, zsz, zss, zl0, zls]); (repeat (rintro rfl)); have st := st.call hb; (first | (apply Yphi.run; (exact rfl); (go_simp <;> (try simp (disch := omega) only [wrap_id, sub_left, zac]) <;> rfl); exact rfl) | (apply Yphi.load1 st; exact rfl; exact inferInstance; (exact rfl); exact rfl; (exact get2); exact rfl)))); (simp only [zca, zcn] <;> exact rfl))
    (apply Plan.fact' (freshRow 23 4 (L.cellsOf (L.explicit la))) (freshRow_stable _ _ _); (focus (intro x0 x1 x2 x3 x4 x5 w1 hb; (try simp only [depF, fillA, Act.put, zta, ztz, zpt, zsz, zss, zl0, zls]); (repeat (first | rintro rfl | intro lo hi hlo hhi hphi)); have st := st.call hb; apply Yphi.call; (exact rfl); (go_simp <;> (try simp (disch := omega) only [wrap_id, sub_left, zac]) <;> rfl); exact rfl; refine (explicit_any A2 n2 c2 B la _ (H2.out.st st hB1) (by have := st.size; omega) (by omega) HG2.out).mono ?_; rintro e w' ⟨A', n', c', rfl, st'⟩; exact ⟨_, rfl, st'.below, freshRow_mk (st'.get (i := 0) rfl)⟩)); (simp only [zca, zcn] <;> exact rfl))
    intro x0 x1 x2 x3 x4 x5 lo hi w1 hb hap
    rintro rfl rfl hl1 _ ⟨A3, n3, c3, rfl, ho1, hk1⟩ rfl rfl hl2 _ ⟨A4, n4, c4, rfl, ho2, hk2⟩
    simp only [allPhi, fillA, Act.put, zta, ztz, zpt, zsz, zss, zda, zdz]
    have st := rows_two st hb ho1 hk1 hl1 ho2 hk2 hl2 (hap 2 5 (by omega) (by omega) (by omega))
    clear ho1 hk1 hl1 ho2 hk2 hl2 hap hb
    have a1 := Lib.hid (St.len st (i := 0) rfl)
    have a2 := Lib.hid (St.len st (i := 1) rfl)
    by_cases h3 : (n3 : Int) ≤ 16
    · by_cases h4 : (n4 : Int) ≤ 16
      · go_wp2_with (refine WL.out ?_; (repeat ((refine WL.op ?_ ?_; (first | exact rfl | (simp [Region.wanted, yielded, *] <;> done)); intro K hK; (first | ((first | ((with_reducible apply ow_move); exact rfl) | ((with_reducible apply ow_assign); exact rfl)); (go_simp <;> (try simp (disch := omega) only [wrap_id, sub_left, zac]) <;> rfl)) | ((first | ((with_reducible apply ow_load1 st); exact rfl; exact inferInstance; exact rfl; (exact get4)) | ((with_reducible apply ow_loadN st); exact rfl; exact inferInstance; exact rfl; (exact get4); ((try simp only [zta, ztz, zda, zdz, zca, zcn, zan, zsz, zss]) <;> exact rfl))); exact rfl) | ((first | ((with_reducible apply ow_store1' st); exact rfl; exact inferInstance; exact rfl; (exact get4); (go_simp <;> (try simp (disch := omega) only [wrap_id, sub_left, zac]) <;> rfl)) | ((with_reducible apply ow_storeN' st); exact rfl; exact inferInstance; exact rfl; (exact get5); exact rfl)); exact rfl; exact rfl; (simp <;> done); ((try simp only [zta, ztz, zda, zdz, zca, zcn, zan, zsz, zss]) <;> exact rfl); (try clear st); intro w' st) | ((with_reducible apply ow_eval); (go_simp <;> (try simp (disch := omega) only [wrap_id, sub_left, zac]) <;> rfl); first | (with_reducible apply up_value) | ((with_reducible apply up_enter); first | (go_at_call 29; refine (rCanonical_any _ _ _ _ (L.explicit le) _ (St.aces st (i := 0) rfl) (Nat.le_refl _) (by omega) (L.explicit_FOk HG1.out)).mono ?_; rintro e w' ⟨A5, n5, c5, rfl, st'⟩; replace st := st.join st'; clear st'; simp only [List.cons_append, List.nil_append] at st; refine ⟨_, rfl, ?_⟩) | (go_at_call 29; refine (rCanonical_any _ _ _ _ (L.explicit la) _ (St.aces st (i := 2) rfl) (Nat.le_refl _) (by omega) (L.explicit_FOk HG2.out)).mono ?_; rintro e w' ⟨A6, n6, c6, rfl, st'⟩; replace st := st.join st'; clear st'; simp only [List.cons_append, List.nil_append] at st; refine ⟨_, rfl, ?_⟩)))); refine WL.next hK (by simp only [Act.put, zpt, zsz, zss]; exact rfl) ?_; clear hK K))); (try refine WL.nil ?_))
        refine bodyPost_cell_tmp 5 st rfl inferInstance rfl rfl rfl rfl rfl ?_
        rw [hR.out, if_pos ⟨by have := a1.out; omega, by have := a2.out; omega⟩]
        exact ⟨_, _, _, _, _, _, rfl, st.swap.sub (.cons_cons _ (.cons_cons _ (List.nil_sublist _)))⟩
      · go_wp2_with (refine WL.out ?_; (repeat ((refine WL.op ?_ ?_; (first | exact rfl | (simp [Region.wanted, yielded, *] <;> done)); intro K hK; (first | ((first | ((with_reducible apply ow_move); exact rfl) | ((with_reducible apply ow_assign); exact rfl)); (go_simp <;> (try simp (disch := omega) only [wrap_id, sub_left, zac]) <;> rfl)) | ((((with_reducible apply ow_load1 st); exact rfl; exact inferInstance; exact rfl; (exact get4))); exact rfl) | ((((with_reducible apply ow_storeN' st); exact rfl; exact inferInstance; exact rfl; (exact get3); exact rfl)); exact rfl; exact rfl; (simp <;> done); ((try simp only [zta, ztz, zda, zdz, zca, zcn, zan, zsz, zss]) <;> exact rfl); (try clear st); intro w' st) | ((with_reducible apply ow_eval); (go_simp <;> (try simp (disch := omega) only [wrap_id, sub_left, zac]) <;> rfl); ((with_reducible apply up_value)))); refine WL.next hK (by simp only [Act.put, zpt, zsz, zss]; exact rfl) ?_; clear hK K))); (try refine WL.nil ?_))
        refine bodyPost_cell_tmp 3 st rfl inferInstance rfl rfl rfl rfl rfl ?_
        rw [hR.out, if_neg (by have := a2.out; omega)]
        exact ⟨none, 0, 0, none, 0, 0, rfl, ((st.sub (List.nil_sublist _)).nilRow _ _).nilRow _ _⟩
    · go_wp2_with (refine WL.out ?_; (repeat (first | (refine WL.op ?_ ?_; (exact rfl); intro K hK; (first | ((first | ((with_reducible apply ow_move); exact rfl) | ((with_reducible apply ow_assign); exact rfl)); (go_simp <;> (try simp (disch := omega) only [wrap_id, sub_left, zac]) <;> rfl)) | ((((with_reducible apply ow_load1 st); exact rfl; exact inferInstance; exact rfl; (exact get4))); exact rfl) | ((((with_reducible apply ow_storeN' st); exact rfl; exact inferInstance; exact rfl; (exact get3); exact rfl)); exact rfl; exact rfl; (simp <;> done); ((try simp only [zta, ztz, zda, zdz, zca, zcn, zan, zsz, zss]) <;> exact rfl); (try clear st); intro w' st) | ((with_reducible apply ow_eval); (go_simp <;> (try simp (disch := omega) only [wrap_id, sub_left, zac]) <;> rfl); ((with_reducible apply up_value)))); refine WL.next hK (by simp only [Act.put, zpt, zsz, zss]; exact rfl) ?_; clear hK K) | (refine WL.skip ?_ (by simp only [Act.put, zpt, zsz, zss]; exact rfl) ?_; ((simp [Region.wanted, yielded] <;> omega))))); (try refine WL.nil ?_))
      refine bodyPost_cell_tmp 3 st rfl inferInstance rfl rfl rfl rfl rfl ?_
      rw [hR.out, if_neg (by have := a1.out; omega)]
      exact ⟨none, 0, 0, none, 0, 0, rfl, ((st.sub (List.nil_sublist _)).nilRow _ _).nilRow _ _⟩
set_option maxRecDepth 8000 in
set_option maxHeartbeats 4000000 in
theorem rChild_false (o g : Int) (h : Bool) (le la : List L.Ace) (o' g' : Int) (p' h' : Bool) (le' la' : List L.Ace) (dir : Bool) (A1 A2 A1' A2' : Option Addr) (n1 n2 n1' n2' c1 c2 c1' c2' B : Nat) (w : World)
    (h1 : Aces w B A1 n1 le) (h2 : Aces w B A2 n2 la) (h1' : Aces w B A1' n1' le') (h2' : Aces w B A2' n2' la') (hB1 : B ≤ w.heap.size) (hn1 : n1 ≤ 20) (hn2 : n2 ≤ 20) (hn1' : n1' ≤ 20) (hn2' : n2' ≤ 20) (hg1 : L.Good le) (hg2 : L.Good la) (hg1' : L.Good le') (hg2' : L.Good la') :
    Calls Tryd.prog 24 #[.agg #[.int .i64 o', .int .i64 g', .bool p', .bool h', .slice A1' n1' c1', .slice A2' n2' c2'], .agg #[.int .i64 o, .int .i64 g, .bool false, .bool h, .slice A1 n1 c1, .slice A2 n2 c2], .bool dir] w
      (RetDescOk w (L.rChild ⟨o', g', p', h', le', la'⟩ ⟨o, g, false, h, le, la⟩ dir)) := by
  have H1 := Lib.hid h1
  have H2 := Lib.hid h2
  have H1' := Lib.hid h1'
  have H2' := Lib.hid h2'
  have HG1 := Lib.hid hg1
  have HG2 := Lib.hid hg2
  have HG1' := Lib.hid hg1'
  have HG2' := Lib.hid hg2'
  clear h1 h2 h1' h2' hg1 hg2 hg1' hg2'
  have st := St.start w
  have eE := Lib.hid (rfl : L.rBelow dir o g false le le' = L.rBelow dir o g false le le')
  generalize hX : L.rBelow dir o g false le le' = X at eE
  generalize hY : L.rBelow dir o g false la la' = Y at eE
  replace hX := Lib.hid hX
  replace hY := Lib.hid hY
  have hR : Hid (L.rChild ⟨o', g', p', h', le', la'⟩ ⟨o, g, false, h, le, la⟩ dir = if X.length ≤ 16 ∧ Y.length ≤ 16 then (⟨o, g, false, h || (h' && !false), L.canon X, L.canon Y⟩, true) else (L.Desc.none, false)) := Lib.hid (by rw [← hX.out, ← hY.out]; rfl)
  clear eE
  have eX : X = L.explicit le ++ L.rInherited dir o g le' := by rw [← hX.out]; unfold L.rBelow; simp
  have eY : Y = L.explicit la ++ L.rInherited dir o g la' := by rw [← hY.out]; unfold L.rBelow; simp
  rcases (show h = true ∨ (h = false ∧ h' = false) ∨ (h = false ∧ h' = true) by cases h <;> cases h' <;> simp) with rfl | ⟨rfl, rfl⟩ | ⟨rfl, rfl⟩
  all_goals
    go_enter Tryd.func24, Tryd.ntmps24
    go_wp2_with (refine WL.out ?_; (repeat (first | (refine WL.op ?_ ?_; (exact rfl); intro K hK; (first | ((first | ((with_reducible apply ow_move); exact rfl) | ((with_reducible apply ow_assign); exact rfl)); (go_simp <;> (try simp (disch := omega) only [wrap_id, sub_left, zac]) <;> rfl)) | ((((with_reducible apply ow_load1 st); exact rfl; exact inferInstance; exact rfl; (first | exact get1 | exact get2 | exact get3))); exact rfl) | ((first | ((with_reducible apply ow_box st); exact rfl; (go_simp <;> (try simp (disch := omega) only [wrap_id, sub_left, zac]) <;> rfl); (go_simp <;> (try simp (disch := omega) only [wrap_id, sub_left, zac]) <;> rfl)) | ((with_reducible apply ow_alloc st); exact rfl; exact inferInstance; (go_simp <;> (try simp (disch := omega) only [wrap_id, sub_left, zac]) <;> rfl))); (try clear st); intro b w' st) | ((first | ((with_reducible apply ow_store1' st); exact rfl; exact inferInstance; exact rfl; (exact get0); (go_simp <;> (try simp (disch := omega) only [wrap_id, sub_left, zac]) <;> rfl)) | ((with_reducible apply ow_storeN' st); exact rfl; exact inferInstance; exact rfl; (exact get0); exact rfl)); exact rfl; exact rfl; (simp <;> done); ((try simp only [zta, ztz, zda, zdz, zca, zcn, zan, zsz, zss]) <;> exact rfl); (try clear st); intro w' st) | ((with_reducible apply ow_eval); (go_simp <;> (try simp (disch := omega) only [wrap_id, sub_left, zac]) <;> rfl); ((with_reducible apply up_value)))); refine WL.next hK (by simp only [Act.put, zpt, zsz, zss]; exact rfl) ?_; clear hK K) | (refine WL.skip ?_ (by simp only [Act.put, zpt, zsz, zss]; exact rfl) ?_; (exact rfl)))); (try refine WL.nil ?_))
    refine wp_region_plan 6 (by kernel_rfl) (by kernel_rfl) ?_; replace st := st.drew; generalize World.drew _ = W at st ⊢
    iterate 2 (apply Plan.val'; (focus (intro x0 x1 x2 x3 x4 x5 w1 hb; (try simp only [depF, fillA, Act.put, zta, ztz, zpt, zsz, zss, zl0, zls]); (repeat (rintro rfl)); have st := st.call hb; (first | (apply Yphi.run; (exact rfl); (go_simp <;> (try simp (disch := omega) only [wrap_id, sub_left, zac]) <;> rfl); exact rfl) | (apply Yphi.load1 st; exact rfl; exact inferInstance; (exact rfl); exact rfl; (exact get2); exact rfl)))); (simp only [zca, zcn] <;> exact rfl))
    (apply Plan.fact' (freshRow 23 4 (L.cellsOf (L.explicit le))) (freshRow_stable _ _ _); (focus (intro x0 x1 x2 x3 x4 x5 w1 hb; (try simp only [depF, fillA, Act.put, zta, ztz, zpt, zsz, zss, zl0, zls]); (repeat (rintro rfl)); have st := st.call hb; apply Yphi.call; (exact rfl); (go_simp <;> (try simp (disch := omega) only [wrap_id, sub_left, zac]) <;> rfl); exact rfl; refine (explicit_any A1 n1 c1 B le _ (H1.out.st st hB1) (by have := st.size; omega) (by omega) HG1.out).mono ?_; rintro e w' ⟨A', n', c', rfl, st'⟩; exact ⟨_, rfl, st'.below, freshRow_mk (st'.get (i := 0) rfl)⟩)); (simp only [zca, zcn] <;> exact rfl))
    iterate 2 (apply Plan.val'; (focus (intro x0 x1 x2 x3 x4 x5 w1 hb; (try simp only [depF, fillA, Act.put, zta, ztz, zpt, zsz, zss, zl0, zls]); (repeat (rintro rfl)); have st := st.call hb; (first | (apply Yphi.run; (exact rfl); (go_simp <;> (try simp (disch := omega) only [wrap_id, sub_left, zac]) <;> rfl); exact rfl) | (apply Yphi.load1 st; exact rfl; exact inferInstance; (exact rfl); exact rfl; (exact get2); exact rfl)))); (simp only [zca, zcn] <;> exact rfl))
    (apply Plan.fact' (freshRow 23 4 (L.cellsOf (L.explicit la))) (freshRow_stable _ _ _); (focus (intro x0 x1 x2 x3 x4 x5 w1 hb; (try simp only [depF, fillA, Act.put, zta, ztz, zpt, zsz, zss, zl0, zls]); (repeat (first | rintro rfl | intro lo hi hlo hhi hphi)); have st := st.call hb; apply Yphi.call; (exact rfl); (go_simp <;> (try simp (disch := omega) only [wrap_id, sub_left, zac]) <;> rfl); exact rfl; refine (explicit_any A2 n2 c2 B la _ (H2.out.st st hB1) (by have := st.size; omega) (by omega) HG2.out).mono ?_; rintro e w' ⟨A', n', c', rfl, st'⟩; exact ⟨_, rfl, st'.below, freshRow_mk (st'.get (i := 0) rfl)⟩)); (simp only [zca, zcn] <;> exact rfl))
    intro x0 x1 x2 x3 x4 x5 lo hi w1 hb hap
    rintro rfl rfl hl1 _ ⟨A3, n3, c3, rfl, ho1, hk1⟩ rfl rfl hl2 _ ⟨A4, n4, c4, rfl, ho2, hk2⟩
    simp only [allPhi, fillA, Act.put, zta, ztz, zpt, zsz, zss, zda, zdz]
    have st := rows_two st hb ho1 hk1 hl1 ho2 hk2 hl2 (hap 2 5 (by omega) (by omega) (by omega))
    clear ho1 hk1 hl1 ho2 hk2 hl2 hap hb
    have a1 := Lib.hid (St.len st (i := 0) rfl)
    have a2 := Lib.hid (St.len st (i := 1) rfl)
    have z1 : n3 ≤ 20 := by have h1 := a1.out; have h2 := List.length_filter_le (fun a : L.Ace => !L.has a.f 16) le; have h3 := H1.out.len; unfold L.explicit at h1; omega
    have z2 : n4 ≤ 20 := by have h1 := a2.out; have h2 := List.length_filter_le (fun a : L.Ace => !L.has a.f 16) la; have h3 := H2.out.len; unfold L.explicit at h1; omega
    have z3 := Lib.hid (L.rInherited_len dir o g le')
    have z4 := Lib.hid (L.rInherited_len dir o g la')
    have g3 := Lib.hid H1'.out.len
    have g4 := Lib.hid H2'.out.len
    go_wp2_with (refine WL.out ?_; (repeat ((refine WL.op ?_ ?_; (exact rfl); intro K hK; (first | ((first | ((with_reducible apply ow_move); exact rfl) | ((with_reducible apply ow_assign); exact rfl)); (go_simp <;> (try simp (disch := omega) only [wrap_id, sub_left, zac]) <;> rfl)) | ((((with_reducible apply ow_load1 st); exact rfl; exact inferInstance; exact rfl; (first | exact get4 | exact get5 | exact get6))); exact rfl) | ((with_reducible apply ow_append 1 st); exact rfl; exact inferInstance; exact rfl; exact rfl; exact rfl; exact st.rd (i := 0) rfl; (focus (exact cells_one _)); (focus (unfold maxLen; omega)); (focus omega); (try clear st); intro A' c' w' st; (try simp only [List.set_cons_zero, List.set_cons_succ, Nat.zero_add, List.nil_append] at st)) | ((with_reducible apply ow_append 3 st); exact rfl; exact inferInstance; exact rfl; exact rfl; exact rfl; exact st.rd (i := 0) rfl; (focus (exact cells_one _)); (focus (unfold maxLen; omega)); (focus omega); (try clear st); intro A' c' w' st; (try simp only [List.set_cons_zero, List.set_cons_succ, Nat.zero_add, List.nil_append] at st)) | ((with_reducible apply ow_eval); (go_simp <;> (try simp (disch := omega) only [wrap_id, sub_left, zac]) <;> rfl); first | (with_reducible apply up_value) | ((with_reducible apply up_enter); first | (go_at_call 19; (with_reducible refine (rInherited_any dir o g A1' n1' c1' B le' _ (H1'.out.st st hB1) ?_ ?_ ?_).mono ?_); exact Nat.le_trans hB1 st.size; omega; exact fun a ha => ⟨(HG1'.out a ha).f0, (HG1'.out a ha).f1⟩; rintro e w' ⟨A7, n7, c7, rfl, st'⟩; replace st := st.join st'; clear st'; simp only [List.cons_append, List.nil_append] at st; have a7 := Lib.hid (St.len st (i := 0) rfl); have b7 : n7 ≤ 40 := (by have := a7.out; have := z3.out; have := g3.out; omega); refine ⟨_, rfl, ?_⟩) | (go_at_call 19; (with_reducible refine (rInherited_any dir o g A2' n2' c2' B la' _ (H2'.out.st st hB1) ?_ ?_ ?_).mono ?_); exact Nat.le_trans hB1 st.size; omega; exact fun a ha => ⟨(HG2'.out a ha).f0, (HG2'.out a ha).f1⟩; rintro e w' ⟨A8, n8, c8, rfl, st'⟩; replace st := st.join st'; clear st'; simp only [List.cons_append, List.nil_append] at st; have a8 := Lib.hid (St.len st (i := 0) rfl); have b8 : n8 ≤ 40 := (by have := a8.out; have := z4.out; have := g4.out; omega); refine ⟨_, rfl, ?_⟩)))); refine WL.next hK (by simp only [Act.put, zpt, zsz, zss]; exact rfl) ?_; clear hK K))); (try refine WL.nil ?_))
    replace st := st.tail.tail
    rw [← L.cellsOf_append, ← L.cellsOf_append, ← eX, ← eY] at st
    have hFX : ∀ a ∈ X, 0 ≤ a.f ∧ a.f ≤ 31 := by rw [← hX.out]; exact L.rBelow_FOk dir o g false HG1.out
    have hFY : ∀ a ∈ Y, 0 ≤ a.f ∧ a.f ≤ 31 := by rw [← hY.out]; exact L.rBelow_FOk dir o g false HG2.out
    replace eX := Lib.hid eX
    replace eY := Lib.hid eY
    have hnx1 : n3 + n7 ≤ 60 := by omega
    have hny1 : n4 + n8 ≤ 60 := by omega
    have x1 := Lib.hid (St.len st (i := 0) (l := X) rfl)
    have y1 := Lib.hid (St.len st (i := 1) (l := Y) rfl)
    by_cases h3 : (n3 : Int) + (n7 : Int) ≤ 16
    · have h3' : ((16 : Int) < (n3 : Int) + (n7 : Int)) = False := by simp; omega
      by_cases h4 : (n4 : Int) + (n8 : Int) ≤ 16
      · have h4' : ((16 : Int) < (n4 : Int) + (n8 : Int)) = False := by simp; omega
        (repeat ((refine WL.op ?_ ?_; (first | exact rfl | (simp [Region.wanted, yielded, *] <;> done)); intro K hK; (first | ((((with_reducible apply ow_move); exact rfl)); (go_simp <;> (try simp (disch := omega) only [wrap_id, sub_left, zac]) <;> rfl)) | ((with_reducible apply ow_eval); (go_simp <;> (try simp (disch := omega) only [wrap_id, sub_left, zac]) <;> rfl); ((with_reducible apply up_value)))); refine WL.next hK (by simp only [Act.put, zpt, zsz, zss]; exact rfl) ?_; clear hK K)))
        (try refine WL.nil ?_)
        go_wp2_with (refine WL.out ?_; (repeat ((refine WL.op ?_ ?_; (exact rfl); intro K hK; (first | ((first | ((with_reducible apply ow_move); exact rfl) | ((with_reducible apply ow_assign); exact rfl)); (go_simp <;> (try simp (disch := omega) only [wrap_id, sub_left, zac]) <;> rfl)) | ((((with_reducible apply ow_loadN st); exact rfl; exact inferInstance; exact rfl; (exact get4); ((try simp only [zta, ztz, zda, zdz, zca, zcn, zan, zsz, zss]) <;> exact rfl))); exact rfl) | ((first | ((with_reducible apply ow_store1' st); exact rfl; exact inferInstance; exact rfl; (exact get4); (go_simp <;> (try simp (disch := omega) only [wrap_id, sub_left, zac]) <;> rfl)) | ((with_reducible apply ow_storeN' st); exact rfl; exact inferInstance; exact rfl; (exact get5); exact rfl)); exact rfl; exact rfl; (simp <;> done); ((try simp only [zta, ztz, zda, zdz, zca, zcn, zan, zsz, zss]) <;> exact rfl); (try clear st); intro w' st) | ((with_reducible apply ow_eval); (go_simp <;> (try simp (disch := omega) only [wrap_id, sub_left, zac]) <;> rfl); first | (with_reducible apply up_value) | ((with_reducible apply up_enter); first | (go_at_call 29; refine (rCanonical_any _ _ _ _ X _ (St.aces st (i := 0) rfl) (Nat.le_refl _) (by omega) hFX).mono ?_; rintro e w' ⟨A5, n5, c5, rfl, st'⟩; replace st := st.join st'; clear st'; simp only [List.cons_append, List.nil_append] at st; refine ⟨_, rfl, ?_⟩) | (go_at_call 29; refine (rCanonical_any _ _ _ _ Y _ (St.aces st (i := 2) rfl) (Nat.le_refl _) (by omega) hFY).mono ?_; rintro e w' ⟨A6, n6, c6, rfl, st'⟩; replace st := st.join st'; clear st'; simp only [List.cons_append, List.nil_append] at st; refine ⟨_, rfl, ?_⟩)))); refine WL.next hK (by simp only [Act.put, zpt, zsz, zss]; exact rfl) ?_; clear hK K))); (try refine WL.nil ?_))
        refine bodyPost_cell_tmp 5 st rfl inferInstance rfl rfl rfl rfl rfl ?_
        rw [hR.out, if_pos ⟨by have := x1.out; omega, by have := y1.out; omega⟩]
        exact ⟨_, _, _, _, _, _, rfl, st.swap.sub (.cons_cons _ (.cons_cons _ (List.nil_sublist _)))⟩
      · (repeat ((refine WL.op ?_ ?_; (first | exact rfl | (simp [Region.wanted, yielded, *] <;> done)); intro K hK; (first | ((((with_reducible apply ow_move); exact rfl)); (go_simp <;> (try simp (disch := omega) only [wrap_id, sub_left, zac]) <;> rfl)) | ((with_reducible apply ow_eval); (go_simp <;> (try simp (disch := omega) only [wrap_id, sub_left, zac]) <;> rfl); ((with_reducible apply up_value)))); refine WL.next hK (by simp only [Act.put, zpt, zsz, zss]; exact rfl) ?_; clear hK K)))
        (try refine WL.nil ?_)
        go_wp2_with (refine WL.out ?_; (repeat ((refine WL.op ?_ ?_; (exact rfl); intro K hK; (first | ((((with_reducible apply ow_assign); exact rfl)); (go_simp <;> (try simp (disch := omega) only [wrap_id, sub_left, zac]) <;> rfl)) | ((((with_reducible apply ow_storeN' st); exact rfl; exact inferInstance; exact rfl; (exact get3); exact rfl)); exact rfl; exact rfl; (simp <;> done); ((try simp only [zta, ztz, zda, zdz, zca, zcn, zan, zsz, zss]) <;> exact rfl); (try clear st); intro w' st) | ((with_reducible apply ow_eval); (go_simp <;> (try simp (disch := omega) only [wrap_id, sub_left, zac]) <;> rfl); ((with_reducible apply up_value)))); refine WL.next hK (by simp only [Act.put, zpt, zsz, zss]; exact rfl) ?_; clear hK K))); (try refine WL.nil ?_))
        refine bodyPost_cell_tmp 3 st rfl inferInstance rfl rfl rfl rfl rfl ?_
        rw [hR.out, if_neg (by have := y1.out; omega)]
        exact ⟨none, 0, 0, none, 0, 0, rfl, ((st.sub (List.nil_sublist _)).nilRow _ _).nilRow _ _⟩
    · (repeat (first | (refine WL.op ?_ ?_; (exact rfl); intro K hK; (((with_reducible apply ow_eval); (go_simp <;> (try simp (disch := omega) only [wrap_id, sub_left, zac]) <;> rfl); ((with_reducible apply up_value)))); refine WL.next hK (by simp only [Act.put, zpt, zsz, zss]; exact rfl) ?_; clear hK K) | (refine WL.skip ?_ (by simp only [Act.put, zpt, zsz, zss]; exact rfl) ?_; ((simp [Region.wanted, yielded] <;> omega)))))
      (try refine WL.nil ?_)
      go_wp2_with (refine WL.out ?_; (repeat ((refine WL.op ?_ ?_; (exact rfl); intro K hK; (first | ((((with_reducible apply ow_assign); exact rfl)); (go_simp <;> (try simp (disch := omega) only [wrap_id, sub_left, zac]) <;> rfl)) | ((((with_reducible apply ow_storeN' st); exact rfl; exact inferInstance; exact rfl; (exact get3); exact rfl)); exact rfl; exact rfl; (simp <;> done); ((try simp only [zta, ztz, zda, zdz, zca, zcn, zan, zsz, zss]) <;> exact rfl); (try clear st); intro w' st) | ((with_reducible apply ow_eval); (go_simp <;> (try simp (disch := omega) only [wrap_id, sub_left, zac]) <;> rfl); ((with_reducible apply up_value)))); refine WL.next hK (by simp only [Act.put, zpt, zsz, zss]; exact rfl) ?_; clear hK K))); (try refine WL.nil ?_))
      refine bodyPost_cell_tmp 3 st rfl inferInstance rfl rfl rfl rfl rfl ?_
      rw [hR.out, if_neg (by have := x1.out; omega)]
      exact ⟨none, 0, 0, none, 0, 0, rfl, ((st.sub (List.nil_sublist _)).nilRow _ _).nilRow _ _⟩
theorem rChild_any (o g : Int) (p h : Bool) (le la : List L.Ace) (o' g' : Int) (p' h' : Bool) (le' la' : List L.Ace) (dir : Bool) (A1 A2 A1' A2' : Option Addr) (n1 n2 n1' n2' c1 c2 c1' c2' B : Nat) (w : World)
    (h1 : Aces w B A1 n1 le) (h2 : Aces w B A2 n2 la) (h1' : Aces w B A1' n1' le') (h2' : Aces w B A2' n2' la') (hB1 : B ≤ w.heap.size) (hn1 : n1 ≤ 20) (hn2 : n2 ≤ 20) (hn1' : n1' ≤ 20) (hn2' : n2' ≤ 20) (hg1 : L.Good le) (hg2 : L.Good la) (hg1' : L.Good le') (hg2' : L.Good la') :
    Calls Tryd.prog 24 #[.agg #[.int .i64 o', .int .i64 g', .bool p', .bool h', .slice A1' n1' c1', .slice A2' n2' c2'], .agg #[.int .i64 o, .int .i64 g, .bool p, .bool h, .slice A1 n1 c1, .slice A2 n2 c2], .bool dir] w
      (RetDescOk w (L.rChild ⟨o', g', p', h', le', la'⟩ ⟨o, g, p, h, le, la⟩ dir)) := by
  cases p with
  | true => exact rChild_true o g h le la o' g' p' h' le' la' dir A1 A2 A1' A2' n1 n2 n1' n2' c1 c2 c1' c2' B w h1 h2 h1' h2' hB1 hn1 hn2 hn1' hn2' hg1 hg2 hg1' hg2'
  | false => exact rChild_false o g h le la o' g' p' h' le' la' dir A1 A2 A1' A2' n1 n2 n1' n2' c1 c2 c1' c2' B w h1 h2 h1' h2' hB1 hn1 hn2 hn1' hn2' hg1 hg2 hg1' hg2'
end Go.Proofs.YtppjhccdgbheiaaDoor
namespace Go.Proofs.YtppjhccdgbheiaaDoor
open Go.RowKit Go.Hp
namespace L
theorem below_eq (dir : Bool) {o g : Int} (p : Bool) (ho : o ≠ 2 ∧ o ≠ 3) (hg : g ≠ 2 ∧ g ≠ 3) {own above : List Ace} (h1 : FOk own) (h2 : FOk above) : below dir o g p own above = rBelow dir o g p own above := by
  unfold below rBelow explicit
  rw [inherited_eq dir ho hg h2, List.filter_congr fun a ha => by rw [show inh a = has a.f 16 from band16 (h1 a ha).1 (h1 a ha).2]]
theorem F_append (l m : List Ace) (i : Int) : F (l ++ m) i = F l i ++ F m i := by unfold F; rw [List.filter_append]
theorem F_F (l : List Ace) (i j : Int) : F (F l i) j = if i = j then F l i else [] := by
  split
  · rename_i h
    exact List.filter_eq_self.2 fun a ha => by rw [F_rk ha]; simpa using h
  · rename_i h
    exact List.filter_eq_nil_iff.2 fun a ha => by rw [F_rk ha]; simpa using h
theorem F_canon (l : List Ace) {i : Int} (hi : i = 0 ∨ i = 1 ∨ i = 2 ∨ i = 3) : F (canon l) i = F l i := by
  rw [canon_four, F_append, F_append, F_append, F_F, F_F, F_F, F_F]
  rcases hi with rfl | rfl | rfl | rfl <;> simp
theorem canon_canon (l : List Ace) : canon (canon l) = canon l := by
  rw [canon_four (canon l), F_canon l (.inl rfl), F_canon l (.inr (.inl rfl)), F_canon l (.inr (.inr (.inl rfl))), F_canon l (.inr (.inr (.inr rfl))), ← canon_four]
theorem canon_left (l m : List Ace) : canon (canon l ++ m) = canon (l ++ m) := by
  rw [canon_four (canon l ++ m), canon_four (l ++ m)]
  simp only [F_append]
  rw [F_canon l (.inl rfl), F_canon l (.inr (.inl rfl)), F_canon l (.inr (.inr (.inl rfl))), F_canon l (.inr (.inr (.inr rfl)))]
theorem F_explicit (l : List Ace) (i : Int) : F (explicit l) i = explicit (F l i) := by
  unfold F explicit
  rw [List.filter_filter, List.filter_filter]
  exact List.filter_congr fun a _ => Bool.and_comm _ _
theorem explicit_append (l m : List Ace) : explicit (l ++ m) = explicit l ++ explicit m := by unfold explicit; rw [List.filter_append]
theorem explicit_canon (l : List Ace) : explicit (canon l) = canon (explicit l) := by
  rw [canon_four, canon_four]
  simp only [explicit_append, F_explicit]
theorem explicit_explicit (l : List Ace) : explicit (explicit l) = explicit l := by
  unfold explicit
  rw [List.filter_filter]
  exact List.filter_congr fun a _ => Bool.and_self _
theorem has16 {f : Int} (h0 : 16 ≤ f) (h1 : f ≤ 31) : has f 16 = true := by
  unfold has
  rw [beq_iff_eq]
  omega
theorem inh1_f {dir fi di sp : Bool} {who : Int} {a x : Ace} (hx : x ∈ inh1 dir fi di sp who a) : 16 ≤ x.f ∧ x.f ≤ 31 := by
  have hb := onOf_bounds fi true sp
  cases dir <;> cases di <;> simp only [inh1] at hx
  · split at hx
    · rw [List.mem_singleton.1 hx]; exact ⟨by show (16 : Int) ≤ 16; decide, by show (16 : Int) ≤ 31; decide⟩
    · cases hx
  · split at hx
    · rw [List.mem_singleton.1 hx]; exact ⟨by show (16 : Int) ≤ 16; decide, by show (16 : Int) ≤ 31; decide⟩
    · cases hx
  · split at hx
    · rw [List.mem_singleton.1 hx]; exact ⟨by show (16 : Int) ≤ 25; decide, by show (25 : Int) ≤ 31; decide⟩
    · cases hx
  · split at hx
    · rw [List.mem_singleton.1 hx]; exact ⟨by show (16 : Int) ≤ 16 + onOf fi true sp; omega, by show 16 + onOf fi true sp ≤ (31 : Int); omega⟩
    · rcases List.mem_cons.1 hx with rfl | hx
      · exact ⟨by show (16 : Int) ≤ 16; decide, by show (16 : Int) ≤ 31; decide⟩
      · rw [List.mem_singleton.1 hx]; exact ⟨by show (16 : Int) ≤ 16 + onOf fi true sp + 8; omega, by show 16 + onOf fi true sp + 8 ≤ (31 : Int); omega⟩
theorem inh1_kmw {dir fi di sp : Bool} {who : Int} {a x : Ace} (hx : x ∈ inh1 dir fi di sp who a) : x.k = a.k ∧ x.m = a.m ∧ (x.w = a.w ∨ x.w = who) := by
  cases dir <;> cases di <;> simp only [inh1] at hx
  · split at hx
    · rw [List.mem_singleton.1 hx]; exact ⟨rfl, rfl, .inr rfl⟩
    · cases hx
  · split at hx
    · rw [List.mem_singleton.1 hx]; exact ⟨rfl, rfl, .inr rfl⟩
    · cases hx
  · split at hx
    · rw [List.mem_singleton.1 hx]; exact ⟨rfl, rfl, .inl rfl⟩
    · cases hx
  · split at hx
    · rw [List.mem_singleton.1 hx]; exact ⟨rfl, rfl, .inr rfl⟩
    · rcases List.mem_cons.1 hx with rfl | hx
      · exact ⟨rfl, rfl, .inr rfl⟩
      · rw [List.mem_singleton.1 hx]; exact ⟨rfl, rfl, .inl rfl⟩
theorem explicit_inherited (dir : Bool) (o g : Int) (l : List Ace) : explicit (rInherited dir o g l) = [] := by
  refine List.filter_eq_nil_iff.2 fun x hx => ?_
  obtain ⟨a, _, hx⟩ := List.mem_flatMap.1 hx
  have h := inh1_f hx
  rw [has16 h.1 h.2]
  simp
theorem rBelow_again (dir : Bool) (o g : Int) (p : Bool) (own above : List Ace) : canon (rBelow dir o g p (canon (rBelow dir o g p own above)) above) = canon (rBelow dir o g p own above) ∧
    (rBelow dir o g p (canon (rBelow dir o g p own above)) above).length = (rBelow dir o g p own above).length := by
  have e : explicit (canon (rBelow dir o g p own above)) = canon (explicit own) := by
    rw [explicit_canon]
    unfold rBelow
    rw [explicit_append, explicit_explicit]
    split
    · rw [show explicit [] = [] from rfl, List.append_nil]
    · rw [explicit_inherited, List.append_nil]
  have e2 : rBelow dir o g p (canon (rBelow dir o g p own above)) above = canon (explicit own) ++ if p then [] else rInherited dir o g above := by
    rw [← e]; rfl
  refine ⟨?_, ?_⟩
  · rw [e2, canon_left]; rfl
  · rw [e2, List.length_append, canon_length, ← List.length_append]; rfl
structure Desc.Valid (d : Desc) : Prop where
  pair : rPairErr d.o d.g = 0
  le : d.e.length ≤ 16
  la : d.a.length ≤ 16
  form : d.h = false → d.e = []
  e : ∀ a ∈ d.e, rErr a = 0 ∧ a.k ≠ 2
  a : ∀ a ∈ d.a, rErr a = 0 ∧ a.k = 2
theorem rAuditErr_zero {n i : Nat} {a : Ace} (h : rAuditErr n i a = 0) : rErr a = 0 ∧ (a.k == 2) = decide (n ≤ i) := by
  unfold rAuditErr at h
  split at h
  · rename_i h0
    refine ⟨h0, ?_⟩
    split at h
    · cases h
    · rename_i h1; simpa using h1
  · rename_i h0; exact absurd h h0
theorem Desc.valid_of {d : Desc} (h : d.rErrs.2 = 0) : d.Valid := by
  unfold Desc.rErrs at h
  by_cases h0 : rPairErr d.o d.g = 0
  · rw [if_pos h0] at h
    by_cases h1 : 16 < d.e.length ∨ 16 < d.a.length
    · rw [if_pos h1] at h; cases h
    · rw [if_neg h1] at h
      by_cases h2 : 0 < d.e.length ∧ d.h = false
      · rw [if_pos h2] at h; cases h
      · rw [if_neg h2] at h
        have hz := each_zero _ 0 _ h
        refine ⟨h0, by omega, by omega, fun hh => ?_, fun a ha => ?_, fun a ha => ?_⟩
        · exact List.eq_nil_of_length_eq_zero (by rcases Nat.eq_zero_or_pos d.e.length with h3 | h3; exact h3; exact absurd ⟨h3, hh⟩ h2)
        · obtain ⟨j, hj⟩ := List.mem_iff_getElem?.1 ha
          have hjl := (List.getElem?_eq_some_iff.1 hj).1
          have := rAuditErr_zero (hz j a (by rw [List.getElem?_append_left hjl]; exact hj))
          refine ⟨this.1, fun hk => ?_⟩
          have h4 := this.2
          rw [hk, decide_eq_false (by omega)] at h4
          cases h4
        · obtain ⟨j, hj⟩ := List.mem_iff_getElem?.1 ha
          have := rAuditErr_zero (hz (d.e.length + j) a (by rw [List.getElem?_append_right (by omega), Nat.add_sub_cancel_left]; exact hj))
          refine ⟨this.1, ?_⟩
          have h4 := this.2
          rw [decide_eq_true (by omega)] at h4
          simpa using h4
  · rw [if_neg h0] at h; exact absurd h h0
theorem each_ok (E : Nat → Ace → Int) : ∀ (i : Nat) (l : List Ace), (∀ j a, l[j]? = some a → E (i + j) a = 0) → each E i l = (0, 0)
  | i, [], _ => rfl
  | i, b :: l, h => by
    have h0 : E i b = 0 := h 0 b rfl
    unfold each
    rw [if_pos h0]
    exact each_ok E (i + 1) l fun j a hj => by rw [show i + 1 + j = i + (j + 1) by omega]; exact h (j + 1) a (by simpa using hj)
theorem Desc.Valid.errs {d : Desc} (h : d.Valid) : d.rErrs = (0, 0) := by
  unfold Desc.rErrs
  rw [if_pos h.pair, if_neg (by have := h.le; have := h.la; omega), if_neg (fun h2 => by have := h.form h2.2; rw [this] at h2; simp at h2)]
  refine each_ok _ 0 _ fun j a hj => ?_
  unfold rAuditErr
  rcases Nat.lt_or_ge j d.e.length with hl | hl
  · rw [List.getElem?_append_left hl] at hj
    have := h.e a (List.mem_of_getElem? hj)
    rw [if_pos this.1, if_neg]
    have h3 : (a.k == 2) = false := by simpa using this.2
    rw [h3, decide_eq_false (by omega)]
    decide
  · rw [List.getElem?_append_right hl] at hj
    have := h.a a (List.mem_of_getElem? hj)
    rw [if_pos this.1, if_neg]
    have h3 : (a.k == 2) = true := by simpa using this.2
    rw [h3, decide_eq_true (by omega)]
    decide
theorem rErr_parts {a : Ace} : rErr a = 0 ↔ within a.k 0 2 = true ∧ within a.f 0 31 = true ∧ within a.m 1 511 = true ∧ isWho a.w = true := by
  unfold rErr rAceErr
  cases within a.k 0 2 <;> cases within a.f 0 31 <;> cases within a.m 1 511 <;> cases isWho a.w <;> simp
theorem rHolder_who {n : Int} (h : rHolder n = true) : isWho n = true := by
  simp [rHolder, isWho, isUser, within] at h ⊢
  omega
theorem pair_holders {o g : Int} (h : rPairErr o g = 0) : rHolder o = true ∧ rHolder g = true := by
  unfold rPairErr at h
  cases h1 : rHolder o <;> cases h2 : rHolder g <;> rw [h1, h2] at h <;> simp at h ⊢
theorem holder_who {who o g : Int} (h : isWho who = true) (ho : rHolder o = true) (hg : rHolder g = true) : isWho (holder who o g) = true := by
  unfold holder
  split
  · exact rHolder_who ho
  · split
    · exact rHolder_who hg
    · exact h
theorem rBelow_ok (dir : Bool) {o g : Int} (p : Bool) {own above : List Ace} (q : Int → Prop) (hp : rPairErr o g = 0) (h1 : ∀ a ∈ own, rErr a = 0 ∧ q a.k) (h2 : ∀ a ∈ above, rErr a = 0 ∧ q a.k) : ∀ a ∈ rBelow dir o g p own above, rErr a = 0 ∧ q a.k := by
  intro x hx
  unfold rBelow at hx
  rcases List.mem_append.1 hx with hx | hx
  · exact h1 x (List.mem_filter.1 hx).1
  · split at hx
    · cases hx
    · obtain ⟨a, ha, hx⟩ := List.mem_flatMap.1 hx
      obtain ⟨h3, h4⟩ := h2 a ha
      have hf := inh1_f hx
      obtain ⟨e1, e2, e3⟩ := inh1_kmw hx
      obtain ⟨p1, p2⟩ := pair_holders hp
      obtain ⟨a1, a2, a3, a4⟩ := rErr_parts.1 h3
      refine ⟨rErr_parts.2 ⟨by rw [e1]; exact a1, ?_, by rw [e2]; exact a3, ?_⟩, by rw [e1]; exact h4⟩
      · unfold within
        rw [decide_eq_true (by omega), decide_eq_true (by omega)]; rfl
      · rcases e3 with e3 | e3
        · rw [e3]; exact a4
        · rw [e3]; exact holder_who a4 p1 p2
theorem rChild_valid {above own : Desc} (dir : Bool) (h1 : above.Valid) (h2 : own.Valid) (hok : (rChild above own dir).2 = true) : (rChild above own dir).1.Valid := by
  unfold rChild at hok ⊢
  split at hok
  · rename_i hl
    rw [if_pos hl]
    refine ⟨h2.pair, by rw [canon_length]; exact hl.1, by rw [canon_length]; exact hl.2, fun hh => ?_, fun a ha => ?_, fun a ha => ?_⟩
    · simp only [Bool.or_eq_false_iff, Bool.and_eq_false_iff, Bool.not_eq_false'] at hh
      refine List.eq_nil_of_length_eq_zero ?_
      rw [canon_length]
      unfold rBelow
      rw [h2.form hh.1]
      rcases hh.2 with h3 | h3
      · rw [h1.form h3]; cases own.p <;> rfl
      · rw [h3]; rfl
    · exact rBelow_ok dir own.p (fun k => k ≠ 2) h2.pair h2.e h1.e a (canon_mem.1 ha)
    · exact rBelow_ok dir own.p (fun k => k = 2) h2.pair h2.a h1.a a (canon_mem.1 ha)
  · cases hok
theorem rChild_again {above own : Desc} (dir : Bool) (hok : (rChild above own dir).2 = true) : rChild above (rChild above own dir).1 dir = rChild above own dir := by
  unfold rChild at hok
  split at hok
  · rename_i hl
    have e : rChild above own dir = (⟨own.o, own.g, own.p, own.h || (above.h && !own.p), canon (rBelow dir own.o own.g own.p own.e above.e), canon (rBelow dir own.o own.g own.p own.a above.a)⟩, true) := by
      unfold rChild; rw [if_pos hl]
    rw [e]
    have a1 := rBelow_again dir own.o own.g own.p own.e above.e
    have a2 := rBelow_again dir own.o own.g own.p own.a above.a
    unfold rChild
    simp only [a1.1, a2.1, a1.2, a2.2]
    rw [if_pos hl]
    cases own.h <;> cases above.h <;> cases own.p <;> rfl
  · cases hok
theorem child_eq {above own : Desc} (dir : Bool) (h1 : above.Valid) (h2 : own.Valid) : child above own dir = ((rChild above own dir).1, if (rChild above own dir).2 then 0 else 16) := by
  have g : ∀ {l : List Ace}, (∀ a ∈ l, rErr a = 0) → FOk l := fun h a ha => by
    obtain ⟨_, hf, _⟩ := rErr_parts.1 (h a ha)
    simp only [within, Bool.and_eq_true, decide_eq_true_eq] at hf
    exact hf
  have hp := pair_ne h2.pair
  unfold child rChild
  rw [below_eq dir own.p hp.1 hp.2 (g fun a ha => (h2.e a ha).1) (g fun a ha => (h1.e a ha).1), below_eq dir own.p hp.1 hp.2 (g fun a ha => (h2.a a ha).1) (g fun a ha => (h1.a a ha).1)]
  split <;> rfl
theorem childOf_eq {above own : Desc} (dir : Bool) (h1 : above.Valid) (h2 : own.Valid) : childOf above own dir = ((rChild above own dir).1, if (rChild above own dir).2 then 0 else 16) := by
  have e1 : above.err.2 = 0 := by rw [Desc.err_eq, h1.errs]
  have e2 : own.err.2 = 0 := by rw [Desc.err_eq, h2.errs]
  unfold childOf
  rw [e1, e2, if_pos (show firstErr [0, 0] = 0 from rfl), child_eq dir h1 h2]
theorem childOf_err1 {above own : Desc} (dir : Bool) (h : above.rErrs.2 ≠ 0) : childOf above own dir = (Desc.none, above.rErrs.2) := by
  have e : firstErr [above.err.2, own.err.2] = above.rErrs.2 := by
    rw [Desc.err_eq]
    unfold firstErr
    rw [List.find?_cons_of_pos (by simpa using h)]
    rfl
  unfold childOf
  rw [e, if_neg h]
theorem childOf_err2 {above own : Desc} (dir : Bool) (h : above.rErrs.2 = 0) (h2 : own.rErrs.2 ≠ 0) : childOf above own dir = (Desc.none, own.rErrs.2) := by
  have e : firstErr [above.err.2, own.err.2] = own.rErrs.2 := by
    rw [Desc.err_eq, Desc.err_eq, h]
    unfold firstErr
    rw [List.find?_cons_of_neg (by simp), List.find?_cons_of_pos (by simpa using h2)]
    rfl
  unfold childOf
  rw [e, if_neg h2]
end L
end Go.Proofs.YtppjhccdgbheiaaDoor
namespace Go.Proofs.YtppjhccdgbheiaaDoor
open Go.RowKit Go.Hp
namespace L
def aceAt (l : List UInt8) (p : Nat) : Ace := ⟨bx l p, bx l (p + 1), lev l (p + 2) 2, lev l (p + 4) 4⟩
def acesTo (l : List UInt8) (k : Nat) : List Ace := (List.range k).map fun i => aceAt l (12 + 8 * i)
theorem acesTo_len (l : List UInt8) (k : Nat) : (acesTo l k).length = k := by unfold acesTo; simp
theorem acesTo_snoc (l : List UInt8) (k : Nat) : acesTo l (k + 1) = acesTo l k ++ [aceAt l (12 + 8 * k)] := by unfold acesTo; rw [List.range_succ, List.map_append]; rfl
def nb (l : List UInt8) (i : Nat) : Nat := (l[i]?.getD 0).toNat
theorem nb_bound (l : List UInt8) (i : Nat) : nb l i ≤ 255 := by
  unfold nb
  have := (l[i]?.getD 0).toNat_lt
  omega
theorem bx_nb (l : List UInt8) (i : Nat) : bx l i = (nb l i : Int) := rfl
def decD (l : List UInt8) : Desc := ⟨lev l 4 4, lev l 8 4, bx l 1 % 2 == 1, bx l 1 / 2 == 1, (acesTo l (nb l 2 + nb l 3)).take (nb l 2), (acesTo l (nb l 2 + nb l 3)).drop (nb l 2)⟩
def rDec (l : List UInt8) : Desc × Int :=
  if l.length < 12 then (Desc.none, 10)
  else if 16 < nb l 2 ∨ 16 < nb l 3 then (Desc.none, 8)
  else if l.length ≠ 12 + 8 * (nb l 2 + nb l 3) then (Desc.none, 10)
  else if bx l 0 ≠ 1 ∨ 3 < bx l 1 then (Desc.none, 3)
  else if (decD l).rErrs.2 ≠ 0 then (Desc.none, (decD l).rErrs.2) else (decD l, 0)
end L
theorem LittleAt_i (l : List UInt8) (p c : Nat) {pv cv v : Int} (hpv : pv = (p : Int)) (hcv : cv = (c : Int)) (hv : L.lev l p c = v) (w : World) (hl : l.length ≤ 100000) (hp : p + c ≤ l.length) (hc0 : 1 ≤ c) (hc : c ≤ 4) :
    Calls Tryd.prog 66 #[.string ⟨l.toArray⟩, .int .i64 pv, .int .i64 cv] w fun e w' => e = .returned (.int .i64 v) ∧ Below w.heap.size w w' := by
  subst hpv hcv hv
  exact LittleAt_any l p c w hl hp hc0 hc
theorem lev_one (l : List UInt8) (p : Nat) : L.lev l p 1 = L.bx l p := by
  show L.bx l p + 256 * 0 = L.bx l p
  omega
theorem bytes_size (l : List UInt8) : (ByteArray.mk l.toArray).size = l.length := by
  show l.toArray.size = l.length
  simp
set_option maxRecDepth 8000 in
set_option maxHeartbeats 4000000 in
theorem rDecode_short (l : List UInt8) (w : World) (hl : l.length < 12) :
    Calls Tryd.prog 33 #[.string ⟨l.toArray⟩] w (RetDescErr w (L.Desc.none, 10)) := by
  have hsz := bytes_size l
  have st := St.start w
  go_enter Tryd.func33, Tryd.ntmps33
  go_wp2_with (refine WL.out ?_; (repeat ((refine WL.op ?_ ?_; (exact rfl); intro K hK; (first | ((((with_reducible apply ow_assign); exact rfl)); (go_simp <;> (try simp (disch := omega) only [wrap_id, sub_left, zac]) <;> rfl)) | ((((with_reducible apply ow_loadN st); exact rfl; exact inferInstance; exact rfl; (exact get0); ((try simp only [zta, ztz, zda, zdz, zca, zcn, zan, zsz, zss]) <;> exact rfl))); exact rfl) | ((((with_reducible apply ow_alloc st); exact rfl; exact inferInstance; (go_simp <;> (try simp (disch := omega) only [wrap_id, sub_left, zac]) <;> rfl))); (try clear st); intro b w' st) | ((((with_reducible apply ow_storeN' st); exact rfl; exact inferInstance; exact rfl; (first | exact get0 | exact get1); exact rfl)); exact rfl; exact rfl; (simp <;> done); ((try simp only [zta, ztz, zda, zdz, zca, zcn, zan, zsz, zss]) <;> exact rfl); (try clear st); intro w' st) | ((with_reducible apply ow_eval); (go_simp <;> (try simp (disch := omega) only [wrap_id, sub_left, zac]) <;> rfl); ((with_reducible apply up_value)))); refine WL.next hK (by simp only [Act.put, zpt, zsz, zss]; exact rfl) ?_; clear hK K))); (try refine WL.nil ?_))

  refine bodyPost_cell_tmp 1 st rfl inferInstance rfl rfl rfl rfl rfl ?_
  exact ⟨none, 0, 0, none, 0, 0, rfl, ((st.sub (List.nil_sublist _)).nilRow _ _).nilRow _ _⟩
end Go.Proofs.YtppjhccdgbheiaaDoor
namespace Go.Hp
open Go.RowKit
section
variable {P : Program} {ops : Array Oper} {o : Oper} {a : Act} {w0 w : World} {rs : List Res} {Q : Exit → Act → World → Prop} {K : Act → World → Prop}
theorem St.cellO {i b : Nat} {t : TypeId} {cs : Array Value} {m : Nat × Nat} (st : St w0 w rs) (hi : rs[i]? = some (.obj b (.cells cs t m))) (p : Nat) : w.cell? ⟨b, p, none⟩ = cs[p]? := cell_of_row w b p cs t m (st.get hi).2
theorem wp_loadO {t : TypeId} {x : Operand} {i b p : Nat} {bt : TypeId} {cs : Array Value} {m : Nat × Nat} {v : Value} (st : St w0 w rs) (ho : o.op = .load t x) (hT : OneT P t) (hx : a.eval x = .pointer (some ⟨b, p, none⟩)) (hi : rs[i]? = some (.obj b (.cells cs bt m))) (hv : cs[p]? = some v)
    (h : K (a.put o.dst v) w) : o.wp P a w K Q := by
  refine wp_value ?_ h
  simp [execOp, ho, hx, run_load1 (P := P) (t := t) (hT := hT) ((St.cellO st hi p).trans hv)]
theorem ow_loadO {t : TypeId} {x : Operand} {i b p : Nat} {bt : TypeId} {cs : Array Value} {m : Nat × Nat} {v : Value} (st : St w0 w rs) (ho : o.op = .load t x) (hT : OneT P t) (hx : a.eval x = .pointer (some ⟨b, p, none⟩)) (hi : rs[i]? = some (.obj b (.cells cs bt m))) (hv : cs[p]? = some v)
    (h : K (a.put o.dst v) w) : OW P o a w K Q := OW.mk (wp_loadO st ho hT hx hi hv h)
theorem Yphi.loadO {t : TypeId} {x : Operand} {i b p : Nat} {bt : TypeId} {cs : Array Value} {m : Nat × Nat} {v : Value} (st : St w0 w rs) (ho : o.op = .load t x) (hT : OneT P t) (hw : Region.wanted o (yielded ops a.tmps) = true) (hx : a.eval x = .pointer (some ⟨b, p, none⟩)) (hi : rs[i]? = some (.obj b (.cells cs bt m))) (hv : cs[p]? = some v) : Yphi P ops o a w (isV v) :=
  .inl ⟨hw, wp_loadO st ho hT hx hi hv ⟨v, rfl, Below.refl _ _, rfl⟩⟩
theorem YX.loadO {t : TypeId} {x : Operand} {i b p : Nat} {bt : TypeId} {cs : Array Value} {m : Nat × Nat} {v : Value} (st : St w0 w rs) (ho : o.op = .load t x) (hT : OneT P t) (hw : Region.wanted o (yielded ops a.tmps) = true) (hx : a.eval x = .pointer (some ⟨b, p, none⟩)) (hi : rs[i]? = some (.obj b (.cells cs bt m))) (hv : cs[p]? = some v) : YX P ops o a w v :=
  .inl ⟨hw, wp_loadO st ho hT hx hi hv ⟨rfl, rfl⟩⟩
end
end Go.Hp
namespace Go.Proofs.YtppjhccdgbheiaaDoor
open Go.RowKit Go.Hp
section
variable {o : Oper} {a : Act} {w0 w : World} {rs : List Res} {Q : Exit → Act → World → Prop} {K : Act → World → Prop}
theorem ow_bytes {x : Operand} {l : List UInt8} (st : St w0 w rs) (ho : o.op = .convert 9 84 x) (hx : a.eval x = .string ⟨l.toArray⟩)
    (h : ∀ (g c : Nat) (cs : Array Value) (m : Nat × Nat) w', St w0 w' (.obj g (.cells cs 5 m) :: rs) → (∀ j, j < l.length → cs[j]? = some (.int .u8 (L.bx l j))) → l.length ≤ c → K (a.put o.dst (.slice (some ⟨g, 0, none⟩) l.length c)) w') : OW Tryd.prog o a w K Q := by
  have hrun := run_bytes_of_string (P := Tryd.prog) w 9 84 5 ⟨l.toArray⟩ Tryd.underlying9 Tryd.underlying84 Tryd.underlying5
  have hsz := bytes_size l
  have hd : (ByteArray.mk l.toArray).data = l.toArray := rfl
  rw [hsz] at hrun
  have hval : (execOp a.eval o).run Tryd.prog w = .ok (.value (.slice (some ⟨w.heap.size, 0, none⟩) l.length (grownCap w l.length 0 5))) (w.drew.alloc (.cells (bytesRow ⟨l.toArray⟩ (grownCap w l.length 0 5)) 5 ((bytesRow ⟨l.toArray⟩ (grownCap w l.length 0 5)).size, (bytesRow ⟨l.toArray⟩ (grownCap w l.length 0 5)).size + 1))) := by
    simp [execOp, ho, hx, hrun]
  refine OW.mk (wp_value hval (h w.heap.size _ _ _ _ (st.drew.fresh ((Below.refl _ _).alloc (Nat.le_refl _) _) ⟨Nat.le_refl _, heap_alloc_new _ _⟩) (fun j hj => ?_) (grownCap_ge _ _ _ _)))
  unfold bytesRow
  rw [hd, Array.getElem?_append_left (by simp; exact hj)]
  unfold L.bx
  rw [List.getElem?_eq_getElem hj]
  simp [hj]
end
end Go.Proofs.YtppjhccdgbheiaaDoor
namespace Go.Proofs.YtppjhccdgbheiaaDoor
open Go.RowKit Go.Hp
instance oneT_byte : OneT Tryd.prog 5 := ⟨fun _ => by kernel_rfl, fun _ => by kernel_rfl⟩
theorem wrap_u16 {n : Int} (h0 : 0 ≤ n) (h1 : n ≤ 65535) : IntKind.u16.wrap n = n := by
  have hw : IntKind.u16.wrap n = n % 65536 := by simp [IntKind.wrap, IntKind.bits, IntKind.signed]
  rw [hw]
  omega
theorem wrap_u32 {n : Int} (h0 : 0 ≤ n) (h1 : n ≤ 4294967295) : IntKind.u32.wrap n = n := by
  have hw : IntKind.u32.wrap n = n % 4294967296 := by simp [IntKind.wrap, IntKind.bits, IntKind.signed]
  rw [hw]
  omega
theorem or16 (m a : Nat) (hm : m < 256) (ha : a < 256) : bits BinOp.or IntKind.u16 (m : Int) ((2 ^ 8 * a : Nat) : Int) = ((m + 256 * a : Nat) : Int) := by
  show IntKind.u16.wrap (((BitVec.ofInt 16 (m : Int) ||| BitVec.ofInt 16 ((2 ^ 8 * a : Nat) : Int)).toNat : Nat) : Int) = _
  rw [BitVec.toNat_or, BitVec.ofInt_natCast, BitVec.ofInt_natCast, BitVec.toNat_ofNat, BitVec.toNat_ofNat, Nat.mod_eq_of_lt (by omega), Nat.mod_eq_of_lt (by omega), Nat.or_comm, ← Nat.two_pow_add_eq_or_of_lt (i := 8) (by omega), wrap_u16 (by omega) (by omega)]
  omega
theorem or32 (m a : Nat) (hm : m < 65536) (ha : a < 65536) : bits BinOp.or IntKind.u32 (m : Int) ((2 ^ 16 * a : Nat) : Int) = ((m + 65536 * a : Nat) : Int) := by
  show IntKind.u32.wrap (((BitVec.ofInt 32 (m : Int) ||| BitVec.ofInt 32 ((2 ^ 16 * a : Nat) : Int)).toNat : Nat) : Int) = _
  rw [BitVec.toNat_or, BitVec.ofInt_natCast, BitVec.ofInt_natCast, BitVec.toNat_ofNat, BitVec.toNat_ofNat, Nat.mod_eq_of_lt (by omega), Nat.mod_eq_of_lt (by omega), Nat.or_comm, ← Nat.two_pow_add_eq_or_of_lt (i := 16) (by omega), wrap_u32 (by omega) (by omega)]
  omega
theorem get16_val {x y : Int} (hx0 : 0 ≤ x) (hx1 : x ≤ 255) (hy0 : 0 ≤ y) (hy1 : y ≤ 255) : bits BinOp.or IntKind.u16 (IntKind.u16.wrap x) (IntKind.u16.wrap (IntKind.u16.wrap y * 256)) = x + 256 * y := by
  obtain ⟨m, rfl⟩ : ∃ m : Nat, x = m := ⟨x.toNat, by omega⟩
  obtain ⟨a, rfl⟩ : ∃ a : Nat, y = a := ⟨y.toNat, by omega⟩
  rw [wrap_u16 (n := (m : Int)) (by omega) (by omega), wrap_u16 (n := (a : Int)) (by omega) (by omega), wrap_u16 (by omega) (by omega), show (a : Int) * 256 = ((2 ^ 8 * a : Nat) : Int) by omega, or16 m a (by omega) (by omega)]
  omega
theorem get32_val {x y : Int} (hx0 : 0 ≤ x) (hx1 : x ≤ 65535) (hy0 : 0 ≤ y) (hy1 : y ≤ 65535) : bits BinOp.or IntKind.u32 (IntKind.u32.wrap x) (IntKind.u32.wrap (IntKind.u32.wrap y * 65536)) = x + 65536 * y := by
  obtain ⟨m, rfl⟩ : ∃ m : Nat, x = m := ⟨x.toNat, by omega⟩
  obtain ⟨a, rfl⟩ : ∃ a : Nat, y = a := ⟨y.toNat, by omega⟩
  rw [wrap_u32 (n := (m : Int)) (by omega) (by omega), wrap_u32 (n := (a : Int)) (by omega) (by omega), wrap_u32 (by omega) (by omega), show (a : Int) * 65536 = ((2 ^ 16 * a : Nat) : Int) by omega, or32 m a (by omega) (by omega)]
  omega
set_option maxHeartbeats 2000000 in
theorem get16_any (b o n c : Nat) (x y : Int) (w : World) (hb : b < w.heap.size) (hx : w.cell? ⟨b, o, none⟩ = some (.int .u8 x)) (hy : w.cell? ⟨b, o + 1, none⟩ = some (.int .u8 y)) (hn : 2 ≤ n) (hx0 : 0 ≤ x) (hx1 : x ≤ 255) (hy0 : 0 ≤ y) (hy1 : y ≤ 255) :
    Calls Tryd.prog 83 #[.slice (some ⟨b, o, none⟩) n c] w fun e w' => e = .returned (.int .u16 (x + 256 * y)) ∧ Below w.heap.size w w' := by
  have HV := Lib.hid (get16_val hx0 hx1 hy0 hy1)
  have hn0 : 0 < n := by omega
  have hn2 : 1 < n := by omega
  have hn1 : (1 : Int) < (n : Int) := by omega
  have st := St.start w
  go_enter Tryd.func83, Tryd.ntmps83
  go_wp2_with (refine WL.out ?_; (repeat (fail)); (try refine WL.nil ?_))
  refine wp_region_plan 10 (by kernel_rfl) (by kernel_rfl) ?_; replace st := st.drew; generalize World.drew _ = W at st ⊢
  iterate 10 (apply Plan.val'; (focus (intro x0 x1 x2 x3 x4 x5 x6 x7 x8 x9 w1 hb; (try simp only [depF, fillA, Act.put, zta, ztz, zpt, zsz, zss, zl0, zls]); (repeat (rintro rfl)); have st := st.call hb; (first | (apply Yphi.run; (exact rfl); (go_simp <;> (try simp (disch := omega) only [wrap_id, sub_left, zac]) <;> rfl); exact rfl) | (apply Yphi.old1 st; exact rfl; exact inferInstance; (exact rfl); exact rfl; assumption; assumption)))); (simp only [zca, zcn] <;> exact rfl))
  intro x0 x1 x2 x3 x4 x5 x6 x7 x8 x9 lo hi w1 hb hap
  rintro rfl rfl rfl rfl rfl rfl rfl rfl rfl rfl
  simp only [allPhi, fillA, Act.put, zta, ztz, zpt, zsz, zss, zda, zdz]
  have st := st.call hb
  clear hap hb
  go_wp2_with (refine WL.out ?_; (repeat (fail)); (try refine WL.nil ?_))
  go_ret
  exact ⟨congrArg (fun v => Ending.returned (.int .u16 v)) HV.out, st.below⟩
set_option maxHeartbeats 2000000 in
theorem get32_any (b o n c : Nat) (x y z u : Int) (w : World) (hb : b < w.heap.size) (hx : w.cell? ⟨b, o, none⟩ = some (.int .u8 x)) (hy : w.cell? ⟨b, o + 1, none⟩ = some (.int .u8 y)) (hz : w.cell? ⟨b, o + 2, none⟩ = some (.int .u8 z)) (hu : w.cell? ⟨b, o + 3, none⟩ = some (.int .u8 u)) (hn : 4 ≤ n) (hnc : n ≤ c)
    (hx0 : 0 ≤ x) (hx1 : x ≤ 255) (hy0 : 0 ≤ y) (hy1 : y ≤ 255) (hz0 : 0 ≤ z) (hz1 : z ≤ 255) (hu0 : 0 ≤ u) (hu1 : u ≤ 255) :
    Calls Tryd.prog 63 #[.slice (some ⟨b, o, none⟩) n c] w fun e w' => e = .returned (.int .u32 (x + 256 * y + 65536 * (z + 256 * u))) ∧ Below w.heap.size w w' := by
  have HV := Lib.hid (get32_val (x := x + 256 * y) (y := z + 256 * u) (by omega) (by omega) (by omega) (by omega))
  have HX := Lib.hid hx
  have HY := Lib.hid hy
  have HZ := Lib.hid hz
  have HU := Lib.hid hu
  have HB := Lib.hid hb

  have hn0 : (2 : Int) ≤ (n : Int) := by omega
  have hn1 : (n : Int) ≤ (c : Int) := by omega
  have hn2 : 2 ≤ n := by omega
  have hc2 : 2 < c := by omega
  have hc3 : ¬ (c = 2) := by omega
  clear hx hy hz hu
  have st := St.start w
  go_enter Tryd.func63, Tryd.ntmps63
  go_wp2_with (refine WL.out ?_; (repeat (fail)); (try refine WL.nil ?_))
  refine wp_region_plan 9 (by kernel_rfl) (by kernel_rfl) ?_; replace st := st.drew; generalize World.drew _ = W at st ⊢
  (apply Plan.val'; (focus (intro x0 x1 x2 x3 x4 x5 x6 x7 x8 w1 hb; (try simp only [depF, fillA, Act.put, zta, ztz, zpt, zsz, zss, zl0, zls]); (repeat (fail)); have st := st.call hb; ((apply Yphi.run; (exact rfl); (go_simp <;> (try simp (disch := omega) only [wrap_id, sub_left, zac]) <;> rfl); exact rfl)))); (simp only [zca, zcn] <;> exact rfl))
  (apply Plan.val'; (focus (intro x0 x1 x2 x3 x4 x5 x6 x7 x8 w1 hb; (try simp only [depF, fillA, Act.put, zta, ztz, zpt, zsz, zss, zl0, zls]); (repeat (rintro rfl)); have st := st.call hb; apply Yphi.call; (exact rfl); (go_simp <;> (try simp (disch := omega) only [wrap_id, sub_left, zac]) <;> rfl); exact rfl; refine (get16_any b o n c x y _ (Nat.lt_of_lt_of_le HB.out st.size) ((st.old HB.out).trans HX.out) ((st.old HB.out).trans HY.out) (by omega) hx0 hx1 hy0 hy1).mono ?_; rintro e w' ⟨rfl, hb'⟩; exact ⟨_, rfl, hb', rfl⟩)); (simp only [zca, zcn] <;> exact rfl))
  iterate 2 (apply Plan.val'; (focus (intro x0 x1 x2 x3 x4 x5 x6 x7 x8 w1 hb; (try simp only [depF, fillA, Act.put, zta, ztz, zpt, zsz, zss, zl0, zls]); (repeat (rintro rfl)); have st := st.call hb; ((apply Yphi.run; (exact rfl); (go_simp <;> (try simp (disch := omega) only [wrap_id, sub_left, zac]) <;> rfl); exact rfl)))); (simp only [zca, zcn] <;> exact rfl))
  (apply Plan.val'; (focus (intro x0 x1 x2 x3 x4 x5 x6 x7 x8 w1 hb; (try simp only [depF, fillA, Act.put, zta, ztz, zpt, zsz, zss, zl0, zls]); (repeat (rintro rfl)); have st := st.call hb; ((apply Yphi.run; (exact rfl); (go_simp <;> (try simp (disch := omega) only [wrap_id, sub_left, zac]) <;> rfl); exact rfl)))); (simp only [zca, zcn] <;> exact rfl))
  (apply Plan.val'; (focus (intro x0 x1 x2 x3 x4 x5 x6 x7 x8 w1 hb; (try simp only [depF, fillA, Act.put, zta, ztz, zpt, zsz, zss, zl0, zls]); (repeat (rintro rfl)); have st := st.call hb; apply Yphi.call; (exact rfl); (go_simp <;> (try simp (disch := omega) only [wrap_id, sub_left, zac]) <;> rfl); exact rfl; refine (get16_any b (o + 2) _ _ z u _ (Nat.lt_of_lt_of_le HB.out st.size) ((st.old HB.out).trans HZ.out) ((st.old HB.out).trans HU.out) (by omega) hz0 hz1 hu0 hu1).mono ?_; rintro e w' ⟨rfl, hb'⟩; exact ⟨_, rfl, hb', rfl⟩)); (simp only [zca, zcn] <;> exact rfl))
  iterate 3 (apply Plan.val'; (focus (intro x0 x1 x2 x3 x4 x5 x6 x7 x8 w1 hb; (try simp only [depF, fillA, Act.put, zta, ztz, zpt, zsz, zss, zl0, zls]); (repeat (rintro rfl)); have st := st.call hb; ((apply Yphi.run; (exact rfl); (go_simp <;> (try simp (disch := omega) only [wrap_id, sub_left, zac]) <;> rfl); exact rfl)))); (simp only [zca, zcn] <;> exact rfl))
  intro x0 x1 x2 x3 x4 x5 x6 x7 x8 lo hi w1 hb hap
  rintro rfl rfl rfl rfl rfl rfl rfl rfl rfl
  simp only [allPhi, fillA, Act.put, zta, ztz, zpt, zsz, zss, zda, zdz]
  have st := st.call hb
  clear hap hb
  go_wp2_with (refine WL.out ?_; (repeat (fail)); (try refine WL.nil ?_))
  go_ret
  exact ⟨congrArg (fun v => Ending.returned (.int .u32 v)) HV.out, st.below⟩
end Go.Proofs.YtppjhccdgbheiaaDoor
namespace Go.Proofs.YtppjhccdgbheiaaDoor
open Go.RowKit Go.Hp
set_option maxRecDepth 8000 in
set_option maxHeartbeats 4000000 in
theorem aceOf_any (g o n c p : Nat) (l : List UInt8) (w : World) (hb : g < w.heap.size) (hc : ∀ j, j < 8 → w.cell? ⟨g, o + j, none⟩ = some (.int .u8 (L.bx l (p + j)))) (hn : 8 ≤ n) (hnc : n ≤ c) :
    Calls Tryd.prog 65 #[.slice (some ⟨g, o, none⟩) n c] w fun e w' => e = .returned (.agg #[.int .i64 (L.aceAt l p).k, .int .i64 (L.aceAt l p).f, .int .i64 (L.aceAt l p).m, .int .i64 (L.aceAt l p).w]) ∧ Below w.heap.size w w' := by
  have hB : ∀ j, 0 ≤ L.bx l j ∧ L.bx l j ≤ 255 := L.bx_bound l
  have HX := Lib.hid hc
  have HB := Lib.hid hB
  have HS := Lib.hid hb
  have hx : w.cell? ⟨g, o, none⟩ = some (.int .u8 (L.bx l p)) := hc 0 (by omega)
  have hy : w.cell? ⟨g, o + 1, none⟩ = some (.int .u8 (L.bx l (p + 1))) := hc 1 (by omega)
  have e16 : Hid (IntKind.i64.wrap (L.bx l (p + 2) + 256 * L.bx l (p + 3)) = (L.aceAt l p).m) := Lib.hid (by
    have h1 := hB (p + 2)
    have h2 := hB (p + 3)
    rw [wrap_id (by omega) (by omega)]
    show _ = L.bx l (p + 2) + 256 * (L.bx l (p + 2 + 1) + 256 * 0)
    rw [show p + 2 + 1 = p + 3 by omega]
    omega)
  have e32 : Hid (IntKind.i64.wrap (L.bx l (p + 4) + 256 * L.bx l (p + 5) + 65536 * (L.bx l (p + 6) + 256 * L.bx l (p + 7))) = (L.aceAt l p).w) := Lib.hid (by
    have h1 := hB (p + 4)
    have h2 := hB (p + 5)
    have h3 := hB (p + 6)
    have h4 := hB (p + 7)
    rw [wrap_id (by omega) (by omega)]
    show _ = L.bx l (p + 4) + 256 * (L.bx l (p + 4 + 1) + 256 * (L.bx l (p + 4 + 1 + 1) + 256 * (L.bx l (p + 4 + 1 + 1 + 1) + 256 * 0)))
    rw [show p + 4 + 1 + 1 + 1 = p + 7 by omega, show p + 4 + 1 + 1 = p + 6 by omega, show p + 4 + 1 = p + 5 by omega]
    omega)
  obtain ⟨hx0, hx1⟩ := hB p
  obtain ⟨hy0, hy1⟩ := hB (p + 1)
  have hm := L.lev_bound l 2 (p + 2) (by omega)
  have hn0 : 0 < n := by omega
  have hn1 : (1 : Int) < (n : Int) := by omega
  have hn2 : (2 : Int) ≤ (n : Int) := by omega
  have hn4 : (4 : Int) ≤ (n : Int) := by omega
  have hn5 : (n : Int) ≤ (c : Int) := by omega
  have hc2 : ¬ (c = 2) := by omega
  have hc4 : ¬ (c = 4) := by omega
  clear hc hB
  have st := St.start w
  go_enter Tryd.func65, Tryd.ntmps65
  go_wp2_with (refine WL.out ?_; (repeat ((refine WL.op ?_ ?_; (exact rfl); intro K hK; (((((with_reducible apply ow_alloc st); exact rfl; exact inferInstance; (go_simp <;> (try simp (disch := omega) only [wrap_id, sub_left, zac]) <;> rfl))); (try clear st); intro b w' st)); refine WL.next hK (by simp only [Act.put, zpt, zsz, zss]; exact rfl) ?_; clear hK K))); (try refine WL.nil ?_))
  refine wp_region_plan 17 (by kernel_rfl) (by kernel_rfl) ?_; replace st := st.drew; generalize World.drew _ = W at st ⊢
  iterate 10 (apply Plan.val'; (focus (intro x0 x1 x2 x3 x4 x5 x6 x7 x8 x9 x10 x11 x12 x13 x14 x15 x16 w1 hb; (try simp only [depF, fillA, Act.put, zta, ztz, zpt, zsz, zss, zl0, zls]); (repeat (rintro rfl)); have st := st.call hb; (first | (apply Yphi.run; (exact rfl); (go_simp <;> (try simp (disch := omega) only [wrap_id, sub_left, zac]) <;> rfl); exact rfl) | (apply Yphi.old1 st; exact rfl; exact inferInstance; (exact rfl); exact rfl; assumption; assumption)))); (simp only [zca, zcn] <;> exact rfl))
  (apply Plan.val'; (focus (intro x0 x1 x2 x3 x4 x5 x6 x7 x8 x9 x10 x11 x12 x13 x14 x15 x16 w1 hb; (try simp only [depF, fillA, Act.put, zta, ztz, zpt, zsz, zss, zl0, zls]); (repeat (rintro rfl)); have st := st.call hb; apply Yphi.call; (exact rfl); (go_simp <;> (try simp (disch := omega) only [wrap_id, sub_left, zac]) <;> rfl); exact rfl; refine (get16_any g (o + 2) _ _ (L.bx l (p + 2)) (L.bx l (p + 3)) _ (Nat.lt_of_lt_of_le HS.out st.size) ((st.old HS.out).trans (HX.out 2 (by omega))) ((st.old HS.out).trans (HX.out 3 (by omega))) (by omega) (HB.out _).1 (HB.out _).2 (HB.out _).1 (HB.out _).2).mono ?_; rintro e w' ⟨rfl, hb'⟩; exact ⟨_, rfl, hb', rfl⟩)); (simp only [zca, zcn] <;> exact rfl))
  iterate 3 (apply Plan.val'; (focus (intro x0 x1 x2 x3 x4 x5 x6 x7 x8 x9 x10 x11 x12 x13 x14 x15 x16 w1 hb; (try simp only [depF, fillA, Act.put, zta, ztz, zpt, zsz, zss, zl0, zls]); (repeat (rintro rfl)); have st := st.call hb; ((apply Yphi.run; (exact rfl); (go_simp <;> (try simp (disch := omega) only [wrap_id, sub_left, zac]) <;> rfl); exact rfl)))); (simp only [zca, zcn] <;> exact rfl))
  (apply Plan.val'; (focus (intro x0 x1 x2 x3 x4 x5 x6 x7 x8 x9 x10 x11 x12 x13 x14 x15 x16 w1 hb; (try simp only [depF, fillA, Act.put, zta, ztz, zpt, zsz, zss, zl0, zls]); (repeat (rintro rfl)); have st := st.call hb; apply Yphi.call; (exact rfl); (go_simp <;> (try simp (disch := omega) only [wrap_id, sub_left, zac]) <;> rfl); exact rfl; refine (get32_any g (o + 4) _ _ (L.bx l (p + 4)) (L.bx l (p + 5)) (L.bx l (p + 6)) (L.bx l (p + 7)) _ (Nat.lt_of_lt_of_le HS.out st.size) ((st.old HS.out).trans (HX.out 4 (by omega))) ((st.old HS.out).trans (HX.out 5 (by omega))) ((st.old HS.out).trans (HX.out 6 (by omega))) ((st.old HS.out).trans (HX.out 7 (by omega))) (by omega) (by omega) (HB.out _).1 (HB.out _).2 (HB.out _).1 (HB.out _).2 (HB.out _).1 (HB.out _).2 (HB.out _).1 (HB.out _).2).mono ?_; rintro e w' ⟨rfl, hb'⟩; exact ⟨_, rfl, hb', rfl⟩)); (simp only [zca, zcn] <;> exact rfl))
  iterate 2 (apply Plan.val'; (focus (intro x0 x1 x2 x3 x4 x5 x6 x7 x8 x9 x10 x11 x12 x13 x14 x15 x16 w1 hb; (try simp only [depF, fillA, Act.put, zta, ztz, zpt, zsz, zss, zl0, zls]); (repeat (rintro rfl)); have st := st.call hb; ((apply Yphi.run; (exact rfl); (go_simp <;> (try simp (disch := omega) only [wrap_id, sub_left, zac]) <;> rfl); exact rfl)))); (simp only [zca, zcn] <;> exact rfl))
  intro x0 x1 x2 x3 x4 x5 x6 x7 x8 x9 x10 x11 x12 x13 x14 x15 x16 lo hi w1 hb hap
  rintro rfl rfl rfl rfl rfl rfl rfl rfl rfl rfl rfl rfl rfl rfl rfl rfl rfl
  simp only [allPhi, fillA, Act.put, zta, ztz, zpt, zsz, zss, zda, zdz]
  have st := st.call hb
  clear hap hb
  go_wp2_with (refine WL.out ?_; (repeat ((refine WL.op ?_ ?_; (exact rfl); intro K hK; (((((with_reducible apply ow_storeN' st); exact rfl; exact inferInstance; exact rfl; (exact get0); exact rfl)); exact rfl; exact rfl; (simp <;> done); ((try simp only [zta, ztz, zda, zdz, zca, zcn, zan, zsz, zss]) <;> exact rfl); (try clear st); intro w' st)); refine WL.next hK (by simp only [Act.put, zpt, zsz, zss]; exact rfl) ?_; clear hK K))); (try refine WL.nil ?_))
  rw [e16.out, e32.out] at st
  exact bodyPost_cell 0 st rfl inferInstance rfl rfl rfl rfl ⟨rfl, st.below⟩
end Go.Proofs.YtppjhccdgbheiaaDoor
namespace Go.Proofs.YtppjhccdgbheiaaDoor
open Go.RowKit Go.Hp
set_option maxRecDepth 8000 in
set_option maxHeartbeats 4000000 in
theorem rDecode_head (l : List UInt8) (w : World) (hl5 : l.length ≤ 100000) (hl : 12 ≤ l.length) (h : 16 < L.bx l 2 ∨ 16 < L.bx l 3) :
    Calls Tryd.prog 33 #[.string ⟨l.toArray⟩] w (RetDescErr w (L.Desc.none, 8)) := by
  have hsz := bytes_size l
  have st := St.start w
  have hl2 : ¬ ((l.length : Int) < 12) := by omega
  by_cases h2 : 16 < L.bx l 2
  · clear h
    go_enter Tryd.func33, Tryd.ntmps33
    go_wp2_with (refine WL.out ?_; (repeat (first | (refine WL.op ?_ ?_; (exact rfl); intro K hK; (first | ((first | ((with_reducible apply ow_move); exact rfl) | ((with_reducible apply ow_assign); exact rfl)); (go_simp <;> (try simp (disch := omega) only [wrap_id, sub_left, zac]) <;> rfl)) | ((((with_reducible apply ow_loadN st); exact rfl; exact inferInstance; exact rfl; (exact get0); ((try simp only [zta, ztz, zda, zdz, zca, zcn, zan, zsz, zss]) <;> exact rfl))); exact rfl) | ((((with_reducible apply ow_alloc st); exact rfl; exact inferInstance; (go_simp <;> (try simp (disch := omega) only [wrap_id, sub_left, zac]) <;> rfl))); (try clear st); intro b w' st) | ((((with_reducible apply ow_storeN' st); exact rfl; exact inferInstance; exact rfl; (first | exact get0 | exact get1); exact rfl)); exact rfl; exact rfl; (simp <;> done); ((try simp only [zta, ztz, zda, zdz, zca, zcn, zan, zsz, zss]) <;> exact rfl); (try clear st); intro w' st) | ((with_reducible apply ow_eval); (go_simp <;> (try simp (disch := omega) only [wrap_id, sub_left, zac]) <;> rfl); first | (with_reducible apply up_value) | ((with_reducible apply up_enter); first | (go_at_call 66; ((with_reducible refine (LittleAt_i l (2) 1 (by omega) (by omega) (lev_one l 2) _ hl5 (by omega) (by decide) (by decide)).mono ?_); rintro e w' ⟨rfl, hb⟩; replace st := st.call hb; clear hb; refine ⟨_, rfl, ?_⟩)) | (go_at_call 66; ((with_reducible refine (LittleAt_i l (3) 1 (by omega) (by omega) (lev_one l 3) _ hl5 (by omega) (by decide) (by decide)).mono ?_); rintro e w' ⟨rfl, hb⟩; replace st := st.call hb; clear hb; refine ⟨_, rfl, ?_⟩))))); refine WL.next hK (by simp only [Act.put, zpt, zsz, zss]; exact rfl) ?_; clear hK K) | (refine WL.skip ?_ (by simp only [Act.put, zpt, zsz, zss]; exact rfl) ?_; (exact rfl)))); (try refine WL.nil ?_))
    refine bodyPost_cell_tmp 1 st rfl inferInstance rfl rfl rfl rfl rfl ?_
    exact ⟨none, 0, 0, none, 0, 0, rfl, ((st.sub (List.nil_sublist _)).nilRow _ _).nilRow _ _⟩
  · have h3 : 16 < L.bx l 3 := h.resolve_left h2
    have h2' : L.bx l 2 ≤ 16 := by omega
    clear h h2
    go_enter Tryd.func33, Tryd.ntmps33
    go_wp2_with (refine WL.out ?_; (repeat ((refine WL.op ?_ ?_; (first | exact rfl | (simp [Region.wanted, yielded, *] <;> done)); intro K hK; (first | ((first | ((with_reducible apply ow_move); exact rfl) | ((with_reducible apply ow_assign); exact rfl)); (go_simp <;> (try simp (disch := omega) only [wrap_id, sub_left, zac]) <;> rfl)) | ((((with_reducible apply ow_loadN st); exact rfl; exact inferInstance; exact rfl; (exact get0); ((try simp only [zta, ztz, zda, zdz, zca, zcn, zan, zsz, zss]) <;> exact rfl))); exact rfl) | ((((with_reducible apply ow_alloc st); exact rfl; exact inferInstance; (go_simp <;> (try simp (disch := omega) only [wrap_id, sub_left, zac]) <;> rfl))); (try clear st); intro b w' st) | ((((with_reducible apply ow_storeN' st); exact rfl; exact inferInstance; exact rfl; (first | exact get0 | exact get1); exact rfl)); exact rfl; exact rfl; (simp <;> done); ((try simp only [zta, ztz, zda, zdz, zca, zcn, zan, zsz, zss]) <;> exact rfl); (try clear st); intro w' st) | ((with_reducible apply ow_eval); (go_simp <;> (try simp (disch := omega) only [wrap_id, sub_left, zac]) <;> rfl); first | (with_reducible apply up_value) | ((with_reducible apply up_enter); first | (go_at_call 66; ((with_reducible refine (LittleAt_i l (2) 1 (by omega) (by omega) (lev_one l 2) _ hl5 (by omega) (by decide) (by decide)).mono ?_); rintro e w' ⟨rfl, hb⟩; replace st := st.call hb; clear hb; refine ⟨_, rfl, ?_⟩)) | (go_at_call 66; ((with_reducible refine (LittleAt_i l (3) 1 (by omega) (by omega) (lev_one l 3) _ hl5 (by omega) (by decide) (by decide)).mono ?_); rintro e w' ⟨rfl, hb⟩; replace st := st.call hb; clear hb; refine ⟨_, rfl, ?_⟩))))); refine WL.next hK (by simp only [Act.put, zpt, zsz, zss]; exact rfl) ?_; clear hK K))); (try refine WL.nil ?_))
    refine bodyPost_cell_tmp 1 st rfl inferInstance rfl rfl rfl rfl rfl ?_
    exact ⟨none, 0, 0, none, 0, 0, rfl, ((st.sub (List.nil_sublist _)).nilRow _ _).nilRow _ _⟩
set_option maxRecDepth 8000 in
set_option maxHeartbeats 4000000 in
theorem rDecode_size (l : List UInt8) (w : World) (hl5 : l.length ≤ 100000) (hl : 12 ≤ l.length) (h2 : L.bx l 2 ≤ 16) (h3 : L.bx l 3 ≤ 16) (h : (l.length : Int) ≠ 12 + 8 * (L.bx l 2 + L.bx l 3)) :
    Calls Tryd.prog 33 #[.string ⟨l.toArray⟩] w (RetDescErr w (L.Desc.none, 10)) := by
  have hsz := bytes_size l
  have st := St.start w
  have hl2 : ¬ ((l.length : Int) < 12) := by omega
  have g2 := (L.bx_bound l 2).1
  have g3 := (L.bx_bound l 3).1
  have hne : ((l.length : Int) != 12 + 8 * (L.bx l 2 + L.bx l 3)) = true := by simpa using h
  have HH := Lib.hid h
  clear h
  go_enter Tryd.func33, Tryd.ntmps33
  go_wp2_with (refine WL.out ?_; (repeat ((refine WL.op ?_ ?_; (first | exact rfl | (simp [Region.wanted, yielded, *] <;> done)); intro K hK; (first | ((first | ((with_reducible apply ow_move); exact rfl) | ((with_reducible apply ow_assign); exact rfl)); (go_simp <;> (try simp (disch := omega) only [wrap_id, sub_left, zac]) <;> rfl)) | ((((with_reducible apply ow_loadN st); exact rfl; exact inferInstance; exact rfl; (exact get0); ((try simp only [zta, ztz, zda, zdz, zca, zcn, zan, zsz, zss]) <;> exact rfl))); exact rfl) | ((((with_reducible apply ow_alloc st); exact rfl; exact inferInstance; (go_simp <;> (try simp (disch := omega) only [wrap_id, sub_left, zac]) <;> rfl))); (try clear st); intro b w' st) | ((((with_reducible apply ow_storeN' st); exact rfl; exact inferInstance; exact rfl; (first | exact get0 | exact get1); exact rfl)); exact rfl; exact rfl; (simp <;> done); ((try simp only [zta, ztz, zda, zdz, zca, zcn, zan, zsz, zss]) <;> exact rfl); (try clear st); intro w' st) | ((with_reducible apply ow_eval); (go_simp <;> (try simp (disch := omega) only [wrap_id, sub_left, zac]) <;> rfl); first | (with_reducible apply up_value) | ((with_reducible apply up_enter); first | (go_at_call 66; ((with_reducible refine (LittleAt_i l (2) 1 (by omega) (by omega) (lev_one l 2) _ hl5 (by omega) (by decide) (by decide)).mono ?_); rintro e w' ⟨rfl, hb⟩; replace st := st.call hb; clear hb; refine ⟨_, rfl, ?_⟩)) | (go_at_call 66; ((with_reducible refine (LittleAt_i l (3) 1 (by omega) (by omega) (lev_one l 3) _ hl5 (by omega) (by decide) (by decide)).mono ?_); rintro e w' ⟨rfl, hb⟩; replace st := st.call hb; clear hb; refine ⟨_, rfl, ?_⟩))))); refine WL.next hK (by simp only [Act.put, zpt, zsz, zss]; exact rfl) ?_; clear hK K))); (try refine WL.nil ?_))
  refine bodyPost_cell_tmp 1 st rfl inferInstance rfl rfl rfl rfl rfl ?_
  exact ⟨none, 0, 0, none, 0, 0, rfl, ((st.sub (List.nil_sublist _)).nilRow _ _).nilRow _ _⟩
set_option maxRecDepth 8000 in
set_option maxHeartbeats 4000000 in
theorem rDecode_form (l : List UInt8) (w : World) (hl5 : l.length ≤ 100000) (hl : 12 ≤ l.length) (h2 : L.bx l 2 ≤ 16) (h3 : L.bx l 3 ≤ 16) (hq : (l.length : Int) = 12 + 8 * (L.bx l 2 + L.bx l 3)) (h : L.bx l 0 ≠ 1 ∨ 3 < L.bx l 1) :
    Calls Tryd.prog 33 #[.string ⟨l.toArray⟩] w (RetDescErr w (L.Desc.none, 3)) := by
  have hsz := bytes_size l
  have st := St.start w
  have hl2 : ¬ ((l.length : Int) < 12) := by omega
  have g2 := (L.bx_bound l 2).1
  have g3 := (L.bx_bound l 3).1
  have hne : ((l.length : Int) != 12 + 8 * (L.bx l 2 + L.bx l 3)) = false := by simpa using hq
  have HQ := Lib.hid hq
  clear hq
  by_cases h0 : L.bx l 0 = 1
  · have h1 : 3 < L.bx l 1 := h.resolve_left (fun hh => hh h0)
    have hb0 : (L.bx l 0 != 1) = false := by simpa using h0
    clear h h0
    go_enter Tryd.func33, Tryd.ntmps33
    go_wp2_with (refine WL.out ?_; (repeat ((refine WL.op ?_ ?_; (first | exact rfl | (simp [Region.wanted, yielded, *] <;> done)); intro K hK; (first | ((first | ((with_reducible apply ow_move); exact rfl) | ((with_reducible apply ow_assign); exact rfl)); (go_simp <;> (try simp (disch := omega) only [wrap_id, sub_left, zac]) <;> rfl)) | ((((with_reducible apply ow_loadN st); exact rfl; exact inferInstance; exact rfl; (exact get0); ((try simp only [zta, ztz, zda, zdz, zca, zcn, zan, zsz, zss]) <;> exact rfl))); exact rfl) | ((((with_reducible apply ow_alloc st); exact rfl; exact inferInstance; (go_simp <;> (try simp (disch := omega) only [wrap_id, sub_left, zac]) <;> rfl))); (try clear st); intro b w' st) | ((((with_reducible apply ow_storeN' st); exact rfl; exact inferInstance; exact rfl; (first | exact get0 | exact get1); exact rfl)); exact rfl; exact rfl; (simp <;> done); ((try simp only [zta, ztz, zda, zdz, zca, zcn, zan, zsz, zss]) <;> exact rfl); (try clear st); intro w' st) | ((with_reducible apply ow_eval); (go_simp <;> (try simp (disch := omega) only [wrap_id, sub_left, zac]) <;> rfl); first | (with_reducible apply up_value) | ((with_reducible apply up_enter); first | (go_at_call 66; ((with_reducible refine (LittleAt_i l (2) 1 (by omega) (by omega) (lev_one l 2) _ hl5 (by omega) (by decide) (by decide)).mono ?_); rintro e w' ⟨rfl, hb⟩; replace st := st.call hb; clear hb; refine ⟨_, rfl, ?_⟩)) | (go_at_call 66; ((with_reducible refine (LittleAt_i l (3) 1 (by omega) (by omega) (lev_one l 3) _ hl5 (by omega) (by decide) (by decide)).mono ?_); rintro e w' ⟨rfl, hb⟩; replace st := st.call hb; clear hb; refine ⟨_, rfl, ?_⟩)) | (go_at_call 66; ((with_reducible refine (LittleAt_i l (1) 1 (by omega) (by omega) (lev_one l 1) _ hl5 (by omega) (by decide) (by decide)).mono ?_); rintro e w' ⟨rfl, hb⟩; replace st := st.call hb; clear hb; refine ⟨_, rfl, ?_⟩)) | (go_at_call 66; ((with_reducible refine (LittleAt_i l (0) 1 (by omega) (by omega) (lev_one l 0) _ hl5 (by omega) (by decide) (by decide)).mono ?_); rintro e w' ⟨rfl, hb⟩; replace st := st.call hb; clear hb; refine ⟨_, rfl, ?_⟩))))); refine WL.next hK (by simp only [Act.put, zpt, zsz, zss]; exact rfl) ?_; clear hK K))); (try refine WL.nil ?_))
    refine bodyPost_cell_tmp 1 st rfl inferInstance rfl rfl rfl rfl rfl ?_
    exact ⟨none, 0, 0, none, 0, 0, rfl, ((st.sub (List.nil_sublist _)).nilRow _ _).nilRow _ _⟩
  · have hb0 : (L.bx l 0 != 1) = true := by simpa using h0
    clear h h0
    go_enter Tryd.func33, Tryd.ntmps33
    go_wp2_with (refine WL.out ?_; (repeat (first | (refine WL.op ?_ ?_; (first | exact rfl | (simp [Region.wanted, yielded, *] <;> done)); intro K hK; (first | ((first | ((with_reducible apply ow_move); exact rfl) | ((with_reducible apply ow_assign); exact rfl)); (go_simp <;> (try simp (disch := omega) only [wrap_id, sub_left, zac]) <;> rfl)) | ((((with_reducible apply ow_loadN st); exact rfl; exact inferInstance; exact rfl; (exact get0); ((try simp only [zta, ztz, zda, zdz, zca, zcn, zan, zsz, zss]) <;> exact rfl))); exact rfl) | ((((with_reducible apply ow_alloc st); exact rfl; exact inferInstance; (go_simp <;> (try simp (disch := omega) only [wrap_id, sub_left, zac]) <;> rfl))); (try clear st); intro b w' st) | ((((with_reducible apply ow_storeN' st); exact rfl; exact inferInstance; exact rfl; (first | exact get0 | exact get1); exact rfl)); exact rfl; exact rfl; (simp <;> done); ((try simp only [zta, ztz, zda, zdz, zca, zcn, zan, zsz, zss]) <;> exact rfl); (try clear st); intro w' st) | ((with_reducible apply ow_eval); (go_simp <;> (try simp (disch := omega) only [wrap_id, sub_left, zac]) <;> rfl); first | (with_reducible apply up_value) | ((with_reducible apply up_enter); first | (go_at_call 66; ((with_reducible refine (LittleAt_i l (2) 1 (by omega) (by omega) (lev_one l 2) _ hl5 (by omega) (by decide) (by decide)).mono ?_); rintro e w' ⟨rfl, hb⟩; replace st := st.call hb; clear hb; refine ⟨_, rfl, ?_⟩)) | (go_at_call 66; ((with_reducible refine (LittleAt_i l (3) 1 (by omega) (by omega) (lev_one l 3) _ hl5 (by omega) (by decide) (by decide)).mono ?_); rintro e w' ⟨rfl, hb⟩; replace st := st.call hb; clear hb; refine ⟨_, rfl, ?_⟩)) | (go_at_call 66; ((with_reducible refine (LittleAt_i l (1) 1 (by omega) (by omega) (lev_one l 1) _ hl5 (by omega) (by decide) (by decide)).mono ?_); rintro e w' ⟨rfl, hb⟩; replace st := st.call hb; clear hb; refine ⟨_, rfl, ?_⟩)) | (go_at_call 66; ((with_reducible refine (LittleAt_i l (0) 1 (by omega) (by omega) (lev_one l 0) _ hl5 (by omega) (by decide) (by decide)).mono ?_); rintro e w' ⟨rfl, hb⟩; replace st := st.call hb; clear hb; refine ⟨_, rfl, ?_⟩))))); refine WL.next hK (by simp only [Act.put, zpt, zsz, zss]; exact rfl) ?_; clear hK K) | (refine WL.skip ?_ (by simp only [Act.put, zpt, zsz, zss]; exact rfl) ?_; (exact rfl)))); (try refine WL.nil ?_))
    refine bodyPost_cell_tmp 1 st rfl inferInstance rfl rfl rfl rfl rfl ?_
    exact ⟨none, 0, 0, none, 0, 0, rfl, ((st.sub (List.nil_sublist _)).nilRow _ _).nilRow _ _⟩
end Go.Proofs.YtppjhccdgbheiaaDoor
namespace Go.Proofs.YtppjhccdgbheiaaDoor
open Go.RowKit Go.Hp
namespace L
theorem to_take {l : List UInt8} {k m : Nat} (h : k < m) : (acesTo l (k + 1)).take m = (acesTo l k).take m ++ [aceAt l (12 + 8 * k)] ∧ (acesTo l (k + 1)).drop m = (acesTo l k).drop m := by
  have e := acesTo_len l k
  have e1 := acesTo_len l (k + 1)
  rw [List.take_of_length_le (by omega), List.take_of_length_le (by omega), List.drop_of_length_le (by omega), List.drop_of_length_le (by omega)]
  exact ⟨acesTo_snoc l k, rfl⟩
theorem to_drop {l : List UInt8} {k m : Nat} (h : m ≤ k) : (acesTo l (k + 1)).take m = (acesTo l k).take m ∧ (acesTo l (k + 1)).drop m = (acesTo l k).drop m ++ [aceAt l (12 + 8 * k)] := by
  have e := acesTo_len l k
  rw [acesTo_snoc, List.take_append_of_le_length (by omega), List.drop_append_of_le_length (by omega)]
  exact ⟨rfl, rfl⟩
end L
set_option maxRecDepth 8000 in
set_option maxHeartbeats 4000000 in
theorem rDecode_good (l : List UInt8) (w : World) (hl5 : l.length ≤ 100000) (hl : 12 ≤ l.length) (h2 : L.nb l 2 ≤ 16) (h3 : L.nb l 3 ≤ 16) (hq : l.length = 12 + 8 * (L.nb l 2 + L.nb l 3)) (h0 : L.bx l 0 = 1) (h1 : L.bx l 1 ≤ 3) (R : L.Desc × Int) (hR : R = if (L.decD l).rErrs.2 ≠ 0 then (L.Desc.none, (L.decD l).rErrs.2) else (L.decD l, 0)) :
    Calls Tryd.prog 33 #[.string ⟨l.toArray⟩] w (RetDescErr w R) := by
  have HR := Lib.hid hR
  clear hR
  have hsz := bytes_size l
  have st := St.start w
  have hl2 : ¬ ((l.length : Int) < 12) := by omega
  have g1 := (L.bx_bound l 1).1
  have HN2 : Hid (L.lev l 2 1 = ((L.nb l 2 : Nat) : Int)) := Lib.hid (lev_one l 2)
  have HN3 : Hid (L.lev l 3 1 = ((L.nb l 3 : Nat) : Int)) := Lib.hid (lev_one l 3)
  have i2 : ((L.nb l 2 : Nat) : Int) ≤ 16 := by omega
  have i3 : ((L.nb l 3 : Nat) : Int) ≤ 16 := by omega
  have hne : ((l.length : Int) != 12 + 8 * (((L.nb l 2 : Nat) : Int) + ((L.nb l 3 : Nat) : Int))) = false := by
    have : (l.length : Int) = 12 + 8 * (((L.nb l 2 : Nat) : Int) + ((L.nb l 3 : Nat) : Int)) := by omega
    simpa using this
  have HQ := Lib.hid hq
  have hb0 : (L.bx l 0 != 1) = false := by simpa using h0
  have q1 : (L.bx l 1).tmod 2 = L.bx l 1 % 2 := Int.tmod_eq_emod_of_nonneg g1
  have q2 : IntKind.i64.wrap ((L.bx l 1).tdiv 2) = L.bx l 1 / 2 := by rw [Int.tdiv_eq_ediv_of_nonneg g1, wrap_id (by omega) (by omega)]
  clear hq h0
  go_enter Tryd.func33, Tryd.ntmps33
  go_wp2_with (refine WL.out ?_; (repeat ((refine WL.op ?_ ?_; (first | exact rfl | (simp [Region.wanted, yielded, *] <;> done)); intro K hK; (first | ((first | ((with_reducible apply ow_move); exact rfl) | ((with_reducible apply ow_assign); exact rfl)); (go_simp <;> (try simp (disch := omega) only [wrap_id, sub_left, zac]) <;> rfl)) | ((((with_reducible apply ow_alloc st); exact rfl; exact inferInstance; (go_simp <;> (try simp (disch := omega) only [wrap_id, sub_left, zac]) <;> rfl))); (try clear st); intro b w' st) | ((((with_reducible apply ow_storeN' st); exact rfl; exact inferInstance; exact rfl; (exact get0); exact rfl)); exact rfl; exact rfl; (simp <;> done); ((try simp only [zta, ztz, zda, zdz, zca, zcn, zan, zsz, zss]) <;> exact rfl); (try clear st); intro w' st) | ((with_reducible apply ow_eval); (go_simp <;> (try simp (disch := omega) only [wrap_id, sub_left, zac]) <;> rfl); first | (with_reducible apply up_value) | ((with_reducible apply up_enter); first | (go_at_call 66; ((with_reducible refine (LittleAt_i l (2) 1 (by omega) (by omega) (HN2.out) _ hl5 (by omega) (by decide) (by decide)).mono ?_); rintro e w' ⟨rfl, hb⟩; replace st := st.call hb; clear hb; refine ⟨_, rfl, ?_⟩)) | (go_at_call 66; ((with_reducible refine (LittleAt_i l (3) 1 (by omega) (by omega) (HN3.out) _ hl5 (by omega) (by decide) (by decide)).mono ?_); rintro e w' ⟨rfl, hb⟩; replace st := st.call hb; clear hb; refine ⟨_, rfl, ?_⟩)) | (go_at_call 66; ((with_reducible refine (LittleAt_i l (1) 1 (by omega) (by omega) (lev_one l 1) _ hl5 (by omega) (by decide) (by decide)).mono ?_); rintro e w' ⟨rfl, hb⟩; replace st := st.call hb; clear hb; refine ⟨_, rfl, ?_⟩)) | (go_at_call 66; ((with_reducible refine (LittleAt_i l (0) 1 (by omega) (by omega) (lev_one l 0) _ hl5 (by omega) (by decide) (by decide)).mono ?_); rintro e w' ⟨rfl, hb⟩; replace st := st.call hb; clear hb; refine ⟨_, rfl, ?_⟩)) | (go_at_call 66; ((with_reducible refine (LittleAt_i l (4) 4 (by omega) (by omega) (rfl) _ hl5 (by omega) (by decide) (by decide)).mono ?_); rintro e w' ⟨rfl, hb⟩; replace st := st.call hb; clear hb; refine ⟨_, rfl, ?_⟩)) | (go_at_call 66; ((with_reducible refine (LittleAt_i l (8) 4 (by omega) (by omega) (rfl) _ hl5 (by omega) (by decide) (by decide)).mono ?_); rintro e w' ⟨rfl, hb⟩; replace st := st.call hb; clear hb; refine ⟨_, rfl, ?_⟩))))); refine WL.next hK (by simp only [Act.put, zpt, zsz, zss]; exact rfl) ?_; clear hK K))); (try refine WL.nil ?_))
  rename_i b2 _ b4 _ _ _ _ _ _ _ _ _ _ _ _ _
  have st2 := (st.nilRow 23 4).nilRow 23 4
  clear st
  go_loopw [9] (fun i wr => ∃ (k : Nat) (A1 : Option Addr) (n1 c1 : Nat) (A2 : Option Addr) (n2 c2 : Nat), k ≤ L.nb l 2 + L.nb l 3 ∧ i = .int .i64 k ∧ St w wr [aceRow (.slice A1 n1 c1) n1 ((L.acesTo l k).take (L.nb l 2)), aceRow (.slice A2 n2 c2) n2 ((L.acesTo l k).drop (L.nb l 2)),
    .box b 26 [.int .i64 (L.lev l 4 4), .int .i64 (L.lev l 8 4), .bool (L.bx l 1 % 2 == 1), .bool (L.bx l 1 / 2 == 1), .slice A1 n1 c1, .slice A2 n2 c2], .box b4 26 [.int .i64 0, .int .i64 0, .bool false, .bool false, .slice none 0 0, .slice none 0 0], .box b2 26 [.int .i64 0, .int .i64 0, .bool false, .bool false, .slice none 0 0, .slice none 0 0]]) (fun i _ => L.nb l 2 + L.nb l 3 - (intOf i).toNat)
  case atStart => exact ⟨0, none, 0, 0, none, 0, 0, by omega, rfl, by rw [show L.acesTo l 0 = [] from rfl, List.take_nil, List.drop_nil]; exact st2⟩
  case round =>
    clear st2
    obtain ⟨k, A1, n1, c1, A2, n2, c2, hk, rfl, st⟩ := hrel
    have hl1 : n1 ≤ 32 := by have := St.len st (i := 0) rfl; rw [List.length_take, L.acesTo_len] at this; omega
    have hl3 : n2 ≤ 32 := by have := St.len st (i := 1) rfl; rw [List.length_drop, L.acesTo_len] at this; omega
    by_cases hlt : k < L.nb l 2 + L.nb l 3
    · have hltI : (k : Int) < ((L.nb l 2 : Nat) : Int) + ((L.nb l 3 : Nat) : Int) := by omega
      have hk32 : (k : Int) ≤ 32 := by omega
      have hbd : 12 + 8 * k + 8 ≤ l.length := by have := HQ.out; omega
      by_cases hke : k < L.nb l 2
      · have hs' := Lib.hid (L.to_take (l := l) hke)
        have hkeI : (k : Int) < ((L.nb l 2 : Nat) : Int) := by omega
        go_wp2_with (refine WL.out ?_; (repeat ((refine WL.op ?_ ?_; (exact rfl); intro K hK; (first | ((first | ((with_reducible apply ow_move); exact rfl) | ((with_reducible apply ow_assign); exact rfl)); (go_simp <;> (try simp (disch := omega) only [wrap_id, sub_left, zac]) <;> rfl)) | ((first | ((with_reducible apply ow_load1 st); exact rfl; exact inferInstance; exact rfl; (exact get3)) | ((with_reducible apply ow_loadN st); exact rfl; exact inferInstance; exact rfl; (exact get0); ((try simp only [zta, ztz, zda, zdz, zca, zcn, zan, zsz, zss]) <;> exact rfl))); exact rfl) | ((first | ((with_reducible apply ow_newSlice st); exact rfl; (go_simp <;> (try simp (disch := omega) only [wrap_id, sub_left, zac]) <;> rfl); exact rfl) | ((with_reducible apply ow_alloc st); exact rfl; exact inferInstance; (go_simp <;> (try simp (disch := omega) only [wrap_id, sub_left, zac]) <;> rfl))); (try clear st); intro b w' st) | ((first | ((with_reducible apply ow_store1' st); exact rfl; exact inferInstance; exact rfl; (exact get4); (go_simp <;> (try simp (disch := omega) only [wrap_id, sub_left, zac]) <;> rfl)) | ((with_reducible apply ow_storeN' st); exact rfl; exact inferInstance; exact rfl; (exact get0); exact rfl)); exact rfl; exact rfl; (simp <;> done); ((try simp only [zta, ztz, zda, zdz, zca, zcn, zan, zsz, zss]) <;> exact rfl); (try clear st); intro w' st) | ((with_reducible apply ow_append 2 st); exact rfl; exact inferInstance; exact rfl; exact rfl; exact rfl; exact st.rdBox (i := 0) (n := 1) (size := 4) rfl rfl; (focus ((simp [Value.oneCell']; done))); (focus (unfold maxLen; omega)); (focus omega); (try clear st); intro A' c' w' st; (try simp only [List.set_cons_zero, List.set_cons_succ, Nat.zero_add, List.nil_append] at st)) | ((with_reducible apply ow_eval); (go_simp <;> (try simp (disch := omega) only [wrap_id, sub_left, zac]) <;> rfl); first | (with_reducible apply up_value) | ((with_reducible apply up_enter); first | (go_at_call 66; ((with_reducible refine (LittleAt_i l (12 + 8 * k) 1 (by omega) (by omega) (lev_one l _) _ hl5 (by omega) (by decide) (by decide)).mono ?_); rintro e w' ⟨rfl, hb⟩; replace st := st.call hb; clear hb; refine ⟨_, rfl, ?_⟩)) | (go_at_call 66; ((with_reducible refine (LittleAt_i l (12 + 8 * k + 1) 1 (by omega) (by omega) (lev_one l _) _ hl5 (by omega) (by decide) (by decide)).mono ?_); rintro e w' ⟨rfl, hb⟩; replace st := st.call hb; clear hb; refine ⟨_, rfl, ?_⟩)) | (go_at_call 66; ((with_reducible refine (LittleAt_i l (12 + 8 * k + 2) 2 (by omega) (by omega) (rfl) _ hl5 (by omega) (by decide) (by decide)).mono ?_); rintro e w' ⟨rfl, hb⟩; replace st := st.call hb; clear hb; refine ⟨_, rfl, ?_⟩)) | (go_at_call 66; ((with_reducible refine (LittleAt_i l (12 + 8 * k + 4) 4 (by omega) (by omega) (rfl) _ hl5 (by omega) (by decide) (by decide)).mono ?_); rintro e w' ⟨rfl, hb⟩; replace st := st.call hb; clear hb; refine ⟨_, rfl, ?_⟩))))); refine WL.next hK (by simp only [Act.put, zpt, zsz, zss]; exact rfl) ?_; clear hK K))); (try refine WL.nil ?_))
        exact ⟨⟨k + 1, A', n1 + 1, c', A2, n2, c2, by omega, by go_num, by rw [hs'.out.1, hs'.out.2]; unfold aceRow; rw [L.cellsOf_append]; exact st.tail.tail⟩, by simp [intOf]; omega⟩
      · have hs' := Lib.hid (L.to_drop (l := l) (Nat.le_of_not_lt hke))
        have hkeI : ((L.nb l 2 : Nat) : Int) ≤ (k : Int) := by omega
        go_wp2_with (refine WL.out ?_; (repeat ((refine WL.op ?_ ?_; (exact rfl); intro K hK; (first | ((first | ((with_reducible apply ow_move); exact rfl) | ((with_reducible apply ow_assign); exact rfl)); (go_simp <;> (try simp (disch := omega) only [wrap_id, sub_left, zac]) <;> rfl)) | ((first | ((with_reducible apply ow_load1 st); exact rfl; exact inferInstance; exact rfl; (exact get3)) | ((with_reducible apply ow_loadN st); exact rfl; exact inferInstance; exact rfl; (exact get0); ((try simp only [zta, ztz, zda, zdz, zca, zcn, zan, zsz, zss]) <;> exact rfl))); exact rfl) | ((first | ((with_reducible apply ow_newSlice st); exact rfl; (go_simp <;> (try simp (disch := omega) only [wrap_id, sub_left, zac]) <;> rfl); exact rfl) | ((with_reducible apply ow_alloc st); exact rfl; exact inferInstance; (go_simp <;> (try simp (disch := omega) only [wrap_id, sub_left, zac]) <;> rfl))); (try clear st); intro b w' st) | ((first | ((with_reducible apply ow_store1' st); exact rfl; exact inferInstance; exact rfl; (exact get4); (go_simp <;> (try simp (disch := omega) only [wrap_id, sub_left, zac]) <;> rfl)) | ((with_reducible apply ow_storeN' st); exact rfl; exact inferInstance; exact rfl; (exact get0); exact rfl)); exact rfl; exact rfl; (simp <;> done); ((try simp only [zta, ztz, zda, zdz, zca, zcn, zan, zsz, zss]) <;> exact rfl); (try clear st); intro w' st) | ((with_reducible apply ow_append 3 st); exact rfl; exact inferInstance; exact rfl; exact rfl; exact rfl; exact st.rdBox (i := 0) (n := 1) (size := 4) rfl rfl; (focus ((simp [Value.oneCell']; done))); (focus (unfold maxLen; omega)); (focus omega); (try clear st); intro A' c' w' st; (try simp only [List.set_cons_zero, List.set_cons_succ, Nat.zero_add, List.nil_append] at st)) | ((with_reducible apply ow_eval); (go_simp <;> (try simp (disch := omega) only [wrap_id, sub_left, zac]) <;> rfl); first | (with_reducible apply up_value) | ((with_reducible apply up_enter); first | (go_at_call 66; ((with_reducible refine (LittleAt_i l (12 + 8 * k) 1 (by omega) (by omega) (lev_one l _) _ hl5 (by omega) (by decide) (by decide)).mono ?_); rintro e w' ⟨rfl, hb⟩; replace st := st.call hb; clear hb; refine ⟨_, rfl, ?_⟩)) | (go_at_call 66; ((with_reducible refine (LittleAt_i l (12 + 8 * k + 1) 1 (by omega) (by omega) (lev_one l _) _ hl5 (by omega) (by decide) (by decide)).mono ?_); rintro e w' ⟨rfl, hb⟩; replace st := st.call hb; clear hb; refine ⟨_, rfl, ?_⟩)) | (go_at_call 66; ((with_reducible refine (LittleAt_i l (12 + 8 * k + 2) 2 (by omega) (by omega) (rfl) _ hl5 (by omega) (by decide) (by decide)).mono ?_); rintro e w' ⟨rfl, hb⟩; replace st := st.call hb; clear hb; refine ⟨_, rfl, ?_⟩)) | (go_at_call 66; ((with_reducible refine (LittleAt_i l (12 + 8 * k + 4) 4 (by omega) (by omega) (rfl) _ hl5 (by omega) (by decide) (by decide)).mono ?_); rintro e w' ⟨rfl, hb⟩; replace st := st.call hb; clear hb; refine ⟨_, rfl, ?_⟩))))); refine WL.next hK (by simp only [Act.put, zpt, zsz, zss]; exact rfl) ?_; clear hK K))); (try refine WL.nil ?_))
        exact ⟨⟨k + 1, A1, n1, c1, A', n2 + 1, c', by omega, by go_num, by rw [hs'.out.1, hs'.out.2]; unfold aceRow; rw [L.cellsOf_append]; exact st.tail.tail⟩, by simp [intOf]; omega⟩
    · obtain rfl : k = L.nb l 2 + L.nb l 3 := by omega
      by_cases hE : (L.decD l).rErrs.2 = 0
      · have HE := Lib.hid hE
        have HR2 : Hid (R = (L.decD l, 0)) := Lib.hid (by rw [HR.out, if_neg (by simp [hE])])
        clear hE
        go_wp2_with (refine WL.out ?_; (repeat ((refine WL.op ?_ ?_; (exact rfl); intro K hK; (first | ((((with_reducible apply ow_assign); exact rfl)); (go_simp <;> (try simp (disch := omega) only [wrap_id, sub_left, zac]) <;> rfl)) | ((((with_reducible apply ow_loadN st); exact rfl; exact inferInstance; exact rfl; (exact get2); ((try simp only [zta, ztz, zda, zdz, zca, zcn, zan, zsz, zss]) <;> exact rfl))); exact rfl) | ((((with_reducible apply ow_storeN' st); exact rfl; exact inferInstance; exact rfl; (exact get4); exact rfl)); exact rfl; exact rfl; (simp <;> done); ((try simp only [zta, ztz, zda, zdz, zca, zcn, zan, zsz, zss]) <;> exact rfl); (try clear st); intro w' st) | ((with_reducible apply ow_eval); (go_simp <;> (try simp (disch := omega) only [wrap_id, sub_left, zac]) <;> rfl); first | (with_reducible apply up_value) | ((with_reducible apply up_enter); ((go_at_call 22; (refine (rDescriptorErr_any (L.decD l) A1 A2 n1 n2 c1 c2 _ _ (St.aces st (i := 0) rfl) (St.aces st (i := 1) rfl) (Nat.le_refl _) (by omega) (by omega)).mono ?_); rw [HE.out]; rintro e w' ⟨rfl, hb⟩; replace st := st.call hb; clear hb; refine ⟨_, rfl, ?_⟩))))); refine WL.next hK (by simp only [Act.put, zpt, zsz, zss]; exact rfl) ?_; clear hK K))); (try refine WL.nil ?_))
        refine bodyPost_cell_tmp 4 st rfl inferInstance rfl rfl rfl rfl rfl ?_
        rw [HR2.out]
        exact ⟨A1, n1, c1, A2, n2, c2, rfl, st.sub (.cons_cons _ (.cons_cons _ (List.nil_sublist _)))⟩
      · obtain ⟨E, hE2⟩ : ∃ E, (L.decD l).rErrs.2 = E := ⟨_, rfl⟩
        have HR2 : Hid (R = (L.Desc.none, E)) := Lib.hid (by rw [HR.out, if_pos hE, hE2])
        rw [hE2] at hE
        have hv0 : (E == 0) = false := by simpa using hE
        have HE := Lib.hid hE2
        clear hE hE2
        go_wp2_with (refine WL.out ?_; (repeat ((refine WL.op ?_ ?_; (exact rfl); intro K hK; (first | ((first | ((with_reducible apply ow_move); exact rfl) | ((with_reducible apply ow_assign); exact rfl)); (go_simp <;> (try simp (disch := omega) only [wrap_id, sub_left, zac]) <;> rfl)) | ((((with_reducible apply ow_loadN st); exact rfl; exact inferInstance; exact rfl; (first | exact get2 | exact get3); ((try simp only [zta, ztz, zda, zdz, zca, zcn, zan, zsz, zss]) <;> exact rfl))); exact rfl) | ((((with_reducible apply ow_storeN' st); exact rfl; exact inferInstance; exact rfl; (exact get4); exact rfl)); exact rfl; exact rfl; (simp <;> done); ((try simp only [zta, ztz, zda, zdz, zca, zcn, zan, zsz, zss]) <;> exact rfl); (try clear st); intro w' st) | ((with_reducible apply ow_eval); (go_simp <;> (try simp (disch := omega) only [wrap_id, sub_left, zac]) <;> rfl); first | (with_reducible apply up_value) | ((with_reducible apply up_enter); ((go_at_call 22; (refine (rDescriptorErr_any (L.decD l) A1 A2 n1 n2 c1 c2 _ _ (St.aces st (i := 0) rfl) (St.aces st (i := 1) rfl) (Nat.le_refl _) (by omega) (by omega)).mono ?_); rw [HE.out]; rintro e w' ⟨rfl, hb⟩; replace st := st.call hb; clear hb; refine ⟨_, rfl, ?_⟩))))); refine WL.next hK (by simp only [Act.put, zpt, zsz, zss]; exact rfl) ?_; clear hK K))); (try refine WL.nil ?_))
        refine bodyPost_cell_tmp 4 st rfl inferInstance rfl rfl rfl rfl rfl ?_
        rw [HR2.out]
        exact ⟨none, 0, 0, none, 0, 0, rfl, ((st.sub (List.nil_sublist _)).nilRow _ _).nilRow _ _⟩
end Go.Proofs.YtppjhccdgbheiaaDoor
namespace Go.Proofs.YtppjhccdgbheiaaDoor
open Go.RowKit Go.Hp
theorem rDecode_any (l : List UInt8) (w : World) (hl5 : l.length ≤ 100000) :
    Calls Tryd.prog 33 #[.string ⟨l.toArray⟩] w (RetDescErr w (L.rDec l)) := by
  have b2 := L.bx_nb l 2
  have b3 := L.bx_nb l 3
  by_cases h : l.length < 12
  · have e : L.rDec l = (L.Desc.none, 10) := by unfold L.rDec; rw [if_pos h]
    rw [e]
    exact rDecode_short l w h
  by_cases h2 : 16 < L.nb l 2 ∨ 16 < L.nb l 3
  · have e : L.rDec l = (L.Desc.none, 8) := by unfold L.rDec; rw [if_neg h, if_pos h2]
    rw [e]
    exact rDecode_head l w hl5 (by omega) (by omega)
  by_cases h3 : l.length ≠ 12 + 8 * (L.nb l 2 + L.nb l 3)
  · have e : L.rDec l = (L.Desc.none, 10) := by unfold L.rDec; rw [if_neg h, if_neg h2, if_pos h3]
    rw [e]
    exact rDecode_size l w hl5 (by omega) (by omega) (by omega) (by omega)
  by_cases h4 : L.bx l 0 ≠ 1 ∨ 3 < L.bx l 1
  · have e : L.rDec l = (L.Desc.none, 3) := by unfold L.rDec; rw [if_neg h, if_neg h2, if_neg h3, if_pos h4]
    rw [e]
    exact rDecode_form l w hl5 (by omega) (by omega) (by omega) (by omega) h4
  · have e : L.rDec l = if (L.decD l).rErrs.2 ≠ 0 then (L.Desc.none, (L.decD l).rErrs.2) else (L.decD l, 0) := by unfold L.rDec; rw [if_neg h, if_neg h2, if_neg h3, if_neg h4]
    exact rDecode_good l w hl5 (by omega) (by omega) (by omega) (by omega) (by omega) (by omega) _ e
end Go.Proofs.YtppjhccdgbheiaaDoor
namespace Go.Proofs.YtppjhccdgbheiaaDoor
open Go.RowKit Go.Hp
set_option maxRecDepth 8000 in
set_option maxHeartbeats 4000000 in
theorem decode_short (l : List UInt8) (w : World) (hl : l.length < 12) :
    Calls Tryd.prog 32 #[.string ⟨l.toArray⟩] w (RetDescErr w (L.Desc.none, 10)) := by
  have hl2 : (l.length : Int) < 12 := by omega
  have st := St.start w
  go_enter Tryd.func32, Tryd.ntmps32
  go_wp2_with (refine WL.out ?_; (repeat ((refine WL.op ?_ ?_; (exact rfl); intro K hK; (first | ((((with_reducible apply ow_assign); exact rfl)); (go_simp <;> (try simp (disch := omega) only [wrap_id, sub_left, zac]) <;> rfl)) | ((((with_reducible apply ow_alloc st); exact rfl; exact inferInstance; (go_simp <;> (try simp (disch := omega) only [wrap_id, sub_left, zac]) <;> rfl))); (try clear st); intro b w' st) | ((((with_reducible apply ow_storeN' st); exact rfl; exact inferInstance; exact rfl; (exact get1); exact rfl)); exact rfl; exact rfl; (simp <;> done); ((try simp only [zta, ztz, zda, zdz, zca, zcn, zan, zsz, zss]) <;> exact rfl); (try clear st); intro w' st) | ((with_reducible apply ow_bytes st); exact rfl; exact rfl; (try clear st); intro g c cs m w' st hcs hlc) | ((with_reducible apply ow_eval); (go_simp <;> (try simp (disch := omega) only [wrap_id, sub_left, zac]) <;> rfl); ((with_reducible apply up_value)))); refine WL.next hK (by simp only [Act.put, zpt, zsz, zss]; exact rfl) ?_; clear hK K))); (try refine WL.nil ?_))
  refine bodyPost_cell_tmp 1 st rfl inferInstance rfl rfl rfl rfl rfl ?_
  exact ⟨none, 0, 0, none, 0, 0, rfl, ((st.sub (List.nil_sublist _)).nilRow _ _).nilRow _ _⟩
end Go.Proofs.YtppjhccdgbheiaaDoor
namespace Go.Hp
open Go.RowKit
section
variable {P : Program} {Q : Exit → Act → World → Prop} {a : Act} {w : World} {l : List Oper} {n s : Nat} {Φ : List Phi}
theorem wpAny_head (hB : phiB l n = true) (I : Array Bool → Act → World → Prop) (hinv : ∀ L a w, I L a w → HeadInv .any l.toArray n L)
    (step : ∀ L a w i o, I L a w → i < n → L.getD i false = false → l[i]? = some o → (∀ e ∈ o.after, Region.binds .any e = true → L.getD e.on false = true) →
      (Region.wanted o (yielded l.toArray a.tmps) = true ∧ o.wp P a w (fun a' w' => I (L.setIfInBounds i true) a' w') (fun _ _ _ => False)) ∨ (Region.wanted o (yielded l.toArray a.tmps) = false ∧ I (L.setIfInBounds i true) (a.put o.dst undef) w))
    (fin : ∀ L a w, I L a w → (∀ k, k < n → L.getD k false = true) → wpList P l.toArray Q (l.drop n) a w) :
    ∀ (f : Nat) (listed : Array Bool) (a' : Act) (w1 : World), I listed a' w1 → ((List.range n).filter fun k => !listed.getD k false).length = f → wpAny P .any l.toArray Q (f + (l.length - n)) listed a' w1 := by
  simp only [phiB, Bool.and_eq_true, decide_eq_true_eq, Bool.or_eq_true] at hB
  obtain ⟨⟨⟨⟨hdist, hn⟩, hback⟩, htail⟩, hseq⟩ := hB
  have htl : (l.take n).length = n := by simp; omega
  intro f
  induction f with
  | zero =>
    intro listed a' w1 hI hf
    have hall : ∀ k, k < n → listed.getD k false = true := by
      intro k hk
      cases hl : listed.getD k false with
      | true => rfl
      | false =>
        have : k ∈ (List.range n).filter fun k => !listed.getD k false := List.mem_filter.2 ⟨List.mem_range.2 hk, by simp [hl]⟩
        rw [List.length_eq_zero_iff.1 hf] at this
        cases this
    have hls : listed = headListed n l.length := by
      have hsz := (hinv _ _ _ hI).size
      simp only [List.size_toArray] at hsz
      apply Array.ext
      · simp [headListed, hsz]
      · intro k h1 h2
        have hk : k < l.length := by omega
        simp only [headListed, List.getElem_toArray, List.getElem_map, List.getElem_range]
        by_cases hkn : k < n
        · have := hall k hkn
          simp [h1] at this
          simp [this, hkn]
        · have := (hinv _ _ _ hI).tail k (by omega) (by simpa using hk)
          simp [h1] at this
          simp [this, hkn]
    rw [Nat.zero_add, hls]
    have hdl : (l.drop n).length = l.length - n := by simp
    rw [← hdl]
    exact wpAny_of_seq (l.drop n) n _ _ _ (fun j => by simp [List.getElem?_drop]) (by rw [hdl]; exact hseq) (fin _ _ _ hI hall)
  | succ f ih =>
    intro listed a' w1 hI hf
    have hex : ∃ k, k < n ∧ listed.getD k false = false := by
      cases hfl : (List.range n).filter fun k => !listed.getD k false with
      | nil => rw [hfl] at hf; simp at hf
      | cons k r =>
        have hm : k ∈ (List.range n).filter fun k => !listed.getD k false := by rw [hfl]; exact List.mem_cons_self ..
        obtain ⟨hk1, hk2⟩ := List.mem_filter.1 hm
        exact ⟨k, List.mem_range.1 hk1, by simpa using hk2⟩
    have hsz : listed.size = l.length := by have := (hinv _ _ _ hI).size; simpa using this
    have hready : Region.ready .any l.toArray listed ≠ [] := by
      obtain ⟨k, hk⟩ := hex
      induction k using Nat.strongRecOn with
      | _ k ihk =>
        obtain ⟨hkn, hkl⟩ := hk
        by_cases hsm : ∃ j, j < k ∧ listed.getD j false = false
        · obtain ⟨j, hj, hjl⟩ := hsm
          exact ihk j hj ⟨by omega, hjl⟩
        · intro h0
          have hmem : k ∈ Region.ready .any l.toArray listed := by
            have hklt : k < l.length := by omega
            refine mem_ready.2 ⟨getD_in (by omega) hkl, l[k], by simp [hklt], fun e he hb => ?_⟩
            have := List.all_eq_true.1 hback k (List.mem_range.2 hkn)
            simp only [List.getElem?_toArray, List.getElem?_eq_getElem hklt] at this
            have := Array.all_eq_true_iff_forall_mem.1 this e he
            simp only [hb, Bool.not_true, Bool.false_or, decide_eq_true_eq] at this
            cases hle : listed.getD e.on false with
            | true => rfl
            | false => exact absurd ⟨e.on, this, hle⟩ hsm
          rw [h0] at hmem
          cases hmem
    rw [show f + 1 + (l.length - n) = (f + (l.length - n)) + 1 by omega]
    refine ⟨fun h0 => absurd h0 hready, fun i hi => ?_⟩
    have hin : i < n := by
      rcases Nat.lt_or_ge i n with h | h
      · exact h
      · exfalso
        rcases htail with ht | ht
        · obtain ⟨_, o, ho, _⟩ := mem_ready.1 hi
          have := (Array.getElem?_eq_some_iff.1 ho).1
          simp at this
          omega
        · obtain ⟨k, hkn, hkl⟩ := hex
          obtain ⟨_, o, ho, _⟩ := mem_ready.1 hi
          have := (Array.getElem?_eq_some_iff.1 ho).1
          simp at this
          exact tail_waits ht.1 ht.2 (by simp; omega) (hinv _ _ _ hI) _ k rfl hkn (getD_in (by omega) hkl) i h hi
    obtain ⟨hun, o, ho, hdeps⟩ := mem_ready.1 hi
    have ho' : l[i]? = some o := by simpa using ho
    have hcount : ((List.range n).filter fun k => !(listed.setIfInBounds i true).getD k false).length = f := by
      have hlt : i < listed.size := by omega
      have e1 : ((List.range n).filter fun k => !listed.getD k false) = (List.range n).filter (fun k => decide (k = i) || !(listed.setIfInBounds i true).getD k false) := by
        apply List.filter_congr
        intro k _
        by_cases hki : k = i
        · subst hki; simp [getD_both hun]
        · rw [getD_set_ne false (Ne.symm hki)]; simp [hki]
      rw [e1] at hf
      have hnd : (List.range n).Nodup := List.nodup_range
      have e2 : ∀ (m : List Nat), m.Nodup → i ∈ m → (m.filter (fun k => decide (k = i) || !(listed.setIfInBounds i true).getD k false)).length = (m.filter fun k => !(listed.setIfInBounds i true).getD k false).length + 1 := by
        intro m
        induction m with
        | nil => intro _ h; cases h
        | cons x m ihm =>
          intro hnd hm
          obtain ⟨hx, hnd⟩ := List.nodup_cons.1 hnd
          by_cases hxi : x = i
          · subst hxi
            have : (m.filter (fun k => decide (k = x) || !(listed.setIfInBounds x true).getD k false)) = m.filter fun k => !(listed.setIfInBounds x true).getD k false := by
              apply List.filter_congr
              intro k hk
              have : k ≠ x := fun h => hx (h ▸ hk)
              simp [this]
            rw [List.filter_cons, List.filter_cons, this]
            have h3 : (listed.setIfInBounds x true).getD x false = true := by simp [hlt]
            simp [h3]
          · have hm' : i ∈ m := by
              rcases List.mem_cons.1 hm with h | h
              · exact absurd h.symm hxi
              · exact h
            have := ihm hnd hm'
            rw [List.filter_cons, List.filter_cons]
            simp only [hxi, decide_false, Bool.false_or]
            split
            · simp only [List.length_cons]; omega
            · exact this
      have := e2 _ hnd (List.mem_range.2 hin)
      omega
    unfold wpOp
    simp only [ho]
    rcases step _ _ _ i o hI hin (getD_both hun) ho' hdeps with ⟨hw, hy⟩ | ⟨hw, hy⟩
    · rw [if_pos hw]
      exact .inl (wp_strong (fun a2 w2 h2 => ih _ _ _ h2 hcount) hy)
    · rw [hw]
      simp only [Bool.false_eq_true, if_false]
      exact ih _ _ _ hy hcount
theorem start_inv : HeadInv .any l.toArray n (Array.replicate l.length false) :=
  ⟨by simp, fun j oj _ hl => (by rw [getD_replicate_false] at hl; cases hl), fun t _ ht => getD_in (by simpa using ht) (getD_replicate_false _ _)⟩
theorem wp_region_head {id : Nat} (hm : P.follows .mixedOrders = true) (hB : phiB l n = true) (I : Array Bool → Act → World → Prop) (hinv : ∀ L a w, I L a w → HeadInv .any l.toArray n L)
    (step : ∀ L a w i o, I L a w → i < n → L.getD i false = false → l[i]? = some o → (∀ e ∈ o.after, Region.binds .any e = true → L.getD e.on false = true) →
      (Region.wanted o (yielded l.toArray a.tmps) = true ∧ o.wp P a w (fun a' w' => I (L.setIfInBounds i true) a' w') (fun _ _ _ => False)) ∨ (Region.wanted o (yielded l.toArray a.tmps) = false ∧ I (L.setIfInBounds i true) (a.put o.dst undef) w))
    (fin : ∀ L a w, I L a w → (∀ k, k < n → L.getD k false = true) → wpList P l.toArray Q (l.drop n) a w) (h0 : I (Array.replicate l.length false) a w.drew) : (Code.region id l.toArray true).wp P Q a w := by
  have hB' := hB
  simp only [phiB, Bool.and_eq_true, decide_eq_true_eq, Bool.or_eq_true] at hB'
  obtain ⟨⟨⟨⟨_, hn⟩, hback⟩, _⟩, _⟩ := hB'
  refine wp_region_any hm ?_
  have main := wpAny_head hB I hinv step fin n (Array.replicate l.length false) a w.drew h0
    (by
      have : ((List.range n).filter fun k => !(Array.replicate l.length false).getD k false) = List.range n := List.filter_eq_self.2 (fun k _ => by rw [getD_replicate_false]; rfl)
      rw [this]; simp)
  have hsz : l.toArray.size = n + (l.length - n) := by simp; omega
  rw [hsz, show n + (l.length - n) = l.length by omega]
  rw [show n + (l.length - n) = l.length by omega] at main
  exact main
end
end Go.Hp
namespace Go.Hp
open Go.RowKit
inductive MixK where
  | val (x : Value)
  | fact (φ : Phi)
  | free (x : Value)
  | store
def MixK.phi : MixK → Phi
  | .val x => isV x
  | .fact φ => φ
  | .free x => isV x
  | .store => fun _ _ _ _ => True
def MixK.isFree : MixK → Bool
  | .free _ => true
  | _ => false
def MixK.isStore : MixK → Bool
  | .store => true
  | _ => false
def fixF : List MixK → List Value → List Value
  | .free x :: Φ, _ :: xs => x :: fixF Φ xs
  | .val _ :: Φ, y :: xs => y :: fixF Φ xs
  | .fact _ :: Φ, y :: xs => y :: fixF Φ xs
  | .store :: Φ, y :: xs => y :: fixF Φ xs
  | [], xs => xs
  | _ :: _, [] => []
theorem fixF_eq : ∀ (Φ : List MixK) (xs ys : List Value), ys.length = xs.length → xs.length = Φ.length → (∀ (k : Nat) (x : Value), Φ[k]? = some (.free x) → ys.getD k undef = x) →
    (∀ (k : Nat) (φ : MixK), Φ[k]? = some φ → φ.isFree = false → ys.getD k undef = xs.getD k undef) → fixF Φ xs = ys
  | [], [], [], _, _, _, _ => rfl
  | [], x :: xs, _, _, h, _, _ => by simp at h
  | φ :: Φ, [], _, _, h, _, _ => by simp at h
  | φ :: Φ, x :: xs, [], h, _, _, _ => by simp at h
  | φ :: Φ, x :: xs, y :: ys, h1, h2, hf, hn => by
    have ih := fixF_eq Φ xs ys (by simpa using h1) (by simpa using h2) (fun k x hk => by have := hf (k + 1) x (by simpa using hk); simpa using this) (fun k φ hk hfr => by have := hn (k + 1) φ (by simpa using hk) hfr; simpa using this)
    cases φ with
    | free z =>
      have := hf 0 z rfl
      simp only [List.getD_cons_zero] at this
      subst this
      simp only [fixF, ih]
    | val z =>
      have := hn 0 _ rfl rfl
      simp only [List.getD_cons_zero] at this
      subst this
      simp only [fixF, ih]
    | fact z =>
      have := hn 0 _ rfl rfl
      simp only [List.getD_cons_zero] at this
      subst this
      simp only [fixF, ih]
    | store =>
      have := hn 0 _ rfl rfl
      simp only [List.getD_cons_zero] at this
      subst this
      simp only [fixF, ih]
section
variable {P : Program} {Q : Exit → Act → World → Prop} {a : Act} {w : World} {l : List Oper} {n s : Nat} {Φ : List MixK}
def MixDeps (l : List Oper) (n : Nat) (Φ : List MixK) (B i : Nat) (xs : List Value) (w1 : World) : Prop :=
  ∀ k φ, k < n → Region.waitsFor .any l.toArray i k = true → Φ[k]? = some φ → ∃ lo hi, B ≤ lo ∧ hi ≤ w1.heap.size ∧ φ.phi lo hi (xs.getD k undef) w1
structure MixPre (l : List Oper) (n s : Nat) (Φ : List MixK) (a : Act) (w : World) (L : Array Bool) (a' : Act) (w1 : World) : Prop where
  phi : PhiInv l n (Φ.map MixK.phi) a w L a' w1
  not : L.getD s false = false
def SameBelow (n₀ : Nat) (w w2 : World) : Prop := ∀ b o, b < n₀ → w2.cell? ⟨b, o, none⟩ = w.cell? ⟨b, o, none⟩
theorem SameBelow.of_below {n₀ B : Nat} {w w2 : World} (h : Below B w w2) (hn : n₀ ≤ B) : SameBelow n₀ w w2 := fun b o hb => h.cell (p := ⟨b, o, none⟩) (show b < B by omega)
theorem SameBelow.of_st {w0 w w2 : World} {rs rs' : List Res} (st : St w0 w rs) (st' : St w0 w2 rs') : SameBelow w0.heap.size w w2 := fun b o hb => (st'.old hb).trans (st.old hb).symm
structure MixPost (n₀ : Nat) (P : Program) (Q : Exit → Act → World → Prop) (l : List Oper) (n s : Nat) (Φ : List MixK) (a : Act) (w : World) (L : Array Bool) (a' : Act) (w2 : World) : Prop where
  inv : HeadInv .any l.toArray n L
  low : SameBelow n₀ w w2
  is : L.getD s false = true
  all : ∀ k φ, k < n → Φ[k]? = some φ → φ.isFree = false → L.getD k false = true
  ex : ∃ (xs : List Value) (w1 : World), xs.length = n ∧ a' = fillA (l.take n) xs a ∧ Below w.heap.size w w1 ∧
    (∀ (k : Nat) (φ : MixK), Φ[k]? = some φ → φ.isFree = false → ∃ lo hi, w.heap.size ≤ lo ∧ hi ≤ w1.heap.size ∧ φ.phi lo hi (xs.getD k undef) w1) ∧
    (∀ (k : Nat) (x : Value), Φ[k]? = some (.free x) → L.getD k false = true → xs.getD k undef = x) ∧
    (∀ ys : List Value, ys.length = n → (∀ (k : Nat) (x : Value), Φ[k]? = some (.free x) → ys.getD k undef = x) → (∀ (k : Nat) (φ : MixK), Φ[k]? = some φ → φ.isFree = false → ys.getD k undef = xs.getD k undef) →
      wpList P l.toArray Q (l.drop n) (fillA (l.take n) ys a) w2)
theorem wp_region_mix0 {id n₀ : Nat} (hn₀ : n₀ ≤ w.drew.heap.size) (hm : P.follows .mixedOrders = true) (hB : phiB l n = true) (hΦ : Φ.length = n) (hs : s < n) (hst : Φ[s]? = some .store) (one : ∀ k, Φ[k]? = some .store → k = s) (stable : ∀ φ ∈ Φ, φ.phi.stable)
    (waits : ∀ (k : Nat) (φ : MixK), k < n → k ≠ s → Φ[k]? = some φ → φ.isFree = false → ∃ j, k < j ∧ j ≤ s ∧ Region.waitsFor .any l.toArray j k = true ∧ (j = s ∨ ∃ φj, Φ[j]? = some φj ∧ φj.isFree = false))
    (step : ∀ i o φ, i < n → i ≠ s → l[i]? = some o → Φ[i]? = some φ → φ.isFree = false → ∀ xs : List Value, xs.length = n → ∀ w1, Below w.drew.heap.size w.drew w1 → MixDeps l n Φ w.drew.heap.size i xs w1 → Yphi P l.toArray o (fillA (l.take n) xs a) w1 φ.phi)
    (free : ∀ i o x, i < n → l[i]? = some o → Φ[i]? = some (.free x) → ∀ xs : List Value, xs.length = n → ∀ w1, Below w.drew.heap.size w.drew w1 → MixDeps l n Φ w.drew.heap.size i xs w1 → ∀ w2, SameBelow n₀ w.drew w2 → YX P l.toArray o (fillA (l.take n) xs a) w2 x)
    (store : ∀ o, l[s]? = some o → ∀ (xs : List Value) (lo hi : Nat → Nat) w1, xs.length = n → Below w.drew.heap.size w.drew w1 →
      (∀ (k : Nat) (φ : MixK), Φ[k]? = some φ → φ.isFree = false → φ.isStore = false → w.drew.heap.size ≤ lo k ∧ hi k ≤ w1.heap.size ∧ φ.phi (lo k) (hi k) (xs.getD k undef) w1) →
      (∀ j k, j < n → k < n → j ≠ k → hi j ≤ lo k ∨ hi k ≤ lo j) →
      Region.wanted o (yielded l.toArray (fillA (l.take n) xs a).tmps) = true ∧ o.wp P (fillA (l.take n) xs a) w1 (fun a' w2 => ∃ v, a' = (fillA (l.take n) xs a).put o.dst v ∧ SameBelow n₀ w.drew w2 ∧ wpList P l.toArray Q (l.drop n) (fillA (l.take n) (fixF Φ (xs.set s v)) a) w2) (fun _ _ _ => False)) :
    (Code.region id l.toArray true).wp P Q a w := by
  have hB' := hB
  simp only [phiB, Bool.and_eq_true, decide_eq_true_eq, Bool.or_eq_true] at hB'
  obtain ⟨⟨⟨⟨hdist, hn⟩, hback⟩, _⟩, _⟩ := hB'
  have htl : (l.take n).length = n := by simp; omega
  have getD_step : ∀ (xs : List Value) (i k : Nat) (v : Value), xs.length = n → i < n → (xs.set i v).getD k undef = if k = i then v else xs.getD k undef := by
    intro xs i k v hl hi
    split
    · rename_i h; subst h; simp [List.getD, hl, hi]
    · rename_i h; simp [List.getD, List.getElem?_set_ne (Ne.symm h)]
  refine wp_region_head hm hB (fun L a1 w1 => MixPre l n s Φ a w.drew L a1 w1 ∨ MixPost n₀ P Q l n s Φ a w.drew L a1 w1) (fun L a1 w1 h => ?_) (fun L a1 w1 i o hI hin hun ho hdeps => ?_) (fun L a1 w1 hI hall => ?_) (.inl ⟨⟨start_inv, Below.refl _ _,
      ⟨(l.take n).map (fun o => match o.dst with | some d => a.tmps.getD d undef | none => undef), fun _ => 0, fun _ => 0, by simp; omega, (fillA_self _ a).symm, fun k φ _ hl => (by rw [getD_replicate_false] at hl; cases hl), fun j k _ hj _ => (by rw [getD_replicate_false] at hj; cases hj)⟩⟩, getD_replicate_false _ _⟩)
  · rcases h with h | h
    · exact h.phi.inv
    · exact h.inv
  · have hsz : L.size = l.length := by rcases hI with h | h; simpa using h.phi.inv.size; simpa using h.inv.size
    have hlt : i < L.size := by omega
    have hrdy : i ∈ Region.ready .any l.toArray L := mem_ready.2 ⟨getD_in hlt hun, o, by simpa using ho, hdeps⟩
    have hφ : ∃ φ, Φ[i]? = some φ := ⟨Φ[i]'(by omega), List.getElem?_eq_getElem (by omega)⟩
    obtain ⟨φ, hφ⟩ := hφ
    have hdep : ∀ k, Region.waitsFor .any l.toArray i k = true → L.getD k false = true := fun k hwt => by
      obtain ⟨o2, ho2, e, he, hb, hon⟩ := Region.waitsFor_spec hwt
      have : o2 = o := Option.some.inj (ho2.symm.trans (by simpa using ho))
      subst this
      have := hdeps e he hb
      rwa [hon] at this
    have htrue : (L.setIfInBounds i true).getD i false = true := by simp [hlt]
    rcases hI with hI | hI
    · obtain ⟨xs, lo, hi, hlen, rfl, h1, h2⟩ := hI.phi.ex
      have hb0 := hI.phi.below.size
      have hfact : ∀ (k : Nat) (φk : MixK), Φ[k]? = some φk → L.getD k false = true → w.drew.heap.size ≤ lo k ∧ hi k ≤ w1.heap.size ∧ φk.phi (lo k) (hi k) (xs.getD k undef) w1 := fun k φk hk hl =>
        h1 k φk.phi (by rw [List.getElem?_map, hk]; rfl) hl
      have hD : MixDeps l n Φ w.drew.heap.size i xs w1 := fun k φk hk hwt hφk => ⟨lo k, hi k, hfact k φk hφk (hdep k hwt)⟩
      by_cases his : i = s
      · subst his
        have hnf0 : ∀ (m k : Nat) (φk : MixK), i - k ≤ m → k < n → k ≠ i → Φ[k]? = some φk → φk.isFree = false → L.getD k false = true := by
          intro m
          induction m with
          | zero =>
            intro k φk hm hk hne hφk hf
            obtain ⟨j, h1, h2, _⟩ := waits k φk hk hne hφk hf
            omega
          | succ m ihm =>
            intro k φk hm hk hne hφk hf
            obtain ⟨j, h1, h2, h3, h4⟩ := waits k φk hk hne hφk hf
            by_cases hji : j = i
            · subst hji; exact hdep k h3
            · obtain ⟨φj, hφj, hfj⟩ := h4.resolve_left hji
              have hjl := ihm j φj (by omega) (by omega) hji hφj hfj
              obtain ⟨o2, ho2, e, he, hb, hon⟩ := Region.waitsFor_spec h3
              have := hI.phi.inv.closed j o2 ho2 hjl e he hb
              rwa [hon] at this
        have hnf : ∀ (k : Nat) (φk : MixK), k < n → k ≠ i → Φ[k]? = some φk → φk.isFree = false → L.getD k false = true := fun k φk => hnf0 (i - k) k φk (Nat.le_refl _)
        have hlo : ∀ (k : Nat) (φk : MixK), Φ[k]? = some φk → φk.isFree = false → φk.isStore = false → k ≠ i ∧ L.getD k false = true := fun k φk hk hf hst' => by
          have hne : k ≠ i := fun e => by
            subst e
            have : φk = .store := Option.some.inj (hk.symm.trans hst)
            subst this
            cases hst'
          exact ⟨hne, hnf k φk (by rw [← hΦ]; exact (List.getElem?_eq_some_iff.1 hk).1) hne hk hf⟩
        obtain ⟨hw, hy⟩ := store o ho xs (fun k => if L.getD k false then lo k else w1.heap.size) (fun k => if L.getD k false then hi k else 0) w1 hlen hI.phi.below
          (fun k φk hk hf hst' => by
            obtain ⟨_, hl⟩ := hlo k φk hk hf hst'
            simp only [hl, if_true]
            exact hfact k φk hk hl)
          (fun j k hj hk hjk => by
            cases hlj : L.getD j false with
            | false => left; simp
            | true =>
              cases hlk : L.getD k false with
              | false => right; simp
              | true => simpa using h2 j k hjk hlj hlk)
        refine .inl ⟨hw, wp_strong (fun a2 w2 ⟨v, e, hlow, h3⟩ => .inr ?_) hy⟩
        subst e
        refine ⟨hI.phi.inv.set hrdy hin, hlow, htrue, fun k φk hk hφk hf => ?_, xs.set i v, w1, by simpa using hlen, fillA_put (l.take n) xs a i o v hdist (by rw [List.getElem?_take, if_pos hin]; exact ho) (by rw [hlen, htl]), hI.phi.below, fun k φk hφk hf => ?_, fun k x hφk hl => ?_, fun ys hy1 hy2 hy3 => ?_⟩
        · by_cases hki : k = i
          · subst hki; exact htrue
          · rw [getD_set_ne false (Ne.symm hki)]
            exact hnf k φk hk hki hφk hf
        · by_cases hki : k = i
          · subst hki
            have : φk = .store := Option.some.inj (hφk.symm.trans hst)
            subst this
            exact ⟨_, 0, Nat.le_refl _, Nat.zero_le _, True.intro⟩
          · rw [getD_step xs i k v hlen hin, if_neg hki]
            exact ⟨lo k, hi k, hfact k φk hφk (hnf k φk (by rw [← hΦ]; exact (List.getElem?_eq_some_iff.1 hφk).1) hki hφk hf)⟩
        · by_cases hki : k = i
          · subst hki
            rw [hst] at hφk
            cases hφk
          · rw [getD_set_ne false (Ne.symm hki)] at hl
            rw [getD_step xs i k v hlen hin, if_neg hki]
            exact (hfact k _ hφk hl).2.2
        · rw [← fixF_eq Φ (xs.set i v) ys (by rw [hy1, List.length_set, hlen]) (by rw [List.length_set, hlen, hΦ]) hy2 hy3]
          exact h3
      · have hnext : ∀ v w2, Below w1.heap.size w1 w2 → φ.phi w1.heap.size w2.heap.size v w2 → MixPre l n s Φ a w.drew (L.setIfInBounds i true) ((fillA (l.take n) xs a).put o.dst v) w2 := by
          intro v w2 hb hv
          refine ⟨⟨hI.phi.inv.set hrdy hin, hI.phi.below.trans (hb.mono hb0), xs.set i v, fun k => if k = i then w1.heap.size else lo k, fun k => if k = i then w2.heap.size else hi k, by simpa using hlen, ?_, ?_, ?_⟩, ?_⟩
          · exact fillA_put (l.take n) xs a i o v hdist (by rw [List.getElem?_take, if_pos hin]; exact ho) (by rw [hlen, htl])
          · intro k ψ hk hlk
            rw [List.getElem?_map] at hk
            obtain ⟨φk, hφk, rfl⟩ := Option.map_eq_some_iff.1 hk
            rw [getD_step xs i k v hlen hin]
            by_cases hki : k = i
            · subst hki
              have : φk = φ := Option.some.inj (hφk.symm.trans hφ)
              subst this
              simp only [if_true]
              exact ⟨hb0, Nat.le_refl _, hv⟩
            · rw [getD_set_ne false (Ne.symm hki)] at hlk
              obtain ⟨b1, b2, b3⟩ := hfact k φk hφk hlk
              simp only [hki, if_false]
              exact ⟨b1, Nat.le_trans b2 hb.size, stable φk (List.mem_of_getElem? hφk) _ _ _ _ _ hb b2 b3⟩
          · intro j k hjk hj hk
            have hle : ∀ m, m ≠ i → (L.setIfInBounds i true).getD m false = true → hi m ≤ w1.heap.size := fun m hm hml => by
              rw [getD_set_ne false (Ne.symm hm)] at hml
              rcases Nat.lt_or_ge m n with hmn | hmn
              · exact (hfact m (Φ[m]'(by omega)) (List.getElem?_eq_getElem (by omega)) hml).2.1
              · rcases Nat.lt_or_ge m l.length with hm2 | hm2
                · have := hI.phi.inv.tail m hmn (by simpa using hm2)
                  rw [getD_both this] at hml; cases hml
                · simp [Array.getElem?_eq_none (show L.size ≤ m by omega)] at hml
            by_cases hji : j = i
            · subst hji
              simp only [if_true, if_neg (Ne.symm hjk)]
              exact .inr (hle k (Ne.symm hjk) hk)
            · by_cases hki : k = i
              · subst hki
                simp only [if_true, if_neg hji]
                exact .inl (hle j hji hj)
              · simp only [if_neg hji, if_neg hki]
                rw [getD_set_ne false (Ne.symm hji)] at hj
                rw [getD_set_ne false (Ne.symm hki)] at hk
                exact h2 j k hjk hj hk
          · rw [getD_set_ne false his]; exact hI.not
        have hy : Yphi P l.toArray o (fillA (l.take n) xs a) w1 φ.phi := by
          cases hfr : φ.isFree with
          | false => exact step i o φ hin his ho hφ hfr xs hlen w1 hI.phi.below hD
          | true =>
            cases φ with
            | free x =>
              rcases free i o x hin ho hφ xs hlen w1 hI.phi.below hD w1 (SameBelow.of_below hI.phi.below hn₀) with ⟨h3, h4⟩ | ⟨h3, h4⟩
              · refine .inl ⟨h3, wp_strong (fun a2 w2 ⟨e1, e2⟩ => ?_) h4⟩
                subst e1; subst e2
                exact ⟨x, rfl, Below.refl _ _, rfl⟩
              · exact .inr ⟨h3, h4.symm⟩
            | val x => cases hfr
            | fact x => cases hfr
            | store => cases hfr
        rcases hy with ⟨hw, hy⟩ | ⟨hw, hy⟩
        · refine .inl ⟨hw, wp_strong (fun a2 w2 ⟨v, e, hb, hv⟩ => .inl ?_) hy⟩
          subst e
          exact hnext v w2 hb hv
        · exact .inr ⟨hw, .inl (hnext undef w1 (Below.refl _ _) hy)⟩
    · obtain ⟨xs, w0, hlen, rfl, hb, h1, h2, h3⟩ := hI.ex
      have hfree : ∃ x, φ = .free x := by
        cases φ with
        | free x => exact ⟨x, rfl⟩
        | val x => have := hI.all i _ hin hφ rfl; rw [hun] at this; cases this
        | fact x => have := hI.all i _ hin hφ rfl; rw [hun] at this; cases this
        | store => have := hI.all i _ hin hφ rfl; rw [hun] at this; cases this
      obtain ⟨x, rfl⟩ := hfree
      have hD : MixDeps l n Φ w.drew.heap.size i xs w0 := fun k φk hk hwt hφk => by
        cases hfr : φk.isFree with
        | false => exact h1 k φk hφk hfr
        | true =>
          cases φk with
          | free y => exact ⟨_, 0, Nat.le_refl _, Nat.zero_le _, h2 k y hφk (hdep k hwt)⟩
          | val y => cases hfr
          | fact y => cases hfr
          | store => cases hfr
      have hnext : MixPost n₀ P Q l n s Φ a w.drew (L.setIfInBounds i true) ((fillA (l.take n) xs a).put o.dst x) w1 := by
        have his : i ≠ s := fun e => by subst e; rw [hst] at hφ; cases hφ
        refine ⟨hI.inv.set hrdy hin, hI.low, by rw [getD_set_ne false his]; exact hI.is, fun k φk hk hφk hf => ?_, xs.set i x, w0, by simpa using hlen, ?_, hb, fun k φk hφk hf => ?_, fun k y hφk hl => ?_, fun ys hy1 hy2 hy3 => ?_⟩
        · by_cases hki : k = i
          · subst hki; exact htrue
          · rw [getD_set_ne false (Ne.symm hki)]; exact hI.all k φk hk hφk hf
        · exact fillA_put (l.take n) xs a i o x hdist (by rw [List.getElem?_take, if_pos hin]; exact ho) (by rw [hlen, htl])
        · rw [getD_step xs i k x hlen hin]
          have hki : k ≠ i := fun e => by
            subst e
            have : φk = .free x := Option.some.inj (hφk.symm.trans hφ)
            subst this
            cases hf
          rw [if_neg hki]
          exact h1 k φk hφk hf
        · rw [getD_step xs i k x hlen hin]
          by_cases hki : k = i
          · subst hki
            rw [if_pos rfl]
            have := Option.some.inj (hφk.symm.trans hφ)
            injection this with h
            exact h.symm
          · rw [if_neg hki]
            rw [getD_set_ne false (Ne.symm hki)] at hl
            exact h2 k y hφk hl
        · refine h3 ys hy1 hy2 fun k φk hφk hf => ?_
          have := hy3 k φk hφk hf
          rw [getD_step xs i k x hlen hin] at this
          have hki : k ≠ i := fun e => by
            subst e
            have : φk = .free x := Option.some.inj (hφk.symm.trans hφ)
            subst this
            cases hf
          rwa [if_neg hki] at this
      rcases free i o x hin ho hφ xs hlen w0 hb hD w1 hI.low with ⟨hw, hy⟩ | ⟨hw, hy⟩
      · refine .inl ⟨hw, wp_strong (fun a2 w2 ⟨e1, e2⟩ => .inr ?_) hy⟩
        subst e1; subst e2
        exact hnext
      · exact .inr ⟨hw, .inr (hy ▸ hnext)⟩
  · rcases hI with hI | hI
    · have := hall s hs
      rw [hI.not] at this
      cases this
    · obtain ⟨xs, w0, hlen, rfl, hb, h1, h2, h3⟩ := hI.ex
      exact h3 xs hlen (fun k x hk => h2 k x hk (hall k (by rw [← hΦ]; exact (List.getElem?_eq_some_iff.1 hk).1))) (fun _ _ _ _ => rfl)
end
end Go.Hp
namespace Go.Hp
open Go.RowKit
def depM (Φ : List MixK) (B : Nat) (xs : List Value) (w1 : World) (G : Prop) : List Edge → Prop
  | [] => G
  | e :: es =>
    match Region.binds .any e, Φ[e.on]? with
    | true, some (.val x) => xs.getD e.on undef = x → depM Φ B xs w1 G es
    | true, some (.free x) => xs.getD e.on undef = x → depM Φ B xs w1 G es
    | true, some (.fact φ) => ∀ lo hi, B ≤ lo → hi ≤ w1.heap.size → φ lo hi (xs.getD e.on undef) w1 → depM Φ B xs w1 G es
    | _, _ => depM Φ B xs w1 G es
theorem depM_spec {Φ : List MixK} {B : Nat} {xs : List Value} {w1 : World} {G : Prop} : ∀ (es : List Edge), depM Φ B xs w1 G es →
    (∀ e ∈ es, Region.binds .any e = true → ∀ k, Φ[e.on]? = some k → ∃ lo hi, B ≤ lo ∧ hi ≤ w1.heap.size ∧ k.phi lo hi (xs.getD e.on undef) w1) → G
  | [], h, _ => h
  | e :: es, h, hd => by
    have ht := fun h' => depM_spec (Φ := Φ) (B := B) (xs := xs) (w1 := w1) (G := G) es h' (fun e' he' => hd e' (List.mem_cons_of_mem _ he'))
    unfold depM at h
    split at h
    · rename_i x hb hk
      obtain ⟨_, _, _, _, h3⟩ := hd e (List.mem_cons_self ..) hb _ hk
      exact ht (h h3)
    · rename_i x hb hk
      obtain ⟨_, _, _, _, h3⟩ := hd e (List.mem_cons_self ..) hb _ hk
      exact ht (h h3)
    · rename_i φ hb hk
      obtain ⟨lo, hi, h1, h2, h3⟩ := hd e (List.mem_cons_self ..) hb _ hk
      exact ht (h lo hi h1 h2 h3)
    · exact ht h
section
variable {P : Program} {Q : Exit → Act → World → Prop} {a : Act} {w : World} {l : List Oper} {n s n₀ : Nat}
def mixOb (n₀ : Nat) (P : Program) (l : List Oper) (n s : Nat) (a : Act) (w : World) (i : Nat) (Φ : List MixK) (k : MixK) : Prop :=
  match l[i]? with
  | some o => (match k with
    | .store => decide (i = s) = true
    | .free x => allV n fun xs => ∀ w1, Below w.heap.size w w1 → depM Φ w.heap.size xs w1 (∀ w2, SameBelow n₀ w w2 → YX P l.toArray o (fillA (l.take n) xs a) w2 x) o.after.toList
    | .val x => allV n fun xs => ∀ w1, Below w.heap.size w w1 → depM Φ w.heap.size xs w1 (Yphi P l.toArray o (fillA (l.take n) xs a) w1 (isV x)) o.after.toList
    | .fact φ => allV n fun xs => ∀ w1, Below w.heap.size w w1 → depM Φ w.heap.size xs w1 (Yphi P l.toArray o (fillA (l.take n) xs a) w1 φ) o.after.toList)
  | none => False
def allMix (B : Nat) (lo hi : Nat → Nat) (w1 : World) : Nat → List MixK → List Value → Prop → Prop
  | k, .val x :: Φ, y :: ys, G => y = x → allMix B lo hi w1 (k + 1) Φ ys G
  | k, .fact φ :: Φ, y :: ys, G => B ≤ lo k → hi k ≤ w1.heap.size → φ (lo k) (hi k) y w1 → allMix B lo hi w1 (k + 1) Φ ys G
  | k, .free _ :: Φ, _ :: ys, G => allMix B lo hi w1 (k + 1) Φ ys G
  | k, .store :: Φ, _ :: ys, G => allMix B lo hi w1 (k + 1) Φ ys G
  | _, [], _, G => G
  | _, _ :: _, [], G => G
theorem allMix_spec {B : Nat} {lo hi : Nat → Nat} {w1 : World} {G : Prop} : ∀ (Φ : List MixK) (k : Nat) (ys : List Value), allMix B lo hi w1 k Φ ys G → ys.length = Φ.length →
    (∀ j x, Φ[j]? = some x → x.isFree = false → x.isStore = false → B ≤ lo (k + j) ∧ hi (k + j) ≤ w1.heap.size ∧ x.phi (lo (k + j)) (hi (k + j)) (ys.getD j undef) w1) → G
  | [], k, ys, h, _, _ => by unfold allMix at h; exact h
  | x :: Φ, k, [], _, hl, _ => by simp at hl
  | .val x :: Φ, k, y :: ys, h, hl, hd => by
    unfold allMix at h
    have h0 := (hd 0 _ rfl rfl rfl).2.2
    exact allMix_spec Φ (k + 1) ys (h h0) (by simpa using hl) (fun j x hj hf hs => by have := hd (j + 1) x (by simpa using hj) hf hs; rw [show k + 1 + j = k + (j + 1) by omega]; simpa using this)
  | .fact φ :: Φ, k, y :: ys, h, hl, hd => by
    unfold allMix at h
    obtain ⟨h1, h2, h3⟩ := hd 0 _ rfl rfl rfl
    exact allMix_spec Φ (k + 1) ys (h h1 h2 h3) (by simpa using hl) (fun j x hj hf hs => by have := hd (j + 1) x (by simpa using hj) hf hs; rw [show k + 1 + j = k + (j + 1) by omega]; simpa using this)
  | .free x :: Φ, k, y :: ys, h, hl, hd => by
    unfold allMix at h
    exact allMix_spec Φ (k + 1) ys h (by simpa using hl) (fun j x hj hf hs => by have := hd (j + 1) x (by simpa using hj) hf hs; rw [show k + 1 + j = k + (j + 1) by omega]; simpa using this)
  | .store :: Φ, k, y :: ys, h, hl, hd => by
    unfold allMix at h
    exact allMix_spec Φ (k + 1) ys h (by simpa using hl) (fun j x hj hf hs => by have := hd (j + 1) x (by simpa using hj) hf hs; rw [show k + 1 + j = k + (j + 1) by omega]; simpa using this)
def mixWaits (l : List Oper) (n s : Nat) (Φ : List MixK) : Bool :=
  (List.range n).all fun k => decide (k = s) || (match Φ[k]? with | some φ => φ.isFree | none => false) || (List.range (s + 1)).any fun j => decide (k < j) && (Region.waitsFor .any l.toArray j k && (decide (j = s) || (match Φ[j]? with | some φ => !φ.isFree | none => false)))
def mixStore (s : Nat) (Φ : List MixK) : Bool := match Φ[s]? with | some φ => φ.isStore | none => false
def mixFin (n₀ : Nat) (P : Program) (l : List Oper) (n s : Nat) (a : Act) (w : World) (Q : Exit → Act → World → Prop) (Φ : List MixK) : Prop :=
  mixWaits l n s Φ = true ∧ mixStore s Φ = true ∧
  match l[s]? with
  | some o => allV n fun xs => ∀ (lo hi : Nat → Nat) (w1 : World), Below w.heap.size w w1 → (∀ j k, j < n → k < n → j ≠ k → hi j ≤ lo k ∨ hi k ≤ lo j) →
      allMix w.heap.size lo hi w1 0 Φ xs (Region.wanted o (yielded l.toArray (fillA (l.take n) xs a).tmps) = true ∧ OW P o (fillA (l.take n) xs a) w1 (fun a' w2 => ∃ v, a' = (fillA (l.take n) xs a).put o.dst v ∧ SameBelow n₀ w w2 ∧ WL P l.toArray Q (l.drop n) (fillA (l.take n) (fixF Φ (xs.set s v)) a) w2) (fun _ _ _ => False))
  | none => False
def Mix (n₀ : Nat) (P : Program) (l : List Oper) (n s : Nat) (a : Act) (w : World) (Q : Exit → Act → World → Prop) : Nat → List MixK → Prop
  | 0, Φ => mixFin n₀ P l n s a w Q Φ
  | r + 1, Φ => ∃ k : MixK, k.phi.stable ∧ mixOb n₀ P l n s a w Φ.length Φ k ∧ Mix n₀ P l n s a w Q r (Φ ++ [k])
theorem Mix.val' {r : Nat} {Φ Φ' : List MixK} {x : Value} (h : mixOb n₀ P l n s a w Φ.length Φ (.val x)) (hΦ : Φ ++ [.val x] = Φ') (h' : Mix n₀ P l n s a w Q r Φ') : Mix n₀ P l n s a w Q (r + 1) Φ := ⟨.val x, isV_stable x, h, hΦ ▸ h'⟩
theorem Mix.free' {r : Nat} {Φ Φ' : List MixK} {x : Value} (h : mixOb n₀ P l n s a w Φ.length Φ (.free x)) (hΦ : Φ ++ [.free x] = Φ') (h' : Mix n₀ P l n s a w Q r Φ') : Mix n₀ P l n s a w Q (r + 1) Φ := ⟨.free x, isV_stable x, h, hΦ ▸ h'⟩
theorem Mix.fact' {r : Nat} {Φ Φ' : List MixK} (φ : Phi) (hs : φ.stable) (h : mixOb n₀ P l n s a w Φ.length Φ (.fact φ)) (hΦ : Φ ++ [.fact φ] = Φ') (h' : Mix n₀ P l n s a w Q r Φ') : Mix n₀ P l n s a w Q (r + 1) Φ := ⟨.fact φ, hs, h, hΦ ▸ h'⟩
theorem Mix.store' {r : Nat} {Φ Φ' : List MixK} (h : mixOb n₀ P l n s a w Φ.length Φ .store) (hΦ : Φ ++ [.store] = Φ') (h' : Mix n₀ P l n s a w Q r Φ') : Mix n₀ P l n s a w Q (r + 1) Φ := ⟨.store, fun _ _ _ _ _ _ _ _ => True.intro, h, hΦ ▸ h'⟩
theorem Mix.fin {Φ : List MixK} {o : Oper} (h1 : mixWaits l n s Φ = true) (h2 : mixStore s Φ = true) (ho : l[s]? = some o)
    (h : allV n fun xs => ∀ (lo hi : Nat → Nat) (w1 : World), Below w.heap.size w w1 → (∀ j k, j < n → k < n → j ≠ k → hi j ≤ lo k ∨ hi k ≤ lo j) →
      allMix w.heap.size lo hi w1 0 Φ xs (Region.wanted o (yielded l.toArray (fillA (l.take n) xs a).tmps) = true ∧ OW P o (fillA (l.take n) xs a) w1 (fun a' w2 => ∃ v, a' = (fillA (l.take n) xs a).put o.dst v ∧ SameBelow n₀ w w2 ∧ WL P l.toArray Q (l.drop n) (fillA (l.take n) (fixF Φ (xs.set s v)) a) w2) (fun _ _ _ => False))) : Mix n₀ P l n s a w Q 0 Φ := by
  show mixFin n₀ P l n s a w Q Φ
  unfold mixFin
  rw [ho]
  exact ⟨h1, h2, h⟩
theorem Mix.all : ∀ (r : Nat) (Φ : List MixK), Mix n₀ P l n s a w Q r Φ → (∀ k ∈ Φ, k.phi.stable) → (∀ i k, Φ[i]? = some k → mixOb n₀ P l n s a w i (Φ.take i) k) →
    ∃ Ψ : List MixK, Ψ.length = Φ.length + r ∧ (∀ k ∈ Ψ, k.phi.stable) ∧ (∀ i k, Ψ[i]? = some k → mixOb n₀ P l n s a w i (Ψ.take i) k) ∧ mixFin n₀ P l n s a w Q Ψ
  | 0, Φ, h, h1, h2 => ⟨Φ, rfl, h1, h2, h⟩
  | r + 1, Φ, ⟨k, hk, hs, h⟩, h1, h2 => by
    obtain ⟨Ψ, a1, a2, a3, a4⟩ := Mix.all r (Φ ++ [k]) h (fun x hx => by
      rcases List.mem_append.1 hx with hx | hx
      · exact h1 x hx
      · rw [List.mem_singleton.1 hx]; exact hk) (fun i x hx => by
      rcases Nat.lt_or_ge i Φ.length with hi | hi
      · rw [List.getElem?_append_left hi] at hx
        rw [List.take_append_of_le_length (by omega)]
        exact h2 i x hx
      · rw [List.getElem?_append_right hi] at hx
        have hi0 : i - Φ.length = 0 := by
          rcases Nat.eq_zero_or_pos (i - Φ.length) with h0 | h0
          · exact h0
          · rw [List.getElem?_eq_none (by simp; omega)] at hx; cases hx
        rw [hi0] at hx
        simp only [List.getElem?_cons_zero, Option.some.injEq] at hx
        have : i = Φ.length := by omega
        subst this
        rw [List.take_append_of_le_length (Nat.le_refl _), List.take_length, ← hx]
        exact hs)
    exact ⟨Ψ, by rw [a1]; simp; omega, a2, a3, a4⟩
theorem wp_region_mix {id : Nat} (n s : Nat) (hm : P.follows .mixedOrders = true) (hB : phiB l n = true) (hs : s < n) (hn₀ : n₀ ≤ w.heap.size) (h : Mix n₀ P l n s a w.drew Q n []) : (Code.region id l.toArray true).wp P Q a w := by
  obtain ⟨Ψ, hlen, hst, hstep, hfin⟩ := Mix.all n [] h (fun _ h => by cases h) (fun i k hk => by simp at hk)
  simp only [List.length_nil, Nat.zero_add] at hlen
  obtain ⟨hwt, hms, hfin⟩ := hfin
  have hB' := hB
  simp only [phiB, Bool.and_eq_true, decide_eq_true_eq, Bool.or_eq_true] at hB'
  obtain ⟨⟨⟨⟨_, hn⟩, hback⟩, _⟩, _⟩ := hB'
  have hdep : ∀ i o (xs : List Value) w1, i < n → l[i]? = some o → MixDeps l n Ψ w.drew.heap.size i xs w1 → ∀ e ∈ o.after.toList, Region.binds .any e = true → ∀ k, (Ψ.take i)[e.on]? = some k → ∃ lo hi, w.drew.heap.size ≤ lo ∧ hi ≤ w1.heap.size ∧ k.phi lo hi (xs.getD e.on undef) w1 := by
    intro i o xs w1 hi ho hD e he hb k hk
    have hon : e.on < i := by
      have := List.all_eq_true.1 hback i (List.mem_range.2 hi)
      simp only [List.getElem?_toArray, ho] at this
      have := Array.all_eq_true_iff_forall_mem.1 this e (by simpa using he)
      simpa [hb] using this
    rw [List.getElem?_take, if_pos hon] at hk
    refine hD e.on k (by omega) ?_ hk
    unfold Region.waitsFor
    simp only [List.getElem?_toArray, ho]
    exact Array.any_eq_true'.2 ⟨e, by simpa using he, by simp [hb]⟩
  have hstore : Ψ[s]? = some .store := by
    unfold mixStore at hms
    split at hms
    · rename_i φ hφ
      cases φ with
      | store => exact hφ
      | val x => cases hms
      | fact x => cases hms
      | free x => cases hms
    · cases hms
  refine wp_region_mix0 (Φ := Ψ) (n₀ := n₀) hn₀ hm hB hlen hs hstore (fun k hk => ?_) hst (fun k φ hk hne hφ hf => ?_) (fun i o φ hi hne ho hφ hf xs hxs w1 hb hD => ?_) (fun i o x hi ho hφ xs hxs w1 hb hD => ?_) (fun o ho xs lo hi w1 hxs hb hall hap => ?_)
  · have := hstep k _ hk
    unfold mixOb at this
    split at this
    · simpa using this
    · exact this.elim
  · have := List.all_eq_true.1 hwt k (List.mem_range.2 hk)
    simp only [hφ, hf, Bool.or_false, Bool.or_eq_true, decide_eq_true_eq] at this
    rcases this with h | h
    · exact absurd h hne
    · obtain ⟨j, hj, h⟩ := List.any_eq_true.1 h
      simp only [Bool.and_eq_true, Bool.or_eq_true, decide_eq_true_eq] at h
      refine ⟨j, h.1, by have := List.mem_range.1 hj; omega, h.2.1, ?_⟩
      rcases h.2.2 with h3 | h3
      · exact .inl h3
      · split at h3
        · rename_i φj hφj
          exact .inr ⟨φj, hφj, by simpa using h3⟩
        · cases h3
  · have hs' := hstep i φ hφ
    unfold mixOb at hs'
    rw [ho] at hs'
    cases φ with
    | val x => exact depM_spec _ (allV_spec n _ hs' xs hxs w1 hb) (hdep i o xs w1 hi ho hD)
    | fact x => exact depM_spec _ (allV_spec n _ hs' xs hxs w1 hb) (hdep i o xs w1 hi ho hD)
    | free x => cases hf
    | store =>
      simp only [decide_eq_true_eq] at hs'
      exact absurd hs' hne
  · have hs' := hstep i _ hφ
    unfold mixOb at hs'
    rw [ho] at hs'
    exact depM_spec _ (allV_spec n _ hs' xs hxs w1 hb) (hdep i o xs w1 hi ho hD)
  · rw [ho] at hfin
    have := allMix_spec Ψ 0 xs (allV_spec n _ hfin xs hxs lo hi w1 hb hap) (by rw [hxs, hlen]) (fun j x hj hf hst => by rw [Nat.zero_add]; exact hall j x hj hf hst)
    exact ⟨this.1, wp_strong (fun a2 w2 ⟨v, e, hl, h⟩ => ⟨v, e, hl, h.out⟩) this.2.out⟩
end
section
variable {P : Program} {ops : Array Oper} {o : Oper} {a : Act} {w0 w : World} {rs : List Res}
def freshBox (t : TypeId) (cs : List Value) : Phi := fun lo hi v w => ∃ b, v = .pointer (some ⟨b, 0, none⟩) ∧ (Res.box b t cs).holds lo w ∧ b < hi
theorem freshBox_stable (t : TypeId) (cs : List Value) : (freshBox t cs).stable := by
  rintro lo hi v w1 w2 hb hh ⟨b, rfl, ho, hk⟩
  exact ⟨b, rfl, Res.holds_keep ho hb.size (fun k h => hb.block k (by cases h; omega)), hk⟩
theorem Yphi.alloc {t : TypeId} {z : Value} {cs : List Value} (ho : o.op = .alloc t) (hT : ZeroT P t z) (hv : z.cells.toList = cs) (hw : Region.wanted o (yielded ops a.tmps) = true) : Yphi P ops o a w (freshBox t cs) := by
  refine .inl ⟨hw, wp_alloc (St.start w) ho hT hv fun b w' st => ⟨_, rfl, st.below, b, rfl, st.get (i := 0) rfl, (Res.holds_lt (st.get (i := 0) rfl) rfl).2⟩⟩
theorem Yphi.known {φ : Phi} {v : Value} {r : Result Next} (hw : Region.wanted o (yielded ops a.tmps) = true) (hr : (execOp a.eval o).run P w = r) (hv : r = .ok (.value v) w) (hφ : φ w.heap.size w.heap.size v w) : Yphi P ops o a w φ :=
  .inl ⟨hw, wp_value (hr.trans hv) ⟨v, rfl, Below.refl _ _, hφ⟩⟩
def Res.within (lo hi : Nat) (r : Res) : Prop := ∀ k, r.blk = some k → lo ≤ k ∧ k < hi
theorem Res.apart {r s : Res} {lo1 hi1 lo2 hi2 : Nat} (h1 : r.within lo1 hi1) (h2 : s.within lo2 hi2) (hd : hi1 ≤ lo2 ∨ hi2 ≤ lo1) : r.ne s := fun k hk hk' => by
  have a1 := h1 k hk
  have a2 := h2 k hk'
  omega
theorem Res.within_row {w : World} {lo hi e size n c : Nat} {A : Option Addr} {xs : List Value} (h : w.ownsRow lo e size (.slice A n c) n xs) (hk : ∀ k, (Value.slice A n c).ownBlock = some k → k < hi) : (Res.row e size (.slice A n c) n xs).within lo hi :=
  fun k hb => ⟨(World.ownsRow.lt h k hb).1, hk k hb⟩
theorem St.also {r : Res} {w' : World} {lo hi : Nat} (st : St w0 w' rs) (old : w0.heap.size ≤ lo) (h : r.holds lo w') (hn : ∀ s ∈ rs, r.ne s) : St w0 w' (r :: rs) :=
  st.cons (Res.holds_mono h old) hn
end
end Go.Hp
namespace Go.Hp
open Go.RowKit
section
variable {P : Program} {ops : Array Oper} {o : Oper} {a : Act} {w0 w : World} {rs : List Res} {Q : Exit → Act → World → Prop} {l n : Nat}
theorem YX.old1 {t : TypeId} {x : Operand} {b p : Nat} {v : Value} (st : St w0 w rs) (ho : o.op = .load t x) (hT : OneT P t) (hw : Region.wanted o (yielded ops a.tmps) = true) (hx : a.eval x = .pointer (some ⟨b, p, none⟩)) (hb : b < w0.heap.size) (hv : w0.cell? ⟨b, p, none⟩ = some v) : YX P ops o a w v :=
  .inl ⟨hw, wp_old1 st ho hT hx hb hv ⟨rfl, rfl⟩⟩
theorem YX.oldS {w2 : World} {t : TypeId} {x : Operand} {b p : Nat} {v : Value} (st : St w0 w rs) (hs : SameBelow w0.heap.size w w2) (ho : o.op = .load t x) (hT : OneT P t) (hw : Region.wanted o (yielded ops a.tmps) = true) (hx : a.eval x = .pointer (some ⟨b, p, none⟩)) (hb : b < w0.heap.size) (hv : w0.cell? ⟨b, p, none⟩ = some v) : YX P ops o a w2 v := by
  refine .inl ⟨hw, wp_value (v := v) (w' := w2) ?_ ⟨rfl, rfl⟩⟩
  simp [execOp, ho, hx, run_load1 (P := P) (t := t) (hT := hT) ((hs b p hb).trans ((st.old hb).trans hv))]
theorem noDefer_mem : ∀ {lst : List Oper}, noDefer lst = true → ∀ o ∈ lst, ∀ c, o.op ≠ .defer c
  | [], _, o, h, _ => by cases h
  | x :: rest, hd, o, h, c => by
    simp only [noDefer, Bool.and_eq_true] at hd
    rcases List.mem_cons.1 h with rfl | h
    · intro hc
      rw [hc] at hd
      exact absurd hd.1 (by simp)
    · exact noDefer_mem hd.2 o h c
theorem wpOpIn_round_of_wpOp {lst : List Oper} {i : Nat} {K K' : Act → World → Prop} (hd : noDefer lst = true) (hL : ¬ LetsOut Q) (hK : ∀ a w, K a w → K' a w) (h : wpOp P lst.toArray Q i K a w) : wpOpIn (Fence.wide.inRound l) n P lst.toArray Q i K' a w := by
  unfold wpOp at h
  unfold wpOpIn
  split
  · rename_i ho
    simp only [ho] at h
    exact hK _ _ h
  · rename_i o ho
    simp only [ho] at h
    split
    · rename_i hw
      rw [if_pos hw] at h
      exact wpIn_round_of_wp (noDefer_mem hd o (List.mem_of_getElem? (by simpa using ho))) hK (h.resolve_right fun h => hL h.2)
    · rename_i hw
      rw [if_neg hw] at h
      exact ⟨fun _ _ => trivial, hK _ _ h⟩
theorem wpAnyIn_round_of_wpAny {lst : List Oper} {md : Region.Mode} (hd : noDefer lst = true) (hL : ¬ LetsOut Q) : ∀ (f : Nat) (L : Array Bool) (a : Act) (w : World), wpAny P md lst.toArray Q f L a w → wpAnyIn (Fence.wide.inRound l) n P md lst.toArray Q f L a w
  | 0, _, _, _, h => h
  | f + 1, L, a, w, h => ⟨h.1, fun i hi => wpOpIn_round_of_wpOp hd hL (fun a w => wpAnyIn_round_of_wpAny hd hL f _ a w) (h.2 i hi)⟩
theorem wpAny_plan {l : List Oper} {n : Nat} (hB : phiB l n = true) (h : Plan P l n a w.drew Q n []) : wpAny P .any l.toArray Q l.toArray.size (Array.replicate l.toArray.size false) a w.drew := by
  obtain ⟨Ψ, hlen, hst, hstep, hfin⟩ := Plan.all n [] h (fun _ h => by cases h) (fun i k hk => by simp at hk)
  simp only [List.length_nil, Nat.zero_add] at hlen
  have hB' := hB
  simp only [phiB, Bool.and_eq_true, decide_eq_true_eq, Bool.or_eq_true] at hB'
  obtain ⟨⟨⟨⟨_, hn⟩, hback⟩, _⟩, _⟩ := hB'
  have hΦ : (Ψ.map PhiK.phi).length = n := by simpa using hlen
  have hget : ∀ k φ, (Ψ.map PhiK.phi)[k]? = some φ → ∃ x : PhiK, Ψ[k]? = some x ∧ x.phi = φ := fun k φ hk => by
    rw [List.getElem?_map] at hk
    obtain ⟨x, hx, he⟩ := Option.map_eq_some_iff.1 hk
    exact ⟨x, hx, he⟩
  have main := wpAny_phi (P := P) (Q := Q) (a := a) (w := w.drew) (l := l) (n := n) (Φ := Ψ.map PhiK.phi) hB hΦ
    (fun φ hφ => by
      obtain ⟨k, hk, rfl⟩ := List.mem_map.1 hφ
      exact hst k hk)
    (fun i o φ hi ho hφ xs hxs w1 hb hd => by
      obtain ⟨x, hx, rfl⟩ := hget i φ hφ
      have hs := hstep i x hx
      unfold stepOb at hs
      rw [ho] at hs
      refine depF_spec _ (allV_spec n _ hs xs hxs w1 hb) fun e he hbind k hk => ?_
      have hon : e.on < i := by
        have := List.all_eq_true.1 hback i (List.mem_range.2 hi)
        simp only [List.getElem?_toArray, ho] at this
        have := Array.all_eq_true_iff_forall_mem.1 this e (by simpa using he)
        simpa [hbind] using this
      rw [List.getElem?_take, if_pos hon] at hk
      refine hd e.on k.phi (by omega) ?_ (by rw [List.getElem?_map, hk]; rfl)
      unfold Region.waitsFor
      simp only [List.getElem?_toArray, ho]
      exact Array.any_eq_true'.2 ⟨e, by simpa using he, by simp [hbind]⟩)
    (fun xs lo hi w1 hxs hb hall hd => by
      refine allPhi_spec Ψ 0 xs (allV_spec n _ hfin xs hxs lo hi w1 hb hd) (by rw [hxs, hlen]) fun j x hj => ?_
      rw [Nat.zero_add]
      exact hall j x.phi (by rw [List.getElem?_map, hj]; rfl))
    n (Array.replicate l.length false) a w.drew
    ⟨⟨by simp, fun j oj _ hl => (by rw [getD_replicate_false] at hl; cases hl), fun t _ ht => getD_in (by simpa using ht) (getD_replicate_false _ _)⟩, Below.refl _ _,
      ⟨(l.take n).map (fun o => match o.dst with | some d => a.tmps.getD d undef | none => undef), fun _ => 0, fun _ => 0, by simp; omega, (fillA_self _ a).symm, fun k φ _ hl => (by rw [getD_replicate_false] at hl; cases hl), fun j k _ hj _ => (by rw [getD_replicate_false] at hj; cases hj)⟩⟩
    (by
      have : ((List.range n).filter fun k => !(Array.replicate l.length false).getD k false) = List.range n := List.filter_eq_self.2 (fun k _ => by rw [getD_replicate_false]; rfl)
      rw [this]; simp)
  have hsz : l.toArray.size = n + (l.length - n) := by simp; omega
  rw [hsz, show n + (l.length - n) = l.length by omega]
  rw [show n + (l.length - n) = l.length by omega] at main
  exact main
theorem wpIn_round_plan {id l k : Nat} {lst : List Oper} (n : Nat) (hm : P.follows .mixedOrders = true) (hB : phiB lst n = true) (hd : noDefer lst = true) (hL : ¬ LetsOut Q) (h : Plan P lst n a w.drew Q n []) : (Code.region id lst.toArray true).wpIn (Fence.wide.inRound l) k P Q a w :=
  wpIn_region_any hm (wpAnyIn_round_of_wpAny hd hL _ _ _ _ (wpAny_plan hB h))
end
end Go.Hp
namespace Go.Proofs.YtppjhccdgbheiaaDoor
open Go.RowKit Go.Hp
theorem max16 {a b : Int} : decide ((if a < b then b else a) ≤ 16) = (decide (a ≤ 16) && decide (b ≤ 16)) := by
  rw [Bool.eq_iff_iff]
  simp only [Bool.and_eq_true, decide_eq_true_eq]
  split <;> omega
set_option maxRecDepth 8000 in
set_option maxHeartbeats 4000000 in
theorem decode_bad (l : List UInt8) (w : World) (hl5 : l.length ≤ 100000) (hl : 12 ≤ l.length) (E : Int) (hE : E = L.firstErr [L.unles (decide (L.bx l 2 ≤ 16) && decide (L.bx l 3 ≤ 16)) 8, L.unles ((l.length : Int) == 12 + (L.bx l 2 + L.bx l 3) * 8) 10, L.unles (L.bx l 0 == 1 && decide (L.bx l 1 ≤ 3)) 3]) (hE0 : E ≠ 0) :
    Calls Tryd.prog 32 #[.string ⟨l.toArray⟩] w (RetDescErr w (L.Desc.none, E)) := by
  have HE := Lib.hid hE
  have HHL := Lib.hid hl
  have HE0 := Lib.hid hE0
  clear hE hE0
  have hl2 : ¬ ((l.length : Int) < 12) := by omega
  have i0 : (0 : Int) < (l.length : Int) := by omega
  have i1 : (1 : Int) < (l.length : Int) := by omega
  have i2 : (2 : Int) < (l.length : Int) := by omega
  have i3 : (3 : Int) < (l.length : Int) := by omega
  have n1 : 1 < l.length := by omega
  have n0 : 0 < l.length := by omega
  have st := St.start w
  have c2 := (L.bx_bound l 2)
  have c3 := (L.bx_bound l 3)
  have r2 : IntKind.i64.wrap (L.bx l 2) = L.bx l 2 := wrap_id (by omega) (by omega)
  have r3 : IntKind.i64.wrap (L.bx l 3) = L.bx l 3 := wrap_id (by omega) (by omega)
  have hne : l ≠ [] := fun e => by rw [e] at hl; simp at hl
  go_enter Tryd.func32, Tryd.ntmps32
  go_wp2_with (refine WL.out ?_; (repeat ((refine WL.op ?_ ?_; (exact rfl); intro K hK; (first | ((((with_reducible apply ow_assign); exact rfl)); (go_simp <;> (try simp (disch := omega) only [wrap_id, sub_left, zac]) <;> rfl)) | ((((with_reducible apply ow_alloc st); exact rfl; exact inferInstance; (go_simp <;> (try simp (disch := omega) only [wrap_id, sub_left, zac]) <;> rfl))); (try clear st); intro b w' st) | ((with_reducible apply ow_bytes st); exact rfl; exact rfl; (try clear st); intro g c cs m wB st hcs hlc) | ((with_reducible apply ow_eval); (go_simp <;> (try simp (disch := omega) only [wrap_id, sub_left, zac]) <;> rfl); ((with_reducible apply up_value)))); refine WL.next hK (by simp only [Act.put, zpt, zsz, zss]; exact rfl) ?_; clear hK K))); (try refine WL.nil ?_))
  have hg0 := (Res.holds_lt (st.get (i := 0) rfl) rfl).2
  have HX : Hid (∀ j, j < l.length → wB.cell? ⟨g, j, none⟩ = some (.int .u8 (L.bx l j))) := Lib.hid fun j hj => (St.cellO st (i := 0) rfl j).trans (hcs j hj)
  have y0 := HX.out 0 (by omega)
  have y1 := HX.out 1 (by omega)
  have y2 := HX.out 2 (by omega)
  have y3 := HX.out 3 (by omega)
  have HLC := Lib.hid hlc
  clear hcs hne
  have stB := st
  replace st := St.start wB
  generalize hN : l.length = n at *
  replace hN := Lib.hid hN
  refine wp_region_mix 10 9 (by kernel_rfl) (by kernel_rfl) (by decide) st.size ?_; replace st := st.drew; generalize World.drew _ = W at st ⊢
  iterate 3 (apply Mix.val'; (focus (intro x0 x1 x2 x3 x4 x5 x6 x7 x8 x9 w1 hb; (try simp only [depM, fillA, Act.put, zta, ztz, zpt, zsz, zss, zl0, zls]); (repeat (rintro rfl)); have st := st.call hb; (first | (apply Yphi.run; (exact rfl); (go_simp <;> (try simp (disch := omega) only [wrap_id, sub_left, zac]) <;> rfl); exact rfl) | (apply Yphi.old1 st; exact rfl; exact inferInstance; (exact rfl); exact rfl; assumption; assumption)))); (simp only [zca, zcn] <;> exact rfl))
  (apply Mix.val'; (focus (intro x0 x1 x2 x3 x4 x5 x6 x7 x8 x9 w1 hb; (try simp only [depM, fillA, Act.put, zta, ztz, zpt, zsz, zss, zl0, zls]); (repeat (rintro rfl)); have st := st.call hb; ((apply Yphi.run; (exact rfl); (go_simp <;> (try simp (disch := omega) only [wrap_id, sub_left, zac]) <;> rfl); exact rfl)))); (simp only [zca, zcn] <;> exact rfl))
  iterate 2 (apply Mix.free'; (focus (intro x0 x1 x2 x3 x4 x5 x6 x7 x8 x9 w1 hb; (try simp only [depM, fillA, Act.put, zta, ztz, zpt, zsz, zss, zl0, zls]); (repeat (first | rintro rfl | intro _)); have st := st.call hb; apply YX.run; (exact rfl); (go_simp <;> (try simp (disch := omega) only [wrap_id, sub_left, zac]) <;> rfl); exact rfl)); (simp only [zca, zcn] <;> exact rfl))
  (apply Mix.free'; (focus (intro x0 x1 x2 x3 x4 x5 x6 x7 x8 x9 w1 hb; (try simp only [depM, fillA, Act.put, zta, ztz, zpt, zsz, zss, zl0, zls]); rintro rfl; intro w2 hb2; apply YX.oldS st hb2; exact rfl; exact inferInstance; (exact rfl); exact rfl; assumption; assumption)); (simp only [zca, zcn] <;> exact rfl))
  (apply Mix.free'; (focus (intro x0 x1 x2 x3 x4 x5 x6 x7 x8 x9 w1 hb; (try simp only [depM, fillA, Act.put, zta, ztz, zpt, zsz, zss, zl0, zls]); (repeat (first | rintro rfl | intro _)); have st := st.call hb; apply YX.run; (exact rfl); (go_simp <;> (try simp (disch := omega) only [wrap_id, sub_left, zac]) <;> rfl); exact rfl)); (simp only [zca, zcn] <;> exact rfl))
  (apply Mix.fact' (freshBox (3) ([.int .i64 0])) (freshBox_stable _ _); (focus (intro x0 x1 x2 x3 x4 x5 x6 x7 x8 x9 w1 hb; (try simp only [depM, fillA, Act.put, zta, ztz, zpt, zsz, zss, zl0, zls]); (repeat (fail)); have st := st.call hb; apply Yphi.alloc; exact rfl; exact inferInstance; exact rfl; (exact rfl))); (simp only [zca, zcn] <;> exact rfl))
  (apply Mix.store'; exact rfl; (simp only [zca, zcn] <;> exact rfl))
  refine Mix.fin (by kernel_rfl) (by kernel_rfl) rfl ?_
  intro x0 x1 x2 x3 x4 x5 x6 x7 x8 x9 lo hi w1 hb hap
  rintro rfl rfl rfl rfl h8 - ⟨b5, rfl, hb5, -⟩
  have stO := st
  replace st := st.fresh hb (Res.holds_mono hb5 h8)
  clear hap hb hb5 h8
  simp only [allMix, fixF, fillA, Act.put, zta, ztz, zpt, zsz, zss, zda, zdz]
  refine ⟨?_, ?_⟩
  (exact rfl)
  ((((with_reducible apply ow_store1' st); exact rfl; exact inferInstance; exact rfl; (exact get0); (go_simp <;> (try simp (disch := omega) only [wrap_id, sub_left, zac]) <;> rfl))); exact rfl; exact rfl; (simp <;> done); ((try simp only [zta, ztz, zda, zdz, zca, zcn, zan, zsz, zss]) <;> exact rfl); (try clear st); intro w' st)
  refine ⟨undef, rfl, SameBelow.of_st stO st, ?_⟩
  clear stO
  (repeat ((refine WL.op ?_ ?_; (exact rfl); intro K hK; (((((with_reducible apply ow_assign); exact rfl)); (go_simp <;> (try simp (disch := omega) only [wrap_id, sub_left, zac]) <;> rfl))); refine WL.next hK (by simp only [Act.put, zpt, zsz, zss]; exact rfl) ?_; clear hK K)))
  refine WL.nil ?_
  clear hl2
  have i4 : (n : Int) ≤ 100000 := by omega
  by_cases hb0 : L.bx l 0 = 1
  · have hb0' : (L.bx l 0 == 1) = true := by simpa using hb0
    clear hb0
    go_wp2_with (refine WL.out ?_; (repeat (fail)); (try refine WL.nil ?_))
    refine wp_region_plan 25 (by kernel_rfl) (by kernel_rfl) ?_; replace st := st.drew; generalize World.drew _ = W at st ⊢
    iterate 4 (apply Plan.val'; (focus (intro x0 x1 x2 x3 x4 x5 x6 x7 x8 x9 x10 x11 x12 x13 x14 x15 x16 x17 x18 x19 x20 x21 x22 x23 x24 w1 hb; (try simp only [depF, fillA, Act.put, zta, ztz, zpt, zsz, zss, zl0, zls]); (repeat (rintro rfl)); have st := st.call hb; (first | (apply Yphi.run; (exact rfl); (go_simp <;> (try simp (disch := omega) only [wrap_id, sub_left, zac]) <;> rfl); exact rfl) | (apply Yphi.load1 st; exact rfl; exact inferInstance; (exact rfl); exact rfl; (exact get0); exact rfl)))); (simp only [zca, zcn] <;> exact rfl))
    (apply Plan.val'; (focus (intro x0 x1 x2 x3 x4 x5 x6 x7 x8 x9 x10 x11 x12 x13 x14 x15 x16 x17 x18 x19 x20 x21 x22 x23 x24 w1 hb; (try simp only [depF, fillA, Act.put, zta, ztz, zpt, zsz, zss, zl0, zls]); (repeat (rintro rfl)); have st := st.call hb; apply Yphi.call; (exact rfl); (go_simp <;> (try simp (disch := omega) only [wrap_id, sub_left, zac]) <;> rfl); exact rfl; refine (unles_any _ _ _).mono ?_; rintro e w' ⟨rfl, rfl⟩; exact ⟨_, rfl, Below.refl _ _, rfl⟩)); (simp only [zca, zcn] <;> exact rfl))
    iterate 8 (apply Plan.val'; (focus (intro x0 x1 x2 x3 x4 x5 x6 x7 x8 x9 x10 x11 x12 x13 x14 x15 x16 x17 x18 x19 x20 x21 x22 x23 x24 w1 hb; (try simp only [depF, fillA, Act.put, zta, ztz, zpt, zsz, zss, zl0, zls]); (repeat (rintro rfl)); have st := st.call hb; (first | (apply Yphi.run; (exact rfl); (go_simp <;> (try simp (disch := omega) only [wrap_id, sub_left, zac]) <;> rfl); exact rfl) | (apply Yphi.load1 st; exact rfl; exact inferInstance; (exact rfl); exact rfl; (exact get0); exact rfl)))); (simp only [zca, zcn] <;> exact rfl))
    (apply Plan.val'; (focus (intro x0 x1 x2 x3 x4 x5 x6 x7 x8 x9 x10 x11 x12 x13 x14 x15 x16 x17 x18 x19 x20 x21 x22 x23 x24 w1 hb; (try simp only [depF, fillA, Act.put, zta, ztz, zpt, zsz, zss, zl0, zls]); (repeat (rintro rfl)); have st := st.call hb; apply Yphi.call; (exact rfl); (go_simp <;> (try simp (disch := omega) only [wrap_id, sub_left, zac]) <;> rfl); exact rfl; refine (unles_any _ _ _).mono ?_; rintro e w' ⟨rfl, rfl⟩; exact ⟨_, rfl, Below.refl _ _, rfl⟩)); (simp only [zca, zcn] <;> exact rfl))
    iterate 5 (apply Plan.val'; (focus (intro x0 x1 x2 x3 x4 x5 x6 x7 x8 x9 x10 x11 x12 x13 x14 x15 x16 x17 x18 x19 x20 x21 x22 x23 x24 w1 hb; (try simp only [depF, fillA, Act.put, zta, ztz, zpt, zsz, zss, zl0, zls]); (repeat (rintro rfl)); have st := st.call hb; (first | (apply Yphi.run; (exact rfl); (go_simp <;> (try simp (disch := omega) only [wrap_id, sub_left, zac]) <;> rfl); exact rfl) | (apply Yphi.old1 st; exact rfl; exact inferInstance; (exact rfl); exact rfl; assumption; assumption)))); (simp only [zca, zcn] <;> exact rfl))
    iterate 4 (apply Plan.val'; (focus (intro x0 x1 x2 x3 x4 x5 x6 x7 x8 x9 x10 x11 x12 x13 x14 x15 x16 x17 x18 x19 x20 x21 x22 x23 x24 w1 hb; (try simp only [depF, fillA, Act.put, zta, ztz, zpt, zsz, zss, zl0, zls]); (repeat (rintro rfl)); have st := st.call hb; (first | (apply Yphi.run; (exact rfl); (go_simp <;> (try simp (disch := omega) only [wrap_id, sub_left, zac]) <;> rfl); exact rfl) | (apply Yphi.old1 st; exact rfl; exact inferInstance; (exact rfl); exact rfl; assumption; assumption)))); (simp only [zca, zcn] <;> exact rfl))
    (apply Plan.val'; (focus (intro x0 x1 x2 x3 x4 x5 x6 x7 x8 x9 x10 x11 x12 x13 x14 x15 x16 x17 x18 x19 x20 x21 x22 x23 x24 w1 hb; (try simp only [depF, fillA, Act.put, zta, ztz, zpt, zsz, zss, zl0, zls]); (repeat (rintro rfl)); have st := st.call hb; ((apply Yphi.run; (exact rfl); (go_simp <;> (try simp (disch := omega) only [wrap_id, sub_left, zac]) <;> rfl); exact rfl)))); (simp only [zca, zcn] <;> exact rfl))
    (apply Plan.val'; (focus (intro x0 x1 x2 x3 x4 x5 x6 x7 x8 x9 x10 x11 x12 x13 x14 x15 x16 x17 x18 x19 x20 x21 x22 x23 x24 w1 hb; (try simp only [depF, fillA, Act.put, zta, ztz, zpt, zsz, zss, zl0, zls]); (repeat (rintro rfl)); have st := st.call hb; apply Yphi.call; (exact rfl); (go_simp <;> (try simp (disch := omega) only [wrap_id, sub_left, zac]) <;> rfl); exact rfl; refine (unles_any _ _ _).mono ?_; rintro e w' ⟨rfl, rfl⟩; exact ⟨_, rfl, Below.refl _ _, rfl⟩)); (simp only [zca, zcn] <;> exact rfl))
    intro x0 x1 x2 x3 x4 x5 x6 x7 x8 x9 x10 x11 x12 x13 x14 x15 x16 x17 x18 x19 x20 x21 x22 x23 x24 lo hi w1 hb hap
    rintro rfl rfl rfl rfl rfl rfl rfl rfl rfl rfl rfl rfl rfl rfl rfl rfl rfl rfl rfl rfl rfl rfl rfl rfl rfl
    simp only [allPhi, fillA, Act.put, zta, ztz, zpt, zsz, zss, zda, zdz]
    (try simp only [show max (L.bx l 2) (L.bx l 3) = (if L.bx l 2 < L.bx l 3 then L.bx l 3 else L.bx l 2) by split <;> omega])
    generalize hM : (if L.bx l 2 < L.bx l 3 then L.bx l 3 else L.bx l 2) = M
    replace hM := Lib.hid hM
    have st := st.call hb
    clear hap hb
    go_wp2_with (refine WL.out ?_; (repeat ((refine WL.op ?_ ?_; (exact rfl); intro K hK; (first | ((first | ((with_reducible apply ow_move); exact rfl) | ((with_reducible apply ow_assign); exact rfl)); (go_simp <;> (try simp (disch := omega) only [wrap_id, sub_left, zac]) <;> rfl)) | ((((with_reducible apply ow_newSlice st); exact rfl; (go_simp <;> (try simp (disch := omega) only [wrap_id, sub_left, zac]) <;> rfl); exact rfl)); (try clear st); intro b w' st) | ((((with_reducible apply ow_storeN' st); exact rfl; exact inferInstance; exact rfl; (exact get3); exact rfl)); exact rfl; exact rfl; (simp <;> done); ((try simp only [zta, ztz, zda, zdz, zca, zcn, zan, zsz, zss]) <;> exact rfl); (try clear st); intro w' st) | ((with_reducible apply ow_eval); (go_simp <;> (try simp (disch := omega) only [wrap_id, sub_left, zac]) <;> rfl); first | (with_reducible apply up_value) | ((with_reducible apply up_enter); ((go_at_call 40; refine (first_st3 st).mono ?_; rintro e w' ⟨rfl, rfl⟩; generalize hF : L.firstErr _ = F; have hFE : F = E := (by rw [HE.out, ← hF, ← hM.out, max16, hb0', Bool.true_and]); subst hFE; replace st := stB.join st; simp only [List.cons_append, List.nil_append] at st; have hF0 := HE0.out; refine ⟨_, rfl, ?_⟩))))); refine WL.next hK (by simp only [Act.put, zpt, zsz, zss]; exact rfl) ?_; clear hK K))); (try refine WL.nil ?_))
    refine bodyPost_cell_tmp 3 st rfl inferInstance rfl rfl rfl rfl rfl ?_
    exact ⟨none, 0, 0, none, 0, 0, rfl, ((st.sub (List.nil_sublist _)).nilRow _ _).nilRow _ _⟩
  · have hb0' : (L.bx l 0 == 1) = false := by simpa using hb0
    clear hb0
    go_wp2_with (refine WL.out ?_; (repeat (fail)); (try refine WL.nil ?_))
    refine wp_region_plan 25 (by kernel_rfl) (by kernel_rfl) ?_; replace st := st.drew; generalize World.drew _ = W at st ⊢
    iterate 4 (apply Plan.val'; (focus (intro x0 x1 x2 x3 x4 x5 x6 x7 x8 x9 x10 x11 x12 x13 x14 x15 x16 x17 x18 x19 x20 x21 x22 x23 x24 w1 hb; (try simp only [depF, fillA, Act.put, zta, ztz, zpt, zsz, zss, zl0, zls]); (repeat (rintro rfl)); have st := st.call hb; (first | (apply Yphi.run; (exact rfl); (go_simp <;> (try simp (disch := omega) only [wrap_id, sub_left, zac]) <;> rfl); exact rfl) | (apply Yphi.load1 st; exact rfl; exact inferInstance; (exact rfl); exact rfl; (exact get0); exact rfl)))); (simp only [zca, zcn] <;> exact rfl))
    (apply Plan.val'; (focus (intro x0 x1 x2 x3 x4 x5 x6 x7 x8 x9 x10 x11 x12 x13 x14 x15 x16 x17 x18 x19 x20 x21 x22 x23 x24 w1 hb; (try simp only [depF, fillA, Act.put, zta, ztz, zpt, zsz, zss, zl0, zls]); (repeat (rintro rfl)); have st := st.call hb; apply Yphi.call; (exact rfl); (go_simp <;> (try simp (disch := omega) only [wrap_id, sub_left, zac]) <;> rfl); exact rfl; refine (unles_any _ _ _).mono ?_; rintro e w' ⟨rfl, rfl⟩; exact ⟨_, rfl, Below.refl _ _, rfl⟩)); (simp only [zca, zcn] <;> exact rfl))
    iterate 8 (apply Plan.val'; (focus (intro x0 x1 x2 x3 x4 x5 x6 x7 x8 x9 x10 x11 x12 x13 x14 x15 x16 x17 x18 x19 x20 x21 x22 x23 x24 w1 hb; (try simp only [depF, fillA, Act.put, zta, ztz, zpt, zsz, zss, zl0, zls]); (repeat (rintro rfl)); have st := st.call hb; (first | (apply Yphi.run; (exact rfl); (go_simp <;> (try simp (disch := omega) only [wrap_id, sub_left, zac]) <;> rfl); exact rfl) | (apply Yphi.load1 st; exact rfl; exact inferInstance; (exact rfl); exact rfl; (exact get0); exact rfl)))); (simp only [zca, zcn] <;> exact rfl))
    (apply Plan.val'; (focus (intro x0 x1 x2 x3 x4 x5 x6 x7 x8 x9 x10 x11 x12 x13 x14 x15 x16 x17 x18 x19 x20 x21 x22 x23 x24 w1 hb; (try simp only [depF, fillA, Act.put, zta, ztz, zpt, zsz, zss, zl0, zls]); (repeat (rintro rfl)); have st := st.call hb; apply Yphi.call; (exact rfl); (go_simp <;> (try simp (disch := omega) only [wrap_id, sub_left, zac]) <;> rfl); exact rfl; refine (unles_any _ _ _).mono ?_; rintro e w' ⟨rfl, rfl⟩; exact ⟨_, rfl, Below.refl _ _, rfl⟩)); (simp only [zca, zcn] <;> exact rfl))
    iterate 5 (apply Plan.val'; (focus (intro x0 x1 x2 x3 x4 x5 x6 x7 x8 x9 x10 x11 x12 x13 x14 x15 x16 x17 x18 x19 x20 x21 x22 x23 x24 w1 hb; (try simp only [depF, fillA, Act.put, zta, ztz, zpt, zsz, zss, zl0, zls]); (repeat (rintro rfl)); have st := st.call hb; (first | (apply Yphi.run; (exact rfl); (go_simp <;> (try simp (disch := omega) only [wrap_id, sub_left, zac]) <;> rfl); exact rfl) | (apply Yphi.old1 st; exact rfl; exact inferInstance; (exact rfl); exact rfl; assumption; assumption)))); (simp only [zca, zcn] <;> exact rfl))
    iterate 4 (apply Plan.val'; (focus (intro x0 x1 x2 x3 x4 x5 x6 x7 x8 x9 x10 x11 x12 x13 x14 x15 x16 x17 x18 x19 x20 x21 x22 x23 x24 w1 hb; (try simp only [depF, fillA, Act.put, zta, ztz, zpt, zsz, zss, zl0, zls]); (repeat (rintro rfl)); have st := st.call hb; apply Yphi.skip; (exact rfl))); (simp only [zca, zcn] <;> exact rfl))
    (apply Plan.val'; (focus (intro x0 x1 x2 x3 x4 x5 x6 x7 x8 x9 x10 x11 x12 x13 x14 x15 x16 x17 x18 x19 x20 x21 x22 x23 x24 w1 hb; (try simp only [depF, fillA, Act.put, zta, ztz, zpt, zsz, zss, zl0, zls]); (repeat (rintro rfl)); have st := st.call hb; ((apply Yphi.run; (exact rfl); (go_simp <;> (try simp (disch := omega) only [wrap_id, sub_left, zac]) <;> rfl); exact rfl)))); (simp only [zca, zcn] <;> exact rfl))
    (apply Plan.val'; (focus (intro x0 x1 x2 x3 x4 x5 x6 x7 x8 x9 x10 x11 x12 x13 x14 x15 x16 x17 x18 x19 x20 x21 x22 x23 x24 w1 hb; (try simp only [depF, fillA, Act.put, zta, ztz, zpt, zsz, zss, zl0, zls]); (repeat (rintro rfl)); have st := st.call hb; apply Yphi.call; (exact rfl); (go_simp <;> (try simp (disch := omega) only [wrap_id, sub_left, zac]) <;> rfl); exact rfl; refine (unles_any _ _ _).mono ?_; rintro e w' ⟨rfl, rfl⟩; exact ⟨_, rfl, Below.refl _ _, rfl⟩)); (simp only [zca, zcn] <;> exact rfl))
    intro x0 x1 x2 x3 x4 x5 x6 x7 x8 x9 x10 x11 x12 x13 x14 x15 x16 x17 x18 x19 x20 x21 x22 x23 x24 lo hi w1 hb hap
    rintro rfl rfl rfl rfl rfl rfl rfl rfl rfl rfl rfl rfl rfl rfl rfl rfl rfl rfl rfl rfl rfl rfl rfl rfl rfl
    simp only [allPhi, fillA, Act.put, zta, ztz, zpt, zsz, zss, zda, zdz]
    (try simp only [show max (L.bx l 2) (L.bx l 3) = (if L.bx l 2 < L.bx l 3 then L.bx l 3 else L.bx l 2) by split <;> omega])
    generalize hM : (if L.bx l 2 < L.bx l 3 then L.bx l 3 else L.bx l 2) = M
    replace hM := Lib.hid hM
    have st := st.call hb
    clear hap hb
    go_wp2_with (refine WL.out ?_; (repeat ((refine WL.op ?_ ?_; (exact rfl); intro K hK; (first | ((first | ((with_reducible apply ow_move); exact rfl) | ((with_reducible apply ow_assign); exact rfl)); (go_simp <;> (try simp (disch := omega) only [wrap_id, sub_left, zac]) <;> rfl)) | ((((with_reducible apply ow_newSlice st); exact rfl; (go_simp <;> (try simp (disch := omega) only [wrap_id, sub_left, zac]) <;> rfl); exact rfl)); (try clear st); intro b w' st) | ((((with_reducible apply ow_storeN' st); exact rfl; exact inferInstance; exact rfl; (exact get3); exact rfl)); exact rfl; exact rfl; (simp <;> done); ((try simp only [zta, ztz, zda, zdz, zca, zcn, zan, zsz, zss]) <;> exact rfl); (try clear st); intro w' st) | ((with_reducible apply ow_eval); (go_simp <;> (try simp (disch := omega) only [wrap_id, sub_left, zac]) <;> rfl); first | (with_reducible apply up_value) | ((with_reducible apply up_enter); ((go_at_call 40; refine (first_st3 st).mono ?_; rintro e w' ⟨rfl, rfl⟩; generalize hF : L.firstErr _ = F; have hFE : F = E := (by rw [HE.out, ← hF, ← hM.out, max16, hb0', Bool.false_and]); subst hFE; replace st := stB.join st; simp only [List.cons_append, List.nil_append] at st; have hF0 := HE0.out; refine ⟨_, rfl, ?_⟩))))); refine WL.next hK (by simp only [Act.put, zpt, zsz, zss]; exact rfl) ?_; clear hK K))); (try refine WL.nil ?_))
    refine bodyPost_cell_tmp 3 st rfl inferInstance rfl rfl rfl rfl rfl ?_
    exact ⟨none, 0, 0, none, 0, 0, rfl, ((st.sub (List.nil_sublist _)).nilRow _ _).nilRow _ _⟩
end Go.Proofs.YtppjhccdgbheiaaDoor
namespace Go.Proofs.YtppjhccdgbheiaaDoor
open Go.RowKit Go.Hp Go.Shelf
attribute [local go_sem] Oper.semAt_some
def pieces (m : Nat) : List (Fin m) := List.ofFn fun i : Fin m => i
theorem pieces_length (m : Nat) : (pieces m).length = m := by unfold pieces; simp
theorem pieces_take (m k : Nat) (h : k < m) : (pieces m).take (k + 1) = (pieces m).take k ++ [⟨k, h⟩] := by
  rw [List.take_succ_eq_append_getElem (by rw [pieces_length]; exact h)]
  congr 1
  unfold pieces
  simp
theorem pieces_val (m : Nat) : (pieces m).map Fin.val = List.range m := by
  refine List.ext_getElem (by simp [pieces_length]) fun i h1 h2 => ?_
  simp [pieces]
def KpC (n₀ Bs Bn : Nat) (A B : World) : Prop := Below n₀ A B ∧ B.cell? ⟨Bs, 0, none⟩ = A.cell? ⟨Bs, 0, none⟩ ∧ B.cell? ⟨Bn, 0, none⟩ = A.cell? ⟨Bn, 0, none⟩
theorem KpC.refl (n₀ Bs Bn : Nat) (A : World) : KpC n₀ Bs Bn A A := ⟨Below.refl _ _, rfl, rfl⟩
theorem KpC.trans {n₀ Bs Bn : Nat} {A B C : World} (h : KpC n₀ Bs Bn A B) (k : KpC n₀ Bs Bn B C) : KpC n₀ Bs Bn A C := ⟨h.1.trans k.1, k.2.1.trans h.2.1, k.2.2.trans h.2.2⟩
theorem KpC.of_below {n₀ Bs Bn B : Nat} {W W' : World} (h : Below B W W') (h0 : n₀ ≤ B) (h1 : Bs < B) (h2 : Bn < B) : KpC n₀ Bs Bn W W' := ⟨h.mono h0, h.cell (p := ⟨Bs, 0, none⟩) h1, h.cell (p := ⟨Bn, 0, none⟩) h2⟩
theorem KpC.put {n₀ Bs Bn : Nat} {w : World} (h0 : n₀ ≤ w.heap.size) (h1 : Bs < w.heap.size) (h2 : Bn < w.heap.size) (W : World) (l : Nat) (o o' : Obj) (hl : w.heap.size ≤ l) (h : W.heap[l]? = some o) (hc : o.isCells = false) (hw : o.isWalk = false) : KpC n₀ Bs Bn W (W.putObj l o') :=
  KpC.of_below (belowK_b (Nat.le_refl _) W l o o' hl h hc hw) h0 h1 h2
set_option maxRecDepth 100000 in
set_option maxHeartbeats 2000000 in
theorem chunk1_stops (n Bs Bn n₀ g o m q cap : Nat) (w : World) (A : Option Addr) (hA : 0 < m → A = some ⟨g, o, none⟩) (hBs : Bs < w.heap.size) (hBn : Bn < w.heap.size) (hn₀ : n₀ ≤ w.heap.size) (hc : w.cell? ⟨Bs, 0, none⟩ = some (.slice A q cap)) (hc2 : w.cell? ⟨Bn, 0, none⟩ = some (.int .i64 8)) (hq : q = 8 * m) (hcap : q ≤ cap) (hm : m ≤ 1000) :
    SeqStopsK Fence.wide n Tryd.prog 84 #[.pointer (some ⟨Bs, 0, none⟩), .pointer (some ⟨Bn, 0, none⟩)] (fun x : Fin m => #[.slice (some ⟨g, o + 8 * x.val, none⟩) 8 8]) (KpC n₀ Bs Bn) (fun ys => ys = pieces m) (fun _ => True) m w := by
  intro l J Jx W hW hJ hJx hY h0
  have HQ := Lib.hid hq
  have HA := Lib.hid hA
  have hc' := (hW.cell (p := ⟨Bs, 0, none⟩) hBs).trans hc
  have hd' := (hW.cell (p := ⟨Bn, 0, none⟩) hBn).trans hc2
  clear hc hc2 hA hq
  refine callsIn_of_wp Tryd.func84 rfl trivial ?_ rfl
  simp only [Tryd.ntmps84, List.size_toArray, List.length_cons, List.length_nil, Nat.reduceAdd, Nat.reduceSub, Array.replicate_succ, Array.replicate_zero, List.push_toArray, List.append_toArray, List.nil_append, List.cons_append]
  gi_wp2
  gi_loopw [4] (fun i wr => ∃ k j : Nat, j = 8 * k ∧ k ≤ m ∧ i = .int .i64 (j : Int) ∧ J ((pieces m).take k) wr ∧ KpC n₀ Bs Bn W wr) (fun i _ => q - (intOf i).toNat)
  case atStart => exact ⟨0, 0, rfl, Nat.zero_le _, rfl, h0, KpC.refl _ _ _ _⟩
  case round =>
    obtain ⟨k, j, hj, hk, rfl, hJs, hnx⟩ := hrel
    have hs0 := hnx.2.1.trans hc'
    have hs1 := hnx.2.2.trans hd'
    have hsz : n₀ ≤ wr.heap.size := by have := hnx.1.size; have := hW.size; omega
    have hb1 : Bs < wr.heap.size := by have := hnx.1.size; have := hW.size; omega
    have hb2 : Bn < wr.heap.size := by have := hnx.1.size; have := hW.size; omega
    by_cases hlt : k < m
    · have hAA := HA.out (by omega)
      subst hAA
      have hjq : j + 8 ≤ q := by have := HQ.out; omega
      have hjI : (j : Int) < (q : Int) := by omega
      have hjI2 : (j : Int) ≤ (q : Int) := by omega
      have hqc : (q : Int) ≤ (cap : Int) := by omega
      have hcj : ¬ (cap = j) := by omega
      have hm8 : ¬ ((q : Int) - (j : Int) < 8) := by omega
      have hm9 : ¬ (((q - j : Nat) : Int) < 8) := by omega
      have HJ := Lib.hid hj
      have HT := Lib.hid (pieces_take m k hlt)
      have e8 : j + 8 - j = 8 := by omega
      have hw8 : IntKind.i64.wrap ((j : Int) + 8) = ((j + 8 : Nat) : Int) := by rw [wrap_id (by omega) (by omega)]; omega
      clear hj
      gi_wp2
      refine wpIn_wide.2 ?_
      have st := St.start wr
      refine wp_region_plan 6 (by kernel_rfl) (by kernel_rfl) ?_
      replace st := st.drew
      have hdw : Below wr.heap.size wr wr.drew := (Below.refl _ wr).drew
      generalize wr.drew = W2 at st hdw ⊢
      iterate 6 (apply Plan.val'; (focus (intro x0 x1 x2 x3 x4 x5 w1 hb; (try simp only [depF, fillA, Act.put, zta, ztz, zpt, zsz, zss, zl0, zls]); (repeat (rintro rfl)); have st := st.call hb; (first | (apply Yphi.run; (exact rfl); (go_simp <;> (try simp (disch := omega) only [wrap_id, sub_left, zac]) <;> rfl); exact rfl) | (apply Yphi.old1 st; exact rfl; exact inferInstance; (exact rfl); exact rfl; assumption; assumption)))); (simp only [zca, zcn] <;> exact rfl))
      intro x0 x1 x2 x3 x4 x5 lo hi w1 hb hap
      rintro rfl rfl rfl rfl rfl rfl
      simp only [allPhi, fillA, Act.put, zta, ztz, zpt, zsz, zss, zda, zdz]
      (try rw [if_neg (by omega)])
      (try simp only [show min (8 : Int) ((q - j : Nat) : Int) = 8 by omega, show min ((q - j : Nat) : Int) (8 : Int) = 8 by omega])
      have hnx0 : Below wr.heap.size wr w1 := hdw.trans (hb.mono st.size)
      have hnx1 : KpC n₀ Bs Bn wr w1 := KpC.of_below hnx0 hsz hb1 hb2
      have hs3 := hnx1.2.1.trans hs0
      have hs4 := hnx1.2.2.trans hs1
      have hYk : YieldAt Fence.wide (n - 1) Tryd.prog l #[.slice (some ⟨g, o + j, none⟩) 8 8] w1 _ := (by rw [HJ.out]; exact hY _ ⟨k, hlt⟩ w1 (hJ _ _ _ none hJs (Below.grownNone hnx0) (fun r h => by cases h)) (by rw [List.length_take, pieces_length]; omega))
      obtain ⟨fn, tmps, assign, body, hy, hR⟩ := hYk
      (try dsimp only at hy)
      clear hap
      (refine WL.out ?_; (repeat ((refine WL.op ?_ ?_; (exact rfl); intro K hK; (((((with_reducible apply ow_assign); exact rfl)); (go_simp <;> (try simp (disch := omega) only [wrap_id, sub_left, zac]) <;> rfl))); refine WL.next hK (by simp only [Act.put, zpt, zsz, zss]; exact rfl) ?_; clear hK K))); (try refine WL.nil ?_))
      clear hs0 hs1 st
      gi_wp2
      refine ⟨fun h => (by cases h), hR.mono ?_⟩
      rintro e W3 (⟨rfl, hJ3, hk3⟩ | ⟨rfl, hJx3⟩)
      · have hnx3 : KpC n₀ Bs Bn wr W3 := hnx1.trans hk3
        have hs5 := hk3.2.1.trans hs3
        have hs6 := hk3.2.2.trans hs4
        clear hs3 hs4 hc' hd'
        gi_wp2
        go_roundw
        case rel => exact ⟨k + 1, j + 8, by rw [HJ.out]; omega, by omega, by simp, by rw [HT.out]; exact hJ3, hnx.trans hnx3⟩
        case measure => simp [intOf]; omega
      · gi_wp2
        refine bodyPost_ret (results_none rfl _ _ _) rfl ?_
        exact ⟨⟨_, rfl⟩, .inr ⟨_, trivial, hJx3⟩⟩
    · have hjq : ¬ ((j : Int) < (q : Int)) := by have := HQ.out; omega
      have hs' : Hid ((pieces m).take k = pieces m) := Lib.hid (List.take_of_length_le (by rw [pieces_length]; omega))
      gi_wp2
      go_end0
      exact ⟨⟨_, rfl⟩, .inl (hs'.out ▸ hJs)⟩
theorem Chunk_any (A : Option Addr) (n c : Nat) (w : World) :
    Calls Tryd.prog 64 #[.slice A n c, .int .i64 8] w fun e w' => e = .returned (.func (.func 84) #[] #[.pointer (some ⟨w.heap.size, 0, none⟩), .pointer (some ⟨w.heap.size + 1, 0, none⟩)]) ∧ w' = (w.alloc (.cells #[.slice A n c] 84)).alloc (.cells #[.int .i64 8] 3) := by
  go_enter Tryd.func64, Tryd.ntmps64
  go_wp2
  go_ret
  exact ⟨rfl, rfl⟩
theorem Chunk_st (A : Option Addr) (n c : Nat) (w : World) :
    Calls Tryd.prog 64 #[.slice A n c, .int .i64 8] w fun e w' => ∃ Bs Bn, e = .returned (.func (.func 84) #[] #[.pointer (some ⟨Bs, 0, none⟩), .pointer (some ⟨Bn, 0, none⟩)]) ∧ St w w' [.box Bn 3 [.int .i64 8], .box Bs 84 [.slice A n c]] := by
  refine (Chunk_any A n c w).mono ?_
  rintro e w' ⟨rfl, rfl⟩
  exact ⟨_, _, by rw [World.size_alloc], ((St.start w).alloc _ _).alloc _ _⟩
end Go.Proofs.YtppjhccdgbheiaaDoor
namespace Go.Hp
open Go.RowKit Go.Shelf
theorem wpIn_rangeFunc_one {α : Type} {P : Program} {g : Operand} {p d : Tmp} {id : Nat} {o : Oper} {body : Code} {Q : Exit → Act → World → Prop} {a : Act} {w : World} {n : Nat}
    (ho : o.op = .assign (.tmp p)) (hd : o.dst = some d) (hgd : o.guard = none) (hp : p < a.tmps.size) (h1 : 1 ≤ n) {gf : Nat} {lb : Array Value} (hg : a.eval g = .func (.func gf) #[] lb)
    (eg : ∀ args w, (callFunc gf args).run P w = .ok (.enter gf args) w) {v : α → Value} {Kp : World → World → Prop} {S Sp : List α → Prop} {N : Nat} (hseq : SeqStopsK Fence.wide (n - 1) P gf lb (fun x => #[v x]) Kp S Sp N w)
    (hKt : ∀ {A B C : World}, Kp A B → Kp B C → Kp A C) (hKr : ∀ A, Kp A A) (hKb : ∀ (W : World) (l : Nat) (o o' : Obj), w.heap.size ≤ l → W.heap[l]? = some o → o.isCells = false → o.isWalk = false → Kp W (W.putObj l o'))
    (I : List α → World → Prop) (hI : OwnFrom w.heap.size I) (h0 : I [] w)
    (hbody : ∀ (l : Nat) (pre : List α) (x : α) (W : World), I pre W → pre.length < N → body.wpIn (Fence.wide.inRound l) (n - 1 - 1) P (ownPostG w.heap.size Kp I (fun _ _ _ => False) (pre ++ [x]) W) (Act.put { tmps := a.tmps.setIfInBounds p (v x), defers := [] } (some d) (v x)) W)
    (hdone : ∀ (D : Nat) (xs : List α) (W : World), w.heap.size ≤ D → S xs → I xs W → W.heap[D]? = some (.deferred (some [])) → Q .normal { a with defers := { target := .collected D, args := #[] } :: a.defers } W) :
    (Code.rangeFunc g #[p] (Code.region id #[o] false) body).wpIn Fence.wide n P Q a w := by
  refine wpIn_rangeFunc_ownH rfl h1 hg trivial eg hseq hKt hKb (Below.refl _ _) (fun _ => rfl) I (fun _ _ _ => False) hI (fun _ _ _ _ _ hs _ _ => hs) h0
    (fun x a' _ => a' = Act.put { tmps := a.tmps.setIfInBounds p (v x), defers := [] } (some d) (v x)) (fun x a' s X Y row h hg hr => h) ?assign ?body ?done ?stop
  case assign =>
    intro l pre x W K hi hK
    refine wpIn_round_region (lst := [o]) (by simp [noDefer, ho]) (by rintro ⟨_, _, h⟩; exact h) ?_
    refine WL.op (by simp [Region.wanted, hgd]) fun K2 hK2 => ?_
    refine ow_assign (v := v x) ho ?_ (hK2 _ _ (WL.nil ?_))
    · simp [Act.eval, hp]
    · rw [hd]
      exact hK _ _ ⟨Nat.le_refl _, fun _ _ _ h _ => h⟩ (hKr _) hi (by simp)
  case body =>
    rintro l pre x a' W - - hi rfl hlt
    exact hbody l pre x W hi hlt
  case done => exact fun D xs W => hdone D xs W
  case stop => exact fun D c pre W _ _ h _ => h.elim
section
variable {P : Program} {ops : Array Oper} {o : Oper} {a : Act} {w0 w : World} {rs : List Res}
theorem leaves_cell_tmp {F : Fence} {n : Nat} {fn : Func} {R : Ending → World → Prop} {t u : Tmp} {T k b D : Nat} {bt : TypeId} {cs : List Value} {v : Value} (i : Nat) (st : St w0 w rs) (hp : rs.all Res.plain = true) (hres : fn.results = #[.cell t T, .tmp u]) (hT : AggT P T k) (hi : rs[i]? = some (.box b bt cs)) (hn : cs.length = k)
    (hD : w0.heap.size ≤ D) (hK : w.heap[D]? = some (.deferred (some []))) (hd : a.defers = [{ target := .collected D, args := #[] }]) (ht : a.tmps.getD t undef = .pointer (some ⟨b, 0, none⟩)) (hu : a.tmps.getD u undef = v) (hR : ∀ w', St w0 w' rs → R (.returned (.tuple #[.agg cs.toArray, v])) w') : bodyPostM F n P fn R .ret a w := by
  show LeavesInM F n P fn a.tmps R a.defers .returning w
  rw [hd]
  have st2 := st.turn hp hD (grownBy_putObj' w D (.deferred none)) (fun r e => by cases e; exact ⟨Nat.le_refl _, _, hK, rfl⟩)
  refine ⟨by simp, .inl ⟨D, _, rfl, run_takeDeferred hK, ?_⟩⟩
  refine ⟨.tuple #[.agg cs.toArray, v], ?_, hR _ st2⟩
  have h := run_loadVar_box i st2 hi hT hn
  have ht' : a.tmps[t]?.getD undef = .pointer (some ⟨b, 0, none⟩) := by simpa using ht
  have hu' : a.tmps[u]?.getD undef = v := by simpa using hu
  simp only [results, hres]
  simp [ht', hu', asAddr, h]
theorem St.mark {D : Nat} (st : St w0 w rs) (hp : rs.all Res.plain = true) (hD : w0.heap.size ≤ D) (hK : w.heap[D]? = some (.deferred (some []))) : St w0 w (.obj D (.deferred (some [])) :: rs) :=
  st.cons ⟨hD, hK⟩ fun s hs k hk hk' => by
    cases hk
    obtain ⟨o, ho, hc⟩ := Res.plain_cells (st.holds s hs) (List.all_eq_true.1 hp s hs) hk'
    rw [hK] at ho
    cases ho
    cases hc
def freshCells (t : TypeId) (m : Nat) (cs : List Value) : Phi := fun lo hi v w => ∃ b, v = .slice (some ⟨b, 0, none⟩) m m ∧ (Res.box b t cs).holds lo w ∧ b < hi
theorem freshCells_stable (t : TypeId) (m : Nat) (cs : List Value) : (freshCells t m cs).stable := by
  rintro lo hi v w1 w2 hb hh ⟨b, rfl, ho, hk⟩
  exact ⟨b, rfl, Res.holds_keep ho hb.size (fun k h => hb.block k (by cases h; omega)), hk⟩
theorem Yphi.newSlice {t : TypeId} {m : Nat} {cs : List Value} {T : TypeId} {ps : Array (Nat × Operand)} {r : Result Next} (hw : Region.wanted o (yielded ops a.tmps) = true) (ho : o.op = .buildSlice T m ps) (hr : (execOp a.eval o).run P w = r) (hv : r = .ok (.value (.slice (some ⟨w.heap.size, 0, none⟩) m m)) (w.alloc (.cells cs.toArray t))) : Yphi P ops o a w (freshCells t m cs) :=
  .inl ⟨hw, wp_newSlice (St.start w) ho hr hv fun b w' st => ⟨_, rfl, st.below, b, rfl, st.get (i := 0) rfl, (Res.holds_lt (st.get (i := 0) rfl) rfl).2⟩⟩
end
theorem snoc_take {α : Type} {L : List α} {a : α} {m : Nat} (h : L.length < m) : (L ++ [a]).take m = L.take m ++ [a] ∧ (L ++ [a]).drop m = L.drop m := by
  rw [List.take_of_length_le (by simp; omega), List.take_of_length_le (by omega), List.drop_of_length_le (by simp; omega), List.drop_of_length_le (by omega)]
  exact ⟨rfl, rfl⟩
theorem snoc_drop {α : Type} {L : List α} {a : α} {m : Nat} (h : m ≤ L.length) : (L ++ [a]).take m = L.take m ∧ (L ++ [a]).drop m = L.drop m ++ [a] := by
  rw [List.take_append_of_le_length h, List.drop_append_of_le_length h]
  exact ⟨rfl, rfl⟩
end Go.Hp
namespace Go.Proofs.YtppjhccdgbheiaaDoor
open Go.RowKit Go.Hp Go.Shelf
theorem and_flags {x : Int} (h0 : 0 ≤ x) (h1 : x ≤ 3) : (bits BinOp.and IntKind.u8 x 1 != 0) = (x % 2 == 1) ∧ (bits BinOp.and IntKind.u8 x 2 != 0) = (x / 2 == 1) := by
  rcases (show x = 0 ∨ x = 1 ∨ x = 2 ∨ x = 3 by omega) with h | h | h | h <;> subst h <;> decide
theorem lev4_wrap (l : List UInt8) (p : Nat) : IntKind.i64.wrap (L.bx l p + 256 * L.bx l (p + 1) + 65536 * (L.bx l (p + 2) + 256 * L.bx l (p + 3))) = L.lev l p 4 := by
  have h1 := L.bx_bound l p
  have h2 := L.bx_bound l (p + 1)
  have h3 := L.bx_bound l (p + 2)
  have h4 := L.bx_bound l (p + 3)
  rw [wrap_id (by omega) (by omega)]
  show _ = L.bx l p + 256 * (L.bx l (p + 1) + 256 * (L.bx l (p + 1 + 1) + 256 * (L.bx l (p + 1 + 1 + 1) + 256 * 0)))
  rw [show p + 1 + 1 + 1 = p + 3 by omega, show p + 1 + 1 = p + 2 by omega]
  omega
theorem max16g {a b : Int} : decide ((if a < b then b else a) ≤ 16) = (decide (a ≤ 16) && decide (b ≤ 16)) := by
  rw [Bool.eq_iff_iff]
  simp only [Bool.and_eq_true, decide_eq_true_eq]
  split <;> omega
set_option maxRecDepth 8000 in
set_option maxHeartbeats 4000000 in
theorem decode_good (l : List UInt8) (w : World) (hl5 : l.length ≤ 100000) (hl : 12 ≤ l.length) (h2 : L.nb l 2 ≤ 16) (h3 : L.nb l 3 ≤ 16) (hq : l.length = 12 + 8 * (L.nb l 2 + L.nb l 3)) (h0 : L.bx l 0 = 1) (h1 : L.bx l 1 ≤ 3) (R : L.Desc × Int) (hR : R = if (L.decD l).err.2 ≠ 0 then (L.Desc.none, (L.decD l).err.2) else (L.decD l, 0)) :
    Calls Tryd.prog 32 #[.string ⟨l.toArray⟩] w (RetDescErr w R) := by
  have HR := Lib.hid hR
  have HQ := Lib.hid hq
  have H2 := Lib.hid h2
  have H3 := Lib.hid h3
  have H1 := Lib.hid h1
  have H0 := Lib.hid h0
  have HHL := Lib.hid hl
  clear hR hq h2 h3 h1 h0
  have hl2 : ¬ ((l.length : Int) < 12) := by omega
  have i0 : (0 : Int) < (l.length : Int) := by omega
  have i1 : (1 : Int) < (l.length : Int) := by omega
  have i2 : (2 : Int) < (l.length : Int) := by omega
  have i3 : (3 : Int) < (l.length : Int) := by omega
  have n1 : 1 < l.length := by omega
  have n0 : 0 < l.length := by omega
  have st := St.start w
  have c2 := (L.bx_bound l 2)
  have c3 := (L.bx_bound l 3)
  have r2 : IntKind.i64.wrap (L.bx l 2) = L.bx l 2 := wrap_id (by omega) (by omega)
  have r3 : IntKind.i64.wrap (L.bx l 3) = L.bx l 3 := wrap_id (by omega) (by omega)
  have hne : l ≠ [] := fun e => by rw [e] at hl; simp at hl
  refine (callsIn_wide (n := 3)).1 (callsIn_of_wp_marks Tryd.func32 rfl trivial ?_ rfl)
  simp only [Tryd.ntmps32, List.size_toArray, List.length_cons, List.length_nil, Nat.reduceAdd, Nat.reduceSub, Array.replicate_succ, Array.replicate_zero, List.push_toArray, List.append_toArray, List.nil_append, List.cons_append]
  refine wpIn_wide.2 ?_
  go_wp2_with (refine WL.out ?_; (repeat ((refine WL.op ?_ ?_; (exact rfl); intro K hK; (first | ((((with_reducible apply ow_assign); exact rfl)); (go_simp <;> (try simp (disch := omega) only [wrap_id, sub_left, zac]) <;> rfl)) | ((((with_reducible apply ow_alloc st); exact rfl; exact inferInstance; (go_simp <;> (try simp (disch := omega) only [wrap_id, sub_left, zac]) <;> rfl))); (try clear st); intro b w' st) | ((with_reducible apply ow_bytes st); exact rfl; exact rfl; (try clear st); intro g c cs m wB st hcs hlc) | ((with_reducible apply ow_eval); (go_simp <;> (try simp (disch := omega) only [wrap_id, sub_left, zac]) <;> rfl); ((with_reducible apply up_value)))); refine WL.next hK (by simp only [Act.put, zpt, zsz, zss]; exact rfl) ?_; clear hK K))); (try refine WL.nil ?_))
  have hg0 := (Res.holds_lt (st.get (i := 0) rfl) rfl).2
  have HX : Hid (∀ j, j < l.length → wB.cell? ⟨g, j, none⟩ = some (.int .u8 (L.bx l j))) := Lib.hid fun j hj => (St.cellO st (i := 0) rfl j).trans (hcs j hj)
  have y0 := HX.out 0 (by omega)
  have y1 := HX.out 1 (by omega)
  have y2 := HX.out 2 (by omega)
  have y3 := HX.out 3 (by omega)
  have HLC := Lib.hid hlc
  clear hcs hne
  have stB := st
  replace st := St.start wB
  generalize hN : l.length = n at *
  replace hN := Lib.hid hN
  refine wp_region_mix 10 9 (by kernel_rfl) (by kernel_rfl) (by decide) st.size ?_; replace st := st.drew; generalize World.drew _ = W at st ⊢
  iterate 3 (apply Mix.val'; (focus (intro x0 x1 x2 x3 x4 x5 x6 x7 x8 x9 w1 hb; (try simp only [depM, fillA, Act.put, zta, ztz, zpt, zsz, zss, zl0, zls]); (repeat (rintro rfl)); have st := st.call hb; (first | (apply Yphi.run; (exact rfl); (go_simp <;> (try simp (disch := omega) only [wrap_id, sub_left, zac]) <;> rfl); exact rfl) | (apply Yphi.old1 st; exact rfl; exact inferInstance; (exact rfl); exact rfl; assumption; assumption)))); (simp only [zca, zcn] <;> exact rfl))
  (apply Mix.val'; (focus (intro x0 x1 x2 x3 x4 x5 x6 x7 x8 x9 w1 hb; (try simp only [depM, fillA, Act.put, zta, ztz, zpt, zsz, zss, zl0, zls]); (repeat (rintro rfl)); have st := st.call hb; ((apply Yphi.run; (exact rfl); (go_simp <;> (try simp (disch := omega) only [wrap_id, sub_left, zac]) <;> rfl); exact rfl)))); (simp only [zca, zcn] <;> exact rfl))
  iterate 2 (apply Mix.free'; (focus (intro x0 x1 x2 x3 x4 x5 x6 x7 x8 x9 w1 hb; (try simp only [depM, fillA, Act.put, zta, ztz, zpt, zsz, zss, zl0, zls]); (repeat (first | rintro rfl | intro _)); have st := st.call hb; apply YX.run; (exact rfl); (go_simp <;> (try simp (disch := omega) only [wrap_id, sub_left, zac]) <;> rfl); exact rfl)); (simp only [zca, zcn] <;> exact rfl))
  (apply Mix.free'; (focus (intro x0 x1 x2 x3 x4 x5 x6 x7 x8 x9 w1 hb; (try simp only [depM, fillA, Act.put, zta, ztz, zpt, zsz, zss, zl0, zls]); rintro rfl; intro w2 hb2; apply YX.oldS st hb2; exact rfl; exact inferInstance; (exact rfl); exact rfl; assumption; assumption)); (simp only [zca, zcn] <;> exact rfl))
  (apply Mix.free'; (focus (intro x0 x1 x2 x3 x4 x5 x6 x7 x8 x9 w1 hb; (try simp only [depM, fillA, Act.put, zta, ztz, zpt, zsz, zss, zl0, zls]); (repeat (first | rintro rfl | intro _)); have st := st.call hb; apply YX.run; (exact rfl); (go_simp <;> (try simp (disch := omega) only [wrap_id, sub_left, zac]) <;> rfl); exact rfl)); (simp only [zca, zcn] <;> exact rfl))
  (apply Mix.fact' (freshBox (3) ([.int .i64 0])) (freshBox_stable _ _); (focus (intro x0 x1 x2 x3 x4 x5 x6 x7 x8 x9 w1 hb; (try simp only [depM, fillA, Act.put, zta, ztz, zpt, zsz, zss, zl0, zls]); (repeat (fail)); have st := st.call hb; apply Yphi.alloc; exact rfl; exact inferInstance; exact rfl; (exact rfl))); (simp only [zca, zcn] <;> exact rfl))
  (apply Mix.store'; exact rfl; (simp only [zca, zcn] <;> exact rfl))
  refine Mix.fin (by kernel_rfl) (by kernel_rfl) rfl ?_
  intro x0 x1 x2 x3 x4 x5 x6 x7 x8 x9 lo hi w1 hb hap
  rintro rfl rfl rfl rfl h8 - ⟨b5, rfl, hb5, -⟩
  have stO := st
  replace st := st.fresh hb (Res.holds_mono hb5 h8)
  clear hap hb hb5 h8
  simp only [allMix, fixF, fillA, Act.put, zta, ztz, zpt, zsz, zss, zda, zdz]
  refine ⟨?_, ?_⟩
  (exact rfl)
  ((((with_reducible apply ow_store1' st); exact rfl; exact inferInstance; exact rfl; (exact get0); (go_simp <;> (try simp (disch := omega) only [wrap_id, sub_left, zac]) <;> rfl))); exact rfl; exact rfl; (simp <;> done); ((try simp only [zta, ztz, zda, zdz, zca, zcn, zan, zsz, zss]) <;> exact rfl); (try clear st); intro w' st)
  refine ⟨undef, rfl, SameBelow.of_st stO st, ?_⟩
  clear stO
  (repeat ((refine WL.op ?_ ?_; (exact rfl); intro K hK; (((((with_reducible apply ow_assign); exact rfl)); (go_simp <;> (try simp (disch := omega) only [wrap_id, sub_left, zac]) <;> rfl))); refine WL.next hK (by simp only [Act.put, zpt, zsz, zss]; exact rfl) ?_; clear hK K)))
  refine WL.nil ?_
  clear hl2
  have i4 : (n : Int) ≤ 100000 := by omega
  have hb0' : (L.bx l 0 == 1) = true := by simpa using H0.out
  have HZ : Hid (L.firstErr [L.unles (decide ((if L.bx l 2 < L.bx l 3 then L.bx l 3 else L.bx l 2) ≤ 16)) 8, L.unles ((n : Int) == 12 + (L.bx l 2 + L.bx l 3) * 8) 10, L.unles (decide (L.bx l 1 ≤ 3)) 3] = 0) := Lib.hid (by
    have e1 := L.bx_nb l 2
    have e2 := L.bx_nb l 3
    have := HQ.out
    have := H2.out
    have := H3.out
    rw [max16g, decide_eq_true (show L.bx l 2 ≤ 16 by omega), decide_eq_true (show L.bx l 3 ≤ 16 by omega), decide_eq_true H1.out, show ((n : Int) == 12 + (L.bx l 2 + L.bx l 3) * 8) = true by rw [beq_iff_eq]; omega]
    rfl)
  go_wp2_with (refine WL.out ?_; (repeat (fail)); (try refine WL.nil ?_))
  refine wp_region_plan 25 (by kernel_rfl) (by kernel_rfl) ?_; replace st := st.drew; generalize World.drew _ = W at st ⊢
  iterate 4 (apply Plan.val'; (focus (intro x0 x1 x2 x3 x4 x5 x6 x7 x8 x9 x10 x11 x12 x13 x14 x15 x16 x17 x18 x19 x20 x21 x22 x23 x24 w1 hb; (try simp only [depF, fillA, Act.put, zta, ztz, zpt, zsz, zss, zl0, zls]); (repeat (rintro rfl)); have st := st.call hb; (first | (apply Yphi.run; (exact rfl); (go_simp <;> (try simp (disch := omega) only [wrap_id, sub_left, zac]) <;> rfl); exact rfl) | (apply Yphi.load1 st; exact rfl; exact inferInstance; (exact rfl); exact rfl; (exact get0); exact rfl)))); (simp only [zca, zcn] <;> exact rfl))
  (apply Plan.val'; (focus (intro x0 x1 x2 x3 x4 x5 x6 x7 x8 x9 x10 x11 x12 x13 x14 x15 x16 x17 x18 x19 x20 x21 x22 x23 x24 w1 hb; (try simp only [depF, fillA, Act.put, zta, ztz, zpt, zsz, zss, zl0, zls]); (repeat (rintro rfl)); have st := st.call hb; apply Yphi.call; (exact rfl); (go_simp <;> (try simp (disch := omega) only [wrap_id, sub_left, zac]) <;> rfl); exact rfl; refine (unles_any _ _ _).mono ?_; rintro e w' ⟨rfl, rfl⟩; exact ⟨_, rfl, Below.refl _ _, rfl⟩)); (simp only [zca, zcn] <;> exact rfl))
  iterate 8 (apply Plan.val'; (focus (intro x0 x1 x2 x3 x4 x5 x6 x7 x8 x9 x10 x11 x12 x13 x14 x15 x16 x17 x18 x19 x20 x21 x22 x23 x24 w1 hb; (try simp only [depF, fillA, Act.put, zta, ztz, zpt, zsz, zss, zl0, zls]); (repeat (rintro rfl)); have st := st.call hb; (first | (apply Yphi.run; (exact rfl); (go_simp <;> (try simp (disch := omega) only [wrap_id, sub_left, zac]) <;> rfl); exact rfl) | (apply Yphi.load1 st; exact rfl; exact inferInstance; (exact rfl); exact rfl; (exact get0); exact rfl)))); (simp only [zca, zcn] <;> exact rfl))
  (apply Plan.val'; (focus (intro x0 x1 x2 x3 x4 x5 x6 x7 x8 x9 x10 x11 x12 x13 x14 x15 x16 x17 x18 x19 x20 x21 x22 x23 x24 w1 hb; (try simp only [depF, fillA, Act.put, zta, ztz, zpt, zsz, zss, zl0, zls]); (repeat (rintro rfl)); have st := st.call hb; apply Yphi.call; (exact rfl); (go_simp <;> (try simp (disch := omega) only [wrap_id, sub_left, zac]) <;> rfl); exact rfl; refine (unles_any _ _ _).mono ?_; rintro e w' ⟨rfl, rfl⟩; exact ⟨_, rfl, Below.refl _ _, rfl⟩)); (simp only [zca, zcn] <;> exact rfl))
  iterate 5 (apply Plan.val'; (focus (intro x0 x1 x2 x3 x4 x5 x6 x7 x8 x9 x10 x11 x12 x13 x14 x15 x16 x17 x18 x19 x20 x21 x22 x23 x24 w1 hb; (try simp only [depF, fillA, Act.put, zta, ztz, zpt, zsz, zss, zl0, zls]); (repeat (rintro rfl)); have st := st.call hb; (first | (apply Yphi.run; (exact rfl); (go_simp <;> (try simp (disch := omega) only [wrap_id, sub_left, zac]) <;> rfl); exact rfl) | (apply Yphi.old1 st; exact rfl; exact inferInstance; (exact rfl); exact rfl; assumption; assumption)))); (simp only [zca, zcn] <;> exact rfl))
  iterate 4 (apply Plan.val'; (focus (intro x0 x1 x2 x3 x4 x5 x6 x7 x8 x9 x10 x11 x12 x13 x14 x15 x16 x17 x18 x19 x20 x21 x22 x23 x24 w1 hb; (try simp only [depF, fillA, Act.put, zta, ztz, zpt, zsz, zss, zl0, zls]); (repeat (rintro rfl)); have st := st.call hb; (first | (apply Yphi.run; (exact rfl); (go_simp <;> (try simp (disch := omega) only [wrap_id, sub_left, zac]) <;> rfl); exact rfl) | (apply Yphi.old1 st; exact rfl; exact inferInstance; (exact rfl); exact rfl; assumption; assumption)))); (simp only [zca, zcn] <;> exact rfl))
  (apply Plan.val'; (focus (intro x0 x1 x2 x3 x4 x5 x6 x7 x8 x9 x10 x11 x12 x13 x14 x15 x16 x17 x18 x19 x20 x21 x22 x23 x24 w1 hb; (try simp only [depF, fillA, Act.put, zta, ztz, zpt, zsz, zss, zl0, zls]); (repeat (rintro rfl)); have st := st.call hb; ((apply Yphi.run; (exact rfl); (go_simp <;> (try simp (disch := omega) only [wrap_id, sub_left, zac]) <;> rfl); exact rfl)))); (simp only [zca, zcn] <;> exact rfl))
  (apply Plan.val'; (focus (intro x0 x1 x2 x3 x4 x5 x6 x7 x8 x9 x10 x11 x12 x13 x14 x15 x16 x17 x18 x19 x20 x21 x22 x23 x24 w1 hb; (try simp only [depF, fillA, Act.put, zta, ztz, zpt, zsz, zss, zl0, zls]); (repeat (rintro rfl)); have st := st.call hb; apply Yphi.call; (exact rfl); (go_simp <;> (try simp (disch := omega) only [wrap_id, sub_left, zac]) <;> rfl); exact rfl; refine (unles_any _ _ _).mono ?_; rintro e w' ⟨rfl, rfl⟩; exact ⟨_, rfl, Below.refl _ _, rfl⟩)); (simp only [zca, zcn] <;> exact rfl))
  intro x0 x1 x2 x3 x4 x5 x6 x7 x8 x9 x10 x11 x12 x13 x14 x15 x16 x17 x18 x19 x20 x21 x22 x23 x24 lo hi w1 hb hap
  rintro rfl rfl rfl rfl rfl rfl rfl rfl rfl rfl rfl rfl rfl rfl rfl rfl rfl rfl rfl rfl rfl rfl rfl rfl rfl
  simp only [allPhi, fillA, Act.put, zta, ztz, zpt, zsz, zss, zda, zdz]
  (try simp only [show max (L.bx l 2) (L.bx l 3) = (if L.bx l 2 < L.bx l 3 then L.bx l 3 else L.bx l 2) by split <;> omega])
  generalize hM : (if L.bx l 2 < L.bx l 3 then L.bx l 3 else L.bx l 2) = M
  replace hM := Lib.hid hM
  have st := st.call hb
  clear hap hb
  go_wp2_with (refine WL.out ?_; (repeat ((refine WL.op ?_ ?_; (exact rfl); intro K hK; (first | ((((with_reducible apply ow_assign); exact rfl)); (go_simp <;> (try simp (disch := omega) only [wrap_id, sub_left, zac]) <;> rfl)) | ((((with_reducible apply ow_newSlice st); exact rfl; (go_simp <;> (try simp (disch := omega) only [wrap_id, sub_left, zac]) <;> rfl); exact rfl)); (try clear st); intro b w' st) | ((with_reducible apply ow_eval); (go_simp <;> (try simp (disch := omega) only [wrap_id, sub_left, zac]) <;> rfl); first | (with_reducible apply up_value) | ((with_reducible apply up_enter); ((go_at_call 40; refine (first_st3 st).mono ?_; rintro e w' ⟨rfl, rfl⟩; generalize hF : L.firstErr _ = F; have hFE : F = 0 := (by rw [← hF, ← hM.out]; exact HZ.out); subst hFE; clear hF; refine ⟨_, rfl, ?_⟩))))); refine WL.next hK (by simp only [Act.put, zpt, zsz, zss]; exact rfl) ?_; clear hK K))); (try refine WL.nil ?_))
  refine wp_region_plan 12 (by kernel_rfl) (by kernel_rfl) ?_; replace st := st.drew; generalize World.drew _ = W at st ⊢
  iterate 11 (apply Plan.val'; (focus (intro x0 x1 x2 x3 x4 x5 x6 x7 x8 x9 x10 x11 w1 hb; (try simp only [depF, fillA, Act.put, zta, ztz, zpt, zsz, zss, zl0, zls]); (repeat (rintro rfl)); have st := st.call hb; (first | (apply Yphi.run; (exact rfl); (go_simp <;> (try simp (disch := omega) only [wrap_id, sub_left, zac]) <;> rfl); exact rfl) | (apply Yphi.old1 st; exact rfl; exact inferInstance; (exact rfl); exact rfl; assumption; assumption)))); (simp only [zca, zcn] <;> exact rfl))
  (apply Plan.fact' (freshBox 26 [.int .i64 0, .int .i64 0, .bool false, .bool false, .slice none 0 0, .slice none 0 0]) (freshBox_stable _ _); (focus (intro x0 x1 x2 x3 x4 x5 x6 x7 x8 x9 x10 x11 w1 hb; (try simp only [depF, fillA, Act.put, zta, ztz, zpt, zsz, zss, zl0, zls]); (repeat (fail)); have st := st.call hb; apply Yphi.alloc; exact rfl; exact inferInstance; exact rfl; (exact rfl))); (simp only [zca, zcn] <;> exact rfl))
  intro x0 x1 x2 x3 x4 x5 x6 x7 x8 x9 x10 x11 lo hi w1 hb hap
  rintro rfl rfl rfl rfl rfl rfl rfl rfl rfl rfl rfl h11 - ⟨b8, rfl, hb8, -⟩
  simp only [allPhi, fillA, Act.put, zta, ztz, zpt, zsz, zss, zda, zdz]
  have st := st.fresh hb (Res.holds_mono hb8 h11)
  clear hap hb hb8 h11
  go_wp2_with (refine WL.out ?_; (repeat ((refine WL.op ?_ ?_; (exact rfl); intro K hK; (((((with_reducible apply ow_storeN' st); exact rfl; exact inferInstance; exact rfl; (exact get0); exact rfl)); exact rfl; exact rfl; (simp <;> done); ((try simp only [zta, ztz, zda, zdz, zca, zcn, zan, zsz, zss]) <;> exact rfl); (try clear st); intro w' st)); refine WL.next hK (by simp only [Act.put, zpt, zsz, zss]; exact rfl) ?_; clear hK K))); (try refine WL.nil ?_))
  rw [(and_flags (L.bx_bound l 1).1 H1.out).1, (and_flags (L.bx_bound l 1).1 H1.out).2] at st
  have j4 : (4 : Int) ≤ (n : Int) := by omega
  have j8 : (8 : Int) ≤ (n : Int) := by omega
  have j12 : (12 : Int) ≤ (n : Int) := by omega
  have jc : (n : Int) ≤ (c : Int) := by omega
  have k4 : ¬ (c = 4) := by omega
  have k8 : ¬ (c = 8) := by omega
  refine wp_region_mix 10 9 (by kernel_rfl) (by kernel_rfl) (by decide) st.size ?_; replace st := st.drew; generalize World.drew _ = W at st ⊢
  iterate 2 (apply Mix.val'; (focus (intro x0 x1 x2 x3 x4 x5 x6 x7 x8 x9 w1 hb; (try simp only [depM, fillA, Act.put, zta, ztz, zpt, zsz, zss, zl0, zls]); (repeat (rintro rfl)); have st := st.call hb; ((apply Yphi.run; (exact rfl); (go_simp <;> (try simp (disch := omega) only [wrap_id, sub_left, zac]) <;> rfl); exact rfl)))); (simp only [zca, zcn] <;> exact rfl))
  (apply Mix.val'; (focus (intro x0 x1 x2 x3 x4 x5 x6 x7 x8 x9 w1 hb; (try simp only [depM, fillA, Act.put, zta, ztz, zpt, zsz, zss, zl0, zls]); (repeat (rintro rfl)); have st := st.call hb; apply Yphi.call; (exact rfl); (go_simp <;> (try simp (disch := omega) only [wrap_id, sub_left, zac]) <;> rfl); exact rfl; refine (get32_any g 4 _ _ (L.bx l (4)) (L.bx l (4 + 1)) (L.bx l (4 + 2)) (L.bx l (4 + 3)) _ (Nat.lt_of_lt_of_le hg0 st.size) ((st.old hg0).trans (HX.out (4) (by omega))) ((st.old hg0).trans (HX.out (4 + 1) (by omega))) ((st.old hg0).trans (HX.out (4 + 2) (by omega))) ((st.old hg0).trans (HX.out (4 + 3) (by omega))) (by omega) (by omega) (L.bx_bound _ _).1 (L.bx_bound _ _).2 (L.bx_bound _ _).1 (L.bx_bound _ _).2 (L.bx_bound _ _).1 (L.bx_bound _ _).2 (L.bx_bound _ _).1 (L.bx_bound _ _).2).mono ?_; rintro e w' ⟨rfl, hb'⟩; exact ⟨_, rfl, hb', rfl⟩)); (simp only [zca, zcn] <;> exact rfl))
  iterate 3 (apply Mix.val'; (focus (intro x0 x1 x2 x3 x4 x5 x6 x7 x8 x9 w1 hb; (try simp only [depM, fillA, Act.put, zta, ztz, zpt, zsz, zss, zl0, zls]); (repeat (rintro rfl)); have st := st.call hb; ((apply Yphi.run; (exact rfl); (go_simp <;> (try simp (disch := omega) only [wrap_id, sub_left, zac]) <;> rfl); exact rfl)))); (simp only [zca, zcn] <;> exact rfl))
  (apply Mix.val'; (focus (intro x0 x1 x2 x3 x4 x5 x6 x7 x8 x9 w1 hb; (try simp only [depM, fillA, Act.put, zta, ztz, zpt, zsz, zss, zl0, zls]); (repeat (rintro rfl)); have st := st.call hb; apply Yphi.call; (exact rfl); (go_simp <;> (try simp (disch := omega) only [wrap_id, sub_left, zac]) <;> rfl); exact rfl; refine (get32_any g 8 _ _ (L.bx l (8)) (L.bx l (8 + 1)) (L.bx l (8 + 2)) (L.bx l (8 + 3)) _ (Nat.lt_of_lt_of_le hg0 st.size) ((st.old hg0).trans (HX.out (8) (by omega))) ((st.old hg0).trans (HX.out (8 + 1) (by omega))) ((st.old hg0).trans (HX.out (8 + 2) (by omega))) ((st.old hg0).trans (HX.out (8 + 3) (by omega))) (by omega) (by omega) (L.bx_bound _ _).1 (L.bx_bound _ _).2 (L.bx_bound _ _).1 (L.bx_bound _ _).2 (L.bx_bound _ _).1 (L.bx_bound _ _).2 (L.bx_bound _ _).1 (L.bx_bound _ _).2).mono ?_; rintro e w' ⟨rfl, hb'⟩; exact ⟨_, rfl, hb', rfl⟩)); (simp only [zca, zcn] <;> exact rfl))
  (apply Mix.free'; (focus (intro x0 x1 x2 x3 x4 x5 x6 x7 x8 x9 w1 hb; (try simp only [depM, fillA, Act.put, zta, ztz, zpt, zsz, zss, zl0, zls]); (repeat (first | rintro rfl | intro _)); have st := st.call hb; apply YX.run; (exact rfl); (go_simp <;> (try simp (disch := omega) only [wrap_id, sub_left, zac]) <;> rfl); exact rfl)); (simp only [zca, zcn] <;> exact rfl))
  (apply Mix.val'; (focus (intro x0 x1 x2 x3 x4 x5 x6 x7 x8 x9 w1 hb; (try simp only [depM, fillA, Act.put, zta, ztz, zpt, zsz, zss, zl0, zls]); (repeat (rintro rfl)); have st := st.call hb; ((apply Yphi.run; (exact rfl); (go_simp <;> (try simp (disch := omega) only [wrap_id, sub_left, zac]) <;> rfl); exact rfl)))); (simp only [zca, zcn] <;> exact rfl))
  (apply Mix.store'; exact rfl; (simp only [zca, zcn] <;> exact rfl))
  refine Mix.fin (by kernel_rfl) (by kernel_rfl) rfl ?_
  intro x0 x1 x2 x3 x4 x5 x6 x7 x8 x9 lo hi w1 hb hap
  rintro rfl rfl rfl rfl rfl rfl rfl rfl
  have stO := st
  replace st := st.call hb
  clear hap hb
  simp only [allMix, fixF, fillA, Act.put, zta, ztz, zpt, zsz, zss, zda, zdz]
  refine ⟨?_, ?_⟩
  (exact rfl)
  ((((with_reducible apply ow_store1' st); exact rfl; exact inferInstance; exact rfl; (exact get0); (go_simp <;> (try simp (disch := omega) only [wrap_id, sub_left, zac]) <;> rfl))); exact rfl; exact rfl; (simp <;> done); ((try simp only [zta, ztz, zda, zdz, zca, zcn, zan, zsz, zss]) <;> exact rfl); (try clear st); intro w' st)
  refine ⟨undef, rfl, SameBelow.of_st stO st, ?_⟩
  clear stO
  (repeat ((refine WL.op ?_ ?_; (exact rfl); intro K hK; (first | ((((with_reducible apply ow_store1' st); exact rfl; exact inferInstance; exact rfl; (exact get0); (go_simp <;> (try simp (disch := omega) only [wrap_id, sub_left, zac]) <;> rfl))); exact rfl; exact rfl; (simp <;> done); ((try simp only [zta, ztz, zda, zdz, zca, zcn, zan, zsz, zss]) <;> exact rfl); (try clear st); intro w' st) | ((with_reducible apply ow_eval); (go_simp <;> (try simp (disch := omega) only [wrap_id, sub_left, zac]) <;> rfl); ((with_reducible apply up_value)))); refine WL.next hK (by simp only [Act.put, zpt, zsz, zss]; exact rfl) ?_; clear hK K)))
  refine WL.nil ?_
  have e4 : Hid (IntKind.i64.wrap (L.bx l 4 + 256 * L.bx l 5 + 65536 * (L.bx l 6 + 256 * L.bx l 7)) = L.lev l 4 4) := Lib.hid (lev4_wrap l 4)
  have e8 : Hid (IntKind.i64.wrap (L.bx l 8 + 256 * L.bx l 9 + 65536 * (L.bx l 10 + 256 * L.bx l 11)) = L.lev l 8 4) := Lib.hid (lev4_wrap l 8)
  rw [e4.out, e8.out] at st
  replace st := st.sub (.cons_cons _ (.cons _ (.refl _)))
  clear y0 y1 y2 y3 HZ hb0'
  go_wp2_with (refine WL.out ?_; (repeat ((refine WL.op ?_ ?_; (exact rfl); intro K hK; (((with_reducible apply ow_eval); (go_simp <;> (try simp (disch := omega) only [wrap_id, sub_left, zac]) <;> rfl); first | (with_reducible apply up_value) | ((with_reducible apply up_enter); ((go_at_call 64; refine (Chunk_st _ _ _ _).mono ?_; rintro e w' ⟨Bs, Bn, rfl, st'⟩; replace st := st.join st'; clear st'; simp only [List.cons_append, List.nil_append] at st; generalize hA : (if c = 12 then (some ⟨g, 0, none⟩ : Option Addr) else some ⟨g, 12, none⟩) = A12 at st ⊢; refine ⟨_, rfl, ?_⟩))))); refine WL.next hK (by simp only [Act.put, zpt, zsz, zss]; exact rfl) ?_; clear hK K))); (try refine WL.nil ?_))
  have hs1 := st.size
  have hBs := (Res.holds_lt (st.get (i := 1) rfl) rfl).2
  have hBn := (Res.holds_lt (st.get (i := 0) rfl) rfl).2
  have hcs1 := st.cell (i := 1) rfl 0
  have hcn1 := st.cell (i := 0) rfl 0
  have st0 := (st.nilRow 23 4).nilRow 23 4
  have hA12 : 0 < L.nb l 2 + L.nb l 3 → A12 = some ⟨g, 12, none⟩ := fun h => by rw [← hA, if_neg (by have := HQ.out; omega)]
  clear st hA
  refine (wpIn_wide (n := 3)).1 ?_
  refine wpIn_rangeFunc_one (gf := 84) (lb := #[.pointer (some ⟨Bs, 0, none⟩), .pointer (some ⟨Bn, 0, none⟩)]) rfl rfl rfl (by simp) (by omega) rfl (enters_of Tryd.func84 (by kernel_rfl) rfl)
    (chunk1_stops 2 Bs Bn wB.heap.size g 12 (L.nb l 2 + L.nb l 3) (n - 12) (c - 12) _ A12 hA12 hBs hBn hs1 hcs1 hcn1 (by have := HQ.out; omega) (by omega) (by have := H2.out; have := H3.out; omega)) KpC.trans (KpC.refl _ _ _) (KpC.put hs1 hBs hBn)
    (fun pre W => ∃ A1 n1 c1 A2 n2 c2, St wB W [aceRow (.slice A1 n1 c1) n1 ((pre.map (fun x : Fin (L.nb l 2 + L.nb l 3) => L.aceAt l (12 + 8 * x.val))).take (L.nb l 2)), aceRow (.slice A2 n2 c2) n2 ((pre.map (fun x : Fin (L.nb l 2 + L.nb l 3) => L.aceAt l (12 + 8 * x.val))).drop (L.nb l 2)), .box Bn 3 [.int .i64 8], .box Bs 84 [.slice A12 (n - 12) (c - 12)], .box b8 26 [.int .i64 (L.lev l 4 4), .int .i64 (L.lev l 8 4), .bool (L.bx l 1 % 2 == 1), .bool (L.bx l 1 / 2 == 1), .slice A1 n1 c1, .slice A2 n2 c2], .box b5 3 [.int .i64 (L.bx l 2)]])
    (fun s X Y row ⟨A1, n1, c1, A2, n2, c2, st⟩ hg hr => ⟨A1, n1, c1, A2, n2, c2, st.turn rfl hs1 hg hr⟩)
    ⟨none, 0, 0, none, 0, 0, (by simp only [List.map_nil, List.take_nil, List.drop_nil]; exact st0)⟩ ?body ?done
  case body =>
    rintro lr pre x W ⟨A1, n1, c1, A2, n2, c2, st'⟩ hlt
    have hn1 : n1 = ((pre.map (fun x : Fin (L.nb l 2 + L.nb l 3) => L.aceAt l (12 + 8 * x.val))).take (L.nb l 2)).length := St.len st' (i := 0) rfl
    have hn2 : n2 = ((pre.map (fun x : Fin (L.nb l 2 + L.nb l 3) => L.aceAt l (12 + 8 * x.val))).drop (L.nb l 2)).length := St.len st' (i := 1) rfl
    rw [List.length_take, List.length_map] at hn1
    rw [List.length_drop, List.length_map] at hn2
    have hm1 : n1 ≤ 40 := by have := H2.out; omega
    have hm2 : n2 ≤ 40 := by have := H2.out; have := H3.out; omega
    have HN1 := Lib.hid hn1
    have HN2 := Lib.hid hn2
    clear st0 hn1 hn2
    have st := st'.objs rfl hs1
    simp only [List.cons_append, List.nil_append] at st
    apply wpIn_block
    refine wpIn_seq_k fun K hK => ?_
    refine wpIn_round_region (by rfl) (by rintro ⟨_, _, h⟩; exact h) ?_
    refine WL.act (by simp only [Act.put, zpt, zsz, zss]; exact rfl) ?_
    (repeat ((refine WL.op ?_ ?_; (exact rfl); intro K hK; (first | ((((with_reducible apply ow_load1 st); exact rfl; exact inferInstance; exact rfl; (first | exact get4 | exact get5))); exact rfl) | ((with_reducible apply ow_eval); (go_simp <;> (try simp (disch := omega) only [wrap_id, sub_left, zac]) <;> rfl); ((with_reducible apply up_value)))); refine WL.next hK (by simp only [Act.put, zpt, zsz, zss]; exact rfl) ?_; clear hK K)))
    refine WL.nil ?_
    refine hK _ _ ?_
    clear hK K
    by_cases hke : pre.length < L.nb l 2
    · have hs' := Lib.hid (snoc_take (L := pre.map (fun x : Fin (L.nb l 2 + L.nb l 3) => L.aceAt l (12 + 8 * x.val))) (a := L.aceAt l (12 + 8 * x.val)) (by rw [List.length_map]; exact hke))
      refine wpIn_cond_true (congrArg Value.bool (decide_eq_true (show (n1 : Int) < L.bx l 2 by have := HN1.out; rw [L.bx_nb]; omega))) ?_
      refine wpIn_round_plan 5 (by kernel_rfl) (by kernel_rfl) (by rfl) (by rintro ⟨_, _, h⟩; exact h) ?_
      replace st := st.drew
      generalize World.drew _ = W2 at st ⊢
      iterate 3 (apply Plan.val'; (focus (intro x0 x1 x2 x3 x4 w1 hb; (try simp only [depF, fillA, Act.put, zta, ztz, zpt, zsz, zss, zl0, zls]); (repeat (rintro rfl)); have st := st.call hb; (first | (apply Yphi.run; (exact rfl); (go_simp <;> (try simp (disch := omega) only [wrap_id, sub_left, zac]) <;> rfl); exact rfl) | (apply Yphi.load1 st; exact rfl; exact inferInstance; (exact rfl); exact rfl; (exact get4); exact rfl)))); (simp only [zca, zcn] <;> exact rfl))
      (apply Plan.val'; (focus (intro x0 x1 x2 x3 x4 w1 hb; (try simp only [depF, fillA, Act.put, zta, ztz, zpt, zsz, zss, zl0, zls]); (repeat (rintro rfl)); have st := st.call hb; apply Yphi.call; (exact rfl); (go_simp <;> (try simp (disch := omega) only [wrap_id, sub_left, zac]) <;> rfl); exact rfl; refine (aceOf_any g (12 + 8 * x.val) 8 8 (12 + 8 * x.val) l _ (Nat.lt_of_lt_of_le hg0 st.size) (fun j hj => (st.old hg0).trans (HX.out _ (by have := HQ.out; have := x.isLt; omega))) (by omega) (by omega)).mono ?_; rintro e w' ⟨rfl, hb'⟩; exact ⟨_, rfl, hb', rfl⟩)); (simp only [zca, zcn] <;> exact rfl))
      (apply Plan.fact' (freshCells 23 1 [.int .i64 (L.aceAt l (12 + 8 * x.val)).k, .int .i64 (L.aceAt l (12 + 8 * x.val)).f, .int .i64 (L.aceAt l (12 + 8 * x.val)).m, .int .i64 (L.aceAt l (12 + 8 * x.val)).w]) (freshCells_stable _ _ _); (focus (intro x0 x1 x2 x3 x4 w1 hb; (try simp only [depF, fillA, Act.put, zta, ztz, zpt, zsz, zss, zl0, zls]); (repeat (rintro rfl)); have st := st.call hb; apply Yphi.newSlice; (exact rfl); exact rfl; (go_simp <;> (try simp (disch := omega) only [wrap_id, sub_left, zac]) <;> rfl); exact rfl)); (simp only [zca, zcn] <;> exact rfl))
      intro x0 x1 x2 x3 x4 lo hi w1 hb hap
      rintro rfl rfl rfl rfl h4 - ⟨b9, rfl, hb9, -⟩
      simp only [allPhi, fillA, Act.put, zta, ztz, zpt, zsz, zss, zda, zdz]
      replace st := st.fresh hb (Res.holds_mono hb9 h4)
      clear hap hb hb9 h4
      (refine WL.out ?_; (repeat ((refine WL.op ?_ ?_; (exact rfl); intro K hK; (first | ((((with_reducible apply ow_store1' st); exact rfl; exact inferInstance; exact rfl; (exact get5); (go_simp <;> (try simp (disch := omega) only [wrap_id, sub_left, zac]) <;> rfl))); exact rfl; exact rfl; (simp <;> done); ((try simp only [zta, ztz, zda, zdz, zca, zcn, zan, zsz, zss]) <;> exact rfl); (try clear st); intro w' st) | ((with_reducible apply ow_append 1 st); exact rfl; exact inferInstance; exact rfl; exact rfl; exact rfl; exact st.rdBox (i := 0) (n := 1) (size := 4) rfl rfl; (focus ((simp [Value.oneCell']; done))); (focus (unfold maxLen; omega)); (focus omega); (try clear st); intro A' c' w' st; (try simp only [List.set_cons_zero, List.set_cons_succ, Nat.zero_add, List.nil_append] at st)) | ((with_reducible apply ow_eval); (go_simp <;> (try simp (disch := omega) only [wrap_id, sub_left, zac]) <;> rfl); ((with_reducible apply up_value)))); refine WL.next hK (by simp only [Act.put, zpt, zsz, zss]; exact rfl) ?_; clear hK K))); (try refine WL.nil ?_))
      obtain ⟨hkf, hsz⟩ := St.keepsFrom (rs' := [_, _, _, _, _, _, _]) st
      have st2 := St.front (rs := [_, _, _, _, _, _, _]) st
      exact ⟨hkf, ⟨below_of_st st'.below st2 (Nat.le_refl _) hsz, (st2.cell (i := 4) rfl 0).trans (st'.cell (i := 3) rfl 0).symm, (st2.cell (i := 3) rfl 0).trans (st'.cell (i := 2) rfl 0).symm⟩, A', n1 + 1, c', A2, n2, c2, (by rw [List.map_append, List.map_cons, List.map_nil, hs'.out.1, hs'.out.2]; unfold aceRow; rw [L.cellsOf_append]; exact st2.tail)⟩
    · have hs' := Lib.hid (snoc_drop (L := pre.map (fun x : Fin (L.nb l 2 + L.nb l 3) => L.aceAt l (12 + 8 * x.val))) (a := L.aceAt l (12 + 8 * x.val)) (by rw [List.length_map]; exact Nat.le_of_not_lt hke))
      refine wpIn_cond_false (congrArg Value.bool (decide_eq_false (show ¬ ((n1 : Int) < L.bx l 2) by have := HN1.out; rw [L.bx_nb]; omega))) ?_
      refine wpIn_round_plan 5 (by kernel_rfl) (by kernel_rfl) (by rfl) (by rintro ⟨_, _, h⟩; exact h) ?_
      replace st := st.drew
      generalize World.drew _ = W2 at st ⊢
      iterate 3 (apply Plan.val'; (focus (intro x0 x1 x2 x3 x4 w1 hb; (try simp only [depF, fillA, Act.put, zta, ztz, zpt, zsz, zss, zl0, zls]); (repeat (rintro rfl)); have st := st.call hb; (first | (apply Yphi.run; (exact rfl); (go_simp <;> (try simp (disch := omega) only [wrap_id, sub_left, zac]) <;> rfl); exact rfl) | (apply Yphi.load1 st; exact rfl; exact inferInstance; (exact rfl); exact rfl; (exact get4); exact rfl)))); (simp only [zca, zcn] <;> exact rfl))
      (apply Plan.val'; (focus (intro x0 x1 x2 x3 x4 w1 hb; (try simp only [depF, fillA, Act.put, zta, ztz, zpt, zsz, zss, zl0, zls]); (repeat (rintro rfl)); have st := st.call hb; apply Yphi.call; (exact rfl); (go_simp <;> (try simp (disch := omega) only [wrap_id, sub_left, zac]) <;> rfl); exact rfl; refine (aceOf_any g (12 + 8 * x.val) 8 8 (12 + 8 * x.val) l _ (Nat.lt_of_lt_of_le hg0 st.size) (fun j hj => (st.old hg0).trans (HX.out _ (by have := HQ.out; have := x.isLt; omega))) (by omega) (by omega)).mono ?_; rintro e w' ⟨rfl, hb'⟩; exact ⟨_, rfl, hb', rfl⟩)); (simp only [zca, zcn] <;> exact rfl))
      (apply Plan.fact' (freshCells 23 1 [.int .i64 (L.aceAt l (12 + 8 * x.val)).k, .int .i64 (L.aceAt l (12 + 8 * x.val)).f, .int .i64 (L.aceAt l (12 + 8 * x.val)).m, .int .i64 (L.aceAt l (12 + 8 * x.val)).w]) (freshCells_stable _ _ _); (focus (intro x0 x1 x2 x3 x4 w1 hb; (try simp only [depF, fillA, Act.put, zta, ztz, zpt, zsz, zss, zl0, zls]); (repeat (rintro rfl)); have st := st.call hb; apply Yphi.newSlice; (exact rfl); exact rfl; (go_simp <;> (try simp (disch := omega) only [wrap_id, sub_left, zac]) <;> rfl); exact rfl)); (simp only [zca, zcn] <;> exact rfl))
      intro x0 x1 x2 x3 x4 lo hi w1 hb hap
      rintro rfl rfl rfl rfl h4 - ⟨b9, rfl, hb9, -⟩
      simp only [allPhi, fillA, Act.put, zta, ztz, zpt, zsz, zss, zda, zdz]
      replace st := st.fresh hb (Res.holds_mono hb9 h4)
      clear hap hb hb9 h4
      (refine WL.out ?_; (repeat ((refine WL.op ?_ ?_; (exact rfl); intro K hK; (first | ((((with_reducible apply ow_store1' st); exact rfl; exact inferInstance; exact rfl; (exact get5); (go_simp <;> (try simp (disch := omega) only [wrap_id, sub_left, zac]) <;> rfl))); exact rfl; exact rfl; (simp <;> done); ((try simp only [zta, ztz, zda, zdz, zca, zcn, zan, zsz, zss]) <;> exact rfl); (try clear st); intro w' st) | ((with_reducible apply ow_append 2 st); exact rfl; exact inferInstance; exact rfl; exact rfl; exact rfl; exact st.rdBox (i := 0) (n := 1) (size := 4) rfl rfl; (focus ((simp [Value.oneCell']; done))); (focus (unfold maxLen; omega)); (focus omega); (try clear st); intro A' c' w' st; (try simp only [List.set_cons_zero, List.set_cons_succ, Nat.zero_add, List.nil_append] at st)) | ((with_reducible apply ow_eval); (go_simp <;> (try simp (disch := omega) only [wrap_id, sub_left, zac]) <;> rfl); ((with_reducible apply up_value)))); refine WL.next hK (by simp only [Act.put, zpt, zsz, zss]; exact rfl) ?_; clear hK K))); (try refine WL.nil ?_))
      obtain ⟨hkf, hsz⟩ := St.keepsFrom (rs' := [_, _, _, _, _, _, _]) st
      have st2 := St.front (rs := [_, _, _, _, _, _, _]) st
      exact ⟨hkf, ⟨below_of_st st'.below st2 (Nat.le_refl _) hsz, (st2.cell (i := 4) rfl 0).trans (st'.cell (i := 3) rfl 0).symm, (st2.cell (i := 3) rfl 0).trans (st'.cell (i := 2) rfl 0).symm⟩, A1, n1, c1, A', n2 + 1, c', (by rw [List.map_append, List.map_cons, List.map_nil, hs'.out.1, hs'.out.2]; unfold aceRow; rw [L.cellsOf_append]; exact st2.tail)⟩
  case done =>
    rintro D ys W hD rfl ⟨A1, n1, c1, A2, n2, c2, st'⟩ hK
    clear st0
    have hmap : (pieces (L.nb l 2 + L.nb l 3)).map (fun x : Fin (L.nb l 2 + L.nb l 3) => L.aceAt l (12 + 8 * x.val)) = L.acesTo l (L.nb l 2 + L.nb l 3) := by
      show _ = (List.range _).map _
      rw [← pieces_val, List.map_map]
      rfl
    rw [hmap] at st'
    have hn1 := St.len st' (i := 0) rfl
    have hn2 := St.len st' (i := 1) rfl
    rw [List.length_take, L.acesTo_len] at hn1
    rw [List.length_drop, L.acesTo_len] at hn2
    have hm1 : n1 ≤ 100 := by have := H2.out; omega
    have hm2 : n2 ≤ 100 := by have := H2.out; have := H3.out; omega
    have hDw : w.heap.size ≤ D := Nat.le_trans stB.size (Nat.le_trans hs1 hD)
    have st := st'.mark rfl (Nat.le_trans hs1 hD) hK
    replace st := stB.join st
    simp only [List.cons_append, List.nil_append] at st
    replace st := st.sub (.cons_cons _ (.cons_cons _ (.cons_cons _ (.cons _ (.cons _ (.cons_cons _ (.cons _ (.cons _ (.refl _)))))))))
    clear hn1 hn2 hK st' hcs1 hcn1
    go_wp2_with (refine WL.out ?_; (repeat ((refine WL.op ?_ ?_; (exact rfl); intro K hK; (first | ((first | ((with_reducible apply ow_move); exact rfl) | ((with_reducible apply ow_assign); exact rfl)); (go_simp <;> (try simp (disch := omega) only [wrap_id, sub_left, zac]) <;> rfl)) | ((((with_reducible apply ow_loadN st); exact rfl; exact inferInstance; exact rfl; (exact get3); ((try simp only [zta, ztz, zda, zdz, zca, zcn, zan, zsz, zss]) <;> exact rfl))); exact rfl) | ((((with_reducible apply ow_storeN' st); exact rfl; exact inferInstance; exact rfl; (exact get4); exact rfl)); exact rfl; exact rfl; (simp <;> done); ((try simp only [zta, ztz, zda, zdz, zca, zcn, zan, zsz, zss]) <;> exact rfl); (try clear st); intro w' st) | ((with_reducible apply ow_eval); (go_simp <;> (try simp (disch := omega) only [wrap_id, sub_left, zac]) <;> rfl); first | (with_reducible apply up_value) | ((with_reducible apply up_enter); ((go_at_call 54; ((refine (descriptorErr_any (L.decD l) A1 A2 n1 n2 c1 c2 _ _ (St.aces st (i := 1) rfl) (St.aces st (i := 2) rfl) (Nat.le_refl _) hm1 hm2).mono ?_); rintro e w' ⟨rfl, hb⟩; replace st := st.call hb; clear hb; generalize hE : (L.decD l).err.2 = E; replace hE := Lib.hid hE; refine ⟨_, rfl, ?_⟩)))))); refine WL.next hK (by simp only [Act.put, zpt, zsz, zss]; exact rfl) ?_; clear hK K))); (try refine WL.nil ?_))
    · refine leaves_cell_tmp 3 st.tail rfl rfl inferInstance rfl rfl hDw (st.get (i := 0) rfl).2 rfl rfl rfl ?_
      intro w2 st2
      have he : E ≠ 0 := by ((have := ‹(E != 0) = _›; simp at this; exact this))
      have hR2 : R = (L.Desc.none, E) := by rw [HR.out, hE.out, if_pos he]
      rw [hR2]
      exact ⟨none, 0, 0, none, 0, 0, rfl, ((st2.sub (List.nil_sublist _)).nilRow _ _).nilRow _ _⟩
    · refine leaves_cell_tmp 3 st.tail rfl rfl inferInstance rfl rfl hDw (st.get (i := 0) rfl).2 rfl rfl rfl ?_
      intro w2 st2
      have he : E = 0 := by ((have := ‹(E != 0) = _›; simp at this; exact this))
      have hR2 : R = (L.decD l, 0) := by rw [HR.out, hE.out, if_neg (fun h => h he)]
      rw [hR2]
      exact ⟨A1, n1, c1, A2, n2, c2, rfl, st2.sub (.cons_cons _ (.cons_cons _ (List.nil_sublist _)))⟩
end Go.Proofs.YtppjhccdgbheiaaDoor
namespace Go.Proofs.YtppjhccdgbheiaaDoor
open Go.RowKit Go.Hp
theorem headErr_eq (l : List UInt8) : L.firstErr [L.unles (decide (L.bx l 2 ≤ 16) && decide (L.bx l 3 ≤ 16)) 8, L.unles ((l.length : Int) == 12 + (L.bx l 2 + L.bx l 3) * 8) 10, L.unles (L.bx l 0 == 1 && decide (L.bx l 1 ≤ 3)) 3] =
    if 16 < L.nb l 2 ∨ 16 < L.nb l 3 then 8 else if l.length ≠ 12 + 8 * (L.nb l 2 + L.nb l 3) then 10 else if L.bx l 0 ≠ 1 ∨ 3 < L.bx l 1 then 3 else 0 := by
  have e2 := L.bx_nb l 2
  have e3 := L.bx_nb l 3
  have a1 : (decide (L.bx l 2 ≤ 16) && decide (L.bx l 3 ≤ 16)) = !decide (16 < L.nb l 2 ∨ 16 < L.nb l 3) := by
    rw [Bool.eq_iff_iff]
    simp only [Bool.and_eq_true, decide_eq_true_eq, Bool.not_eq_true', decide_eq_false_iff_not]
    omega
  have a2 : ((l.length : Int) == 12 + (L.bx l 2 + L.bx l 3) * 8) = !decide (l.length ≠ 12 + 8 * (L.nb l 2 + L.nb l 3)) := by
    rw [Bool.eq_iff_iff]
    simp only [beq_iff_eq, Bool.not_eq_true', decide_eq_false_iff_not]
    omega
  have a3 : (L.bx l 0 == 1 && decide (L.bx l 1 ≤ 3)) = !decide (L.bx l 0 ≠ 1 ∨ 3 < L.bx l 1) := by
    rw [Bool.eq_iff_iff]
    simp only [Bool.and_eq_true, beq_iff_eq, decide_eq_true_eq, Bool.not_eq_true', decide_eq_false_iff_not]
    omega
  rw [a1, a2, a3]
  by_cases h1 : 16 < L.nb l 2 ∨ 16 < L.nb l 3
  · rw [if_pos h1, decide_eq_true h1]; rfl
  · rw [if_neg h1, decide_eq_false h1]
    by_cases h2 : l.length ≠ 12 + 8 * (L.nb l 2 + L.nb l 3)
    · rw [if_pos h2, decide_eq_true h2]; rfl
    · rw [if_neg h2, decide_eq_false h2]
      by_cases h3 : L.bx l 0 ≠ 1 ∨ 3 < L.bx l 1
      · rw [if_pos h3, decide_eq_true h3]; rfl
      · rw [if_neg h3, decide_eq_false h3]; rfl
theorem decode_any (l : List UInt8) (w : World) (hl5 : l.length ≤ 100000) :
    Calls Tryd.prog 32 #[.string ⟨l.toArray⟩] w (RetDescErr w (L.rDec l)) := by
  by_cases h : l.length < 12
  · have e : L.rDec l = (L.Desc.none, 10) := by unfold L.rDec; rw [if_pos h]
    rw [e]
    exact decode_short l w h
  have hE := headErr_eq l
  by_cases h1 : 16 < L.nb l 2 ∨ 16 < L.nb l 3
  · have e : L.rDec l = (L.Desc.none, 8) := by unfold L.rDec; rw [if_neg h, if_pos h1]
    rw [e]
    rw [if_pos h1] at hE
    exact decode_bad l w hl5 (by omega) 8 hE.symm (by decide)
  rw [if_neg h1] at hE
  by_cases h2 : l.length ≠ 12 + 8 * (L.nb l 2 + L.nb l 3)
  · have e : L.rDec l = (L.Desc.none, 10) := by unfold L.rDec; rw [if_neg h, if_neg h1, if_pos h2]
    rw [e]
    rw [if_pos h2] at hE
    exact decode_bad l w hl5 (by omega) 10 hE.symm (by decide)
  rw [if_neg h2] at hE
  by_cases h3 : L.bx l 0 ≠ 1 ∨ 3 < L.bx l 1
  · have e : L.rDec l = (L.Desc.none, 3) := by unfold L.rDec; rw [if_neg h, if_neg h1, if_neg h2, if_pos h3]
    rw [e]
    rw [if_pos h3] at hE
    exact decode_bad l w hl5 (by omega) 3 hE.symm (by decide)
  · have e : L.rDec l = if (L.decD l).err.2 ≠ 0 then (L.Desc.none, (L.decD l).err.2) else (L.decD l, 0) := by unfold L.rDec; rw [if_neg h, if_neg h1, if_neg h2, if_neg h3, L.Desc.err_eq]
    exact decode_good l w hl5 (by omega) (by omega) (by omega) (by omega) (by omega) (by omega) _ e
end Go.Proofs.YtppjhccdgbheiaaDoor
