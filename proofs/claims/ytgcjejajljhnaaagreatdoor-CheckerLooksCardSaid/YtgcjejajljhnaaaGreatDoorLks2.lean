/- For every input the law CheckerLooks returns true without a panic, and each argument reads behind the call as it read before: its tied card holds. Conditions: none but the row's own. -/
import Derived.Test.YtgcjejajljhnaaaGreatDoorLks1
import Derived.Test.YtgcjejajljhnaaaGreatDoorRoot7
import Derived.Lay
import Derived.Test.YtgcjejajljhnaaaGreatDoorRows
import Derived.Test.YtgcjejajljhnaaaGreatDoorTie
import Derived.Test.YtgcjejajljhnaaaGreatDoorCards
import Derived.SevenTiedAt
import Derived.Stop.Joined
import Derived.ChangeMaps5
set_option linter.all false
namespace Go.Proofs.YtgcjejajljhnaaaGreatDoor
open Go.ChangeShapes Go.WideShapes Go.ChangeAt Go.WideElems Go.RowKit

theorem checkerLooks_met (os : Os) (args : Array Value) : laidMetH Tryz.prog Rows.checkerLooksRow.laid ((World.laidAll Tryz.prog os Rows.checkerLooksRow.laid).forCall (fun _ _ => 0) ⟨#[], args, []⟩).memory :=
  by rw [MakeChecks.laidMetH_plain _ _ _ (by kernel_rfl)]; exact laidMet_laidAll _ (by kernel_rfl) (by kernel_rfl)

set_option maxHeartbeats 4000000 in
set_option maxRecDepth 100000 in
theorem checkerLooks_lifted (os : Os) (started : os.Started) (H : Type) (enc : TypeId × Value → H) :
    ReturnsInHanded {} Tryz.checked os 8 .any (fun w args => (Rows.checkerLooksSpec.pre enc Tryz.prog Tryz.f8 [] false w args ∧ laidMetH Tryz.prog Rows.checkerLooksRow.laid w) ∧ sizedMet enc Tryz.prog Tryz.f8 (OpenSpec.ofChange Rows.checkerLooksSpec) false w args)
      (Rows.checkerLooksSpec.post enc Tryz.prog Tryz.f8 false true false false) := by
  refine returnsInHanded_of_change_both (C := Tryz.checked) (X := fun w _ => laidMetH Tryz.prog Rows.checkerLooksRow.laid w) (fun _ _ _ hh h => h.of_heap hh) Tryz.own started (by kernel_rfl) Tryz.func8
    (ChangeSpec.witness_shaped (enc := enc) (C := Tryz.checked) (os := os) (X := fun w _ => laidMetH Tryz.prog Rows.checkerLooksRow.laid w) false (World.laidAll Tryz.prog os Rows.checkerLooksRow.laid) #[.agg #[.int .i64 0, .slice none 0 0, .slice none 0 0, .slice none 0 0, .string ⟨#[]⟩], .int .i64 0] 8 (World.laidAll_os _ _ _) (World.shaped_of_ZipB (by kernel_rfl) (by kernel_rfl)) (by kernel_rfl) (by kernel_rfl) (by kernel_rfl) (checkerLooks_met os _)) ?_
  intro W base args ds gs before hval0 hW _ _ hL hsh _
  have hval : ∀ (j : Nat) t v, Tryz.f8.params[j]? = some t → args[j]? = some v → Value.okWide Tryz.prog W .any base t v := hval0
  have hW' := hW
  obtain ⟨p, q, hA0, hV, rfl, hfz, hnd⟩ := hW
  have hA : DataW.TrodAll enc Tryz.prog W 0 (fun _ => true) true Tryz.f8.params.toList args.toList ds p := hA0
  have hlt : ∀ x ∈ p, x.block < W.heap.size := fun x hx => hW'.lt x (List.mem_append_left _ hx)
  rw [Tryz.params8] at hA hval
  obtain ⟨v0, v1, d0, d1, p0, p1, rfl, rfl, rfl, h0, h1⟩ := trodAll_two hA
  obtain ⟨rfl, rfl⟩ := trodVars_none hV
  obtain ⟨a, hat⟩ := open_partsK (hval 0 _ v0 rfl rfl) h0 (fun x hx => hlt x (by first | (exact List.mem_append_left _ hx; trace "ARM 0.0") | (simp [hx]; trace "ARM 0.1")))
  obtain ⟨n1, rfl⟩ := okWide_int Tryz.underlying3 (hval 1 _ v1 rfl rfl)
  clear hA0 hval0
  refine (Ex.calls_known (CheckerLooks_k a n1) (Ex.Rzl.cons hat (Ex.Rzl.cons rfl rfl))).mono fun e W' ⟨he, hb⟩ => ?_
  subst he
  exact ⟨_, rfl, law_post Tryz.laidOut Tryz.underlying4 rfl (by kernel_rfl) rfl hW' (by rw [Tryz.params8]; intro t ht; simp at ht; rcases ht with rfl | rfl <;> exact ⟨by kernel_rfl, of_decide_eq_true (by kernel_rfl)⟩) hb⟩

theorem checkerLooks_holds : Rows.CheckerLooksSaid :=
  OpenClaim.holds_of_wide 8 Tryz.f8 rfl rfl rfl rfl rfl rfl rfl ⟨rfl, rfl, rfl, rfl, rfl⟩ rfl rfl rfl rfl rfl (by kernel_rfl) Tryz.func8 (by kernel_rfl)
    (of_decide_eq_true (by kernel_rfl)) (by unfold Func.isWrapper; first | ((rw [if_pos (by decide +kernel)]; kernel_rfl); trace "ARM 1.0") | ((rw [if_neg (by decide +kernel)]; exact ⟨rfl, rfl⟩); trace "ARM 1.1"))
    (fun os started H enc _ => checkerLooks_lifted os started H enc)
set_option maxRecDepth 100000 in
theorem checkerLooks_card : Rows.CheckerLooksCardSaid :=
  Claim7.holds_tied_plain_at .later [] [.data, .data, .data] true (true, "6dde09899633823b21f2c621839bdab30954a2fabd34d7769f5aec2b7835f755") true
    checkerLooks_holds (fun _ h => by cases h) (by kernel_rfl) (fun _ h => by cases h) checkerLooks_row_tie rfl ⟨rfl, rfl⟩ (by kernel_rfl) rfl
    (fun f fn hf hfn => by
      obtain rfl : f = 8 := Option.some.inj ((show Tryz.prog.funcNamed Rows.checkerLooksRow.func = some 8 by kernel_rfl).symm.trans hf) |>.symm
      obtain rfl : fn = Tryz.f8 := (Option.some.inj (Tryz.func8.symm.trans hfn)).symm
      exact ⟨by kernel_rfl, fun j t ht => by
        rw [Tryz.params8] at ht
        have hm : t ∈ [26, 3] := by simpa using Array.mem_of_getElem? ht
        have hall : ([26, 3].all fun u => !Tryz.prog.wantsStandIn u) = true := by kernel_rfl
        exact (show Tryz.prog.wantsStandIn t = false by simpa using List.all_eq_true.1 hall t hm)⟩)
    (by kernel_rfl)
end Go.Proofs.YtgcjejajljhnaaaGreatDoor
