/- For every input the law CheckerSecond returns true without a panic, and each argument reads behind the call as it read before: its tied card holds. Conditions: none but the row's own. -/
import Derived.Test.YtgcjejajljhnaaaGreatDoorSec1
import Derived.Test.YtgcjejajljhnaaaGreatDoorTrnk8
import Derived.Lay
import Derived.Test.YtgcjejajljhnaaaGreatDoorRows
import Derived.Test.YtgcjejajljhnaaaGreatDoorTie
import Derived.Test.YtgcjejajljhnaaaGreatDoorCards
import Derived.SevenTiedAt
import Derived.Stop.Joined
import Derived.ChangeMaps5
set_option linter.all false
namespace Go.Proofs.YtgcjejajljhnaaaGreatDoor
open Go.ChangeShapes Go.WideShapes Go.ChangeAt Go.WideElems Go.RowKit
theorem checkerSecond_met (os:Os) (args:Array Value):laidMetH Tryz.prog Rows.checkerSecondRow.laid ((World.laidAll Tryz.prog os Rows.checkerSecondRow.laid).forCall (fun _ _=>0) ⟨#[],args,[]⟩).memory:=
 by rw[MakeChecks.laidMetH_plain _ _ _ (by kernel_rfl)];exact laidMet_laidAll _ (by kernel_rfl) (by kernel_rfl)
set_option maxHeartbeats 4000000 in
set_option maxRecDepth 100000 in
theorem checkerSecond_lifted (os:Os) (started:os.Started) (H:Type) (enc:TypeId×Value→H):
  ReturnsInHanded {} Tryz.checked os 7 .any (fun w args=>(Rows.checkerSecondSpec.pre enc Tryz.prog Tryz.f7 [] false w args∧laidMetH Tryz.prog Rows.checkerSecondRow.laid w)∧sizedMet enc Tryz.prog Tryz.f7 (OpenSpec.ofChange Rows.checkerSecondSpec) false w args)
   (Rows.checkerSecondSpec.post enc Tryz.prog Tryz.f7 false true false false):=by
 refine returnsInHanded_of_change_both (C:=Tryz.checked) (X:=fun w _=>laidMetH Tryz.prog Rows.checkerSecondRow.laid w) (fun _ _ _ hh h=>h.of_heap hh) Tryz.own started (by kernel_rfl) Tryz.func7
  (ChangeSpec.witness_shaped (enc:=enc) (C:=Tryz.checked) (os:=os) (X:=fun w _=>laidMetH Tryz.prog Rows.checkerSecondRow.laid w) false (World.laidAll Tryz.prog os Rows.checkerSecondRow.laid) #[.agg #[.int .i64 0, .slice none 0 0, .slice none 0 0, .slice none 0 0, .string ⟨#[]⟩]] 8 (World.laidAll_os _ _ _) (World.shaped_of_ZipB (by kernel_rfl) (by kernel_rfl)) (by kernel_rfl) (by kernel_rfl) (by kernel_rfl) (checkerSecond_met os _)) ?_
 intro W base args ds gs before hval0 hW _ _ hL hsh _;have hval:∀(j:Nat) t v,Tryz.f7.params[j]? =some t→args[j]? =some v→Value.okWide Tryz.prog W .any base t v:=hval0;have hW':=hW;obtain⟨p,q,hA0,hV,rfl,hfz,hnd⟩:=hW;have hA:DataW.TrodAll enc Tryz.prog W 0 (fun _=>true) true Tryz.f7.params.toList args.toList ds p:=hA0
 have hlt:∀x∈p,x.block<W.heap.size:=fun x hx=>hW'.lt x (List.mem_append_left _ hx)
 rw[Tryz.params7] at hA hval
 have hT:Ex.TabW W:=by
  have hL1:laidMetH Tryz.prog Rows.checkerSecondRow.laid W:=hL;rw[MakeChecks.laidMetH_plain Tryz.prog Rows.checkerSecondRow.laid W (by kernel_rfl)] at hL1;exact zi1 hL1.tail.tail
 obtain⟨v0,d0,rfl,rfl,h0⟩:=trodAll_one hA;obtain⟨rfl,rfl⟩:=trodVars_none hV;obtain⟨a,hat⟩:=zgI (hval 0 _ v0 rfl rfl) h0 (fun x hx=>hlt x (by(exact hx)));clear hA0 hval0
 refine(Ex.calls_known (CheckerSecond_k a) (Ex.Rzl.cons hat rfl) hT).mono fun e W' ⟨he,hb⟩=> ?_
 subst he;exact⟨_,rfl,zlg Tryz.laidOut Tryz.underlying4 rfl (by kernel_rfl) rfl hW' (by rw[Tryz.params7];intro t ht;simp at ht;subst ht;exact⟨by kernel_rfl,of_decide_eq_true (by kernel_rfl)⟩) hb⟩
theorem checkerSecond_holds :Rows.CheckerSecondSaid:=
 OpenClaim.holds_of_wide 7 Tryz.f7 rfl rfl rfl rfl rfl rfl rfl ⟨rfl,rfl,rfl,rfl,rfl⟩ rfl rfl rfl rfl rfl (by kernel_rfl) Tryz.func7 (by kernel_rfl)
  (of_decide_eq_true (by kernel_rfl)) (by unfold Func.isWrapper;((rw[if_neg (by decide+kernel)];exact⟨rfl,rfl⟩)))
  (fun os started H enc _=>checkerSecond_lifted os started H enc)
set_option maxRecDepth 100000 in
theorem checkerSecond_card :Rows.CheckerSecondCardSaid:=
 Claim7.holds_tied_plain_at .later [] [.data, .data, .data] true (true, "6dde09899633823b21f2c621839bdab30954a2fabd34d7769f5aec2b7835f755") true
  checkerSecond_holds (fun _ h=>by cases h) (by kernel_rfl) (fun _ h=>by cases h) checkerSecond_row_tie rfl ⟨rfl,rfl⟩ (by kernel_rfl) rfl
  (fun f fn hf hfn=>by
   obtain rfl:f=7:=Option.some.inj ((show Tryz.prog.funcNamed Rows.checkerSecondRow.func=some 7 by kernel_rfl).symm.trans hf)|>.symm
   obtain rfl:fn=Tryz.f7:=(Option.some.inj (Tryz.func7.symm.trans hfn)).symm
   exact⟨by kernel_rfl,fun j t ht=>by
    rw[Tryz.params7] at ht
    have hm:t∈[26]:=by simpa using Array.mem_of_getElem? ht
    have hall:([26].all fun u=> !Tryz.prog.wantsStandIn u)=true:=by kernel_rfl
    exact(show Tryz.prog.wantsStandIn t=false by simpa using List.all_eq_true.1 hall t hm)⟩)
  (by kernel_rfl)
end Go.Proofs.YtgcjejajljhnaaaGreatDoor
