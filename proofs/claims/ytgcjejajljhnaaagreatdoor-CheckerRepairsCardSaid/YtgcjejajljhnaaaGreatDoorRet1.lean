/- For every input the law CheckerRepairs returns true without a panic, and each argument reads behind the call as it read before: its tied card holds. Conditions: none but the row's own. -/
import Derived.Test.YtgcjejajljhnaaaGreatDoorRprt1
import Derived.Test.YtgcjejajljhnaaaGreatDoorRprt14
import Derived.Lay
import Derived.Test.YtgcjejajljhnaaaGreatDoorRows
import Derived.Test.YtgcjejajljhnaaaGreatDoorTie
import Derived.Test.YtgcjejajljhnaaaGreatDoorCards
import Derived.SevenTiedAt
import Derived.Stop.Joined
import Derived.ChangeMaps5
set_option linter.all false
namespace Go.Proofs.YtgcjejajljhnaaaGreatDoor
open Go.ChangeShapes Go.WideShapes Go.ChangeAt Go.WideElems Go.RowKit
theorem checkerRepairs_met (os:Os) (args:Array Value):laidMetH Tryz.prog Rows.checkerRepairsRow.laid ((World.laidAll Tryz.prog os Rows.checkerRepairsRow.laid).forCall (λ_ _=>0) ⟨#[],args,[]⟩).memory:=
 by rw[MakeChecks.laidMetH_plain _ _ _ (by kernel_rfl)];exact laidMet_laidAll _ (by kernel_rfl) (by kernel_rfl)
set_option maxHeartbeats 4000000 in
set_option maxRecDepth 100000 in
theorem checkerRepairs_lifted (os:Os) (started:os.Started) (H:Type) (enc:TypeId×Value->H):
  ReturnsInHanded {} Tryz.checked os 5 .any (λw args=>(Rows.checkerRepairsSpec.pre enc Tryz.prog Tryz.f5 [] false w args/\laidMetH Tryz.prog Rows.checkerRepairsRow.laid w)/\sizedMet enc Tryz.prog Tryz.f5 (OpenSpec.ofChange Rows.checkerRepairsSpec) false w args)
   (Rows.checkerRepairsSpec.post enc Tryz.prog Tryz.f5 false true false false):=by
 refine returnsInHanded_of_change_both (C:=Tryz.checked) (X:=λw _=>laidMetH Tryz.prog Rows.checkerRepairsRow.laid w) (λ_ _ _ hh h=>h.of_heap hh) Tryz.own started (by kernel_rfl) Tryz.func5
  (ChangeSpec.witness_shaped (enc:=enc) (C:=Tryz.checked) (os:=os) (X:=λw _=>laidMetH Tryz.prog Rows.checkerRepairsRow.laid w) false (World.laidAll Tryz.prog os Rows.checkerRepairsRow.laid) #[.agg #[.int .i64 0, .slice none 0 0, .slice none 0 0, .slice none 0 0, .string ⟨#[]⟩], .int .i64 0] 8 (World.laidAll_os _ _ _) (World.shaped_of_ZipB (by kernel_rfl) (by kernel_rfl)) (by kernel_rfl) (by kernel_rfl) (by kernel_rfl) (checkerRepairs_met os _)) ?_
 intro W base args ds gs before hval0 hW _ _ hL hsh _;have hval:∀(j:Nat) t v,Tryz.f5.params[j]? =some t->args[j]? =some v->Value.okWide Tryz.prog W .any base t v:=hval0;have hW':=hW;obtain⟨p,q,hA0,hV,rfl,hfz,hnd⟩:=hW;have hA:DataW.TrodAll enc Tryz.prog W 0 (λ_=>true) true Tryz.f5.params.toList args.toList ds p:=hA0;have hlt:∀x∈p,x.block<W.heap.size:=λx hx=>hW'.lt x (yUX _ hx);rw[Tryz.params5] at hA hval
 have hT:Ex.ztO W:=by
  have hL1:laidMetH Tryz.prog Rows.checkerRepairsRow.laid W:=hL;rw[MakeChecks.laidMetH_plain Tryz.prog Rows.checkerRepairsRow.laid W (by kernel_rfl)] at hL1;exact zpH hL1.tail.tail
 obtain⟨v0,v1,d0,d1,p0,p1,rfl,rfl,rfl,h0,h1⟩:=trodAll_two hA;obtain⟨rfl,rfl⟩:=trodVars_none hV;obtain⟨a,hat⟩:=zmt (hval 0 _ v0 rfl rfl) h0 (λx hx=>hlt x (by(exact yUX _ hx)));obtain⟨n1,rfl⟩:=okWide_int Tryz.underlying3 (hval 1 _ v1 rfl rfl);clear hA0 hval0;refine(Ex.calls_known (zgJ a n1) (Ex.Rzl.cons hat (Ex.Rzl.cons rfl rfl)) hT).mono λe W' ⟨he,hb⟩=> ?_;subst he;exact⟨_,rfl,zte Tryz.laidOut Tryz.underlying4 rfl (by kernel_rfl) rfl hW' (by rw[Tryz.params5];intro t ht;simp at ht;rcases ht with rfl|rfl<;>exact⟨by kernel_rfl,yiZ (by kernel_rfl)⟩) hb⟩
theorem checkerRepairs_holds :Rows.CheckerRepairsSaid:=
 OpenClaim.holds_of_wide 5 Tryz.f5 rfl rfl rfl rfl rfl rfl rfl ⟨rfl,rfl,rfl,rfl,rfl⟩ rfl rfl rfl rfl rfl (by kernel_rfl) Tryz.func5 (by kernel_rfl)
  (yiZ (by kernel_rfl)) (by unfold Func.isWrapper;((rw[yfX (by decide+kernel)];exact⟨rfl,rfl⟩)))
  (λos started H enc _=>checkerRepairs_lifted os started H enc)
set_option maxRecDepth 100000 in
theorem checkerRepairs_card :Rows.CheckerRepairsCardSaid:=
 Claim7.holds_tied_plain_at .later [] [.data, .data, .data] true (true, "6dde09899633823b21f2c621839bdab30954a2fabd34d7769f5aec2b7835f755") true
  checkerRepairs_holds (λ_ h=>by cases h) (by kernel_rfl) (λ_ h=>by cases h) checkerRepairs_row_tie rfl ⟨rfl,rfl⟩ (by kernel_rfl) rfl
  (λf fn hf hfn=>by
   obtain rfl:f=5:=yfZ ((show Tryz.prog.funcNamed Rows.checkerRepairsRow.func=some 5 by kernel_rfl).symm.trans hf)|>.symm
   obtain rfl:fn=Tryz.f5:=(yfZ (Tryz.func5.symm.trans hfn)).symm
   exact⟨by kernel_rfl,λj t ht=>by
    rw[Tryz.params5] at ht
    have hm:t∈[26,3]:=by simpa using Array.mem_of_getElem? ht
    have hall:([26,3].all λu=> !Tryz.prog.wantsStandIn u)=true:=by kernel_rfl
    exact(show Tryz.prog.wantsStandIn t=false by simpa using yNY.1 hall t hm)⟩)
  (by kernel_rfl)
end Go.Proofs.YtgcjejajljhnaaaGreatDoor
