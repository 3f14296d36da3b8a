/- EngineFolds: for every input the law returns true, and its arguments read as they did; the card of the seat. No condition beside the row's own. -/
import Derived.Test.YtpdmaenhenfofaaGreatDoorZFc
import Derived.Test.YtpdmaenhenfofaaGreatDoorZJ24
import Derived.Test.YtpdmaenhenfofaaGreatDoorCards
import Derived.Test.YtpdmaenhenfofaaGreatDoorTie
import Derived.SevenTiedAt
set_option linter.unusedVariables false
set_option linter.unusedSimpArgs false
namespace Go.Proofs.YtpdmaenhenfofaaGreatDoor
open Go.Am Go.ChangeShapes Go.WideShapes Go.RowKit
set_option maxRecDepth 100000
theorem Y9:PI Tryz.prog 31 (.int .i8)=true:=Y
theorem Y8:PI Tryz.prog 51 (.slice Z8)=true:=Y
theorem S0 (os:Os) (started:os.Started) (H:Type) (enc:TypeId×Value→H):
  ReturnsInHanded {} Tryz.checked os 8 .any (fun w args=>(Rows.engineFoldsSpec.pre enc Tryz.prog Tryz.f8 [] false w args∧laidMetH Tryz.prog M9 w)∧sizedMet enc Tryz.prog Tryz.f8 (OpenSpec.ofChange Rows.engineFoldsSpec) false w args)
   (Rows.engineFoldsSpec.post enc Tryz.prog Tryz.f8 false true false false):=by
 refine returnsInHanded_of_change_and (C:=Tryz.checked) (X:=fun w _=>laidMetH Tryz.prog M9 w) (fun _ _ _ hh h=>h.of_heap hh) Aij started Y Tryz.func8
  (ChangeSpec.witness_at (enc:=enc) (C:=Tryz.checked) (os:=os) (X:=fun w _=>laidMetH Tryz.prog M9 w) false (Rp os) #[.int .i8 0,.slice none 0 0] 8 J Y Y Y Y Y (PN os _)) ?_
 intro W base args ds gs before hval0 hW _ _ hL _
 have hval: ∀(j:Nat) t v,Tryz.f8.params[j]?=some t→args[j]?=some v→Value.okWide Tryz.prog W .any base t v:=hval0
 have hW':=hW
 obtain⟨p,q,hA0,hV0,rfl,hfz,hnd⟩:=hW
 have hA:DataW.TrodAll enc Tryz.prog W 0 (fun _=>true) true Tryz.f8.params.toList args.toList ds p:=hA0
 have hV:DataW.TrodVars enc Tryz.prog W (fun _=>true) [] gs q:=hV0
 have hA1:=hA
 rw[Tryz.params8]at hA hval
 obtain⟨v0,v1,d0,d1,p0,p1,rfl,rfl,rfl,⟨n0,h0⟩,⟨n1,h1⟩⟩:=trodAll_two hA
 obtain⟨rfl,rfl⟩:=trodVars_none hV
 have o0:=VY Tryz.underlying31 (hval 0 _ v0 J J)
 obtain⟨xs0,q0,r0⟩:=QD _ _ _ _ _ Y9 h0
 simp only[Sh.Q]at q0
 obtain⟨x0,rfl⟩:=q0
 have o1:=Sk Tryz.underlying51 (hval 1 _ v1 J J)
 obtain⟨xs1,q1,r1⟩:=QD _ _ _ _ _ Y8 h1
 simp only[Sh.Q]at q1
 obtain⟨ess1,hess1,rfl⟩:=q1
 obtain⟨acts,rfl⟩:=SH (f:=E9) fun y hy=>Alz (hess1 y hy)
 have hc:=(Abj x0 acts).2 [v0,v1] W g00 ⟨J,fun i v x hv hx=>by
  match i with
  |0=>simp at hv hx;subst hv;subst hx;exact Oa o0 r0
  |1=>simp at hv hx;subst hv;subst hx;exact Oa o1 r1
  |i+2=>simp at hv⟩ (Ad6 (OA hL))
 refine Calls.mono hc fun e w'=>?_
 rintro⟨v,g',rfl,hx,hv,_⟩
 have hvt:=Ey hv
 subst hvt
 have e1:Rows.engineFoldsSpec.fn H ([d0,d1]++[])={results:=[.lit (.bool true)],args:=[d0,d1]}:=by simp[Rows.engineFoldsSpec]
 have hlt: ∀x∈p0++p1,x.block<W.heap.size:=fun x hx=>hW'.lt x (by simpa using hx)
 refine⟨_,J,_,_,_,[],p0++p1,[],hW',?_,?_,?_,U2 hx _,fun h=>by cases h⟩
 ·rw[e1];exact trodAll_mk1 (shut_bool Tryz.underlying4 true)
 ·rw[e1]
  exact Vo (DataW.TrodAll.respare Aeb Aec (by rw[Tryz.params8];decide) hA1 (fun x hx=>by simpa using hlt x hx)) (fun x hxp=>Tq hx (hlt x hxp))
 ·rw[e1];rfl
theorem UI:Rows.EngineFoldsSaid:=
 OpenClaim.holds_of_wide 8 Tryz.f8 J J J J J J J ⟨J,J,J,J,J⟩ J J J J J Y Tryz.func8 Y
  (of_decide_eq_true Y) (by unfold Func.isWrapper;rw[if_neg (of_decide_eq_false Y)];exact⟨J,J⟩)
  (fun os started H enc _=>S0 os started H enc)
theorem folds_card:Rows.EngineFoldsCardSaid:=
 Claim7.holds_tied_plain_at .later [] [.handle] true _ true
  UI (fun _ h=>by cases h) Y (fun _ h=>by cases h) engineFolds_row_tie rfl ⟨rfl,rfl⟩ Y rfl
  (fun f fn hf hfn=>by
   obtain rfl:f=8:=Option.some.inj ((show Tryz.prog.funcNamed Rows.engineFoldsRow.func=some 8 from Y).symm.trans hf)|>.symm
   obtain rfl:fn=Tryz.f8:=(Option.some.inj (Tryz.func8.symm.trans hfn)).symm
   exact⟨Y,fun j t ht=>by
    rw[Tryz.params8]at ht
    have hm:t∈[31,51]:=by simpa using Array.mem_of_getElem? ht
    have hall:([31,51].all fun u=> !Tryz.prog.wantsStandIn u)=true:=Y
    exact(show Tryz.prog.wantsStandIn t=false by simpa using List.all_eq_true.1 hall t hm)⟩)
  Y
#print axioms folds_card
end Go.Proofs.YtpdmaenhenfofaaGreatDoor
