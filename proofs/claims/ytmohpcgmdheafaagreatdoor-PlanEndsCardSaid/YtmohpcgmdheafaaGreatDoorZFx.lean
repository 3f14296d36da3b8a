/- PlanEnds: for every input the law returns true, and its arguments read as they did; the card of the seat. No condition beside the row's own. -/
import Derived.Test.YtmohpcgmdheafaaGreatDoorZFw
import Derived.Test.YtmohpcgmdheafaaGreatDoorZK22
import Derived.Test.YtmohpcgmdheafaaGreatDoorZFg
import Derived.Test.YtmohpcgmdheafaaGreatDoorZFp
import Derived.Test.YtmohpcgmdheafaaGreatDoorTie
import Derived.SevenTiedAt
import Derived.Carry
set_option linter.unusedVariables false
set_option linter.unusedSimpArgs false
set_option maxRecDepth 100000
set_option maxHeartbeats 8000000
namespace Go.Proofs.YtmohpcgmdheafaaGreatDoor
open Go.Am Go.ChangeShapes Go.WideShapes Go.RowKit
theorem UV:M8 Tryz.prog 39 UB=true:=Ab
theorem MK:M8 Tryz.prog 3 (.int .i64)=true:=Ab
theorem UU:M8 Tryz.prog 4 .bool=true:=Ab
theorem PA (os:Os) (started:os.Started) (H:Type) (enc:TypeId×Value->H):
  ReturnsInHanded {} Tryz.checked os 3 .any (fun w args=>(Rows.planEndsSpec.pre enc Tryz.prog Tryz.f3 [] false w args/\laidMetH Tryz.prog O4 w)/\sizedMet enc Tryz.prog Tryz.f3 (OpenSpec.ofChange Rows.planEndsSpec) false w args)
   (Rows.planEndsSpec.post enc Tryz.prog Tryz.f3 false true false false):=by
 refine returnsInHanded_of_change_and (C:=Tryz.checked) (X:=fun w _=>laidMetH Tryz.prog O4 w) (fun _ _ _ hh h=>h.of_heap hh) As7 started Ab Tryz.func3
  (ChangeSpec.witness_at (enc:=enc) (C:=Tryz.checked) (os:=os) (X:=fun w _=>laidMetH Tryz.prog O4 w) false (T8 os) #[.agg #[.int .i8 0,.int .i64 0,.int .i64 0,.slice none 0 0,.slice none 0 0,.slice none 0 0,.int .i64 0,.int .i64 0,.slice none 0 0,.slice none 0 0,.slice none 0 0,.int .i64 0,.int .i64 0,.slice none 0 0,.slice none 0 0,.slice none 0 0,.int .i64 0,.int .i8 0,.int .i64 0,.int .i64 0,.int .i64 0,.int .i64 0,.slice none 0 0,.slice none 0 0,.int .i64 0,.int .i8 0,.int .i64 0,.int .i64 0,.int .i64 0,.int .i64 0,.slice none 0 0,.slice none 0 0,.int .i64 0,.int .i8 0,.int .i64 0,.int .i64 0,.int .i64 0,.int .i64 0,.slice none 0 0,.slice none 0 0,.int .i64 0,.int .i64 0,.int .i64 0,.int .i64 0,.int .i64 0,.int .i64 0,.int .i64 0],.int .i64 0,.bool false,.int .i64 0] 8 Y Ab Ab Ab Ab Ab (S8 os _)) ?_
 intro W base args ds gs before hval0 hW _ _ hL _
 have hval: ∀(j:Nat) t v,Tryz.f3.params[j]?=some t->args[j]?=some v->Value.okWide Tryz.prog W .any base t v:=hval0
 have hW':=hW
 obtain⟨p,q,hA0,hV0,rfl,hfz,hnd⟩:=hW
 have hA:DataW.TrodAll enc Tryz.prog W 0 (fun _=>true) true Tryz.f3.params.toList args.toList ds p:=hA0
 have hV:DataW.TrodVars enc Tryz.prog W (fun _=>true) [] gs q:=hV0
 have hA1:=hA
 rw[Tryz.params3]at hA hval
 obtain⟨v0,v1,v2,v3,d0,d1,d2,d3,p0,p1,p2,p3,rfl,rfl,rfl,⟨n0,h0⟩,⟨n1,h1⟩,⟨n2,h2⟩,⟨n3,h3⟩⟩:=trodAll_four hA
 obtain⟨rfl,rfl⟩:=trodVars_none hV
 obtain⟨xs0,q0,r0⟩:=KH _ _ _ _ _ UV h0
 obtain⟨im,rfl,hst⟩:=All q0
 have o1:=Rs Tryz.underlying3 (hval 1 _ v1 Y Y)
 obtain⟨xs1,q1,r1⟩:=KH _ _ _ _ _ MK h1
 simp only[Sh.Q]at q1
 obtain⟨tid,rfl⟩:=q1
 have o2:=W8 Tryz.underlying4 (hval 2 _ v2 Y Y)
 obtain⟨xs2,q2,r2⟩:=KH _ _ _ _ _ UU h2
 simp only[Sh.Q]at q2
 obtain⟨yes,rfl⟩:=q2
 have o3:=Rs Tryz.underlying3 (hval 3 _ v3 Y Y)
 obtain⟨xs3,q3,r3⟩:=KH _ _ _ _ _ MK h3
 simp only[Sh.Q]at q3
 obtain⟨thn,rfl⟩:=q3
 have hc:=(Wy im hst tid yes thn).2 [v0,v1,v2,v3] W g00 ⟨Y,fun i v x hv hx=>by
  match i with
  |0=>simp at hv hx;subst hv;subst hx;exact S1 Tryz.underlying39 (hval 0 _ _ Y Y) r0
  |1=>simp at hv hx;subst hv;subst hx;exact LU o1 r1
  |2=>simp at hv hx;subst hv;subst hx;exact LU o2 r2
  |3=>simp at hv hx;subst hv;subst hx;exact LU o3 r3
  |i+4=>simp at hv⟩ (Al9 (RK hL))
 refine Calls.mono hc fun e w'=>?_
 rintro⟨v,g',rfl,hx,hv,_⟩
 have hvt:=EE hv
 subst hvt
 have e1:Rows.planEndsSpec.fn H ([d0,d1,d2,d3]++[])={results:=[.lit (.bool true)],args:=[d0,d1,d2,d3]}:=by simp[Rows.planEndsSpec]
 have hlt: ∀x∈p0++p1++p2++p3,x.block<W.heap.size:=fun x hx=>hW'.lt x (by simpa using hx)
 refine⟨_,Y,_,_,_,[],p0++p1++p2++p3,[],hW',?_,?_,?_,WM hx _,fun h=>by cases h⟩
 ·rw[e1];exact trodAll_mk1 (shut_bool Tryz.underlying4 true)
 ·rw[e1]
  exact XN (DataW.TrodAll.respare Amd Ame (by rw[Tryz.params3];decide) hA1 (fun x hx=>by simpa using hlt x hx)) (fun x hxp=>Wf hx (hlt x hxp))
 ·rw[e1];rfl
theorem Rn:Rows.PlanEndsSaid:=
 OpenClaim.holds_of_wide 3 Tryz.f3 Y Y Y Y Y Y Y ⟨Y,Y,Y,Y,Y⟩ Y Y Y Y Y W5 Tryz.func3 Adi
  (of_decide_eq_true Ab) (by unfold Func.isWrapper;rw[if_neg (of_decide_eq_false Ab)];exact⟨Y,Y⟩)
  (fun os started H enc _=>PA os started H enc)
theorem planEnds_card:Rows.PlanEndsCardSaid:=
 Claim7.holds_tied_plain_at .later [] [.handle] true _ true
  Rn (fun _ h=>by cases h) Ab (fun _ h=>by cases h) planEnds_row_tie rfl ⟨rfl,rfl⟩ Ab rfl
  (fun f fn hf hfn=>by
   obtain rfl:f=3:=Option.some.inj ((show Tryz.prog.funcNamed Rows.planEndsRow.func=some 3 from W5).symm.trans hf)|>.symm
   obtain rfl:fn=Tryz.f3:=(Option.some.inj (Tryz.func3.symm.trans hfn)).symm
   exact⟨Ab,fun j t ht=>by
    rw[Tryz.params3]at ht
    have hm:t∈[39,3,4,3]:=by simpa using Array.mem_of_getElem? ht
    have hall:([39,3,4,3].all fun u=> !Tryz.prog.wantsStandIn u)=true:=Ab
    exact(show Tryz.prog.wantsStandIn t=false by simpa using List.all_eq_true.1 hall t hm)⟩)
  Alr
#print axioms planEnds_card
end Go.Proofs.YtmohpcgmdheafaaGreatDoor
