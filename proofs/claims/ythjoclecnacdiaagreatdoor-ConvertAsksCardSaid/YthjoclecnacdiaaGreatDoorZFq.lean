/- ConvertAsks: for every input the law returns true, and its arguments read as they did; the card of the seat. No condition beside the row's own. -/
import Derived.Test.YthjoclecnacdiaaGreatDoorZW3
import Derived.Test.YthjoclecnacdiaaGreatDoorZWq
import Derived.Test.YthjoclecnacdiaaGreatDoorCards
import Derived.Test.YthjoclecnacdiaaGreatDoorTie
import Derived.SevenTiedAt
import Derived.Carry
set_option linter.unusedVariables false
set_option linter.unusedSimpArgs false
namespace Go.Proofs.YthjoclecnacdiaaGreatDoor
open Go.Am Go.ChangeShapes Go.WideShapes Go.RowKit
set_option maxRecDepth 100000
theorem KC:K5 Tryz.prog 27 T4=true:=U
theorem KB:K5 Tryz.prog 31 NF=true:=U
theorem KA:K5 Tryz.prog 3 (.int .i64)=true:=U
theorem K9:K5 Tryz.prog 32 (.slice NE)=true:=U
theorem I9 (os:Os) (started:os.Started) (H:Type) (enc:TypeId×Value→H):
  ReturnsInHanded {} Tryz.checked os 3 .any (fun w args=>(Rows.convertAsksSpec.pre enc Tryz.prog Tryz.f3 [] false w args∧laidMetH Tryz.prog Kd w)∧sizedMet enc Tryz.prog Tryz.f3 (OpenSpec.ofChange Rows.convertAsksSpec) false w args)
   (Rows.convertAsksSpec.post enc Tryz.prog Tryz.f3 false true false false):=by
 refine returnsInHanded_of_change_and (C:=Tryz.checked) (X:=fun w _=>laidMetH Tryz.prog Kd w) (fun _ _ _ hh h=>h.of_heap hh) Yx started U Tryz.func3
  (ChangeSpec.witness_at (enc:=enc) (C:=Tryz.checked) (os:=os) (X:=fun w _=>laidMetH Tryz.prog Kd w) false (Nj os) #[.agg #[.int .i8 0,.int .i64 0,.int .i64 0,.int .i64 0,.int .i64 0,.int .i64 0,.int .i64 0,.int .i64 0,.int .i64 0,.bool false,.int .i64 0,.int .i64 0,.int .i64 0,.bool false,.slice none 0 0],.agg #[.int .i8 0,.int .i64 0,.int .i64 0,.int .i64 0,.int .i64 0,.slice none 0 0],.int .i64 0,.slice none 0 0] 8 J U U U U U (Mv os _)) ?_
 intro W base args ds gs before hval0 hW _ _ hL _
 have hval: ∀(j:Nat) t v,Tryz.f3.params[j]?=some t→args[j]?=some v→Value.okWide Tryz.prog W .any base t v:=hval0
 have hW':=hW
 obtain⟨p,q,hA0,hV0,rfl,hfz,hnd⟩:=hW
 have hA:DataW.TrodAll enc Tryz.prog W 0 (fun _=>true) true Tryz.f3.params.toList args.toList ds p:=hA0
 have hV:DataW.TrodVars enc Tryz.prog W (fun _=>true) [] gs q:=hV0
 have hA1:=hA
 rw[Tryz.params3]at hA hval
 obtain⟨v0,v1,v2,v3,d0,d1,d2,d3,p0,p1,p2,p3,rfl,rfl,rfl,⟨n0,h0⟩,⟨n1,h1⟩,⟨n2,h2⟩,⟨n3,h3⟩⟩:=trodAll_four hA
 obtain⟨rfl,rfl⟩:=trodVars_none hV
 obtain⟨xs0,q0,r0⟩:=H2 _ _ _ _ _ KC h0
 obtain⟨r,rfl⟩:=Aba q0
 obtain⟨xs1,q1,r1⟩:=H2 _ _ _ _ _ KB h1
 obtain⟨x,rfl⟩:=V4 q1
 have o2:=Q7 Tryz.underlying3 (hval 2 _ v2 J J)
 obtain⟨xs2,q2,r2⟩:=H2 _ _ _ _ _ KA h2
 simp only[Sh.Q]at q2
 obtain⟨i,rfl⟩:=q2
 have o3:=NQ Tryz.underlying32 (hval 3 _ v3 J J)
 obtain⟨xs3,q3,r3⟩:=H2 _ _ _ _ _ K9 h3
 simp only[Sh.Q]at q3
 obtain⟨ess3,hess3,rfl⟩:=q3
 obtain⟨l,rfl⟩:=JD (f:=AN) fun y hy=>V3 (hess3 y hy)
 have hc:=(Mc r x i l).2 [v0,v1,v2,v3] W g00 ⟨J,fun i v x hv hx=>by
  match i with
  |0=>simp at hv hx;subst hv;subst hx;exact HP Tryz.underlying27 (hval 0 _ _ J J) r0
  |1=>simp at hv hx;subst hv;subst hx;exact HP Tryz.underlying31 (hval 1 _ _ J J) r1
  |2=>simp at hv hx;subst hv;subst hx;exact Lu o2 r2
  |3=>simp at hv hx;subst hv;subst hx;exact Lu o3 r3
  |i+4=>simp at hv⟩ (VJ (LP hL))
 refine Calls.mono hc fun e w'=>?_
 rintro⟨v,g',rfl,hx,hv,_⟩
 have hvt:=D4 hv
 subst hvt
 have e1:Rows.convertAsksSpec.fn H ([d0,d1,d2,d3]++[])={results:=[.lit (.bool true)],args:=[d0,d1,d2,d3]}:=by simp[Rows.convertAsksSpec]
 have hlt: ∀x∈p0++p1++p2++p3,x.block<W.heap.size:=fun x hx=>hW'.lt x (by simpa using hx)
 refine⟨_,J,_,_,_,[],p0++p1++p2++p3,[],hW',?_,?_,?_,OW hx _,fun h=>by cases h⟩
 ·rw[e1];exact trodAll_mk1 (shut_bool Tryz.underlying4 true)
 ·rw[e1]
  exact PK (DataW.TrodAll.respare VO VP (by rw[Tryz.params3];decide) hA1 (fun x hx=>by simpa using hlt x hx)) (fun x hxp=>O5 hx (hlt x hxp))
 ·rw[e1];rfl
theorem J4:Rows.ConvertAsksSaid:=
 OpenClaim.holds_of_wide 3 Tryz.f3 J J J J J J J ⟨J,J,J,J,J⟩ J J J J J U Tryz.func3 U
  (of_decide_eq_true U) (by unfold Func.isWrapper;rw[if_neg (of_decide_eq_false U)];exact⟨J,J⟩)
  (fun os started H enc _=>I9 os started H enc)
theorem convertAsks_card:Rows.ConvertAsksCardSaid:=
 Claim7.holds_tied_plain_at .later [] [.data,.data,.data,.handle] true _ true
  J4 (fun _ h=>by cases h) U (fun _ h=>by cases h) convertAsks_row_tie rfl ⟨rfl,rfl⟩ U rfl
  (fun f fn hf hfn=>by
   obtain rfl:f=3:=Option.some.inj ((show Tryz.prog.funcNamed Rows.convertAsksRow.func=some 3 from U).symm.trans hf)|>.symm
   obtain rfl:fn=Tryz.f3:=(Option.some.inj (Tryz.func3.symm.trans hfn)).symm
   exact⟨U,fun j t ht=>by
    rw[Tryz.params3]at ht
    have hm:t∈[27,31,3,32]:=by simpa using Array.mem_of_getElem? ht
    have hall:([27,31,3,32].all fun u=> !Tryz.prog.wantsStandIn u)=true:=U
    exact(show Tryz.prog.wantsStandIn t=false by simpa using List.all_eq_true.1 hall t hm)⟩)
  U
#print axioms convertAsks_card
end Go.Proofs.YthjoclecnacdiaaGreatDoor
