/- Contracts of the program and of references: requests that may be. -/
import Derived.Test.YthjoclecnacdiaaGreatDoorZM9
import Derived.Test.YthjoclecnacdiaaGreatDoorZM10
import Derived.Test.YthjoclecnacdiaaGreatDoorZM11
import Derived.Test.YthjoclecnacdiaaGreatDoorZWd
import Derived.Test.YthjoclecnacdiaaGreatDoorZW1
set_option linter.unusedVariables false
set_option linter.unusedSimpArgs false
namespace Go.Proofs.YthjoclecnacdiaaGreatDoor
open Go.Am
attribute [local irreducible] Decidable.decide
set_option maxRecDepth 100000
set_option maxHeartbeats 1000000
theorem Sz (a b:Req) (ha:a.b.recs.length≤1000000):Ct Tryz.prog 56 [.agg (AA (BU a)),.agg (AA (BU b))] [] (.t (.bool (decide (a=b)))) []:=by
 refine ct0 Ab Tryz.func56 J false J J ?_
 repeat'(first|refine Ak Ab J J J J J ?_|refine Ap Ab J J J ?_|refine A0 ?_|refine A9 ?_|refine Aw Ab J J ?_|(refine A1 J J J J J (ht:=fun h=>?_) (hf:=fun h=>?_)<;>try exact prn)|(refine A2 J J J J J (ht:=fun h=>?_) (hf:=fun h=>?_)<;>try exact prn)|refine Ag J J J J J ?_|(refine Al J (ht:=fun h=>?_) (hf:=fun h=>?_)<;>try exact prn)|refine Au ?_|refine Aq ?_|refine Ar ?_|refine A3 ?_|refine Aj Ab J J J J J J J (Ac Z) J ?_|refine Ae Ab J J J J J J J Z (Ac Z) J ?_|refine Ah Ab J J J J J J J J J J J J J (by simp[Ad];omega) ?_|refine Af Ab J J J J J J J J J J J J J J (by simp[Ad];omega) ?_|refine A8 Ab J J J J J (fun _=>rfl) (fun b hb=>?_)|refine As J J J J ?_|refine A4 ?_|(refine A5 J J J J J (ht:=fun h=>?_) (hf:=fun h=>?_)<;>try exact prn)|(refine A6 J J J J J (ht:=fun h=>?_) (hf:=fun h=>?_)<;>try exact prn)|refine Ai J J J J J ?_|refine An J J J J J J J (Ac Z) J ?_|refine Ao J J J J J J J Z (Ac Z) J ?_|refine A7 Ab J J J J J J J (TA a.b b.b ha) J J ?_)
 ·refine AC J (BN (bI ?_))
  rcases a with⟨a1,a2,a3,a4,a5,a6,a7,a8,a9,a10,a11⟩
  rcases b with⟨b1,b2,b3,b4,b5,b6,b7,b8,b9,b10,b11⟩
  simp at*;simp[*]
 all_goals exact AC J (BN (bF (fun e=>by subst e;simp at*)))
theorem Kr (q:Req):(Co q=FA q.kind)↔(DR q=q):=by
 rcases q with⟨k,t,to,p,e,pa,g,o,m,y,b⟩
 simp only[Co,DR,FA]
 repeat' split
 all_goals(try(exfalso;omega))
 all_goals(constructor<;>intro h<;>simp_all<;>omega)
def wS0 (q:Req):St:=[(1,.cells [AV.t T.nilPtr,AV.t (T.int .i8 q.kind),AV.t (T.int .i64 q.tid),AV.t (T.int .i64 q.timeout),AV.t (T.int .i64 q.pid),AV.t (T.int .i64 q.epoch),AV.t (T.int .i64 q.part),AV.t (T.int .i64 q.group),AV.t (T.int .i64 q.offset),AV.t (T.int .i64 q.most),AV.t (T.bool q.yes),AV.t (T.int .i64 q.b.pid),AV.t (T.int .i64 q.b.epoch),AV.t (T.int .i64 q.b.seq),AV.t (T.bool q.b.txn),AV.t (T.slice .any 2 (q.b.recs.map Bk)),AV.t (T.slice .nil 0 []),AV.t T.nilIface])]
theorem UT (q:Req):Oj (wS0 q) (wS ⟨q,[],none⟩):=
 ⟨⟨J,show Dm _ _ from⟨Sub.refl _,Sub.refl _,Sub.refl _,Sub.refl _,Sub.refl _,Sub.refl _,Sub.refl _,Sub.refl _,Sub.refl _,Sub.refl _,Sub.refl _,Sub.refl _,Sub.refl _,Sub.refl _,Sub.refl _,Sub.refl _,AY,Sub.refl _,trivial⟩⟩,trivial⟩
theorem CtF.weakS {P:Program} {f:Nat} {xs:List AV} {σ σ0:St} {ι:Type} {V:ι→Prop} {r:ι→AV} {s:ι→St} (h:CtF P f xs σ0 V r s) (hσ:Oj σ σ0):CtF P f xs σ V r s:=
 ⟨h.1,fun vs w g hr hi=>h.2 vs w g hr (hσ.inv hi)⟩
theorem OE (q:Req) (hq:q.b.recs.length≤1000000):(Co q).b.recs.length≤1000000:=by
 unfold Co;repeat' split
 all_goals(first|exact hq|(simp[EB];done)|omega)
theorem Qu (q:Req) (hq:q.b.recs.length≤1000000):CtF Tryz.prog 31 [.agg (AA (BU q))] [] (fun p:T×T=>(B4 q=true∧p.2=.nilIface)∨(B4 q=false∧ ∃f n,p.2=.iface 114 (.ptr [.str f,.int .i64 n]))) (fun p=>.tuple [.t p.1,.t p.2]) (fun _=>[]):=by
 refine ctF Ab Tryz.func31 J J ?_
 repeat'(first|refine Ak Ab J J J J J ?_|refine Ap Ab J J J ?_|refine A0 ?_|refine A9 ?_|refine Aw Ab J J ?_|(refine A1 J J J J J (ht:=fun h=>?_) (hf:=fun h=>?_)<;>try exact prn)|(refine A2 J J J J J (ht:=fun h=>?_) (hf:=fun h=>?_)<;>try exact prn)|refine Ag J J J J J ?_|(refine Al J (ht:=fun h=>?_) (hf:=fun h=>?_)<;>try exact prn)|refine Au ?_|refine Aq ?_|refine Ar ?_|refine A3 ?_|refine Aj Ab J J J J J J J (Ac Z) J ?_|refine Ae Ab J J J J J J J Z (Ac Z) J ?_|refine Ah Ab J J J J J J J J J J J J J (by simp[Ad];omega) ?_|refine Af Ab J J J J J J J J J J J J J J (by simp[Ad];omega) ?_|refine A8 Ab J J J J J (fun _=>rfl) (fun b hb=>?_)|refine AD (id:=4) (m:=5) Ab U J J J J ?_|refine AD (id:=5) (m:=7) Ab U J J J J ?_|refine AD (id:=7) (m:=8) Ab U J J J J ?_|refine As J J J J ?_|refine A4 ?_|(refine A5 J J J J J (ht:=fun h=>?_) (hf:=fun h=>?_)<;>try exact prn)|(refine A6 J J J J J (ht:=fun h=>?_) (hf:=fun h=>?_)<;>try exact prn)|refine Ai J J J J J ?_|refine An J J J J J J J (Ac Z) J ?_|refine Ao J J J J J J J Z (Ac Z) J ?_|refine EF Ab [(14,1)] [(1,14)] J J J J J (CtF.weakS (V1 q hq) (UT q)) J (fun _ _=>rfl) (fun _ _=>rfl) (fun _ _=>rfl) (fun j hj=>?_))
 obtain⟨jq,jb,je⟩:=j
 obtain⟨h1,h2⟩:=hj
 cases je with
 |some fn=>
  have hm:B4 q=false:=by
   cases hr:Bi q with
   |false=>simp[B4,hr]
   |true=>have:=h1.2 hr;cases this
  repeat'(first|refine Ak Ab J J J J J ?_|refine Ap Ab J J J ?_|refine A0 ?_|refine A9 ?_|refine Aw Ab J J ?_|(refine A1 J J J J J (ht:=fun h=>?_) (hf:=fun h=>?_)<;>try exact prn)|(refine A2 J J J J J (ht:=fun h=>?_) (hf:=fun h=>?_)<;>try exact prn)|refine Ag J J J J J ?_|(refine Al J (ht:=fun h=>?_) (hf:=fun h=>?_)<;>try exact prn)|refine Au ?_|refine Aq ?_|refine Ar ?_|refine A3 ?_|refine Aj Ab J J J J J J J (Ac Z) J ?_|refine Ae Ab J J J J J J J Z (Ac Z) J ?_|refine Ah Ab J J J J J J J J J J J J J (by simp[Ad];omega) ?_|refine Af Ab J J J J J J J J J J J J J J (by simp[Ad];omega) ?_|refine A8 Ab J J J J J (fun _=>rfl) (fun b hb=>?_)|refine AD (id:=4) (m:=5) Ab U J J J J ?_|refine AD (id:=5) (m:=7) Ab U J J J J ?_|refine AD (id:=7) (m:=8) Ab U J J J J ?_|refine As J J J J ?_|refine A4 ?_|(refine A5 J J J J J (ht:=fun h=>?_) (hf:=fun h=>?_)<;>try exact prn)|(refine A6 J J J J J (ht:=fun h=>?_) (hf:=fun h=>?_)<;>try exact prn)|refine Ai J J J J J ?_|refine An J J J J J J J (Ac Z) J ?_|refine Ao J J J J J J J Z (Ac Z) J ?_)
  exact Cq (_,_) (.inr ⟨hm,_,_,J⟩) [1,7] J J J (Sub.refl _)
 |none=>
  have hr:Bi q=true:=h1.1 J
  have hjb:jb.length≤10000:=(h2 J).2
  have hjq:jq=Co q:=(h2 J).1
  subst hjq
  have cs:Ct Tryz.prog 56 [.agg (AA (BU (Co q))),.agg [AV.t (T.int .i8 q.kind),AV.t (T.int .i64 0),AV.t (T.int .i64 0),AV.t (T.int .i64 0),AV.t (T.int .i64 0),AV.t (T.int .i64 0),AV.t (T.int .i64 0),AV.t (T.int .i64 0),AV.t (T.int .i64 0),AV.t (T.bool false),AV.t (T.int .i64 0),AV.t (T.int .i64 0),AV.t (T.int .i64 0),AV.t (T.bool false),AV.t (T.slice .nil 0 [])]] [] _ []:=
   (Sz (Co q) (FA q.kind) (OE q hq)).args ⟨Sub.refl _,BM (show Dm _ _ from⟨Sub.refl _,Sub.refl _,Sub.refl _,Sub.refl _,Sub.refl _,Sub.refl _,Sub.refl _,Sub.refl _,Sub.refl _,Sub.refl _,Sub.refl _,Sub.refl _,Sub.refl _,Sub.refl _,AY,trivial⟩),trivial⟩
  by_cases ho:DR q=q
  ·have hm:B4 q=true:=by simp[B4,hr,ho]
   rw[decide_eq_true ((Kr q).2 ho)]at cs
   repeat'(first|refine Ak Ab J J J J J ?_|refine Ap Ab J J J ?_|refine A0 ?_|refine A9 ?_|refine Aw Ab J J ?_|(refine A1 J J J J J (ht:=fun h=>?_) (hf:=fun h=>?_)<;>try exact prn)|(refine A2 J J J J J (ht:=fun h=>?_) (hf:=fun h=>?_)<;>try exact prn)|refine Ag J J J J J ?_|(refine Al J (ht:=fun h=>?_) (hf:=fun h=>?_)<;>try exact prn)|refine Au ?_|refine Aq ?_|refine Ar ?_|refine A3 ?_|refine Aj Ab J J J J J J J (Ac Z) J ?_|refine Ae Ab J J J J J J J Z (Ac Z) J ?_|refine Ah Ab J J J J J J J J J J J J J (by simp[Ad];omega) ?_|refine Af Ab J J J J J J J J J J J J J J (by simp[Ad];omega) ?_|refine A8 Ab J J J J J (fun _=>rfl) (fun b hb=>?_)|refine AD (id:=4) (m:=5) Ab U J J J J ?_|refine AD (id:=5) (m:=7) Ab U J J J J ?_|refine AD (id:=7) (m:=8) Ab U J J J J ?_|refine As J J J J ?_|refine A4 ?_|(refine A5 J J J J J (ht:=fun h=>?_) (hf:=fun h=>?_)<;>try exact prn)|(refine A6 J J J J J (ht:=fun h=>?_) (hf:=fun h=>?_)<;>try exact prn)|refine Ai J J J J J ?_|refine An J J J J J J J (Ac Z) J ?_|refine Ao J J J J J J J Z (Ac Z) J ?_|refine Bv J J J J J (cs) J J ?_|refine A7 Ab J J J J J J J (cs) J J ?_|refine Si Ab J J J J J J J J J J J J (by simp[Ad];omega) ?_)
   exact Cq (_,_) (.inl ⟨hm,J⟩) [1,7] J J J (Sub.refl _)
  ·have hm:B4 q=false:=by simp[B4,hr,ho]
   rw[decide_eq_false (fun e=>ho ((Kr q).1 e))]at cs
   repeat'(first|refine Ak Ab J J J J J ?_|refine Ap Ab J J J ?_|refine A0 ?_|refine A9 ?_|refine Aw Ab J J ?_|(refine A1 J J J J J (ht:=fun h=>?_) (hf:=fun h=>?_)<;>try exact prn)|(refine A2 J J J J J (ht:=fun h=>?_) (hf:=fun h=>?_)<;>try exact prn)|refine Ag J J J J J ?_|(refine Al J (ht:=fun h=>?_) (hf:=fun h=>?_)<;>try exact prn)|refine Au ?_|refine Aq ?_|refine Ar ?_|refine A3 ?_|refine Aj Ab J J J J J J J (Ac Z) J ?_|refine Ae Ab J J J J J J J Z (Ac Z) J ?_|refine Ah Ab J J J J J J J J J J J J J (by simp[Ad];omega) ?_|refine Af Ab J J J J J J J J J J J J J J (by simp[Ad];omega) ?_|refine A8 Ab J J J J J (fun _=>rfl) (fun b hb=>?_)|refine AD (id:=4) (m:=5) Ab U J J J J ?_|refine AD (id:=5) (m:=7) Ab U J J J J ?_|refine AD (id:=7) (m:=8) Ab U J J J J ?_|refine As J J J J ?_|refine A4 ?_|(refine A5 J J J J J (ht:=fun h=>?_) (hf:=fun h=>?_)<;>try exact prn)|(refine A6 J J J J J (ht:=fun h=>?_) (hf:=fun h=>?_)<;>try exact prn)|refine Ai J J J J J ?_|refine An J J J J J J J (Ac Z) J ?_|refine Ao J J J J J J J Z (Ac Z) J ?_|refine Bv J J J J J (cs) J J ?_|refine A7 Ab J J J J J J J (cs) J J ?_)
   exact Cq (_,_) (.inr ⟨hm,_,_,J⟩) [1,7] J J J (Sub.refl _)
theorem TB (q:Req) (hq:q.b.recs.length≤1000000):Ct Tryz.prog 18 [.agg (AA (BU q))] [] (.t (.bool (B4 q))) []:=by
 refine ct0 Ab Tryz.func18 J false J J ?_
 repeat'(first|refine Ak Ab J J J J J ?_|refine Ap Ab J J J ?_|refine A0 ?_|refine A9 ?_|refine Aw Ab J J ?_|(refine A1 J J J J J (ht:=fun h=>?_) (hf:=fun h=>?_)<;>try exact prn)|(refine A2 J J J J J (ht:=fun h=>?_) (hf:=fun h=>?_)<;>try exact prn)|refine Ag J J J J J ?_|(refine Al J (ht:=fun h=>?_) (hf:=fun h=>?_)<;>try exact prn)|refine Au ?_|refine Aq ?_|refine Ar ?_|refine A3 ?_|refine Aj Ab J J J J J J J (Ac Z) J ?_|refine Ae Ab J J J J J J J Z (Ac Z) J ?_|refine Ah Ab J J J J J J J J J J J J J (by simp[Ad];omega) ?_|refine Af Ab J J J J J J J J J J J J J J (by simp[Ad];omega) ?_|refine A8 Ab J J J J J (fun _=>rfl) (fun b hb=>?_)|refine As J J J J ?_|refine A4 ?_|(refine A5 J J J J J (ht:=fun h=>?_) (hf:=fun h=>?_)<;>try exact prn)|(refine A6 J J J J J (ht:=fun h=>?_) (hf:=fun h=>?_)<;>try exact prn)|refine Ai J J J J J ?_|refine An J J J J J J J (Ac Z) J ?_|refine Ao J J J J J J J Z (Ac Z) J ?_|refine EF Ab [] [] J J J J J (Qu q hq) J (fun _ _=>rfl) (fun _ _=>rfl) (fun _ _=>rfl) (fun j hj=>?_))
 obtain⟨jx,je⟩:=j
 rcases hj with⟨hm,rfl⟩|⟨hm,f,n,rfl⟩
 all_goals
  rw[hm]
  repeat'(first|refine Ak Ab J J J J J ?_|refine Ap Ab J J J ?_|refine A0 ?_|refine A9 ?_|refine Aw Ab J J ?_|(refine A1 J J J J J (ht:=fun h=>?_) (hf:=fun h=>?_)<;>try exact prn)|(refine A2 J J J J J (ht:=fun h=>?_) (hf:=fun h=>?_)<;>try exact prn)|refine Ag J J J J J ?_|(refine Al J (ht:=fun h=>?_) (hf:=fun h=>?_)<;>try exact prn)|refine Au ?_|refine Aq ?_|refine Ar ?_|refine A3 ?_|refine Aj Ab J J J J J J J (Ac Z) J ?_|refine Ae Ab J J J J J J J Z (Ac Z) J ?_|refine Ah Ab J J J J J J J J J J J J J (by simp[Ad];omega) ?_|refine Af Ab J J J J J J J J J J J J J J (by simp[Ad];omega) ?_|refine A8 Ab J J J J J (fun _=>rfl) (fun b hb=>?_)|refine As J J J J ?_|refine A4 ?_|(refine A5 J J J J J (ht:=fun h=>?_) (hf:=fun h=>?_)<;>try exact prn)|(refine A6 J J J J J (ht:=fun h=>?_) (hf:=fun h=>?_)<;>try exact prn)|refine Ai J J J J J ?_|refine An J J J J J J J (Ac Z) J ?_|refine Ao J J J J J J J Z (Ac Z) J ?_)
  exact AC J (Sub.of_eq J)
theorem Fg (n a b:Int):Ct Tryz.prog 36 [.t (.int .i64 n),.t (.int .i64 a),.t (.int .i64 b)] [] (.t (.bool (decide (a≤n∧n≤b)))) []:=by
 refine ct0 Ab Tryz.func36 J false J J ?_
 repeat'(first|refine Ak Ab J J J J J ?_|refine Ap Ab J J J ?_|refine A0 ?_|refine A9 ?_|refine Aw Ab J J ?_|(refine A1 J J J J J (ht:=fun h=>?_) (hf:=fun h=>?_)<;>try exact prn)|(refine A2 J J J J J (ht:=fun h=>?_) (hf:=fun h=>?_)<;>try exact prn)|refine Ag J J J J J ?_|(refine Al J (ht:=fun h=>?_) (hf:=fun h=>?_)<;>try exact prn)|refine Au ?_|refine Aq ?_|refine Ar ?_|refine A3 ?_|refine Aj Ab J J J J J J J (Ac Z) J ?_|refine Ae Ab J J J J J J J Z (Ac Z) J ?_|refine Ah Ab J J J J J J J J J J J J J (by simp[Ad];omega) ?_|refine Af Ab J J J J J J J J J J J J J J (by simp[Ad];omega) ?_|refine A8 Ab J J J J J (fun _=>rfl) (fun b hb=>?_)|refine As J J J J ?_|refine A4 ?_|(refine A5 J J J J J (ht:=fun h=>?_) (hf:=fun h=>?_)<;>try exact prn)|(refine A6 J J J J J (ht:=fun h=>?_) (hf:=fun h=>?_)<;>try exact prn)|refine Ai J J J J J ?_|refine An J J J J J J J (Ac Z) J ?_|refine Ao J J J J J J J Z (Ac Z) J ?_)
 all_goals(refine AC J (BN ?_);(first|exact bI O|exact bT O|exact bF O))
theorem Ln (a b:Req) (ha:a.b.recs.length≤1000000):Ct Tryz.prog 12 [.agg (AA (BU a)),.agg (AA (BU b))] [] (.t (.bool (decide (a=b)))) []:=by
 refine ct0 Ab Tryz.func12 J false J J ?_
 repeat'(first|refine Ak Ab J J J J J ?_|refine Ap Ab J J J ?_|refine A0 ?_|refine A9 ?_|refine Aw Ab J J ?_|(refine A1 J J J J J (ht:=fun h=>?_) (hf:=fun h=>?_)<;>try exact prn)|(refine A2 J J J J J (ht:=fun h=>?_) (hf:=fun h=>?_)<;>try exact prn)|refine Ag J J J J J ?_|(refine Al J (ht:=fun h=>?_) (hf:=fun h=>?_)<;>try exact prn)|refine Au ?_|refine Aq ?_|refine Ar ?_|refine A3 ?_|refine Aj Ab J J J J J J J (Ac Z) J ?_|refine Ae Ab J J J J J J J Z (Ac Z) J ?_|refine Ah Ab J J J J J J J J J J J J J (by simp[Ad];omega) ?_|refine Af Ab J J J J J J J J J J J J J J (by simp[Ad];omega) ?_|refine A8 Ab J J J J J (fun _=>rfl) (fun b hb=>?_)|refine As J J J J ?_|refine A4 ?_|(refine A5 J J J J J (ht:=fun h=>?_) (hf:=fun h=>?_)<;>try exact prn)|(refine A6 J J J J J (ht:=fun h=>?_) (hf:=fun h=>?_)<;>try exact prn)|refine Ai J J J J J ?_|refine An J J J J J J J (Ac Z) J ?_|refine Ao J J J J J J J Z (Ac Z) J ?_|refine A7 Ab J J J J J J J (T6 a.b b.b ha) J J ?_)
 ·refine AC J (BN (bI ?_))
  rcases a with⟨a1,a2,a3,a4,a5,a6,a7,a8,a9,a10,a11⟩
  rcases b with⟨b1,b2,b3,b4,b5,b6,b7,b8,b9,b10,b11⟩
  simp at*;simp[*]
 all_goals exact AC J (BN (bF (fun e=>by subst e;simp at*)))
end Go.Proofs.YthjoclecnacdiaaGreatDoor
