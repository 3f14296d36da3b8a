/- Lemmas toward the law; each names its conditions. -/
import Derived.Test.YtppffhlbcgpgdaaGreatDoorYK20
set_option linter.all false
set_option maxRecDepth 100000
set_option maxHeartbeats 8000000
namespace Go.Proofs.YtppffhlbcgpgdaaGreatDoor
open Go.Am
attribute [local irreducible] Decidable.decide Tr A6 CG EJ
theorem Afg (a b:Req) (ha:a.b.rZ.length<=1000000):A3z 74 [.agg (Af (A7 a)),.agg (Af (A7 b))] [] (.t (.bool (decide (a=b)))) []:=by
 refine yF Tryz.func74 ?_
 repeat'(first|exact Au|refine yC ?_ ?_|refine⟨λh=>?_⟩|refine BZ (Xn a.b b.b ha) ?_|fail)
 ·refine Ah Y (BL (bI ?_))
  rcases a with⟨a1,a2,a3,a4,a5,a6,a7,a8,a9,a10,a11⟩
  rcases b with⟨b1,b2,b3,b4,b5,b6,b7,b8,b9,b10,b11⟩
  simp at*;simp[*]
 all_goals exact Ah Y (BL (bF (λe=>by subst e;simp at*)))
theorem PH (q:Req):(CY q=Apx q.kind)↔(VQ q=q):=by
 rcases q with⟨k,t,to,p,e,pa,g,o,m,y,b⟩
 simp only[CY,VQ,Apx]
 repeat' split
 all_goals(try(exfalso;omega))
 all_goals(constructor<;>intro h<;>simp_all<;>omega)
def Tj (q:Req):St:=[(1,.cells [AV.t T.nilPtr,AV.t (T.int .i8 q.kind),AV.t (T.int .i64 q.mY),AV.t (T.int .i64 q.mZ),AV.t (T.int .i64 q.lO),AV.t (T.int .i64 q.lT),AV.t (T.int .i64 q.part),AV.t (T.int .i64 q.sZ),AV.t (T.int .i64 q.offset),AV.t (T.int .i64 q.most),AV.t (T.bool q.oC),AV.t (T.int .i64 q.b.lO),AV.t (T.int .i64 q.b.lT),AV.t (T.int .i64 q.b.seq),AV.t (T.bool q.b.vV),AV.t (T.slice .any 2 (q.b.rZ.map AX)),AV.t (T.slice .nil 0 []),AV.t T.nilIface])]
theorem Ao2 (q:Req):TP (Tj q) (wS ⟨q,[],none⟩):=
 ⟨⟨Y,show Fv _ _ from⟨A3l _,A3l _,A3l _,A3l _,A3l _,A3l _,A3l _,A3l _,A3l _,A3l _,A3l _,A3l _,A3l _,A3l _,A3l _,A3l _,Ay,A3l _,trivial⟩⟩,trivial⟩
theorem Hs.weakS {P:Program} {f:Nat} {xs:List AV} {σ σ0:St} {ι:Type} {V:ι->Prop} {r:ι->AV} {s:ι->St} (h:Hs P f xs σ0 V r s) (hσ:TP σ σ0):Hs P f xs σ V r s:=
 ⟨h.1,λvs w g hr hi=>h.2 vs w g hr (hσ.inv hi)⟩
theorem X1 (q:Req) (hq:q.b.rZ.length<=1000000):(CY q).b.rZ.length<=1000000:=by
 unfold CY;repeat' split
 all_goals(first|exact hq|(simp[Nf];done)|omega)
def A0r (q:Req):Prop:=Hs Tryz.prog 73 [.ref 1 0,.t (.int .i8 q.kind)] (wS ⟨q,[],none⟩) (VR q) (λ_=>.tuple []) wS
theorem Aff (q:Req) (hq:q.b.rZ.length<=1000000) (ha:A0r q):Hs Tryz.prog 44 [.agg (Af (A7 q))] [] (λp:T×T=>(Fa q=true/\p.2=.nilIface)\/(Fa q=false/\ ∃f n,p.2=.iface 149 (.ptr [.str f,.int .i64 n]))) (λp=>.tuple [.t p.1,.t p.2]) (λ_=>[]):=by
 refine Dz Ai Tryz.func44 Y Y ?_
 repeat'(first|exact Au|refine yC ?_ ?_|refine⟨λh=>?_⟩|refine B5 4 5 ?_|refine B5 5 7 ?_|refine B5 7 8 ?_|refine JO Ai [(14,1)] [(1,14)] Y Y Y Y Y (Hs.weakS ha (Ao2 q)) Y (λ_ _=>rfl) (λ_ _=>rfl) (λ_ _=>rfl) (λj hj=>?_)|fail)
 obtain⟨jq,jb,je⟩:=j;obtain⟨h1,h2⟩:=hj
 cases je with
 |some fn=>
  have hm:Fa q=false:=by
   cases hr:B8 q with
   |false=>simp[Fa,hr]
   |true=>have:=h1.2 hr;cases this
  repeat'(first|exact Au|refine yC ?_ ?_|refine⟨λh=>?_⟩|refine B5 4 5 ?_|refine B5 5 7 ?_|refine B5 7 8 ?_|fail)
  exact Ir (_,_) (.inr ⟨hm,_,_,Y⟩) [1,7] Y Y Y (A3l _)
 |none=>
  have hr:B8 q=true:=h1.1 Y;have hjb:jb.length<=10000:=(h2 Y).2;have hjq:jq=CY q:=(h2 Y).1;subst hjq
  have cs:A3z 74 [.agg (Af (A7 (CY q))),.agg [AV.t (T.int .i8 q.kind),AV.t (T.int .i64 0),AV.t (T.int .i64 0),AV.t (T.int .i64 0),AV.t (T.int .i64 0),AV.t (T.int .i64 0),AV.t (T.int .i64 0),AV.t (T.int .i64 0),AV.t (T.int .i64 0),AV.t (T.bool false),AV.t (T.int .i64 0),AV.t (T.int .i64 0),AV.t (T.int .i64 0),AV.t (T.bool false),AV.t (T.slice .nil 0 [])]] [] _ []:=
   (Afg (CY q) (Apx q.kind) (X1 q hq)).args ⟨A3l _,AC (show Fv _ _ from⟨A3l _,A3l _,A3l _,A3l _,A3l _,A3l _,A3l _,A3l _,A3l _,A3l _,A3l _,A3l _,A3l _,A3l _,Ay,trivial⟩),trivial⟩
  by_cases ho:VQ q=q
  ·have hm:Fa q=true:=by simp[Fa,hr,ho]
   rw[A32 ((PH q).2 ho)]at cs
   repeat'(first|exact Au|refine yC ?_ ?_|refine⟨λh=>?_⟩|refine B5 4 5 ?_|refine B5 5 7 ?_|refine B5 7 8 ?_|refine TU Ai Y Y Y Y Y Y Y Y Y Y Y Y (by simp[CH];omega) ?_|fail)
   exact Ir (_,_) (.inl ⟨hm,Y⟩) [1,7] Y Y Y (A3l _)
  ·have hm:Fa q=false:=by simp[Fa,hr,ho]
   rw[A44 (λe=>ho ((PH q).1 e))]at cs
   repeat'(first|exact Au|refine yC ?_ ?_|refine⟨λh=>?_⟩|refine B5 4 5 ?_|refine B5 5 7 ?_|refine B5 7 8 ?_|fail)
   exact Ir (_,_) (.inr ⟨hm,_,_,Y⟩) [1,7] Y Y Y (A3l _)
theorem Apk (q:Req) (hq:q.b.rZ.length<=1000000) (ha:A0r q):A3z 28 [.agg (Af (A7 q))] [] (.t (.bool (Fa q))) []:=by
 refine yF Tryz.func28 ?_
 repeat'(first|exact Au|refine yC ?_ ?_|refine⟨λh=>?_⟩|refine JO Ai [] [] Y Y Y Y Y (Aff q hq ha) Y (λ_ _=>rfl) (λ_ _=>rfl) (λ_ _=>rfl) (λj hj=>?_)|fail)
 obtain⟨jx,je⟩:=j;rcases hj with⟨hm,rfl⟩|⟨hm,f,n,rfl⟩
 all_goals
  rw[hm]
  repeat'(first|exact Au|refine yC ?_ ?_|refine⟨λh=>?_⟩|fail)
  exact Ah Y (A3m Y)
theorem Xr (q:Req) (hq:q.b.rZ.length<=1000000):A3z 28 [.agg (Af (A7 q))] [] (.t (.bool (Fa q))) []:=Apk q hq (Ap4 q hq)
theorem Aod (n a b:Int):A3z 33 [.t (.int .i64 n),.t (.int .i64 a),.t (.int .i64 b)] [] (.t (.bool (decide (a<=n/\n<=b)))) []:=by
 refine yF Tryz.func33 ?_
 repeat'(first|exact Au|refine yC ?_ ?_|refine⟨λh=>?_⟩|fail)
 all_goals(refine Ah Y (BL ?_);(first|exact bI Aa|exact bT Aa|exact bF Aa))
theorem Asx (a b:Req) (ha:a.b.rZ.length<=1000000):A3z 35 [.agg (Af (A7 a)),.agg (Af (A7 b))] [] (.t (.bool (decide (a=b)))) []:=by
 refine yF Tryz.func35 ?_
 repeat'(first|exact Au|refine yC ?_ ?_|refine⟨λh=>?_⟩|refine BZ (Asy a.b b.b ha) ?_|fail)
 ·refine Ah Y (BL (bI ?_))
  rcases a with⟨a1,a2,a3,a4,a5,a6,a7,a8,a9,a10,a11⟩
  rcases b with⟨b1,b2,b3,b4,b5,b6,b7,b8,b9,b10,b11⟩
  simp at*;simp[*]
 all_goals exact Ah Y (BL (bF (λe=>by subst e;simp at*)))
theorem Alr (k t to p e pa g o m:Int) (y:Bool) (r:Req):A3z 35 [.agg [AV.t (T.int .i8 k),AV.t (T.int .i64 t),AV.t (T.int .i64 to),AV.t (T.int .i64 p),AV.t (T.int .i64 e),AV.t (T.int .i64 pa),AV.t (T.int .i64 g),AV.t (T.int .i64 o),AV.t (T.int .i64 m),AV.t (T.bool y),AV.t (T.int .i64 0),AV.t (T.int .i64 0),AV.t (T.int .i64 0),AV.t (T.bool false),AV.t (T.slice .nil 0 [])],.agg (Af (A7 r))] [] (.t (.bool (decide ((⟨k,t,to,p,e,pa,g,o,m,y,Nf⟩:Req)=r)))) []:=
 (Asx ⟨k,t,to,p,e,pa,g,o,m,y,Nf⟩ r (by simp[Nf])).args ⟨AC (show Fv _ _ from⟨A3l _,A3l _,A3l _,A3l _,A3l _,A3l _,A3l _,A3l _,A3l _,A3l _,A3l _,A3l _,A3l _,A3l _,Ay,trivial⟩),A3l _,trivial⟩
theorem A4s (mY mZ lO lT part sZ offset most:Int) (oC:Bool) (b:Batch) (hq:b.rZ.length<=1000000):A3z 12 [.agg (Af (A7 ⟨0,mY,mZ,lO,lT,part,sZ,offset,most,oC,b⟩))] [] (.t (.bool (Fa ⟨0,mY,mZ,lO,lT,part,sZ,offset,most,oC,b⟩))) []:=by
 have cs:=Alr 0 0 0 0 0 0 0 0 0 false ⟨0,mY,mZ,lO,lT,part,sZ,offset,most,oC,b⟩;refine yF Tryz.func12 ?_
 repeat'(first|exact Au|refine yC ?_ ?_|refine⟨λh=>?_⟩|refine Ab0 ?_ (c:=Aod _ _ _)|refine BZ (Anl b) ?_|fail)
 all_goals(refine Ah Y (BL ?_);simp only[Fa,B8,VQ,Apx];first|(simp_all;done)|(simp_all;intros;exfalso;omega))
theorem A4r (mY mZ lO lT part sZ offset most:Int) (oC:Bool) (b:Batch) (hq:b.rZ.length<=1000000):A3z 12 [.agg (Af (A7 ⟨1,mY,mZ,lO,lT,part,sZ,offset,most,oC,b⟩))] [] (.t (.bool (Fa ⟨1,mY,mZ,lO,lT,part,sZ,offset,most,oC,b⟩))) []:=by
 have cs:=Alr 1 mY mZ 0 0 0 0 0 0 false ⟨1,mY,mZ,lO,lT,part,sZ,offset,most,oC,b⟩;refine yF Tryz.func12 ?_
 repeat'(first|exact Au|refine yC ?_ ?_|refine⟨λh=>?_⟩|refine Ab0 ?_ (c:=Aod _ _ _)|refine BZ (Anl b) ?_|fail)
 all_goals(refine Ah Y (BL ?_);simp only[Fa,B8,VQ,Apx];first|(simp_all;done)|(simp_all;intros;exfalso;omega))
theorem A4q (mY mZ lO lT part sZ offset most:Int) (oC:Bool) (b:Batch) (hq:b.rZ.length<=1000000):A3z 12 [.agg (Af (A7 ⟨2,mY,mZ,lO,lT,part,sZ,offset,most,oC,b⟩))] [] (.t (.bool (Fa ⟨2,mY,mZ,lO,lT,part,sZ,offset,most,oC,b⟩))) []:=by
 have cs:=Asx ({Apx 2 with part:=part,b:=b}) ⟨2,mY,mZ,lO,lT,part,sZ,offset,most,oC,b⟩ (by first|exact hq|simp[Apx,Nf]);refine yF Tryz.func12 ?_
 repeat'(first|exact Au|refine yC ?_ ?_|refine⟨λh=>?_⟩|refine Ab0 ?_ (c:=Aod _ _ _)|refine BZ (Anl b) ?_|fail)
 all_goals(refine Ah Y (BL ?_);simp only[Fa,B8,VQ,Apx];first|(simp_all;done)|(simp_all;intros;exfalso;omega))
theorem A4p (mY mZ lO lT part sZ offset most:Int) (oC:Bool) (b:Batch) (hq:b.rZ.length<=1000000):A3z 12 [.agg (Af (A7 ⟨3,mY,mZ,lO,lT,part,sZ,offset,most,oC,b⟩))] [] (.t (.bool (Fa ⟨3,mY,mZ,lO,lT,part,sZ,offset,most,oC,b⟩))) []:=by
 have cs:=Alr 3 0 0 lO lT part sZ offset 0 false ⟨3,mY,mZ,lO,lT,part,sZ,offset,most,oC,b⟩;refine yF Tryz.func12 ?_
 repeat'(first|exact Au|refine yC ?_ ?_|refine⟨λh=>?_⟩|refine Ab0 ?_ (c:=Aod _ _ _)|refine BZ (Anl b) ?_|fail)
 all_goals(refine Ah Y (BL ?_);simp only[Fa,B8,VQ,Apx];first|(simp_all;done)|(simp_all;intros;exfalso;omega))
theorem A4o (mY mZ lO lT part sZ offset most:Int) (oC:Bool) (b:Batch) (hq:b.rZ.length<=1000000):A3z 12 [.agg (Af (A7 ⟨4,mY,mZ,lO,lT,part,sZ,offset,most,oC,b⟩))] [] (.t (.bool (Fa ⟨4,mY,mZ,lO,lT,part,sZ,offset,most,oC,b⟩))) []:=by
 have cs:=Alr 4 0 0 lO lT 0 0 0 0 oC ⟨4,mY,mZ,lO,lT,part,sZ,offset,most,oC,b⟩;refine yF Tryz.func12 ?_
 repeat'(first|exact Au|refine yC ?_ ?_|refine⟨λh=>?_⟩|refine Ab0 ?_ (c:=Aod _ _ _)|refine BZ (Anl b) ?_|fail)
 all_goals(refine Ah Y (BL ?_);simp only[Fa,B8,VQ,Apx];first|(simp_all;done)|(simp_all;intros;exfalso;omega))
theorem A4n (mY mZ lO lT part sZ offset most:Int) (oC:Bool) (b:Batch) (hq:b.rZ.length<=1000000):A3z 12 [.agg (Af (A7 ⟨5,mY,mZ,lO,lT,part,sZ,offset,most,oC,b⟩))] [] (.t (.bool (Fa ⟨5,mY,mZ,lO,lT,part,sZ,offset,most,oC,b⟩))) []:=by
 have cs:=Alr 5 0 0 0 0 part 0 offset most oC ⟨5,mY,mZ,lO,lT,part,sZ,offset,most,oC,b⟩;refine yF Tryz.func12 ?_
 repeat'(first|exact Au|refine yC ?_ ?_|refine⟨λh=>?_⟩|refine Ab0 ?_ (c:=Aod _ _ _)|refine BZ (Anl b) ?_|fail)
 all_goals(refine Ah Y (BL ?_);simp only[Fa,B8,VQ,Apx];first|(simp_all;done)|(simp_all;intros;exfalso;omega))
theorem A4m (mY mZ lO lT part sZ offset most:Int) (oC:Bool) (b:Batch) (hq:b.rZ.length<=1000000):A3z 12 [.agg (Af (A7 ⟨6,mY,mZ,lO,lT,part,sZ,offset,most,oC,b⟩))] [] (.t (.bool (Fa ⟨6,mY,mZ,lO,lT,part,sZ,offset,most,oC,b⟩))) []:=by
 have cs:=Alr 6 0 0 0 0 part sZ offset 0 false ⟨6,mY,mZ,lO,lT,part,sZ,offset,most,oC,b⟩;refine yF Tryz.func12 ?_
 repeat'(first|exact Au|refine yC ?_ ?_|refine⟨λh=>?_⟩|refine Ab0 ?_ (c:=Aod _ _ _)|refine BZ (Anl b) ?_|fail)
 all_goals(refine Ah Y (BL ?_);simp only[Fa,B8,VQ,Apx];first|(simp_all;done)|(simp_all;intros;exfalso;omega))
theorem A4l (mY mZ lO lT part sZ offset most:Int) (oC:Bool) (b:Batch) (hq:b.rZ.length<=1000000):A3z 12 [.agg (Af (A7 ⟨7,mY,mZ,lO,lT,part,sZ,offset,most,oC,b⟩))] [] (.t (.bool (Fa ⟨7,mY,mZ,lO,lT,part,sZ,offset,most,oC,b⟩))) []:=by
 have cs:=Alr 7 0 0 0 0 part sZ 0 0 false ⟨7,mY,mZ,lO,lT,part,sZ,offset,most,oC,b⟩;refine yF Tryz.func12 ?_
 repeat'(first|exact Au|refine yC ?_ ?_|refine⟨λh=>?_⟩|refine Ab0 ?_ (c:=Aod _ _ _)|refine BZ (Anl b) ?_|fail)
 all_goals(refine Ah Y (BL ?_);simp only[Fa,B8,VQ,Apx];first|(simp_all;done)|(simp_all;intros;exfalso;omega))
theorem A4k (mY mZ lO lT part sZ offset most:Int) (oC:Bool) (b:Batch) (hq:b.rZ.length<=1000000):A3z 12 [.agg (Af (A7 ⟨8,mY,mZ,lO,lT,part,sZ,offset,most,oC,b⟩))] [] (.t (.bool (Fa ⟨8,mY,mZ,lO,lT,part,sZ,offset,most,oC,b⟩))) []:=by
 have cs:=Alr 8 0 0 0 0 part 0 offset 0 false ⟨8,mY,mZ,lO,lT,part,sZ,offset,most,oC,b⟩;refine yF Tryz.func12 ?_
 repeat'(first|exact Au|refine yC ?_ ?_|refine⟨λh=>?_⟩|refine Ab0 ?_ (c:=Aod _ _ _)|refine BZ (Anl b) ?_|fail)
 all_goals(refine Ah Y (BL ?_);simp only[Fa,B8,VQ,Apx];first|(simp_all;done)|(simp_all;intros;exfalso;omega))
theorem A4j (mY mZ lO lT part sZ offset most:Int) (oC:Bool) (b:Batch) (hq:b.rZ.length<=1000000):A3z 12 [.agg (Af (A7 ⟨9,mY,mZ,lO,lT,part,sZ,offset,most,oC,b⟩))] [] (.t (.bool (Fa ⟨9,mY,mZ,lO,lT,part,sZ,offset,most,oC,b⟩))) []:=by
 have cs:=Alr 9 0 0 0 0 0 0 0 0 false ⟨9,mY,mZ,lO,lT,part,sZ,offset,most,oC,b⟩;refine yF Tryz.func12 ?_
 repeat'(first|exact Au|refine yC ?_ ?_|refine⟨λh=>?_⟩|refine Ab0 ?_ (c:=Aod _ _ _)|refine BZ (Anl b) ?_|fail)
 all_goals(refine Ah Y (BL ?_);simp only[Fa,B8,VQ,Apx];first|(simp_all;done)|(simp_all;intros;exfalso;omega))
theorem A3f (r:Req) (h: ¬(0<=r.kind/\r.kind<=9)):A3z 12 [.agg (Af (A7 r))] [] (.t (.bool (Fa r))) []:=by
 have hm:Fa r=false:=by
  have:B8 r=false:=by
   unfold B8
   repeat (rw[Ug Aa])
  simp[Fa,this]
 rw[hm];refine yF Tryz.func12 ?_
 repeat'(first|exact Au|refine yC ?_ ?_|refine⟨λh=>?_⟩|refine Ab0 ?_ (c:=Aod _ _ _)|fail)
 all_goals first|exact Ah Y (A3m Y)|(exfalso;omega)
theorem A3e (r:Req) (hq:r.b.rZ.length<=1000000):A3z 12 [.agg (Af (A7 r))] [] (.t (.bool (Fa r))) []:=by
 by_cases h:0<=r.kind/\r.kind<=9
 ·obtain⟨k,t,to,p,e,pa,g,o,m,y,b⟩:=r;dsimp only at h hq;have hc:k=0\/k=1\/k=2\/k=3\/k=4\/k=5\/k=6\/k=7\/k=8\/k=9:=Aa;rcases hc with rfl|rfl|rfl|rfl|rfl|rfl|rfl|rfl|rfl|rfl
  all_goals first
   |exact A4s t to p e pa g o m y b hq
   |exact A4r t to p e pa g o m y b hq
   |exact A4q t to p e pa g o m y b hq
   |exact A4p t to p e pa g o m y b hq
   |exact A4o t to p e pa g o m y b hq
   |exact A4n t to p e pa g o m y b hq
   |exact A4m t to p e pa g o m y b hq
   |exact A4l t to p e pa g o m y b hq
   |exact A4k t to p e pa g o m y b hq
   |exact A4j t to p e pa g o m y b hq
 ·exact A3f r h
