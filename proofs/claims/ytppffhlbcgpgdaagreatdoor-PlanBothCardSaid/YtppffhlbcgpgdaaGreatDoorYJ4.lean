/- Lemmas toward the law; each names its conditions. -/
import Derived.Test.YtppffhlbcgpgdaaGreatDoorYJ2
set_option linter.all false
set_option maxRecDepth 100000
set_option maxHeartbeats 8000000
namespace Go.Proofs.YtppffhlbcgpgdaaGreatDoor
open Go.Am
attribute [local irreducible] Decidable.decide Tr A6 CG EJ
theorem Ago (r:Rec):A3z 183 [.agg (Af (AX r))] [] (.t (.bool (!NJ r))) []:=by
 refine yF Tryz.func183 ?_
 repeat'(first|exact Au|refine yC ?_ ?_|refine⟨λh=>?_⟩|fail)
 all_goals(refine Ah Y (BL ?_);unfold NJ)
 all_goals(rw[A5f];simp;omega)
theorem Fk (b:Batch) (hl:b.rZ.length<=1000000000):A3z 120 [.agg (Af (Ak b))] [] (.t (.bool (A4 b))) []:=by
 refine yF Tryz.func120 ?_;have aQ:(b.rZ.map AX).length=b.rZ.length:=Ts ..;have hw:(b.rZ.length:Int)<=4->IntKind.i64.wrap (1048576-((b.rZ.map AX).length:Int))=1048576-(b.rZ.length:Int):=λh=>by rw[A1 Aa Aa,aQ]
 repeat'(first|exact Au|refine yC ?_ ?_|refine⟨λh=>?_⟩|refine BZ (SN 183 [] (λr=> !NJ r) b.rZ hl Ago Y) ?_|fail)
 all_goals try(refine Ah Y (BL (Auq ?_));unfold E5;omega)
 have kN:E5 b:=by unfold E5;have:=hw Aa;omega
 refine Ah Y (BL ?_);simp only[A4,kN,A69,A5a];rw[List.all_eq_not_any_not]
theorem YN (a b:List Rec) (ha:a.length<=1000000000):A3z 173 [.t (.slice .any 2 (a.map AX)),.t (.slice .any 2 (b.map AX))] [] (.t (.bool (decide (a=b)))) []:=by
 refine yF Tryz.func173 ?_;have oD:(a.map AX).length=a.length:=Ts ..;have f8:(b.map AX).length=b.length:=Ts ..
 repeat'(first|exact Au|refine yC ?_ ?_|refine⟨λh=>?_⟩|refine B5 6 8 ?_|fail)
 ·exact Ah Y (BL (bF λe=>by subst e;exact h Y))
 have hl:a.length=b.length:=Aa;refine AW (ι:=Nat) (λi=>i<=a.length/\a.take i=b.take i) (λi=>[(0,.t (.slice .any 2 (a.map AX))),(1,.t (.slice .any 2 (b.map AX))),(12,.t (.int .i64 ((a.map AX).length:Int))),(13,.t (.int .i64 i))]) (λ_=>[]) (λi=>a.length-i) 0 Ac ?_ ?_
 ·exact Bb [] Aa6 Y
 rintro i ⟨hi,dR⟩;by_cases aC:i<a.length
 ·have hr:a[i]?=some a[i]:=Kv aC;have hs:b[i]?=some (b[i]' Aa):=Kv _;generalize a[i]=r at hr;generalize b[i]' Aa=s at hs
  repeat'(first|exact Au|refine yC ?_ ?_|refine⟨λh=>?_⟩|refine B5 6 8 ?_|fail)
  ·exact Ah Y (BL (bF (λe=>by subst e;rw[hr]at hs;cases hs;simp at h)))
  ·have e:r=s:=by cases r;cases s;simp at h;simp[h]
   refine AM (i+1) ⟨aC,Nw hr hs dR e⟩ Aa [] (Ag Y Y (Ag Y Y (Ag Y Y (Ag Y ?_ A8)))) Y;rw[A1 Aa Aa];rfl
 ·repeat'(first|exact Au|refine yC ?_ ?_|refine⟨λh=>?_⟩|refine B5 6 8 ?_|fail)
  exact Ah Y (BL (bT (QF hl Aa dR)))
theorem Wq (a b:List Seen) (ha:a.length<=1000000000):A3z 315 [.t (.slice .any 3 (a.map AR)),.t (.slice .any 3 (b.map AR))] [] (.t (.bool (decide (a=b)))) []:=by
 refine yF Tryz.func315 ?_;have oD:(a.map AR).length=a.length:=Ts ..;have f8:(b.map AR).length=b.length:=Ts ..
 repeat'(first|exact Au|refine yC ?_ ?_|refine⟨λh=>?_⟩|refine B5 6 8 ?_|fail)
 ·exact Ah Y (BL (bF λe=>by subst e;exact h Y))
 have hl:a.length=b.length:=Aa;refine AW (ι:=Nat) (λi=>i<=a.length/\a.take i=b.take i) (λi=>[(0,.t (.slice .any 3 (a.map AR))),(1,.t (.slice .any 3 (b.map AR))),(12,.t (.int .i64 ((a.map AR).length:Int))),(13,.t (.int .i64 i))]) (λ_=>[]) (λi=>a.length-i) 0 Ac ?_ ?_
 ·exact Bb [] Aa6 Y
 rintro i ⟨hi,dR⟩;by_cases aC:i<a.length
 ·have hr:a[i]?=some a[i]:=Kv aC;have hs:b[i]?=some (b[i]' Aa):=Kv _;generalize a[i]=r at hr;generalize b[i]' Aa=s at hs
  repeat'(first|exact Au|refine yC ?_ ?_|refine⟨λh=>?_⟩|refine B5 6 8 ?_|fail)
  ·exact Ah Y (BL (bF (λe=>by subst e;rw[hr]at hs;cases hs;simp at h)))
  ·have e:r=s:=by cases r;cases s;simp at h;simp[h]
   refine AM (i+1) ⟨aC,Nw hr hs dR e⟩ Aa [] (Ag Y Y (Ag Y Y (Ag Y Y (Ag Y ?_ A8)))) Y;rw[A1 Aa Aa];rfl
 ·repeat'(first|exact Au|refine yC ?_ ?_|refine⟨λh=>?_⟩|refine B5 6 8 ?_|fail)
  exact Ah Y (BL (bT (QF hl Aa dR)))
theorem Xn (a b:Batch) (ha:a.rZ.length<=1000000):A3z 110 [.agg (Af (Ak a)),.agg (Af (Ak b))] [] (.t (.bool (decide (a=b)))) []:=by
 refine yF Tryz.func110 ?_
 repeat'(first|exact Au|refine yC ?_ ?_|refine⟨λh=>?_⟩|refine BZ (YN a.rZ b.rZ Aa) ?_|fail)
 ·refine Ah Y (BL (bI ?_));cases a;cases b;simp at*;simp[*]
 all_goals exact Ah Y (BL (bF (λe=>by subst e;simp at*)))
theorem Wp (a b:Prod) (ha:a.s9.length<=1000000):A3z 311 [.agg (Af (Ar a)),.agg (Af (Ar b))] [] (.t (.bool (decide (a=b)))) []:=by
 refine yF Tryz.func311 ?_
 repeat'(first|exact Au|refine yC ?_ ?_|refine⟨λh=>?_⟩|refine BZ (Wq a.s9 b.s9 Aa) ?_|fail)
 ·refine Ah Y (BL (bI ?_));cases a;cases b;simp at*;simp[*]
 all_goals exact Ah Y (BL (bF (λe=>by subst e;simp at*)))
theorem Hp (a b:Entry) (ha:a.b.rZ.length<=1000000) (hp:a.vM.s9.length<=1000000):A3z 298 [.agg (Af (AP a)),.agg (Af (AP b))] [] (.t (.bool (decide (a=b)))) []:=by
 refine yF Tryz.func298 ?_
 repeat'(first|exact Au|refine yC ?_ ?_|refine⟨λh=>?_⟩|refine BZ (Xn a.b b.b ha) ?_|refine BZ (Wp a.vM b.vM hp) ?_|fail)
 ·refine Ah Y (BL (bI ?_))
  rcases a with⟨k1,b1,y1,n1,o1,⟨ro1,rp1,rs1,rk1,rv1⟩,p1⟩
  rcases b with⟨k2,b2,y2,n2,o2,⟨ro2,rp2,rs2,rk2,rv2⟩,p2⟩
  simp at*;simp[*]
 all_goals exact Ah Y (BL (bF (λe=>by subst e;simp at*)))
theorem HY (n:Int):A3z 248 [.t (.int .i64 n)] [] (.t (.bool (decide (0<=n/\n<=1048576)))) []:=by
 refine yF Tryz.func248 ?_
 repeat'(first|exact Au|refine yC ?_ ?_|refine⟨λh=>?_⟩|fail)
 all_goals(refine Ah Y (BL ?_);(first|exact bI Aa|exact bT Aa|exact bF Aa))
theorem DE (a b:Int):A3z 247 [.t (.int .i64 a),.t (.int .i64 b)] [] (.t (.bool (decide (1<=a/\a<=8/\0<=b/\b<=100)))) []:=by
 refine yF Tryz.func247 ?_
 repeat'(first|exact Au|refine yC ?_ ?_|refine⟨λh=>?_⟩|fail)
 all_goals(refine Ah Y (BL ?_);(first|exact bI Aa|exact bT Aa|exact bF Aa))
theorem Ok (r:Row):A3z 297 [.agg (Af (Aw r))] [] (.t (.bool (decide (r.offset=0)&&MO r))) []:=by
 refine yF Tryz.func297 ?_
 repeat'(first|exact Au|refine yC ?_ ?_|refine⟨λh=>?_⟩|refine Ab0 ?_ (c:=DE _ _)|fail)
 all_goals(refine Ah Y (BL ?_);unfold MO;rw[A5f];simp;omega)
theorem Ac1 {x:T} (b:Bs) (n:Int) (hx:Aq (.t x) (.t (.slice .any 1 (b.map Ba)))) (h0:0<=n) (hn:n<=1099511627776) (hb:b.length<=1000000000):
  A3z 292 [.t (.int .i64 n),.ref 1 0,.ref 3 0] [(1,.cells [.t (.int .i64 0)]),(3,.cells [.t x])] (.tuple []) [(1,.cells [.t (.int .i64 0)]),(3,.cells [.t (.slice .any 1 ((b++Bp n.toNat).map Ba))])]:=by
 refine yG Tryz.func292 ?_
 repeat'(first|exact Au|refine yC ?_ ?_|refine⟨λh=>?_⟩|refine CO Ai Y Y Y Y (Cd b n h0 hn hb) Y Y Y ⟨hx,A3l _,trivial⟩ ?_|fail)
 exact AE [] Y Y Y (A3l _)
theorem WC (b s:Bs) (hs:s.length<=1024) (hb:b.length<=1000000000):
  A3z 293 [.t (.str s),.ref 1 0,.ref 3 0] [(1,.cells [.t (.int .i64 0)]),(3,.cells [.t (.slice .any 1 (b.map Ba))])] (.tuple []) [(1,.cells [.t (.int .i64 0)]),(3,.cells [.t (.slice .any 1 ((b++FU s).map Ba))])]:=by
 refine yG Tryz.func293 ?_
 repeat'(first|exact Au|refine yC ?_ ?_|refine⟨λh=>?_⟩|refine BZ (S8 b s hs hb) ?_|fail)
 exact AE [] Y Y Y (A3l _)
theorem Aio (b:Batch) (hb:A4 b=true):A3z 272 [.agg (Af (Ak b))] [] (.tuple [.t (.slice .any 1 ((EM b).map Ba)),.t .nilIface]) []:=by
 have hm:=hb;simp only[A4,Qp,Uj]at hm;obtain⟨kN,aI⟩:=hm;have tJ:=kN;unfold E5 at tJ;have aQ:(b.rZ.map AX).length=b.rZ.length:=Ts ..;have l1:=AL (n:=b.lO.toNat) Aa;have l2:=AL (n:=b.lT.toNat) Aa;have l3:=AL (n:=b.seq.toNat) Aa;have l4:=AL (n:=b.rZ.length) Aa;refine yF Tryz.func272 ?_;have cm:A3z 120 [.agg (Af (Ak b))] [] (.t (.bool true)) []:=hb▸Fk b Aa
 repeat'(first|exact Au|refine yC ?_ ?_|refine⟨λh=>?_⟩|refine B5 19 5 ?_|refine BT [(10,1),(8,3)] [(1,10),(3,8)] (Ac1 [] b.lO U6 Aa Aa Ac) ?_|refine Ahc [(10,1),(8,3)] [(1,10),(3,8)] ?_ (c:=(Ac1 _ _ (A3l _) Aa Aa (by simp only[Xp,A2z,A46,DB];omega)))|refine Ab0 ?_ (c:=JF _ _ (by simp;omega))|fail)
 refine AW (ι:=Nat) (λi=>i<=b.rZ.length) (λi=>[(4,.ref 8 0),(5,.ref 10 0),(7,.func (.func 293) [] [.ref 10 0,.ref 8 0]),(40,.t (.slice .any 2 (b.rZ.map AX))),(41,.t (.int .i64 b.rZ.length)),(42,.t (.int .i64 i))]) (λi=>[(10,.cells [.t (.int .i64 0)]),(8,.cells [.t (.slice .any 1 ((Bp b.lO.toNat++Bp b.lT.toNat++Bp b.seq.toNat++DB b.vV++Bp b.rZ.length++(b.rZ.take i).flatMap Aj5).map Ba))]),(2,.cells (Af (Ak b)))]) (λi=>b.rZ.length-i) 0 Ac ?_ ?_
 ·refine Bb [] (Ag Y Y (Ag Y Y (Ag Y Y (Ag Y Y (Ag Y (by rw[aQ]) Aa6))))) ?_;simp only[aQ,A6t,A7p,A5u];rfl
 rintro i hi;by_cases aC:i<b.rZ.length
 ·have hr:b.rZ[i]?=some b.rZ[i]:=Kv aC;have rP:=U4.1 (A21.1 aI b.rZ[i] (Agz aC));have pG:=RL (l:=b.rZ.take i) (A21.2 λx hx=>A21.1 aI x (A3c hx));rw[A2i]at pG;generalize b.rZ[i]=r at hr rP;have hl6:=Ig (s:=r.key) Aa
  repeat'(first|exact Au|refine yC ?_ ?_|refine⟨λh=>?_⟩|refine B5 19 5 ?_|refine Ahc [(10,1),(8,3)] [(1,10),(3,8)] ?_ (c:=(WC _ r.key Aa (by simp only[Xp,A2z,A46,DB];omega)))|refine Ahc [(10,1),(8,3)] [(1,10),(3,8)] ?_ (c:=(WC _ r.value Aa (by simp only[Xp,A2z,A46,DB];omega)))|fail)
  refine AM (i+1) Aa Aa [9] (Ag Y Y (Ag Y Y (Ag Y Y (Ag Y Y (Ag Y Y (Ag Y ?_ A8)))))) ?_
  ·rw[A1 Aa Aa];rfl
  ·rw[AB hr];simp only[A7u,A66,A7p,A5u,Aj5,<-A33];rfl
 ·repeat'(first|exact Au|refine yC ?_ ?_|refine⟨λh=>?_⟩|refine B5 19 5 ?_|fail)
  refine Ah Y (A3m ?_);rw[QQ Aa];rfl
theorem Ux (b:Batch) (hb:A4 b=true):A3z 221 [.agg (Af (Ak b))] [] (.tuple [.t (.str (EM b)),.t (.int .i64 0)]) []:=by
 refine yF Tryz.func221 ?_
 repeat'(first|exact Au|refine yC ?_ ?_|refine⟨λh=>?_⟩|refine BZ (Aio b hb) ?_|refine Ev Ai Y Y Y Y Y Y (CE _).symm Y ?_|fail)
 exact Ah Y (A3l _)
def Mh:Prop:= ∀p:Prod,p.s9.length<=1000000->A3z 201 [.agg (Af (Ar p))] [] (.t (.bool (CW p))) []
def Fw (k:Int):Entry:=⟨k,b0,false,0,0,N7,IZ⟩
theorem A2p {x:Entry} (hk:x.kind=0):(A4 x.b&&decide ((⟨x.kind,b0,x.oC,x.next,x.offset,x.row,x.vM⟩:Entry)=Fw x.kind))=Cs x:=by
 unfold Cs DV IK;simp only[hk,Xs,ZF,Int.reduceEq]
 rcases x with⟨k1,⟨p1,e1,s1,t1,r1⟩,y1,n1,o1,⟨ro1,rp1,rs1,rk1,rv1⟩,⟨pp1,pe1,pn1,ps1⟩⟩
 simp only at hk;subst hk;rw[A5f];simp[Fw,KH];try grind
theorem A0j (hK:Mh) (x:Entry) (hk:x.kind=0) (ha:x.b.rZ.length<=1000000) (hp:x.vM.s9.length<=1000000):A3z 282 [.agg (Af (AP x))] [] (.t (.bool (Cs x))) []:=by
 rw[<-A2p hk];refine yF Tryz.func282 ?_
 repeat'(first|exact Au|refine yC ?_ ?_|refine⟨λh=>?_⟩|refine BZ (Fk x.b Aa) ?_|refine Ab0 ?_ (c:=HY _)|refine Ab0 ?_ (c:=DE _ _)|refine BZ (Ok x.row) ?_|refine BZ (hK x.vM hp) ?_|refine CO Ai Y Y Y Y (Hp ⟨x.kind,b0,x.oC,x.next,x.offset,x.row,x.vM⟩ (Fw x.kind) (by first|omega|simp) (by first|omega|simp)) Y Y Y ⟨AA,AA,trivial⟩ ?_|fail)
 all_goals(refine Ah Y (BL ?_);simp[*])
theorem A2o {x:Entry} (hk:x.kind=1):(decide (1<=x.b.lO/\x.b.lO<=8/\0<=x.b.lT/\x.b.lT<=100)&&decide ((⟨x.kind,⟨0,0,x.b.seq,x.b.vV,x.b.rZ⟩,false,x.next,x.offset,x.row,x.vM⟩:Entry)=Fw x.kind))=Cs x:=by
 unfold Cs DV IK;simp only[hk,Xs,ZF,Int.reduceEq]
 rcases x with⟨k1,⟨p1,e1,s1,t1,r1⟩,y1,n1,o1,⟨ro1,rp1,rs1,rk1,rv1⟩,⟨pp1,pe1,pn1,ps1⟩⟩
 simp only at hk;subst hk;rw[A5f];simp[Fw,KH];try grind
theorem A0i (hK:Mh) (x:Entry) (hk:x.kind=1) (ha:x.b.rZ.length<=1000000) (hp:x.vM.s9.length<=1000000):A3z 282 [.agg (Af (AP x))] [] (.t (.bool (Cs x))) []:=by
 rw[<-A2o hk];refine yF Tryz.func282 ?_
 repeat'(first|exact Au|refine yC ?_ ?_|refine⟨λh=>?_⟩|refine BZ (Fk x.b Aa) ?_|refine Ab0 ?_ (c:=HY _)|refine Ab0 ?_ (c:=DE _ _)|refine BZ (Ok x.row) ?_|refine BZ (hK x.vM hp) ?_|refine CO Ai Y Y Y Y (Hp ⟨x.kind,⟨0,0,x.b.seq,x.b.vV,x.b.rZ⟩,false,x.next,x.offset,x.row,x.vM⟩ (Fw x.kind) (by first|omega|simp) (by first|omega|simp)) Y Y Y ⟨AA,AA,trivial⟩ ?_|fail)
 all_goals(refine Ah Y (BL ?_);simp[*])
theorem A2n {x:Entry} (hk:x.kind=2):(decide (0<=x.offset/\x.offset<=1048576)&&decide ((⟨x.kind,x.b,x.oC,x.next,0,x.row,x.vM⟩:Entry)=Fw x.kind))=Cs x:=by
 unfold Cs DV IK;simp only[hk,Xs,ZF,Int.reduceEq]
 rcases x with⟨k1,⟨p1,e1,s1,t1,r1⟩,y1,n1,o1,⟨ro1,rp1,rs1,rk1,rv1⟩,⟨pp1,pe1,pn1,ps1⟩⟩
 simp only at hk;subst hk;rw[A5f];simp[Fw,KH];try grind
theorem A0h (hK:Mh) (x:Entry) (hk:x.kind=2) (ha:x.b.rZ.length<=1000000) (hp:x.vM.s9.length<=1000000):A3z 282 [.agg (Af (AP x))] [] (.t (.bool (Cs x))) []:=by
 rw[<-A2n hk];refine yF Tryz.func282 ?_
 repeat'(first|exact Au|refine yC ?_ ?_|refine⟨λh=>?_⟩|refine BZ (Fk x.b Aa) ?_|refine Ab0 ?_ (c:=HY _)|refine Ab0 ?_ (c:=DE _ _)|refine BZ (Ok x.row) ?_|refine BZ (hK x.vM hp) ?_|refine CO Ai Y Y Y Y (Hp ⟨x.kind,x.b,x.oC,x.next,0,x.row,x.vM⟩ (Fw x.kind) (by first|omega|simp) (by first|omega|simp)) Y Y Y ⟨AA,AA,trivial⟩ ?_|fail)
 all_goals(refine Ah Y (BL ?_);simp[*])
theorem A2k {x:Entry} (hk:x.kind=5):((decide (x.row.offset=0)&&MO x.row)&&decide ((⟨x.kind,x.b,x.oC,x.next,x.offset,N7,x.vM⟩:Entry)=Fw x.kind))=Cs x:=by
 unfold Cs DV IK;simp only[hk,Xs,ZF,Int.reduceEq]
 rcases x with⟨k1,⟨p1,e1,s1,t1,r1⟩,y1,n1,o1,⟨ro1,rp1,rs1,rk1,rv1⟩,⟨pp1,pe1,pn1,ps1⟩⟩
 simp only at hk;subst hk;rw[A5f];simp[Fw,KH];try grind
theorem A0e (hK:Mh) (x:Entry) (hk:x.kind=5) (ha:x.b.rZ.length<=1000000) (hp:x.vM.s9.length<=1000000):A3z 282 [.agg (Af (AP x))] [] (.t (.bool (Cs x))) []:=by
 rw[<-A2k hk];refine yF Tryz.func282 ?_
 repeat'(first|exact Au|refine yC ?_ ?_|refine⟨λh=>?_⟩|refine BZ (Fk x.b Aa) ?_|refine Ab0 ?_ (c:=HY _)|refine Ab0 ?_ (c:=DE _ _)|refine BZ (Ok x.row) ?_|refine BZ (hK x.vM hp) ?_|refine CO Ai Y Y Y Y (Hp ⟨x.kind,x.b,x.oC,x.next,x.offset,N7,x.vM⟩ (Fw x.kind) (by first|omega|simp) (by first|omega|simp)) Y Y Y ⟨AA,AA,trivial⟩ ?_|fail)
 all_goals(refine Ah Y (BL ?_);simp[*])
theorem A2j {x:Entry} (hk:x.kind=6):(CW x.vM&&decide ((⟨x.kind,x.b,x.oC,x.next,x.offset,x.row,IZ⟩:Entry)=Fw x.kind))=Cs x:=by
 unfold Cs DV IK;simp only[hk,Xs,ZF,Int.reduceEq]
 rcases x with⟨k1,⟨p1,e1,s1,t1,r1⟩,y1,n1,o1,⟨ro1,rp1,rs1,rk1,rv1⟩,⟨pp1,pe1,pn1,ps1⟩⟩
 simp only at hk;subst hk;rw[A5f];simp[Fw,KH];try grind
theorem A0d (hK:Mh) (x:Entry) (hk:x.kind=6) (ha:x.b.rZ.length<=1000000) (hp:x.vM.s9.length<=1000000):A3z 282 [.agg (Af (AP x))] [] (.t (.bool (Cs x))) []:=by
 rw[<-A2j hk];refine yF Tryz.func282 ?_
 repeat'(first|exact Au|refine yC ?_ ?_|refine⟨λh=>?_⟩|refine BZ (Fk x.b Aa) ?_|refine Ab0 ?_ (c:=HY _)|refine Ab0 ?_ (c:=DE _ _)|refine BZ (Ok x.row) ?_|refine BZ (hK x.vM hp) ?_|refine CO Ai Y Y Y Y (Hp ⟨x.kind,x.b,x.oC,x.next,x.offset,x.row,IZ⟩ (Fw x.kind) (by first|omega|simp) (by first|omega|simp)) Y Y Y ⟨AA,AA,trivial⟩ ?_|fail)
 all_goals(refine Ah Y (BL ?_);simp[*])
theorem A2l {x:Entry} (hk:x.kind=4):(!x.oC&&decide (0<=x.next/\x.next<=1048576)&&decide (1<=x.b.lO/\x.b.lO<=8/\0<=x.b.lT/\x.b.lT<=100)&&decide ((⟨x.kind,⟨0,0,x.b.seq,x.b.vV,x.b.rZ⟩,false,0,x.offset,x.row,x.vM⟩:Entry)=Fw x.kind))=Cs x:=by
 unfold Cs DV IK;simp only[hk,Xs,ZF,Int.reduceEq]
 rcases x with⟨k1,⟨p1,e1,s1,t1,r1⟩,y1,n1,o1,⟨ro1,rp1,rs1,rk1,rv1⟩,⟨pp1,pe1,pn1,ps1⟩⟩
 simp only at hk;subst hk;rw[A5f];simp[Fw,KH];try grind
theorem A0f (x:Entry) (hk:x.kind=4) (ha:x.b.rZ.length<=1000000) (hp:x.vM.s9.length<=1000000):A3z 282 [.agg (Af (AP x))] [] (.t (.bool (Cs x))) []:=by
 rw[<-A2l hk];refine yF Tryz.func282 ?_
 repeat'(first|exact Au|refine yC ?_ ?_|refine⟨λh=>?_⟩|refine Ab0 ?_ (c:=HY _)|refine Ab0 ?_ (c:=DE _ _)|refine CO Ai Y Y Y Y (Hp ⟨x.kind,⟨0,0,x.b.seq,x.b.vV,x.b.rZ⟩,false,0,x.offset,x.row,x.vM⟩ (Fw x.kind) (by first|omega|simp) (by first|omega|simp)) Y Y Y ⟨AA,AA,trivial⟩ ?_|fail)
 all_goals(refine Ah Y (BL ?_);(try simp only[A73]at*);simp[*])
def Uw (x:Entry):Entry:=if x.oC=true then⟨x.kind,b0,false,0,x.offset,x.row,x.vM⟩else⟨x.kind,b0,x.oC,x.next,x.offset,x.row,x.vM⟩
theorem A2m {x:Entry} (hk:x.kind=3):(x.b.vV&&(!x.oC||decide (0<=x.next/\x.next<=1048576))&&A4 x.b&&decide (Uw x=Fw x.kind))=Cs x:=by
 unfold Cs DV IK Uw;simp only[hk,Xs,ZF,Int.reduceEq];generalize A4 x.b=mb
 rcases x with⟨k1,⟨p1,e1,s1,t1,r1⟩,y1,n1,o1,⟨ro1,rp1,rs1,rk1,rv1⟩,⟨pp1,pe1,pn1,ps1⟩⟩
 simp only at hk;subst hk;rw[A5f];cases y1<;>simp[Fw,KH]<;>grind
theorem A0g (x:Entry) (hk:x.kind=3) (ha:x.b.rZ.length<=1000000) (hp:x.vM.s9.length<=1000000):A3z 282 [.agg (Af (AP x))] [] (.t (.bool (Cs x))) []:=by
 rw[<-A2m hk];refine yF Tryz.func282 ?_;by_cases hy:x.oC=true
 ·have hr:Uw x=⟨x.kind,b0,false,0,x.offset,x.row,x.vM⟩:=by simp[Uw,hy]
  rw[hr]
  repeat'(first|exact Au|refine yC ?_ ?_|refine⟨λh=>?_⟩|refine BZ (Fk x.b Aa) ?_|refine Ab0 ?_ (c:=HY _)|refine CO Ai Y Y Y Y (Hp ⟨x.kind,b0,false,0,x.offset,x.row,x.vM⟩ (Fw x.kind) (by first|omega|simp) (by first|omega|simp)) Y Y Y ⟨AA,AA,trivial⟩ ?_|fail)
  all_goals(refine Ah Y (BL ?_);clear hr;(try simp only[A73]at*);simp[*])
 ·have hr:Uw x=⟨x.kind,b0,x.oC,x.next,x.offset,x.row,x.vM⟩:=by simp[Uw,hy]
  rw[hr]
  repeat'(first|exact Au|refine yC ?_ ?_|refine⟨λh=>?_⟩|refine BZ (Fk x.b Aa) ?_|refine Ab0 ?_ (c:=HY _)|refine CO Ai Y Y Y Y (Hp ⟨x.kind,b0,x.oC,x.next,x.offset,x.row,x.vM⟩ (Fw x.kind) (by first|omega|simp) (by first|omega|simp)) Y Y Y ⟨AA,AA,trivial⟩ ?_|fail)
  all_goals(refine Ah Y (BL ?_);clear hr;(try simp only[A73]at*);simp[*])
theorem A0c (x:Entry) (h0:x.kind≠0) (h1:x.kind≠1) (h2:x.kind≠2) (h3:x.kind≠3) (h4:x.kind≠4) (h5:x.kind≠5) (h6:x.kind≠6):A3z 282 [.agg (Af (AP x))] [] (.t (.bool (Cs x))) []:=by
 refine yF Tryz.func282 ?_
 repeat'(first|exact Au|refine yC ?_ ?_|refine⟨λh=>?_⟩|fail)
 all_goals(refine Ah Y (BL ?_);simp[Cs, *])
theorem Je (hK:Mh) (x:Entry) (ha:x.b.rZ.length<=1000000) (hp:x.vM.s9.length<=1000000):A3z 282 [.agg (Af (AP x))] [] (.t (.bool (Cs x))) []:=by
 by_cases h0:x.kind=0
 ·exact A0j hK x h0 ha hp
 by_cases h1:x.kind=1
 ·exact A0i hK x h1 ha hp
 by_cases h2:x.kind=2
 ·exact A0h hK x h2 ha hp
 by_cases h3:x.kind=3
 ·exact A0g x h3 ha hp
 by_cases h4:x.kind=4
 ·exact A0f x h4 ha hp
 by_cases h5:x.kind=5
 ·exact A0e hK x h5 ha hp
 by_cases h6:x.kind=6
 ·exact A0d hK x h6 ha hp
 exact A0c x h0 h1 h2 h3 h4 h5 h6
