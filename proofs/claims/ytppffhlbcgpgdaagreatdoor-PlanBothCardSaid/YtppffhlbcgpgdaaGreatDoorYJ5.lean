/- Lemmas toward the law; each names its conditions. -/
import Derived.Test.YtppffhlbcgpgdaaGreatDoorYK1
import Derived.Test.YtppffhlbcgpgdaaGreatDoorYE2
import Derived.Test.YtppffhlbcgpgdaaGreatDoorYDl
set_option linter.all false
set_option maxRecDepth 100000
set_option maxHeartbeats 8000000
namespace Go.Proofs.YtppffhlbcgpgdaaGreatDoor
open Go.Am
attribute [local irreducible] Decidable.decide Tr A6 CG EJ
def Cy (n:Int):List T:=[.int .i64 n]
def wB (b:Bs):St:=[(1,.cells [.t (.slice .any 1 (b.map Ba)),.t (.int .i64 0)])]
theorem Af6 {l:List Int} {i:Nat} {n:Int} (h:l[i]?=some n):Db (l.take (i+1))=Db (l.take i)++Bp n.toNat:=by
 rw[AB h];simp[Db]
theorem Lm: ∀{l:List Int},(∀n∈l,0<=n/\n<=1099511627776)->(Db l).length<=6*l.length
 |[],_=>by simp[Db]
 |a::r,h=>by
  have ih:=Lm (l:=r) λn hn=>h n (by simp[hn]);have h1:=h a Ac;have h2:=AL (n:=a.toNat) Aa;simp only[Db,A66,Xp,A2z]at ih⊢;omega
theorem IE (b:Bs) (l:List Int) (hl: ∀n∈l,0<=n/\n<=1099511627776) (sJ:l.length<=1000) (hb:b.length<=100000000):
  A3z 312 [.ref 1 0,.t (.slice .any 1 (l.map Cy))] (wB b) (.tuple []) (wB (b++Db l)):=by
 refine yG Tryz.func312 ?_;have aQ:(l.map Cy).length=l.length:=Ts ..
 repeat'(first|exact Au|refine yC ?_ ?_|refine⟨λh=>?_⟩|fail)
 refine AW (ι:=Nat) (λi=>i<=l.length) (λi=>[(0,.ref 1 0),(6,.t (.slice .any 1 (l.map Cy))),(7,.t (.int .i64 l.length)),(8,.t (.int .i64 i))]) (λi=>wB (b++Db (l.take i))) (λi=>l.length-i) 0 Ac ?_ ?_
 ·exact Bb [] (Ag Y Y (Ag Y Y (Ag Y (by rw[aQ]) Aa6))) (by simp[Db,wB,HI])
 rintro i hi;by_cases aC:i<l.length
 ·have hr:l[i]?=some l[i]:=Kv aC;have hn:=hl l[i] (Agz aC);have pG:=Lm (l:=l.take i) (λn hn=>hl n (A3c hn));rw[A2i]at pG;generalize l[i]=r at hr hn
  repeat'(first|exact Au|refine yC ?_ ?_|refine⟨λh=>?_⟩|refine Ab0 ?_ (c:=Cd _ r hn.1 hn.2 (by rw[Xp];omega))|fail)
  refine AM (i+1) Aa Aa [] (Ag Y Y (Ag Y Y (Ag Y Y (Ag Y ?_ A8)))) ?_
  ·rw[A1 Aa Aa];rfl
  ·rw[Af6 hr,<-A33];rfl
 ·repeat'(first|exact Au|refine yC ?_ ?_|refine⟨λh=>?_⟩|fail)
  refine AE [] Y Y ?_ (A3l _);rw[QQ Aa];rfl
theorem YM (b s:Bs) (hs:s.length<=1024) (hb:b.length<=1000000000):
  A3z 313 [.ref 1 0,.t (.str s)] (wB b) (.tuple []) (wB (b++FU s)):=by
 refine yG Tryz.func313 ?_
 repeat'(first|exact Au|refine yC ?_ ?_|refine⟨λh=>?_⟩|refine BZ (S8 b s hs hb) ?_|fail)
 exact AE [] Y Y Y (A3l _)
def wF (b:Bs):St:=[(1,.cells [.t (.slice .full 1 (b.map Ba)),.t (.int .i64 0)])]
theorem Nq {b:Bs}:TP (wF b) (wB b):=by
 exact⟨⟨Y,A9,A3l _,trivial⟩,trivial⟩
theorem WD (b:Bs) (x:Entry) (hm:A4 x.b=true) (hb:b.length<=1000000):A3z 299 [.ref 1 0,.agg (Af (AP x))] (wF b) (.tuple []) (wB (b++EM x.b)):=by
 refine yG Tryz.func299 ?_;have hl:=GN hm
 repeat'(first|exact Au|refine yC ?_ ?_|refine⟨λh=>?_⟩|refine BZ (Ux x.b hm) ?_|refine Vu Ai Y Y Y Y Y Y Y Y Y Y Y Y (by simp[GL];omega) ?_|fail)
 refine AE [3] Y Y ?_ (A3l _);rw[CE,<-A38];rfl
theorem Aiv (b:Bs) (x:Entry) (h:0<=x.b.lO/\x.b.lO<=1099511627776/\0<=x.b.lT/\x.b.lT<=1099511627776) (hb:b.length<=1000000):A3z 300 [.ref 1 0,.agg (Af (AP x))] (wB b) (.tuple []) (wB (b++Db [x.b.lO,x.b.lT]++DB x.oC)):=by
 refine yG Tryz.func300 ?_;have hl:=Lm (l:=[x.b.lO,x.b.lT]) (by simp;omega);simp only[A2z,A46]at hl;have c1:=IE b [x.b.lO,x.b.lT] (by simp;omega) Ac Aa
 repeat'(first|exact Au|refine yC ?_ ?_|refine⟨λh=>?_⟩|refine B5 2 8 ?_|refine Ew Ai [(1,1)] [(1,1)] Y Y Y Y Y (c1.args ⟨A3l _,A9,trivial⟩) Y Y Y Y Y ?_|refine Ab0 ?_ (c:=JF _ _ (by simp;omega))|refine Mo (JF (b++Db [x.b.lO,x.b.lT]) x.oC (by rw[Xp];omega)) ?_|fail)
 exact AE [3] Y Y Y (A3l _)
theorem Aow (b:Bs) (x:Entry) (h:0<=x.offset/\x.offset<=1099511627776) (hb:b.length<=1000000):A3z 301 [.ref 1 0,.agg (Af (AP x))] (wB b) (.tuple []) (wB (b++Db [x.offset])):=by
 refine yG Tryz.func301 ?_;have c1:=IE b [x.offset] (by simp;omega) Ac Aa
 repeat'(first|exact Au|refine yC ?_ ?_|refine⟨λh=>?_⟩|refine Ew Ai [(1,1)] [(1,1)] Y Y Y Y Y (c1.args ⟨A3l _,A9,trivial⟩) Y Y Y Y Y ?_|fail)
 exact AE [3] Y Y Y (A3l _)
theorem Aiy (b:Bs) (x:Entry) (h:0<=x.b.lO/\x.b.lO<=1099511627776/\0<=x.b.lT/\x.b.lT<=1099511627776/\0<=x.next/\x.next<=1099511627776) (hb:b.length<=1000000):A3z 303 [.ref 1 0,.agg (Af (AP x))] (wB b) (.tuple []) (wB (b++Db [x.b.lO,x.b.lT,x.next])):=by
 refine yG Tryz.func303 ?_;have c1:=IE b [x.b.lO,x.b.lT,x.next] (by simp;omega) Ac Aa
 repeat'(first|exact Au|refine yC ?_ ?_|refine⟨λh=>?_⟩|refine Ew Ai [(1,1)] [(1,1)] Y Y Y Y Y (c1.args ⟨A3l _,A9,trivial⟩) Y Y Y Y Y ?_|fail)
 exact AE [3] Y Y Y (A3l _)
theorem Aou (b:Bs) (x:Entry) (h:0<=x.row.lO/\x.row.lO<=1099511627776/\0<=x.row.seq/\x.row.seq<=1099511627776) (hk:x.row.key.length<=16) (hv:x.row.value.length<=16) (hb:b.length<=1000000):
  A3z 304 [.ref 1 0,.agg (Af (AP x))] (wB b) (.tuple []) (wB (b++Db [x.row.lO,x.row.seq]++FU x.row.key++FU x.row.value)):=by
 refine yG Tryz.func304 ?_;have hl:=Lm (l:=[x.row.lO,x.row.seq]) (by simp;omega);simp only[A2z,A46]at hl;have sK:=Ig (s:=x.row.key) Aa;have c1:=IE b [x.row.lO,x.row.seq] (by simp;omega) Ac Aa
 repeat'(first|exact Au|refine yC ?_ ?_|refine⟨λh=>?_⟩|refine Ew Ai [(1,1)] [(1,1)] Y Y Y Y Y (c1.args ⟨A3l _,A9,trivial⟩) Y Y Y Y Y ?_|refine BT [(1,1)] [(1,1)] (YM (b++Db [x.row.lO,x.row.seq]) x.row.key Aa (by rw[Xp];omega)) ?_|refine BT [(1,1)] [(1,1)] (YM (b++Db [x.row.lO,x.row.seq]++FU x.row.key) x.row.value Aa (by rw[Xp,Xp];omega)) ?_|fail)
 exact AE [3] Y Y Y (A3l _)
theorem Aiz (b:Bs) (x:Entry) (hm:A4 x.b=true) (h:0<=x.next/\x.next<=1099511627776) (hb:b.length<=1000000):A3z 302 [.ref 1 0,.agg (Af (AP x))] (wF b) (.tuple []) (wB (b++EM x.b++DB x.oC++(if x.oC then Db [x.next]else[]))):=by
 refine yG Tryz.func302 ?_;have hl:=GN hm;have c1:=IE (b++EM x.b++DB x.oC) [x.next] (by simp;omega) Ac (by simp only[Xp,DB,A2z,A46];omega)
 repeat'(first|exact Au|refine yC ?_ ?_|refine⟨λh=>?_⟩|refine B5 2 8 ?_|refine BT [(1,1)] [(1,1)] (WD b x hm hb) ?_|refine Ew Ai [(1,1)] [(1,1)] Y Y Y Y Y (c1.args ⟨A3l _,A9,trivial⟩) Y Y Y Y Y ?_|refine Mo (JF (b++EM x.b) x.oC (by rw[Xp];omega)) ?_|fail)
 ·rw[WU Ad];exact AE [3] Y Y Y (A3l _)
 ·rw[Ug Ad,A5u];exact AE [3] Y Y Y (A3l _)
theorem Aek (b:Bs) (x:Entry) (hk:CW x.vM=true) (hb:b.length<=1000000):A3z 305 [.ref 1 0,.agg (Af (AP x))] (wB b) (.tuple []) (wB (b++Db [x.vM.lO,x.vM.lT,x.vM.next,x.vM.s9.length]++x.vM.s9.flatMap N3)):=by
 refine yG Tryz.func305 ?_;simp only[CW,Qp,Uj]at hk;obtain⟨kN,PZ⟩:=hk;unfold Dt at kN;have uL:=MX Aa Aa PZ;have aQ:(x.vM.s9.map AR).length=x.vM.s9.length:=Ts ..;have c1:=IE b [x.vM.lO,x.vM.lT,x.vM.next,x.vM.s9.length] (by simp;omega) Ac Aa;rw[<-aQ]at c1
 repeat'(first|exact Au|refine yC ?_ ?_|refine⟨λh=>?_⟩|refine Ew Ai [(1,1)] [(1,1)] Y Y Y Y Y (c1.args ⟨A3l _,A9,trivial⟩) Y Y Y Y Y ?_|fail)
 refine AW (ι:=Nat) (λi=>i<=x.vM.s9.length) (λi=>[(0,.ref 1 0),(24,.t (.slice .any 3 (x.vM.s9.map AR))),(25,.t (.int .i64 x.vM.s9.length)),(26,.t (.int .i64 i))]) (λi=>wB (b++Db [x.vM.lO,x.vM.lT,x.vM.next,x.vM.s9.length]++(x.vM.s9.take i).flatMap N3)) (λi=>x.vM.s9.length-i) 0 Ac ?_ ?_
 ·refine Bb [3] (Ag Y Y (Ag Y Y (Ag Y (by rw[aQ];rfl) Aa6))) ?_;simp only[aQ,A6t,A7p,A5u];rfl
 rintro i hi;by_cases aC:i<x.vM.s9.length
 ·have hr:x.vM.s9[i]?=some x.vM.s9[i]:=Kv aC;have hn:=uL x.vM.s9[i] (Agz aC);have pG:=OA (l:=x.vM.s9.take i) (λs hs=>uL s (A3c hs));rw[A2i]at pG;have hl:=Lm (l:=[x.vM.lO,x.vM.lT,x.vM.next,(x.vM.s9.length:Int)]) (by simp;omega);simp only[A2z,A46]at hl;generalize x.vM.s9[i]=r at hr hn;have ho:=hn.1;unfold EY at ho;have hw:IntKind.i64.wrap (r.s6+1)=r.s6+1:=A1 Aa Aa;have c2:=IE (b++Db [x.vM.lO,x.vM.lT,x.vM.next,x.vM.s9.length]++(x.vM.s9.take i).flatMap N3) [r.seq,r.count,r.s6+1] (by simp;omega) Ac (by simp only[Xp];omega);rw[<-hw]at c2
  repeat'(first|exact Au|refine yC ?_ ?_|refine⟨λh=>?_⟩|refine Ew Ai [(1,1)] [(1,1)] Y Y Y Y Y (c2.args ⟨A3l _,A9,trivial⟩) Y Y Y Y Y ?_|fail)
  refine AM (i+1) Aa Aa [5] (Ag Y Y (Ag Y Y (Ag Y Y (Ag Y ?_ A8)))) ?_
  ·rw[A1 Aa Aa];rfl
  ·rw[AB hr,hw];simp only[A7u,A66,A7p,A5u,N3,<-A33];rfl
 ·repeat'(first|exact Au|refine yC ?_ ?_|refine⟨λh=>?_⟩|fail)
  refine AE [] Y Y ?_ (A3l _);rw[QQ Aa];rfl
theorem Ain:A3z 283 [.t (.int .i8 0)] [] (.t (.func (.func 299) [] [])) []:=by
 refine yF Tryz.func283 ?_
 repeat'(first|exact Au|refine yC ?_ ?_|refine⟨λh=>?_⟩|refine Is Ai Y Y Y Y Y Y Y Y ?_|fail)
 exact Ah Y (A3m Y)
theorem Ars (x:Entry) (hk:x.kind=0) (hm:Cs x=true) (ha:x.b.rZ.length<=1000000) (hp:x.vM.s9.length<=1000000):A3z 242 [.agg (Af (AP x))] [] (.tuple [.t (.str (BW x)),.t (.int .i64 0)]) []:=by
 have eQ:=(Hg hm).2;simp only[hk,Xs,ZF,Int.reduceEq,A7b]at eQ;skip;have eB:BW x=[0]++(EM x.b):=by simp[BW,hk,Db]
 rw[eB];have cm:A3z 282 [.agg (Af (AP x))] [] (.t (.bool true)) []:=hm▸Je Gt x ha hp;have cw:A3z 283 [.t (.int .i8 x.kind)] [] (.t (.func (.func 299) [] [])) []:=by rw[hk];exact Ain
 have e1:T.int .u8 ((UInt8.toNat 0:Nat):Int)=T.int .u8 (IntKind.u8.wrap x.kind):=by rw[hk];rfl
 have cd:=WD [0] x eQ Ac;skip;simp only[wF,List.map,Ba,e1]at cd;refine yF Tryz.func242 ?_
 repeat'(first|exact Au|refine yC ?_ ?_|refine⟨λh=>?_⟩|refine B5 4 5 ?_|refine B5 6 5 ?_|refine BT [(26,1)] [(1,26)] cd ?_|refine Ev Ai Y Y Y Y Y Y (CE _).symm Y ?_|fail)
 exact Ah Y (A3m (by simp only[A33]))
theorem Aim:A3z 283 [.t (.int .i8 1)] [] (.t (.func (.func 300) [] [])) []:=by
 refine yF Tryz.func283 ?_
 repeat'(first|exact Au|refine yC ?_ ?_|refine⟨λh=>?_⟩|refine Is Ai Y Y Y Y Y Y Y Y ?_|fail)
 exact Ah Y (A3m Y)
theorem Arr (x:Entry) (hk:x.kind=1) (hm:Cs x=true) (ha:x.b.rZ.length<=1000000) (hp:x.vM.s9.length<=1000000):A3z 242 [.agg (Af (AP x))] [] (.tuple [.t (.str (BW x)),.t (.int .i64 0)]) []:=by
 have eQ:=(Hg hm).2;simp only[hk,Xs,ZF,Int.reduceEq,A7b]at eQ;skip;have eB:BW x=[1]++(Db [x.b.lO,x.b.lT]++DB x.oC):=by simp[BW,hk,Db]
 rw[eB];have cm:A3z 282 [.agg (Af (AP x))] [] (.t (.bool true)) []:=hm▸Je Gt x ha hp;have cw:A3z 283 [.t (.int .i8 x.kind)] [] (.t (.func (.func 300) [] [])) []:=by rw[hk];exact Aim
 have e1:T.int .u8 ((UInt8.toNat 1:Nat):Int)=T.int .u8 (IntKind.u8.wrap x.kind):=by rw[hk];rfl
 have cd:=Aiv [1] x Aa Ac
 replace cd:=cd.weak (A3o _) Nq
 simp only[wF,List.map,Ba,e1]at cd;refine yF Tryz.func242 ?_
 repeat'(first|exact Au|refine yC ?_ ?_|refine⟨λh=>?_⟩|refine B5 4 5 ?_|refine B5 6 5 ?_|refine BT [(26,1)] [(1,26)] cd ?_|refine Ev Ai Y Y Y Y Y Y (CE _).symm Y ?_|fail)
 exact Ah Y (A3m (by simp only[A33]))
theorem Ail:A3z 283 [.t (.int .i8 2)] [] (.t (.func (.func 301) [] [])) []:=by
 refine yF Tryz.func283 ?_
 repeat'(first|exact Au|refine yC ?_ ?_|refine⟨λh=>?_⟩|refine Is Ai Y Y Y Y Y Y Y Y ?_|fail)
 exact Ah Y (A3m Y)
theorem Arq (x:Entry) (hk:x.kind=2) (hm:Cs x=true) (ha:x.b.rZ.length<=1000000) (hp:x.vM.s9.length<=1000000):A3z 242 [.agg (Af (AP x))] [] (.tuple [.t (.str (BW x)),.t (.int .i64 0)]) []:=by
 have eQ:=(Hg hm).2;simp only[hk,Xs,ZF,Int.reduceEq,A7b]at eQ;skip;have eB:BW x=[2]++(Db [x.offset]):=by simp[BW,hk,Db]
 rw[eB];have cm:A3z 282 [.agg (Af (AP x))] [] (.t (.bool true)) []:=hm▸Je Gt x ha hp;have cw:A3z 283 [.t (.int .i8 x.kind)] [] (.t (.func (.func 301) [] [])) []:=by rw[hk];exact Ail
 have e1:T.int .u8 ((UInt8.toNat 2:Nat):Int)=T.int .u8 (IntKind.u8.wrap x.kind):=by rw[hk];rfl
 have cd:=Aow [2] x Aa Ac
 replace cd:=cd.weak (A3o _) Nq
 simp only[wF,List.map,Ba,e1]at cd;refine yF Tryz.func242 ?_
 repeat'(first|exact Au|refine yC ?_ ?_|refine⟨λh=>?_⟩|refine B5 4 5 ?_|refine B5 6 5 ?_|refine BT [(26,1)] [(1,26)] cd ?_|refine Ev Ai Y Y Y Y Y Y (CE _).symm Y ?_|fail)
 exact Ah Y (A3m (by simp only[A33]))
theorem Aik:A3z 283 [.t (.int .i8 3)] [] (.t (.func (.func 302) [] [])) []:=by
 refine yF Tryz.func283 ?_
 repeat'(first|exact Au|refine yC ?_ ?_|refine⟨λh=>?_⟩|refine Is Ai Y Y Y Y Y Y Y Y ?_|fail)
 exact Ah Y (A3m Y)
theorem Arp (x:Entry) (hk:x.kind=3) (hm:Cs x=true) (ha:x.b.rZ.length<=1000000) (hp:x.vM.s9.length<=1000000):A3z 242 [.agg (Af (AP x))] [] (.tuple [.t (.str (BW x)),.t (.int .i64 0)]) []:=by
 have eQ:=(Hg hm).2;simp only[hk,Xs,ZF,Int.reduceEq,A7b]at eQ;skip;have eB:BW x=[3]++(EM x.b++DB x.oC++(if x.oC then Db [x.next]else[])):=by simp[BW,hk,Db]
 rw[eB];have cm:A3z 282 [.agg (Af (AP x))] [] (.t (.bool true)) []:=hm▸Je Gt x ha hp;have cw:A3z 283 [.t (.int .i8 x.kind)] [] (.t (.func (.func 302) [] [])) []:=by rw[hk];exact Aik
 have e1:T.int .u8 ((UInt8.toNat 3:Nat):Int)=T.int .u8 (IntKind.u8.wrap x.kind):=by rw[hk];rfl
 have cd:=Aiz [3] x eQ.1 Aa Ac;skip;simp only[wF,List.map,Ba,e1]at cd;refine yF Tryz.func242 ?_
 repeat'(first|exact Au|refine yC ?_ ?_|refine⟨λh=>?_⟩|refine B5 4 5 ?_|refine B5 6 5 ?_|refine BT [(26,1)] [(1,26)] cd ?_|refine Ev Ai Y Y Y Y Y Y (CE _).symm Y ?_|fail)
 exact Ah Y (A3m (by simp only[A33]))
theorem Aij:A3z 283 [.t (.int .i8 4)] [] (.t (.func (.func 303) [] [])) []:=by
 refine yF Tryz.func283 ?_
 repeat'(first|exact Au|refine yC ?_ ?_|refine⟨λh=>?_⟩|refine Is Ai Y Y Y Y Y Y Y Y ?_|fail)
 exact Ah Y (A3m Y)
theorem Aro (x:Entry) (hk:x.kind=4) (hm:Cs x=true) (ha:x.b.rZ.length<=1000000) (hp:x.vM.s9.length<=1000000):A3z 242 [.agg (Af (AP x))] [] (.tuple [.t (.str (BW x)),.t (.int .i64 0)]) []:=by
 have eQ:=(Hg hm).2;simp only[hk,Xs,ZF,Int.reduceEq,A7b]at eQ;skip;have eB:BW x=[4]++(Db [x.b.lO,x.b.lT,x.next]):=by simp[BW,hk,Db]
 rw[eB];have cm:A3z 282 [.agg (Af (AP x))] [] (.t (.bool true)) []:=hm▸Je Gt x ha hp;have cw:A3z 283 [.t (.int .i8 x.kind)] [] (.t (.func (.func 303) [] [])) []:=by rw[hk];exact Aij
 have e1:T.int .u8 ((UInt8.toNat 4:Nat):Int)=T.int .u8 (IntKind.u8.wrap x.kind):=by rw[hk];rfl
 have cd:=Aiy [4] x Aa Ac
 replace cd:=cd.weak (A3o _) Nq
 simp only[wF,List.map,Ba,e1]at cd;refine yF Tryz.func242 ?_
 repeat'(first|exact Au|refine yC ?_ ?_|refine⟨λh=>?_⟩|refine B5 4 5 ?_|refine B5 6 5 ?_|refine BT [(26,1)] [(1,26)] cd ?_|refine Ev Ai Y Y Y Y Y Y (CE _).symm Y ?_|fail)
 exact Ah Y (A3m (by simp only[A33]))
theorem Aii:A3z 283 [.t (.int .i8 5)] [] (.t (.func (.func 304) [] [])) []:=by
 refine yF Tryz.func283 ?_
 repeat'(first|exact Au|refine yC ?_ ?_|refine⟨λh=>?_⟩|refine Is Ai Y Y Y Y Y Y Y Y ?_|fail)
 exact Ah Y (A3m Y)
theorem Arn (x:Entry) (hk:x.kind=5) (hm:Cs x=true) (ha:x.b.rZ.length<=1000000) (hp:x.vM.s9.length<=1000000):A3z 242 [.agg (Af (AP x))] [] (.tuple [.t (.str (BW x)),.t (.int .i64 0)]) []:=by
 have eQ:=(Hg hm).2;simp only[hk,Xs,ZF,Int.reduceEq,A7b]at eQ;simp only[MO,Uj]at eQ;have eB:BW x=[5]++(Db [x.row.lO,x.row.seq]++FU x.row.key++FU x.row.value):=by simp[BW,hk,Db]
 rw[eB];have cm:A3z 282 [.agg (Af (AP x))] [] (.t (.bool true)) []:=hm▸Je Gt x ha hp;have cw:A3z 283 [.t (.int .i8 x.kind)] [] (.t (.func (.func 304) [] [])) []:=by rw[hk];exact Aii
 have e1:T.int .u8 ((UInt8.toNat 5:Nat):Int)=T.int .u8 (IntKind.u8.wrap x.kind):=by rw[hk];rfl
 have cd:=Aou [5] x Aa Aa Aa Ac
 replace cd:=cd.weak (A3o _) Nq
 simp only[wF,List.map,Ba,e1]at cd;refine yF Tryz.func242 ?_
 repeat'(first|exact Au|refine yC ?_ ?_|refine⟨λh=>?_⟩|refine B5 4 5 ?_|refine B5 6 5 ?_|refine BT [(26,1)] [(1,26)] cd ?_|refine Ev Ai Y Y Y Y Y Y (CE _).symm Y ?_|fail)
 exact Ah Y (A3m (by simp only[A33]))
theorem Aih:A3z 283 [.t (.int .i8 6)] [] (.t (.func (.func 305) [] [])) []:=by
 refine yF Tryz.func283 ?_
 repeat'(first|exact Au|refine yC ?_ ?_|refine⟨λh=>?_⟩|refine Is Ai Y Y Y Y Y Y Y Y ?_|fail)
 exact Ah Y (A3m Y)
theorem Arm (x:Entry) (hk:x.kind=6) (hm:Cs x=true) (ha:x.b.rZ.length<=1000000) (hp:x.vM.s9.length<=1000000):A3z 242 [.agg (Af (AP x))] [] (.tuple [.t (.str (BW x)),.t (.int .i64 0)]) []:=by
 have eQ:=(Hg hm).2;simp only[hk,Xs,ZF,Int.reduceEq,A7b]at eQ;skip;have eB:BW x=[6]++(Db [x.vM.lO,x.vM.lT,x.vM.next,x.vM.s9.length]++x.vM.s9.flatMap N3):=by simp[BW,hk,Db]
 rw[eB];have cm:A3z 282 [.agg (Af (AP x))] [] (.t (.bool true)) []:=hm▸Je Gt x ha hp;have cw:A3z 283 [.t (.int .i8 x.kind)] [] (.t (.func (.func 305) [] [])) []:=by rw[hk];exact Aih
 have e1:T.int .u8 ((UInt8.toNat 6:Nat):Int)=T.int .u8 (IntKind.u8.wrap x.kind):=by rw[hk];rfl
 have cd:=Aek [6] x eQ Ac
 replace cd:=cd.weak (A3o _) Nq
 simp only[wF,List.map,Ba,e1]at cd;refine yF Tryz.func242 ?_
 repeat'(first|exact Au|refine yC ?_ ?_|refine⟨λh=>?_⟩|refine B5 4 5 ?_|refine B5 6 5 ?_|refine BT [(26,1)] [(1,26)] cd ?_|refine Ev Ai Y Y Y Y Y Y (CE _).symm Y ?_|fail)
 exact Ah Y (A3m (by simp only[A33]))
theorem Ahe (x:Entry) (hm:Cs x=true) (ha:x.b.rZ.length<=1000000) (hp:x.vM.s9.length<=1000000):A3z 242 [.agg (Af (AP x))] [] (.tuple [.t (.str (BW x)),.t (.int .i64 0)]) []:=by
 rcases Agq hm with h|h|h|h|h|h|h
 ·exact Ars x h hm ha hp
 ·exact Arr x h hm ha hp
 ·exact Arq x h hm ha hp
 ·exact Arp x h hm ha hp
 ·exact Aro x h hm ha hp
 ·exact Arn x h hm ha hp
 ·exact Arm x h hm ha hp
theorem Ahf (x:Entry) (hm:Cs x=false) (ha:x.b.rZ.length<=1000000) (hp:x.vM.s9.length<=1000000):A3z 242 [.agg (Af (AP x))] [] (.tuple [.t (.str []),.t (.int .i64 2)]) []:=by
 have cm:A3z 282 [.agg (Af (AP x))] [] (.t (.bool false)) []:=hm▸Je Gt x ha hp;refine yF Tryz.func242 ?_
 repeat'(first|exact Au|refine yC ?_ ?_|refine⟨λh=>?_⟩|refine B5 4 5 ?_|refine B5 6 5 ?_|fail)
 exact Ah Y (A3m Y)
def As4 (l:List Entry):Nat:=l.findIdx (λx=> !Cs x)
theorem Al5 {l:List Entry} {i:Nat} {x:Entry} (h:l[i]?=some x) (ha:(l.take i).all Cs=true) (hx:Cs x=false):As4 l=i:=by
 obtain⟨hi,rfl⟩:=ZH.1 h;refine(List.findIdx_eq hi).2 ⟨by simp[hx],λj hj=>?_⟩;have:=A21.1 ha l[j] (Apj (i:=j) (by rw[Aoy,WU hj,Kv Aa]));simp[this]
def Vd (l:List Entry):AV:=if l.all Cs=true then .tuple [.t (.slice .any 1 ((l.map BW).map Lz)),.t .nilIface]else .tuple [.t (.slice .any 1 []),.t (.iface 406 (.ptr [.int .i64 (As4 l),.int .i64 2]))]
theorem Art (l:List Entry) (hl:l.length<=1000000) (cS: ∀x∈l,F2 x):A3z 241 [.t (.slice .any 18 (l.map AP)),.t (.func (.func 242) [] [])] [] (Vd l) []:=by
 have aQ:(l.map AP).length=l.length:=Ts ..;have gJ:(Vd l).free=true:=by unfold Vd;split<;>rfl
 refine Ra Ai Tryz.func241 Y false Y gJ ?_;have dQ:(((l.map AP).length:Nat):Int)=((l.length:Nat):Int):=by rw[aQ]
 repeat'(first|exact Au|refine yC ?_ ?_|refine⟨λh=>?_⟩|refine DH Ai Y Y Y Y Y Y Y (l:=0) Y dQ Y Y Aa Aa ?_|fail)
 refine AW (ι:=Nat) (λi=>i<=l.length/\(l.take i).all Cs=true) (λi=>[(1,.t (.func (.func 242) [] [])),(6,.row 26 1 0 (((l.take i).map BW).map Lz).length),(14,.t (.slice .any 18 (l.map AP))),(15,.t (.int .i64 l.length)),(16,.t (.int .i64 i))]) (λi=>[(26,.grow 1 (((l.take i).map BW).map Lz))]) (λi=>l.length-i) 0 Ac ?_ ?_
 ·exact Bb [] (Ag Y Y (Ag Y Y (Ag Y Y (Ag Y (by rw[aQ]) Aa6)))) Y
 rintro i ⟨hi,aI⟩;by_cases aC:i<l.length
 ·have hr:l[i]?=some l[i]:=Kv aC;have hs:=cS l[i] (Agz aC);generalize l[i]=r at hr hs
  cases hm:Cs r with
  |false=>
   repeat'(first|exact Au|refine yC ?_ ?_|refine⟨λh=>?_⟩|refine BZ (Ahf r hm hs.1 hs.2) ?_|fail)
   have cH:l.all Cs=false:=Asg hr hm;refine Ah Y ?_;simp only[Vd,cH,Al5 hr aI hm,A0s,ZF];exact As ⟨Ay,A3l _,trivial⟩
  |true=>
   repeat'(first|exact Au|refine yC ?_ ?_|refine⟨λh=>?_⟩|refine BZ (Ahe r hm hs.1 hs.2) ?_|fail)
   refine AM (i+1) ⟨aC,Zw hr aI hm⟩ Aa [8] (Ag Y Y (Ag Y ?_ (Ag Y Y (Ag Y Y (Ag Y ?_ A8))))) ?_
   ·rw[AB hr];simp[CH];rfl
   ·rw[A1 Aa Aa];rfl
   ·rw[AB hr];simp only[A38,A5h,A8j];rfl
 ·repeat'(first|exact Au|refine yC ?_ ?_|refine⟨λh=>?_⟩|fail)
  have kQ:=Ash Aa aI;refine Ah Y ?_;simp only[Vd,kQ,Xs];rw[QQ Aa];refine A3m ?_;simp[BG];exact QQ Ac
theorem Yj (l:List Entry) (hl:l.length<=1000000) (cS: ∀x∈l,F2 x):A3z 193 [.t (.slice .any 18 (l.map AP))] [] (.tuple [.t (.slice .any 1 (if l.all Cs=true then(l.map BW).map Lz else[])),.t (.int .i64 (if l.all Cs=true then 0 else 2))]) []:=by
 refine yF Tryz.func193 ?_;have ce:=Art l hl cS;unfold Vd at ce;by_cases ha:l.all Cs=true
 ·rw[WU ha]at ce;simp only[WU ha]
  repeat'(first|exact Au|refine yC ?_ ?_|refine⟨λh=>?_⟩|refine BZ Vb ?_|refine Mo Vb ?_|fail)
  exact Ah Y (A3m Y)
 ·rw[Ug ha]at ce;simp only[Ug ha]
  repeat'(first|exact Au|refine yC ?_ ?_|refine⟨λh=>?_⟩|refine Ab0 ?_ (c:=YS _ _)|refine Anx ?_ (c:=YS _ _)|fail)
  exact Ah Y (A3m Y)
theorem Al7 (n:Nat) (hn:n<=1024):A3z 262 [.t (.int .i64 n)] [] (.t (.int .i64 ((n+4:Nat):Int))) []:=by
 refine yF Tryz.func262 ?_
 repeat'(first|exact Au|refine yC ?_ ?_|refine⟨λh=>?_⟩|fail)
 refine Ah Y (A3m ?_);rw[A1 Aa Aa];congr 2;omega
def As2 (n i:Nat):List AV:=[.t (.int .u8 (if 0<i then((UInt8.ofNat (n % 256)).toNat:Int)else 0)),.t (.int .u8 (if 1<i then((UInt8.ofNat (n/256)).toNat:Int)else 0)),.t (.int .u8 0),.t (.int .u8 0)]
theorem Vx {n m:Nat} (h:m=n % 256):IntKind.u8.wrap (n:Int)=((UInt8.ofNat m).toNat:Int):=by
 subst h;simp[IntKind.wrap,IntKind.bits,IntKind.signed]
theorem Amg (n:Nat) (hn:n<=1024):A3z 263 [.t (.int .i64 n)] [] (.agg (As2 n 4)) []:=by
 refine yF Tryz.func263 ?_
 repeat'(first|exact Au|refine yC ?_ ?_|refine⟨λh=>?_⟩|fail)
 refine AW (ι:=Nat) (λi=>i<=4) (λi=>[(0,.t (.int .i64 n)),(2,.ref 4 0),(3,.ref 6 0),(5,.t (.int .i64 i))]) (λi=>[(6,.cells (As2 n i)),(4,.cells (Af Asq.zero))]) (λi=>4-i) 0 Ac ?_ ?_
 ·exact Bb [] Aa6 Y
 have f0:Int.fdiv (n:Int) (2^min 0 64)=((n:Nat):Int):=Ac;have f1:Int.fdiv (n:Int) (2^min 8 64)=((n/256:Nat):Int):=by simp[A82]
 have f2:Int.fdiv (n:Int) (2^min 16 64)=((0:Nat):Int):=by simp[A82];omega
 have f3:Int.fdiv (n:Int) (2^min 24 64)=((0:Nat):Int):=by simp[A82];omega
 intro i hi
 match i,hi with
 |0,_=>
  repeat'(first|exact Au|refine yC ?_ ?_|refine⟨λh=>?_⟩|refine Ac3 Ai 0 Y Y Y Y (A1 Ae Ae) Y ?_|fail)
  refine AM 1 Aa Aa [] (Ag Y Y (Ag Y Y (Ag Y Y (Ag Y ?_ A8)))) ?_
  ·rw[A1 Ae Ae];rfl
  ·rw[show IntKind.i64.bits=64 from rfl,f0,Vx Y];rfl
 |1,_=>
  repeat'(first|exact Au|refine yC ?_ ?_|refine⟨λh=>?_⟩|refine Ac3 Ai 8 Y Y Y Y (A1 Ae Ae) Y ?_|fail)
  refine AM 2 Aa Aa [] (Ag Y Y (Ag Y Y (Ag Y Y (Ag Y ?_ A8)))) ?_
  ·rw[A1 Ae Ae];rfl
  ·rw[show IntKind.i64.bits=64 from rfl,f1,Vx (m:=n/256) Aa];rfl
 |2,_=>
  repeat'(first|exact Au|refine yC ?_ ?_|refine⟨λh=>?_⟩|refine Ac3 Ai 16 Y Y Y Y (A1 Ae Ae) Y ?_|fail)
  refine AM 3 Aa Aa [] (Ag Y Y (Ag Y Y (Ag Y Y (Ag Y ?_ A8)))) ?_
  ·rw[A1 Ae Ae];rfl
  ·rw[show IntKind.i64.bits=64 from rfl,f2,Vx (m:=0) Y];rfl
 |3,_=>
  repeat'(first|exact Au|refine yC ?_ ?_|refine⟨λh=>?_⟩|refine Ac3 Ai 24 Y Y Y Y (A1 Ae Ae) Y ?_|fail)
  refine AM 4 Aa Aa [] (Ag Y Y (Ag Y Y (Ag Y Y (Ag Y ?_ A8)))) ?_
  ·rw[A1 Ae Ae];rfl
  ·rw[show IntKind.i64.bits=64 from rfl,f3,Vx (m:=0) Y];rfl
 |4,_=>
  repeat'(first|exact Au|refine yC ?_ ?_|refine⟨λh=>?_⟩|fail)
  exact Ah Y (A3m Y)
theorem Ag6 (s:Bs) (hs:s.length<=1024):A3z 217 [.t (.str s)] [] (.tuple [.t (.str (Wj s)),.t .nilIface]) []:=by
 refine yF Tryz.func217 ?_
 repeat'(first|exact Au|refine yC ?_ ?_|refine⟨λh=>?_⟩|refine Ab0 ?_ (c:=Al7 _ hs)|refine Ab0 ?_ (c:=Amg _ hs)|refine Ai1 Ai Y Y Y Y Y Y Y Ac Y ?_|refine Cr 4 8 (cs:=[.int .u8 ((UInt8.ofNat (s.length % 256)).toNat:Int),.int .u8 ((UInt8.ofNat (s.length/256)).toNat:Int),.int .u8 0,.int .u8 0]) Y Y Y Y Y ?_|refine Ev (s:=[UInt8.ofNat (s.length % 256),UInt8.ofNat (s.length/256),0,0]) Ai Y Y Y Y Y Y Y Y ?_|refine Ats Ai Y Y Y Y Y (by simp;omega) ?_|fail)
 exact Ah Y (A3m Y)
theorem Pv (s:Bs) (hs:s.length<=1024):A3z 151 [.t (.str s)] [] (.tuple [.t (.str (Wj s)),.t (.int .i64 0)]) []:=by
 refine yF Tryz.func151 ?_
 repeat'(first|exact Au|refine yC ?_ ?_|refine⟨λh=>?_⟩|refine BZ (Ag6 s hs) ?_|refine BZ (Alo 2) ?_|fail)
 exact Ah Y (A3m Y)
theorem On (name:Bs) (l:List Entry) (hl:l.length<=1000000) (cS: ∀x∈l,F2 x):A3z 126 [.t (.str name),.t (.slice .any 18 (l.map AP))] [] (.tuple [.t (.slice .any 4 ((RN name l).map BE)),.t (.int .i64 (Tx l))]) []:=by
 refine yF Tryz.func126 ?_;have cl:=Yj l hl cS;by_cases aI:l.all Cs=true
 ·simp only[WU aI]at cl;have aQ:((l.map BW).map Lz).length=l.length:=Ac
  repeat'(first|exact Au|refine yC ?_ ?_|refine⟨λh=>?_⟩|fail)
  ·have hn:l=[]:=Aq1 Aa;subst hn;refine Ah Y ?_;simp only[RN,Tx];exact As ⟨Ay,A3l _,trivial⟩
  have aE:l≠[]:=λe=>by subst e;simp at h
  refine A3n 8 43 4 Y Y ?_;refine AW (ι:=Nat) (λi=>i<=l.length) (λi=>[(0,.t (.str name)),(8,.row 86 4 0 (((l.take i).map (Vq name)).map BE).length),(25,.t (.slice .any 1 ((l.map BW).map Lz))),(26,.t (.int .i64 l.length)),(27,.t (.int .i64 i))]) (λi=>[(86,.grow 4 (((l.take i).map (Vq name)).map BE))]) (λi=>l.length-i) 0 Ac ?_ ?_
  ·exact Bb [] (Ag Y Y (Ag Y Y (Ag Y Y (Ag Y (by rw[aQ]) Aa6)))) Y
  rintro i hi;by_cases aC:i<l.length
  ·have hr:l[i]?=some l[i]:=Kv aC;have hm:=A21.1 aI l[i] (Agz aC);generalize l[i]=r at hr hm;have gV:(l.map BW)[i]?=some (BW r):=by simp[hr]
   repeat'(first|exact Au|refine yC ?_ ?_|refine⟨λh=>?_⟩|refine Ab0 ?_ (c:=Pv _ (SE hm))|fail)
   refine AM (i+1) aC Aa [] (Ag Y Y (Ag Y ?_ (Ag Y Y (Ag Y Y (Ag Y ?_ A8))))) ?_
   ·rw[AB hr];simp[CH]
   ·rw[A1 Aa Aa];rfl
   ·rw[AB hr];simp[CH,TY,BE,Vq,HI,CX]
  ·repeat'(first|exact Au|refine yC ?_ ?_|refine⟨λh=>?_⟩|fail)
   refine Ah Y (A3m ?_);simp only[RN,Tx,aE,aI,ne_eq,not_false_eq_true,and_self,Xs];rw[QQ Aa];simp[BG,EV,CH,TY,BE,Vq];exact QQ Ac
 ·simp only[Ug aI]at cl
  repeat'(first|exact Au|refine yC ?_ ?_|refine⟨λh=>?_⟩|fail)
  refine Ah Y ?_;simp only[RN,Tx,aI,A0s,and_false,ZF];exact As ⟨Ay,A3l _,trivial⟩
def E6 (b:Batch):Int:=b.seq+b.rZ.length
def Cu (lO lT:Int):Int->List Batch->Bool
 |_,[]=>true
 |next,b::r=>A4 b&&b.vV&&decide (b.lO=lO)&&decide (b.lT=lT)&&decide (b.seq=next)&&Cu lO lT (E6 b) r
def JC:List Batch->Int
 |[]=>0
 |b::_=>b.seq
def Gr:List Batch->Int
 |[]=>0
 |[b]=>E6 b
 |_::r=>Gr r
def Cp (o:Opn):Bool:=decide (1<=o.gG.length/\o.gG.length<=8)&&Cu o.lO o.lT (JC o.gG) o.gG
def Jq (o:Opn) (i:Nat) (b:Batch):Entry:=if i+1=o.gG.length then⟨3,b,true,Gr o.gG,0,N7,IZ⟩else⟨3,b,false,0,0,N7,IZ⟩
def CI (o:Opn):List Entry:=o.gG.mapIdx (Jq o)
theorem BV {b:Batch} (h:A4 b=true):0<=b.seq/\b.seq+b.rZ.length<=1048576/\1<=b.rZ.length/\b.rZ.length<=4:=by
 simp only[A4,Qp,Uj]at h;have h:=h.1;unfold E5 at h;omega
theorem G9 (b:Batch) (hb:A4 b=true):A3z 142 [.agg (Af (Ak b))] [] (.t (.int .i64 (E6 b))) []:=by
 have h:=BV hb;refine yF Tryz.func142 ?_
 repeat'(first|exact Au|refine yC ?_ ?_|refine⟨λh=>?_⟩|fail)
 refine Ah Y (A3m ?_);rw[Ts,A1 Aa Aa];rfl
theorem YZ (l:List Rec) (h0:l≠[]) (hl:l.length<=1000000):A3z 192 [.t (.slice .any 2 (l.map AX))] [] (.t (.slice .any 2 (l.map AX))) []:=by
 refine yF Tryz.func192 ?_
 cases l with
 |nil=>exact absurd Y h0
 |cons a r=>
  repeat'(first|exact Au|refine yC ?_ ?_|refine⟨λh=>?_⟩|refine KO Ai Y Y Y Y Y Y Y Y Y Y Y Y Y (by simp at hl⊢;omega) ?_|fail)
  refine Ah Y (A3m ?_);simp[BG];exact QQ Ac
theorem OP: ∀{l:List Batch} {b:Batch},l[l.length-1]?=some b->Gr l=E6 b
 |[],b,h=>by simp at h
 |[a],b,h=>by simp at h;subst h;rfl
 |a::c::r,b,h=>by
  have:(c::r)[(c::r).length-1]?=some b:=by simpa using h
  simp only[Gr];exact OP this
theorem ST (o:Opn) (h1:1<=o.gG.length) (h2:o.gG.length<=8) (hm: ∀b∈o.gG,A4 b=true):A3z 206 [.agg (Af (An o))] [] (.t (.int .i64 (Gr o.gG))) []:=by
 have aQ:(o.gG.map Ak).length=o.gG.length:=Ts ..;have hr:o.gG[o.gG.length-1]?=some (o.gG[o.gG.length-1]' Aa):=Kv _;have hb:=hm _ (Apj hr);generalize o.gG[o.gG.length-1]' Aa=b at hr hb;rw[OP hr];refine yF Tryz.func206 ?_;have hw:IntKind.i64.wrap (((o.gG.map Ak).length:Int)-1)=((o.gG.length-1:Nat):Int):=by rw[aQ,A1 Aa Aa];omega
 repeat'(first|exact Au|refine yC ?_ ?_|refine⟨λh=>?_⟩|refine KN Ai Y Y Y Y Y Y Y hw (C8 hr) Y ?_|refine BZ (G9 b hb) ?_|fail)
 exact Ah Y (A3m Y)
theorem Anp (o:Opn) (i:Nat) (b:Batch) (h1:1<=o.gG.length) (h2:o.gG.length<=8) (hm: ∀b∈o.gG,A4 b=true) (hb:A4 b=true) (hi:i<o.gG.length):
  A3z 205 [.t (.int .i64 i),.agg (Af (Ak b)),.t (.ptr (An o))] [] (.agg (Af (AP (Jq o i b)))) []:=by
 have aQ:(o.gG.map Ak).length=o.gG.length:=Ts ..;have jB:=BV hb;have aE:b.rZ≠[]:=λe=>by rw[e]at jB;simp at jB
 have hw:IntKind.i64.wrap (((o.gG.map Ak).length:Int)-1)=((o.gG.length-1:Nat):Int):=by rw[aQ,A1 Aa Aa];omega
 refine yF Tryz.func205 ?_
 repeat'(first|exact Au|refine yC ?_ ?_|refine⟨λh=>?_⟩|refine BZ (YZ b.rZ aE Aa) ?_|refine BZ (ST o h1 h2 hm) ?_|fail)
 ·have e:i+1=o.gG.length:=by rw[hw]at h;omega
  refine Ah Y ?_;simp only[Jq,e,Xs];exact AA
 ·have e: ¬i+1=o.gG.length:=by rw[hw]at h;omega
  refine Ah Y ?_;simp only[Jq,e,ZF];exact AA
theorem Aqv (o:Opn) (h1:1<=o.gG.length) (h2:o.gG.length<=8) (hm: ∀b∈o.gG,A4 b=true):
  A3z 204 [.t (.slice .any 5 (o.gG.map Ak)),.t (.func (.func 205) [] [.ptr (An o)])] [] (.t (.slice .any 18 ((CI o).map AP))) []:=by
 have aQ:(o.gG.map Ak).length=o.gG.length:=Ts ..;refine yF Tryz.func204 ?_;have dQ:(((o.gG.map Ak).length:Nat):Int)=((o.gG.length:Nat):Int):=by rw[aQ]
 repeat'(first|exact Au|refine yC ?_ ?_|refine⟨λh=>?_⟩|refine DH Ai Y Y Y Y Y Y Y (l:=0) Y dQ Y Y Aa Aa ?_|fail)
 refine AW (ι:=Nat) (λi=>i<=o.gG.length) (λi=>[(1,.t (.func (.func 205) [] [.ptr (An o)])),(5,.row 20 18 0 (((o.gG.take i).mapIdx (Jq o)).map AP).length),(11,.t (.slice .any 5 (o.gG.map Ak))),(12,.t (.int .i64 o.gG.length)),(13,.t (.int .i64 i))]) (λi=>[(20,.grow 18 (((o.gG.take i).mapIdx (Jq o)).map AP))]) (λi=>o.gG.length-i) 0 Ac ?_ ?_
 ·exact Bb [] (Ag Y Y (Ag Y Y (Ag Y Y (Ag Y (by rw[aQ]) Aa6)))) Y
 rintro i hi;by_cases aC:i<o.gG.length
 ·have hr:o.gG[i]?=some o.gG[i]:=Kv aC;have hb:=hm o.gG[i] (Agz aC);generalize o.gG[i]=r at hr hb
  have ht:(o.gG.take (i+1)).mapIdx (Jq o)=(o.gG.take i).mapIdx (Jq o)++[Jq o i r]:=by
   rw[AB hr,List.mapIdx_append];simp;congr 1;omega
  repeat'(first|exact Au|refine yC ?_ ?_|refine⟨λh=>?_⟩|refine BZ (Anp o i r h1 h2 hm hb aC) ?_|fail)
  refine AM (i+1) aC Aa [7] (Ag Y Y (Ag Y ?_ (Ag Y Y (Ag Y Y (Ag Y ?_ A8))))) ?_
  ·rw[ht];simp[CH];rfl
  ·rw[A1 Aa Aa];rfl
  ·rw[ht];simp only[A38,A5h,A8j];rfl
 ·repeat'(first|exact Au|refine yC ?_ ?_|refine⟨λh=>?_⟩|fail)
  refine Ah Y ?_;rw[QQ Aa];refine A3m ?_;simp[BG,CI];exact QQ Ac
theorem Oh: ∀{l:List Batch} {b:Batch},l[0]?=some b->JC l=b.seq
 |[],b,h=>by simp at h
 |a::r,b,h=>by simp at h;subst h;rfl
theorem Ahr (o:Opn) (h:Cp o=true):A3z 202 [.agg (Af (An o))] [] (.t .nilIface) []:=by
 have aQ:(o.gG.map Ak).length=o.gG.length:=Ts ..;simp only[Cp,Qp,Uj]at h;obtain⟨⟨h1,h2⟩,PZ⟩:=h;have gL:o.gG[0]?=some (o.gG[0]' Aa):=Kv _;have hf:=Oh gL;rw[hf]at PZ;generalize o.gG[0]' Aa=b0' at gL PZ;refine yF Tryz.func202 ?_
 repeat'(first|exact Au|refine yC ?_ ?_|refine⟨λh=>?_⟩|refine HM (kc:=0) Ai Y Y Y Y Y Y Y (C8 gL) Y ?_|fail)
 refine AW (ι:=Nat×Int) (λp=>p.1<=o.gG.length/\Cu o.lO o.lT p.2 (o.gG.drop p.1)=true) (λp=>[(1,.ref 2 0),(3,.t (.int .i64 p.2)),(25,.t (.slice .any 5 (o.gG.map Ak))),(26,.t (.int .i64 o.gG.length)),(27,.t (.int .i64 p.1))]) (λ_=>[(2,.cells (Af (An o)))]) (λp=>o.gG.length-p.1) (0,b0'.seq) ⟨Ac,PZ⟩ ?_ ?_
 ·exact Bb [] (Ag Y Y (Ag Y Y (Ag Y Y (Ag Y (by rw[aQ]) Aa6)))) Y
 rintro⟨i,next⟩ ⟨hi,hc⟩;simp only at hi hc;by_cases aC:i<o.gG.length
 ·have hr:o.gG[i]?=some o.gG[i]:=Kv aC;generalize o.gG[i]=r at hr;rw[CL hr]at hc;simp only[Cu,Qp,Uj]at hc;obtain⟨⟨⟨⟨⟨c1,c2⟩,c3⟩,c4⟩,c5⟩,c6⟩:=hc;have jB:=BV c1;have cm:A3z 120 [.agg (Af (Ak r))] [] (.t (.bool true)) []:=c1▸Fk r Aa
  repeat'(first|exact Au|refine yC ?_ ?_|refine⟨λh=>?_⟩|refine BZ (G9 r c1) ?_|fail)
  all_goals try(exfalso;simp_all;done)
  refine AM (i+1,E6 r) ⟨aC,c6⟩ (by simp;omega) [5] (Ag Y Y (Ag Y Y (Ag Y Y (Ag Y Y (Ag Y ?_ A8))))) Y;rw[A1 Aa Aa];rfl
 ·repeat'(first|exact Au|refine yC ?_ ?_|refine⟨λh=>?_⟩|fail)
  exact Ah Y (A3m Y)
theorem Me {lO lT:Int}: ∀{l:List Batch} {next:Int},Cu lO lT next l=true-> ∀b∈l,A4 b=true
 |[],_,_,b,hb=>by simp at hb
 |a::r,next,h,b,hb=>by
  simp only[Cu,Qp]at h;simp only[Als]at hb;rcases hb with rfl|hb
  ·exact h.1.1.1.1.1
  ·exact Me h.2 b hb
theorem P5 (o:Opn) (h:Cp o=true):A3z 140 [.agg (Af (An o))] [] (.tuple [.t (.slice .any 18 ((CI o).map AP)),.t (.int .i64 0)]) []:=by
 have h':=h;simp only[Cp,Qp,Uj]at h';obtain⟨⟨h1,h2⟩,PZ⟩:=h';refine yF Tryz.func140 ?_;refine HA ?_;refine Jx Ai Y Y ?_
 repeat'(first|exact Au|refine yA ?_ ?_|refine⟨λh=>?_⟩|fail)
 refine A3q (cs:=An o) 1 2 Y Y Y Y ?_
 repeat'(first|exact Au|refine yC ?_ ?_|refine⟨λh=>?_⟩|refine BZ (Ahr o h) ?_|refine BZ (Aqv o h1 h2 (Me PZ)) ?_|fail)
 exact Ah Y (A3m Y)
end Go.Proofs.YtppffhlbcgpgdaaGreatDoor
namespace Go.Proofs.YtppffhlbcgpgdaaGreatDoor
open Go.Am
attribute [local irreducible] Decidable.decide
theorem Cw {e:TypeId} {fz:Nat×Nat} (b:Nat): ∀(us:List Value) (o:Nat) (w:World) (vs:Array Value),w.heap[b]?=some (.cells vs e fz)-> ∃vs':Array Value,(w.setCells b o us).heap[b]?=some (.cells vs' e fz)/\vs'.size=vs.size
 |[],o,w,vs,h=>⟨vs,h,Y⟩
 |u::r,o,w,vs,h=>by
  obtain⟨vs',h1,h2⟩:=Cw (e:=e) (fz:=fz) b r (o+1) (w.setCell ⟨b,o,none⟩ u) (vs.setIfInBounds o u) (by simp[World.setCell,A6u,h]);exact⟨vs',h1,by rw[h2];simp⟩
theorem Cv (b:Nat): ∀(us:List Value) (o:Nat) (w:World),(w.setCells b o us).heap.size=w.heap.size
 |[],_,_=>rfl
 |u::r,o,w=>by rw[World.setCells,Cv b r];simp[World.setCell]
theorem Cc {b c:Nat} (aE:c≠b): ∀(us:List Value) (o:Nat) (w:World),(w.setCells b o us).heap[c]?=w.heap[c]?
 |[],_,_=>rfl
 |u::r,o,w=>by rw[World.setCells,Cc aE r];simp[World.setCell,A6u,A6f aE]
theorem CR (b:Nat): ∀(us:List Value) (o:Nat) (w:World),(w.setCells b o us).os=w.os
 |[],_,_=>rfl
 |u::r,o,w=>by rw[World.setCells,CR b r];rfl
theorem CB (b:Nat): ∀(us:List Value) (o:Nat) (w:World),(w.setCells b o us).output=w.output
 |[],_,_=>rfl
 |u::r,o,w=>by rw[World.setCells,CB b r];rfl
theorem OX {α:Type} (sz:Nat): ∀(es:List (List α)) (i:Nat),(∀e∈es,e.length=sz)->(es.take i).flatten=es.flatten.take (i*sz)
 |[],i,_=>Ac
 |a::r,0,_=>Ac
 |a::r,i+1,h=>by
  have ha:=h a Ac;rw[List.take_succ_cons,A5g,A5g,OX sz r i (λe he=>h e (by simp[he])),show(i+1)*sz=a.length+i*sz by rw[ha,A58];omega,A8r]
theorem OY {α:Type} (sz:Nat): ∀(es:List (List α)) (i:Nat),(∀e∈es,e.length=sz)->(es.drop i).flatten=es.flatten.drop (i*sz)
 |[],i,_=>Ac
 |a::r,0,_=>Ac
 |a::r,i+1,h=>by
  have ha:=h a Ac;rw[A8p,A5g,OY sz r i (λe he=>h e (by simp[he])),show(i+1)*sz=a.length+i*sz by rw[ha,A58];omega,A8s]
theorem Ahj (σ:St) (b:Nat) (es:List (List T)) (i:Nat) (hb:Go.Am.look σ b=some (Blk.grow 3 es)) (hi:i<es.length) (bW:es.length<=1000000):
  A3z 157 [.row b 3 0 es.length,.t (.int .i64 i),.t (.int .i64 ((i:Int)+1))] σ (.row b 3 0 (es.length-1)) (upd σ b (.grow 3 (es.eraseIdx i))):=by
 refine⟨⟨_,Tryz.func157,Y⟩,λvs w g hr dL=>?_⟩;obtain⟨aO,aJ⟩:=hr
 match vs,aO with
 |[v1,v2,v3],_=>
  have r1:=aJ 0 v1 _ Y Y;have e2:=CC (aJ 1 v2 _ Y Y);have e3:=CC (aJ 2 v3 _ Y Y);subst e2;subst e3;generalize hn:es.length=n at r1 hi
  cases r1 with
  |rowNil=>omega
  |row _ _ _ _ aA o cap e m h hs ho gC hm=>
   obtain⟨aN,jY⟩:=dL.ok b _ hb;rcases jY with⟨h1,_⟩|⟨aX,u,e',k1,k2,k3,k4,k5⟩
   ·rw[h1]at h;cases h
   rw[k1]at h;cases h;simp only[World.shape?,k3,A26,A6p]at hs;obtain⟨rfl,rfl⟩:=hs;have dE:o=0:=by rcases ho with h|h<;>omega
   subst dE;have aL: ∀k,w.cell? ⟨aA,k,none⟩=u[k]?:=λk=>by simp[World.cell?,k3]
   have dV: ∀k,w.frozen? ⟨aA,k,none⟩=false:=λk=>by simp[World.frozen?,k3]
   have nY:=Cx 3 es aN;rw[hn]at nY
   have aU: ∀k (hk:k<n*3),∃v x,u[k]?=some v/\es.flatten[k]?=some x/\CV x=true/\RelT w g.M v x:=λk hk=>by
    have h1:k<u.size:=Aa;have h2:k<es.flatten.length:=Aa;exact⟨u[k],es.flatten[k],by simp[h1],by simp[h2],k5 k _ _ (by simp[h1]) (by simp[h2])⟩
   have i7:((u.toList.drop ((i+1)*3)).take ((n-(i+1))*3)).length=(n-(i+1))*3:=by
    rw[A2i,A43,A53];omega
   have qO: ∀j,j<(n-(i+1))*3->((u.toList.drop ((i+1)*3)).take ((n-(i+1))*3))[j]?=u[(i+1)*3+j]?:=λj hj=>by
    rw[Aoy,WU hj,A4z,Agx]
   generalize gB:(u.toList.drop ((i+1)*3)).take ((n-(i+1))*3)=bV at i7 qO;have sQ: ∀j (v:Value),bV[j]?=some v->j<(n-(i+1))*3:=λj v hv=>by rw[<-i7];exact(ZH.1 hv).1
   refine(Ann aA 0 n cap i bV w hi gC Aa i7 (λj v hv=>?_) (λv hv=>?_) (λj hj=>?_) (λj _=>dV _)).mono ?_
   ·rw[aL,Atj,<-qO j (sQ j v hv)];exact hv
   ·obtain⟨j,hj⟩:=A7o hv;have sP:=sQ j v hj;rw[qO j sP]at hj;obtain⟨v',x,q1,_,q3,q4⟩:=aU ((i+1)*3+j) Aa;rw[q1]at hj;cases hj;exact(He q4 q3).1
   ·rw[aL];simp;omega
   rintro ev w' ⟨rfl,rfl⟩;obtain⟨u1,a1,a2⟩:=Cw aA bV (0+i*3) w.drew u k3;obtain⟨u2,b1,b2⟩:=Cw aA DR (0+(i+(n-(i+1)))*3) (w.drew.setCells aA (0+i*3) bV) u1 a1
   have bU:Sets w ((w.drew.setCells aA (0+i*3) bV).setCells aA (0+(i+(n-(i+1)))*3) DR) aA u2 e':=⟨by rw[Cv,Cv];rfl,λc hc=>by rw[Cc hc,Cc hc];rfl,b1,by rw[CR,CR];rfl,by rw[CB,CB];rfl⟩
   have fG: ∀k,k<(n-1)*3->u2[k]?=if k<i*3 then u[k]? else u[k+3]?:=λk hk=>by
    have iG:((w.drew.setCells aA (0+i*3) bV).setCells aA (0+(i+(n-(i+1)))*3) DR).cell? ⟨aA,k,none⟩=u2[k]?:=by simp only[World.cell?,b1];rfl
    rw[<-iG,World.cell?_setCells_out _ _ _ _ _ (λ_ _=>Or.inl (by show k<_;omega))];split
    ·rename_i fO;rw[World.cell?_setCells_out _ _ _ _ _ (λ_ _=>Or.inl (by show k<_;omega))];exact aL k
    ·rename_i fO
     have:=World.cell?_setCells_in aA bV (0+i*3) w.drew (λj hj=>by
      rw[show w.drew.cell? ⟨aA,0+i*3+j,none⟩=w.cell? ⟨aA,0+i*3+j,none⟩from rfl,aL];rw[i7]at hj;simp;omega) (k-i*3) (by rw[i7];omega)
     rw[show 0+i*3+(k-i*3)=k from Aa]at this;rw[this,<-Kv,qO _ Aa];congr 1;omega
   have dF: ∀x∈es.eraseIdx i,x.length=3:=λx hx=>aN x (List.mem_of_mem_eraseIdx hx)
   have pU:(es.eraseIdx i).flatten=es.flatten.take (i*3)++es.flatten.drop ((i+1)*3):=by
    rw[List.eraseIdx_eq_take_drop_succ,A48,OX 3 es i aN,OY 3 es (i+1) aN]
   have i9:(es.eraseIdx i).flatten.length=(n-1)*3:=by
    rw[pU,Xp,A2i,A43,nY];omega
   have fP: ∀k,k<(n-1)*3->(es.eraseIdx i).flatten[k]?=if k<i*3 then es.flatten[k]? else es.flatten[k+3]?:=λk hk=>by
    rw[pU];have dY:(es.flatten.take (i*3)).length=i*3:=by rw[A2i,nY];omega
    split
    ·rename_i fO;rw[Abh Aa,Aoy,WU fO]
    ·rename_i fO;rw[Aez Aa,dY,A4z];congr 1;omega
   obtain⟨q1,q2,q3⟩:=Kh dL (B:=.grow 3 (es.eraseIdx i)) k1 k3 (by rw[b2,a2]) bU (λ⟨cs,bZ⟩=>by rw[hb]at bZ;cases bZ) (λbQ=>⟨dF,.inr ⟨aA,u2,e',k1,k2,b1,by rw[i9,b2,a2];omega,λk v x hv hx=>by
    have hk:k<(n-1)*3:=by rw[<-i9];exact(ZH.1 hx).1
    rw[fG k hk]at hv;rw[fP k hk]at hx
    have key: ∀k',u[k']?=some v->es.flatten[k']?=some x->CV x=true/\RelT _ g.M v x:=λk' h1 h2=>⟨(k5 k' v x h1 h2).1,Av (bQ _ _ (.t _ _ (k5 k' v x h1 h2).2))⟩
    split at hv
    ·rename_i fO;rw[WU fO]at hx;exact key k hv hx
    ·rename_i fO;rw[Ug fO]at hx;exact key (k+3) hv hx⟩⟩)
   refine⟨_,g,Y,q1,?_,q2⟩;rw[show AV.row b 3 0 (n-1)=AV.row b 3 0 (i+(n-(i+1)))by congr 1;omega];exact .row b 3 0 _ aA 0 cap e' u2.size k1 (by simp only[World.shape?,b1]) (.inl Ac) Aa (by rw[b2,a2];omega)
