/- Contracts and laws, joined: Pl, Pm, Pn, Po, Pp, Pq. No condition beside those that each theorem names. -/
import Derived.Test.YtmohpcgmdheafaaGreatDoorZJ4b
import Derived.Test.YtmohpcgmdheafaaGreatDoorZE2
set_option linter.unusedVariables false
set_option linter.unusedSimpArgs false
set_option maxRecDepth 100000
set_option maxHeartbeats 8000000
namespace Go.Proofs.YtmohpcgmdheafaaGreatDoor
open Go.Am
attribute [local irreducible] Decidable.decide Tr A2 hSK hSW
def Bz (n:Int):List T:=[.int .i64 n]
def wB (b:Bs):St:=[(1,.cells [.t (.slice .any 1 (b.map A7)),.t (.int .i64 0)])]
theorem Adl {l:List Int} {i:Nat} {n:Int} (h:l[i]?=some n):BK (l.take (i+1))=BK (l.take i)++AY n.toNat:=by
 rw[A5 h];simp[BK]
theorem Kd: ∀{l:List Int},(∀n∈l,0<=n/\n<=1099511627776)->(BK l).length<=6*l.length
 |[],_=>by simp[BK]
 |a::r,h=>by
  have ih:=Kd (l:=r) fun n hn=>h n (by simp[hn])
  have h1:=h a Ac
  have h2:=AC (n:=a.toNat) Aa
  simp only[BK,List.flatMap_cons,List.length_append,List.length_cons]at ih⊢;omega
theorem H4 (b:Bs) (l:List Int) (hl: ∀n∈l,0<=n/\n<=1099511627776) (hll:l.length<=1000) (hb:b.length<=100000000):
  A17 376 [.ref 1 0,.t (.slice .any 1 (l.map Bz))] (wB b) (.tuple []) (wB (b++BK l)):=by
 refine ct1 Ag Tryz.func376 Y Y ?_
 have hlm:(l.map Bz).length=l.length:=List.length_map ..
 repeat'(first|exact prB|refine stC ?_|refine stU (fun h=>?_) fun h=>?_|fail)
 refine A3 (ι:=Nat) (fun i=>i<=l.length) (fun i=>[(0,.ref 1 0),(6,.t (.slice .any 1 (l.map Bz))),(7,.t (.int .i64 l.length)),(8,.t (.int .i64 i))]) (fun i=>wB (b++BK (l.take i))) (fun i=>l.length-i) 0 Ac ?_ ?_
 ·exact AE [] (Af Y Y (Af Y Y (Af Y (by rw[hlm]) (Af Y Y Aj)))) (by simp[BK,wB,EY])
 rintro i hi
 by_cases hlt:i<l.length
 ·have hr:l[i]?=some l[i]:=List.getElem?_eq_getElem hlt
  have hn:=hl l[i] (List.getElem_mem hlt)
  have hl5:=Kd (l:=l.take i) (fun n hn=>hl n (List.mem_of_mem_take hn))
  rw[List.length_take]at hl5
  generalize l[i]=r at hr hn
  repeat'(first|exact prB|refine stC ?_|refine stU (fun h=>?_) fun h=>?_|refine stL ?_ (c:=DG _ r hn.1 hn.2 (by rw[List.length_append];omega))|fail)
  refine Ay (i+1) Aa Aa [] (Af Y Y (Af Y Y (Af Y Y (Af Y ?_ Aj)))) ?_
  ·rw[An Aa Aa];rfl
  ·rw[Adl hr,<-List.append_assoc];rfl
 ·repeat'(first|exact prB|refine stC ?_|refine stU (fun h=>?_) fun h=>?_|fail)
  refine AZ [] Y Y ?_ (A1x _)
  rw[List.take_of_length_le Aa];rfl
theorem Xx (b s:Bs) (hs:s.length<=1024) (hb:b.length<=1000000000):
  A17 377 [.ref 1 0,.t (.str s)] (wB b) (.tuple []) (wB (b++DT s)):=by
 refine ct1 Ag Tryz.func377 Y Y ?_
 repeat'(first|exact prB|refine stC ?_|refine stU (fun h=>?_) fun h=>?_|refine stL ?_ (c:=RN b s hs hb)|fail)
 exact AZ [] Y Y Y (A1x _)
def wF (b:Bs):St:=[(1,.cells [.t (.slice .full 1 (b.map A7)),.t (.int .i64 0)])]
theorem Mt {b:Bs}:SP (wF b) (wB b):=by
 exact⟨⟨Y,Ar,A1x _,trivial⟩,trivial⟩
theorem VI (b:Bs) (x:Entry) (hm:A9 x.b=true) (hb:b.length<=1000000):A17 364 [.ref 1 0,.agg (Ah (Az x))] (wF b) (.tuple []) (wB (b++CG x.b)):=by
 refine ct1 Ag Tryz.func364 Y Y ?_
 have hl:=En hm
 repeat'(first|exact prB|refine stC ?_|refine stU (fun h=>?_) fun h=>?_|refine stL ?_ (c:=Tq x.b hm)|refine IQ Ag Y Y Y Y Y Y Y Y Y Y Y Y (by simp[DI];omega) ?_|fail)
 refine AZ [3] Y Y ?_ (A1x _)
 rw[B8,<-List.map_append];rfl
theorem Aft (b:Bs) (x:Entry) (h:0<=x.b.pid/\x.b.pid<=1099511627776/\0<=x.b.epoch/\x.b.epoch<=1099511627776) (hb:b.length<=1000000):A17 365 [.ref 1 0,.agg (Ah (Az x))] (wB b) (.tuple []) (wB (b++BK [x.b.pid,x.b.epoch]++Ch x.yes)):=by
 refine ct1 Ag Tryz.func365 Y Y ?_
 have hl:=Kd (l:=[x.b.pid,x.b.epoch]) (by simp;omega)
 simp only[List.length_cons,List.length_nil]at hl
 have c1:=H4 b [x.b.pid,x.b.epoch] (by simp;omega) Ac Aa
 repeat'(first|exact prB|refine stC ?_|refine stU (fun h=>?_) fun h=>?_|refine stD 2 8 ?_|refine A0 Ag [(1,1)] [(1,1)] Y Y Y Y Y (c1.args ⟨A1x _,Ar,trivial⟩) Y Y Y Y Y ?_|refine stL ?_ (c:=K5 _ _ (by simp;omega))|refine stM ?_ (c:=K5 (b++BK [x.b.pid,x.b.epoch]) x.yes (by rw[List.length_append];omega))|fail)
 exact AZ [3] Y Y Y (A1x _)
theorem Akt (b:Bs) (x:Entry) (h:0<=x.offset/\x.offset<=1099511627776) (hb:b.length<=1000000):A17 366 [.ref 1 0,.agg (Ah (Az x))] (wB b) (.tuple []) (wB (b++BK [x.offset])):=by
 refine ct1 Ag Tryz.func366 Y Y ?_
 have c1:=H4 b [x.offset] (by simp;omega) Ac Aa
 repeat'(first|exact prB|refine stC ?_|refine stU (fun h=>?_) fun h=>?_|refine A0 Ag [(1,1)] [(1,1)] Y Y Y Y Y (c1.args ⟨A1x _,Ar,trivial⟩) Y Y Y Y Y ?_|fail)
 exact AZ [3] Y Y Y (A1x _)
theorem Afv (b:Bs) (x:Entry) (h:0<=x.b.pid/\x.b.pid<=1099511627776/\0<=x.b.epoch/\x.b.epoch<=1099511627776/\0<=x.next/\x.next<=1099511627776) (hb:b.length<=1000000):A17 368 [.ref 1 0,.agg (Ah (Az x))] (wB b) (.tuple []) (wB (b++BK [x.b.pid,x.b.epoch,x.next])):=by
 refine ct1 Ag Tryz.func368 Y Y ?_
 have c1:=H4 b [x.b.pid,x.b.epoch,x.next] (by simp;omega) Ac Aa
 repeat'(first|exact prB|refine stC ?_|refine stU (fun h=>?_) fun h=>?_|refine A0 Ag [(1,1)] [(1,1)] Y Y Y Y Y (c1.args ⟨A1x _,Ar,trivial⟩) Y Y Y Y Y ?_|fail)
 exact AZ [3] Y Y Y (A1x _)
theorem Akr (b:Bs) (x:Entry) (h:0<=x.row.pid/\x.row.pid<=1099511627776/\0<=x.row.seq/\x.row.seq<=1099511627776) (hk:x.row.key.length<=16) (hv:x.row.value.length<=16) (hb:b.length<=1000000):
  A17 369 [.ref 1 0,.agg (Ah (Az x))] (wB b) (.tuple []) (wB (b++BK [x.row.pid,x.row.seq]++DT x.row.key++DT x.row.value)):=by
 refine ct1 Ag Tryz.func369 Y Y ?_
 have hl:=Kd (l:=[x.row.pid,x.row.seq]) (by simp;omega)
 simp only[List.length_cons,List.length_nil]at hl
 have hl2:=ES (s:=x.row.key) Aa
 have c1:=H4 b [x.row.pid,x.row.seq] (by simp;omega) Ac Aa
 repeat'(first|exact prB|refine stC ?_|refine stU (fun h=>?_) fun h=>?_|refine A0 Ag [(1,1)] [(1,1)] Y Y Y Y Y (c1.args ⟨A1x _,Ar,trivial⟩) Y Y Y Y Y ?_|refine A0 Ag [(1,1)] [(1,1)] Y Y Y Y Y (Xx (b++BK [x.row.pid,x.row.seq]) x.row.key Aa (by rw[List.length_append];omega)) Y Y Y Y Y ?_|refine A0 Ag [(1,1)] [(1,1)] Y Y Y Y Y (Xx (b++BK [x.row.pid,x.row.seq]++DT x.row.key) x.row.value Aa (by rw[List.length_append,List.length_append];omega)) Y Y Y Y Y ?_|fail)
 exact AZ [3] Y Y Y (A1x _)
theorem Afw (b:Bs) (x:Entry) (hm:A9 x.b=true) (h:0<=x.next/\x.next<=1099511627776) (hb:b.length<=1000000):A17 367 [.ref 1 0,.agg (Ah (Az x))] (wF b) (.tuple []) (wB (b++CG x.b++Ch x.yes++(if x.yes then BK [x.next]else[]))):=by
 refine ct1 Ag Tryz.func367 Y Y ?_
 have hl:=En hm
 have c1:=H4 (b++CG x.b++Ch x.yes) [x.next] (by simp;omega) Ac (by simp only[List.length_append,Ch,List.length_cons,List.length_nil];omega)
 repeat'(first|exact prB|refine stC ?_|refine stU (fun h=>?_) fun h=>?_|refine stD 2 8 ?_|refine A0 Ag [(1,1)] [(1,1)] Y Y Y Y Y (VI b x hm hb) Y Y Y Y Y ?_|refine A0 Ag [(1,1)] [(1,1)] Y Y Y Y Y (c1.args ⟨A1x _,Ar,trivial⟩) Y Y Y Y Y ?_|refine stM ?_ (c:=K5 (b++CG x.b) x.yes (by rw[List.length_append];omega))|fail)
 ·rw[if_pos Ad];exact AZ [3] Y Y Y (A1x _)
 ·rw[if_neg Ad,List.append_nil];exact AZ [3] Y Y Y (A1x _)
theorem Ab6 (b:Bs) (x:Entry) (hk:C1 x.prod=true) (hb:b.length<=1000000):A17 370 [.ref 1 0,.agg (Ah (Az x))] (wB b) (.tuple []) (wB (b++BK [x.prod.pid,x.prod.epoch,x.prod.next,x.prod.seen.length]++x.prod.seen.flatMap JT)):=by
 refine ct1 Ag Tryz.func370 Y Y ?_
 simp only[C1,Bool.and_eq_true,decide_eq_true_eq]at hk
 obtain⟨hbd,hch⟩:=hk
 unfold Cx at hbd
 have hsn:=Jy Aa Aa hch
 have hlm:(x.prod.seen.map AM).length=x.prod.seen.length:=List.length_map ..
 have c1:=H4 b [x.prod.pid,x.prod.epoch,x.prod.next,x.prod.seen.length] (by simp;omega) Ac Aa
 rw[<-hlm]at c1
 repeat'(first|exact prB|refine stC ?_|refine stU (fun h=>?_) fun h=>?_|refine A0 Ag [(1,1)] [(1,1)] Y Y Y Y Y (c1.args ⟨A1x _,Ar,trivial⟩) Y Y Y Y Y ?_|fail)
 refine A3 (ι:=Nat) (fun i=>i<=x.prod.seen.length) (fun i=>[(0,.ref 1 0),(24,.t (.slice .any 3 (x.prod.seen.map AM))),(25,.t (.int .i64 x.prod.seen.length)),(26,.t (.int .i64 i))]) (fun i=>wB (b++BK [x.prod.pid,x.prod.epoch,x.prod.next,x.prod.seen.length]++(x.prod.seen.take i).flatMap JT)) (fun i=>x.prod.seen.length-i) 0 Ac ?_ ?_
 ·refine AE [3] (Af Y Y (Af Y Y (Af Y (by rw[hlm];rfl) (Af Y Y Aj)))) ?_
  simp only[hlm,List.take_zero,List.flatMap_nil,List.append_nil];rfl
 rintro i hi
 by_cases hlt:i<x.prod.seen.length
 ·have hr:x.prod.seen[i]?=some x.prod.seen[i]:=List.getElem?_eq_getElem hlt
  have hn:=hsn x.prod.seen[i] (List.getElem_mem hlt)
  have hl5:=KM (l:=x.prod.seen.take i) (fun s hs=>hsn s (List.mem_of_mem_take hs))
  rw[List.length_take]at hl5
  have hl:=Kd (l:=[x.prod.pid,x.prod.epoch,x.prod.next,(x.prod.seen.length:Int)]) (by simp;omega)
  simp only[List.length_cons,List.length_nil]at hl
  generalize x.prod.seen[i]=r at hr hn
  have ho:=hn.1;unfold Cn at ho
  have hw:IntKind.i64.wrap (r.base+1)=r.base+1:=An Aa Aa
  have c2:=H4 (b++BK [x.prod.pid,x.prod.epoch,x.prod.next,x.prod.seen.length]++(x.prod.seen.take i).flatMap JT) [r.seq,r.count,r.base+1] (by simp;omega) Ac (by simp only[List.length_append];omega)
  rw[<-hw]at c2
  repeat'(first|exact prB|refine stC ?_|refine stU (fun h=>?_) fun h=>?_|refine A0 Ag [(1,1)] [(1,1)] Y Y Y Y Y (c2.args ⟨A1x _,Ar,trivial⟩) Y Y Y Y Y ?_|fail)
  refine Ay (i+1) Aa Aa [5] (Af Y Y (Af Y Y (Af Y Y (Af Y ?_ Aj)))) ?_
  ·rw[An Aa Aa];rfl
  ·rw[A5 hr,hw];simp only[List.flatMap_append,List.flatMap_cons,List.flatMap_nil,List.append_nil,JT,<-List.append_assoc];rfl
 ·repeat'(first|exact prB|refine stC ?_|refine stU (fun h=>?_) fun h=>?_|fail)
  refine AZ [] Y Y ?_ (A1x _)
  rw[List.take_of_length_le Aa];rfl
theorem Afo:A17 348 [.t (.int .i8 0)] [] (.t (.func (.func 364) [] [])) []:=by
 refine ct0 Ag Tryz.func348 Y false Y Y ?_
 repeat'(first|exact prB|refine stC ?_|refine stU (fun h=>?_) fun h=>?_|refine GX Ag Y Y Y Y Y Y Y Y ?_|fail)
 exact Ai Y (A1y Y)
theorem Amt (x:Entry) (hk:x.kind=0) (hm:B9 x=true) (ha:x.b.recs.length<=1000000) (hp:x.prod.seen.length<=1000000):A17 319 [.agg (Ah (Az x))] [] (.tuple [.t (.str (Bx x)),.t (.int .i64 0)]) []:=by
 have hma:=(CU hm).2
 simp only[hk,if_true,if_false,Int.reduceEq,true_and]at hma
 skip
 have eB:Bx x=[0]++(CG x.b):=by simp[Bx,hk,BK]
 rw[eB]
 have cm:A17 347 [.agg (Ah (Az x))] [] (.t (.bool true)) []:=hm▸HP EF x ha hp
 have cw:A17 348 [.t (.int .i8 x.kind)] [] (.t (.func (.func 364) [] [])) []:=by rw[hk];exact Afo
 have e1:T.int .u8 ((UInt8.toNat 0:Nat):Int)=T.int .u8 (IntKind.u8.wrap x.kind):=by rw[hk];rfl
 have cd:=VI [0] x hma Ac
 skip
 simp only[wF,List.map,A7,e1]at cd
 refine ct0 Ag Tryz.func319 Y false Y Y ?_
 repeat'(first|exact prB|refine stC ?_|refine stU (fun h=>?_) fun h=>?_|refine stD 4 5 ?_|refine stD 6 5 ?_|refine stL ?_ (c:=cm)|refine stM ?_ (c:=cw)|refine A0 Ag [(26,1)] [(1,26)] Y Y Y Y Y cd Y Y Y Y Y ?_|refine Ci Ag Y Y Y Y Y Y (B8 _).symm Y ?_|fail)
 exact Ai Y (A1y (by simp only[List.append_assoc]))
theorem Afn:A17 348 [.t (.int .i8 1)] [] (.t (.func (.func 365) [] [])) []:=by
 refine ct0 Ag Tryz.func348 Y false Y Y ?_
 repeat'(first|exact prB|refine stC ?_|refine stU (fun h=>?_) fun h=>?_|refine GX Ag Y Y Y Y Y Y Y Y ?_|fail)
 exact Ai Y (A1y Y)
theorem Ams (x:Entry) (hk:x.kind=1) (hm:B9 x=true) (ha:x.b.recs.length<=1000000) (hp:x.prod.seen.length<=1000000):A17 319 [.agg (Ah (Az x))] [] (.tuple [.t (.str (Bx x)),.t (.int .i64 0)]) []:=by
 have hma:=(CU hm).2
 simp only[hk,if_true,if_false,Int.reduceEq,true_and]at hma
 skip
 have eB:Bx x=[1]++(BK [x.b.pid,x.b.epoch]++Ch x.yes):=by simp[Bx,hk,BK]
 rw[eB]
 have cm:A17 347 [.agg (Ah (Az x))] [] (.t (.bool true)) []:=hm▸HP EF x ha hp
 have cw:A17 348 [.t (.int .i8 x.kind)] [] (.t (.func (.func 365) [] [])) []:=by rw[hk];exact Afn
 have e1:T.int .u8 ((UInt8.toNat 1:Nat):Int)=T.int .u8 (IntKind.u8.wrap x.kind):=by rw[hk];rfl
 have cd:=Aft [1] x Aa Ac
 replace cd:=cd.weak (A10 _) Mt
 simp only[wF,List.map,A7,e1]at cd
 refine ct0 Ag Tryz.func319 Y false Y Y ?_
 repeat'(first|exact prB|refine stC ?_|refine stU (fun h=>?_) fun h=>?_|refine stD 4 5 ?_|refine stD 6 5 ?_|refine stL ?_ (c:=cm)|refine stM ?_ (c:=cw)|refine A0 Ag [(26,1)] [(1,26)] Y Y Y Y Y cd Y Y Y Y Y ?_|refine Ci Ag Y Y Y Y Y Y (B8 _).symm Y ?_|fail)
 exact Ai Y (A1y (by simp only[List.append_assoc]))
theorem Afm:A17 348 [.t (.int .i8 2)] [] (.t (.func (.func 366) [] [])) []:=by
 refine ct0 Ag Tryz.func348 Y false Y Y ?_
 repeat'(first|exact prB|refine stC ?_|refine stU (fun h=>?_) fun h=>?_|refine GX Ag Y Y Y Y Y Y Y Y ?_|fail)
 exact Ai Y (A1y Y)
theorem Amr (x:Entry) (hk:x.kind=2) (hm:B9 x=true) (ha:x.b.recs.length<=1000000) (hp:x.prod.seen.length<=1000000):A17 319 [.agg (Ah (Az x))] [] (.tuple [.t (.str (Bx x)),.t (.int .i64 0)]) []:=by
 have hma:=(CU hm).2
 simp only[hk,if_true,if_false,Int.reduceEq,true_and]at hma
 skip
 have eB:Bx x=[2]++(BK [x.offset]):=by simp[Bx,hk,BK]
 rw[eB]
 have cm:A17 347 [.agg (Ah (Az x))] [] (.t (.bool true)) []:=hm▸HP EF x ha hp
 have cw:A17 348 [.t (.int .i8 x.kind)] [] (.t (.func (.func 366) [] [])) []:=by rw[hk];exact Afm
 have e1:T.int .u8 ((UInt8.toNat 2:Nat):Int)=T.int .u8 (IntKind.u8.wrap x.kind):=by rw[hk];rfl
 have cd:=Akt [2] x Aa Ac
 replace cd:=cd.weak (A10 _) Mt
 simp only[wF,List.map,A7,e1]at cd
 refine ct0 Ag Tryz.func319 Y false Y Y ?_
 repeat'(first|exact prB|refine stC ?_|refine stU (fun h=>?_) fun h=>?_|refine stD 4 5 ?_|refine stD 6 5 ?_|refine stL ?_ (c:=cm)|refine stM ?_ (c:=cw)|refine A0 Ag [(26,1)] [(1,26)] Y Y Y Y Y cd Y Y Y Y Y ?_|refine Ci Ag Y Y Y Y Y Y (B8 _).symm Y ?_|fail)
 exact Ai Y (A1y (by simp only[List.append_assoc]))
theorem Afl:A17 348 [.t (.int .i8 3)] [] (.t (.func (.func 367) [] [])) []:=by
 refine ct0 Ag Tryz.func348 Y false Y Y ?_
 repeat'(first|exact prB|refine stC ?_|refine stU (fun h=>?_) fun h=>?_|refine GX Ag Y Y Y Y Y Y Y Y ?_|fail)
 exact Ai Y (A1y Y)
theorem Amq (x:Entry) (hk:x.kind=3) (hm:B9 x=true) (ha:x.b.recs.length<=1000000) (hp:x.prod.seen.length<=1000000):A17 319 [.agg (Ah (Az x))] [] (.tuple [.t (.str (Bx x)),.t (.int .i64 0)]) []:=by
 have hma:=(CU hm).2
 simp only[hk,if_true,if_false,Int.reduceEq,true_and]at hma
 skip
 have eB:Bx x=[3]++(CG x.b++Ch x.yes++(if x.yes then BK [x.next]else[])):=by simp[Bx,hk,BK]
 rw[eB]
 have cm:A17 347 [.agg (Ah (Az x))] [] (.t (.bool true)) []:=hm▸HP EF x ha hp
 have cw:A17 348 [.t (.int .i8 x.kind)] [] (.t (.func (.func 367) [] [])) []:=by rw[hk];exact Afl
 have e1:T.int .u8 ((UInt8.toNat 3:Nat):Int)=T.int .u8 (IntKind.u8.wrap x.kind):=by rw[hk];rfl
 have cd:=Afw [3] x hma.1 Aa Ac
 skip
 simp only[wF,List.map,A7,e1]at cd
 refine ct0 Ag Tryz.func319 Y false Y Y ?_
 repeat'(first|exact prB|refine stC ?_|refine stU (fun h=>?_) fun h=>?_|refine stD 4 5 ?_|refine stD 6 5 ?_|refine stL ?_ (c:=cm)|refine stM ?_ (c:=cw)|refine A0 Ag [(26,1)] [(1,26)] Y Y Y Y Y cd Y Y Y Y Y ?_|refine Ci Ag Y Y Y Y Y Y (B8 _).symm Y ?_|fail)
 exact Ai Y (A1y (by simp only[List.append_assoc]))
theorem Afk:A17 348 [.t (.int .i8 4)] [] (.t (.func (.func 368) [] [])) []:=by
 refine ct0 Ag Tryz.func348 Y false Y Y ?_
 repeat'(first|exact prB|refine stC ?_|refine stU (fun h=>?_) fun h=>?_|refine GX Ag Y Y Y Y Y Y Y Y ?_|fail)
 exact Ai Y (A1y Y)
theorem Amp (x:Entry) (hk:x.kind=4) (hm:B9 x=true) (ha:x.b.recs.length<=1000000) (hp:x.prod.seen.length<=1000000):A17 319 [.agg (Ah (Az x))] [] (.tuple [.t (.str (Bx x)),.t (.int .i64 0)]) []:=by
 have hma:=(CU hm).2
 simp only[hk,if_true,if_false,Int.reduceEq,true_and]at hma
 skip
 have eB:Bx x=[4]++(BK [x.b.pid,x.b.epoch,x.next]):=by simp[Bx,hk,BK]
 rw[eB]
 have cm:A17 347 [.agg (Ah (Az x))] [] (.t (.bool true)) []:=hm▸HP EF x ha hp
 have cw:A17 348 [.t (.int .i8 x.kind)] [] (.t (.func (.func 368) [] [])) []:=by rw[hk];exact Afk
 have e1:T.int .u8 ((UInt8.toNat 4:Nat):Int)=T.int .u8 (IntKind.u8.wrap x.kind):=by rw[hk];rfl
 have cd:=Afv [4] x Aa Ac
 replace cd:=cd.weak (A10 _) Mt
 simp only[wF,List.map,A7,e1]at cd
 refine ct0 Ag Tryz.func319 Y false Y Y ?_
 repeat'(first|exact prB|refine stC ?_|refine stU (fun h=>?_) fun h=>?_|refine stD 4 5 ?_|refine stD 6 5 ?_|refine stL ?_ (c:=cm)|refine stM ?_ (c:=cw)|refine A0 Ag [(26,1)] [(1,26)] Y Y Y Y Y cd Y Y Y Y Y ?_|refine Ci Ag Y Y Y Y Y Y (B8 _).symm Y ?_|fail)
 exact Ai Y (A1y (by simp only[List.append_assoc]))
theorem Afj:A17 348 [.t (.int .i8 5)] [] (.t (.func (.func 369) [] [])) []:=by
 refine ct0 Ag Tryz.func348 Y false Y Y ?_
 repeat'(first|exact prB|refine stC ?_|refine stU (fun h=>?_) fun h=>?_|refine GX Ag Y Y Y Y Y Y Y Y ?_|fail)
 exact Ai Y (A1y Y)
theorem Amo (x:Entry) (hk:x.kind=5) (hm:B9 x=true) (ha:x.b.recs.length<=1000000) (hp:x.prod.seen.length<=1000000):A17 319 [.agg (Ah (Az x))] [] (.tuple [.t (.str (Bx x)),.t (.int .i64 0)]) []:=by
 have hma:=(CU hm).2
 simp only[hk,if_true,if_false,Int.reduceEq,true_and]at hma
 simp only[FD,decide_eq_true_eq]at hma
 have eB:Bx x=[5]++(BK [x.row.pid,x.row.seq]++DT x.row.key++DT x.row.value):=by simp[Bx,hk,BK]
 rw[eB]
 have cm:A17 347 [.agg (Ah (Az x))] [] (.t (.bool true)) []:=hm▸HP EF x ha hp
 have cw:A17 348 [.t (.int .i8 x.kind)] [] (.t (.func (.func 369) [] [])) []:=by rw[hk];exact Afj
 have e1:T.int .u8 ((UInt8.toNat 5:Nat):Int)=T.int .u8 (IntKind.u8.wrap x.kind):=by rw[hk];rfl
 have cd:=Akr [5] x Aa Aa Aa Ac
 replace cd:=cd.weak (A10 _) Mt
 simp only[wF,List.map,A7,e1]at cd
 refine ct0 Ag Tryz.func319 Y false Y Y ?_
 repeat'(first|exact prB|refine stC ?_|refine stU (fun h=>?_) fun h=>?_|refine stD 4 5 ?_|refine stD 6 5 ?_|refine stL ?_ (c:=cm)|refine stM ?_ (c:=cw)|refine A0 Ag [(26,1)] [(1,26)] Y Y Y Y Y cd Y Y Y Y Y ?_|refine Ci Ag Y Y Y Y Y Y (B8 _).symm Y ?_|fail)
 exact Ai Y (A1y (by simp only[List.append_assoc]))
theorem Afi:A17 348 [.t (.int .i8 6)] [] (.t (.func (.func 370) [] [])) []:=by
 refine ct0 Ag Tryz.func348 Y false Y Y ?_
 repeat'(first|exact prB|refine stC ?_|refine stU (fun h=>?_) fun h=>?_|refine GX Ag Y Y Y Y Y Y Y Y ?_|fail)
 exact Ai Y (A1y Y)
theorem Amn (x:Entry) (hk:x.kind=6) (hm:B9 x=true) (ha:x.b.recs.length<=1000000) (hp:x.prod.seen.length<=1000000):A17 319 [.agg (Ah (Az x))] [] (.tuple [.t (.str (Bx x)),.t (.int .i64 0)]) []:=by
 have hma:=(CU hm).2
 simp only[hk,if_true,if_false,Int.reduceEq,true_and]at hma
 skip
 have eB:Bx x=[6]++(BK [x.prod.pid,x.prod.epoch,x.prod.next,x.prod.seen.length]++x.prod.seen.flatMap JT):=by simp[Bx,hk,BK]
 rw[eB]
 have cm:A17 347 [.agg (Ah (Az x))] [] (.t (.bool true)) []:=hm▸HP EF x ha hp
 have cw:A17 348 [.t (.int .i8 x.kind)] [] (.t (.func (.func 370) [] [])) []:=by rw[hk];exact Afi
 have e1:T.int .u8 ((UInt8.toNat 6:Nat):Int)=T.int .u8 (IntKind.u8.wrap x.kind):=by rw[hk];rfl
 have cd:=Ab6 [6] x hma Ac
 replace cd:=cd.weak (A10 _) Mt
 simp only[wF,List.map,A7,e1]at cd
 refine ct0 Ag Tryz.func319 Y false Y Y ?_
 repeat'(first|exact prB|refine stC ?_|refine stU (fun h=>?_) fun h=>?_|refine stD 4 5 ?_|refine stD 6 5 ?_|refine stL ?_ (c:=cm)|refine stM ?_ (c:=cw)|refine A0 Ag [(26,1)] [(1,26)] Y Y Y Y Y cd Y Y Y Y Y ?_|refine Ci Ag Y Y Y Y Y Y (B8 _).symm Y ?_|fail)
 exact Ai Y (A1y (by simp only[List.append_assoc]))
theorem Aei (x:Entry) (hm:B9 x=true) (ha:x.b.recs.length<=1000000) (hp:x.prod.seen.length<=1000000):A17 319 [.agg (Ah (Az x))] [] (.tuple [.t (.str (Bx x)),.t (.int .i64 0)]) []:=by
 rcases T1 hm with h|h|h|h|h|h|h
 ·exact Amt x h hm ha hp
 ·exact Ams x h hm ha hp
 ·exact Amr x h hm ha hp
 ·exact Amq x h hm ha hp
 ·exact Amp x h hm ha hp
 ·exact Amo x h hm ha hp
 ·exact Amn x h hm ha hp
theorem Aej (x:Entry) (hm:B9 x=false) (ha:x.b.recs.length<=1000000) (hp:x.prod.seen.length<=1000000):A17 319 [.agg (Ah (Az x))] [] (.tuple [.t (.str []),.t (.int .i64 2)]) []:=by
 have cm:A17 347 [.agg (Ah (Az x))] [] (.t (.bool false)) []:=hm▸HP EF x ha hp
 refine ct0 Ag Tryz.func319 Y false Y Y ?_
 repeat'(first|exact prB|refine stC ?_|refine stU (fun h=>?_) fun h=>?_|refine stD 4 5 ?_|refine stD 6 5 ?_|refine stL ?_ (c:=cm)|fail)
 exact Ai Y (A1y Y)
def Arb (l:List Entry):Nat:=l.findIdx (fun x=> !B9 x)
theorem Aig {l:List Entry} {i:Nat} {x:Entry} (h:l[i]?=some x) (ha:(l.take i).all B9=true) (hx:B9 x=false):Arb l=i:=by
 obtain⟨hi,rfl⟩:=List.getElem?_eq_some_iff.1 h
 refine(List.findIdx_eq hi).2 ⟨by simp[hx],fun j hj=>?_⟩
 have:=List.all_eq_true.1 ha l[j] (List.mem_of_getElem? (i:=j) (by rw[List.getElem?_take,if_pos hj,List.getElem?_eq_getElem Aa]))
 simp[this]
def TY (l:List Entry):AV:=if l.all B9=true then .tuple [.t (.slice .any 1 ((l.map Bx).map Ic)),.t .nilIface]else .tuple [.t (.slice .any 1 []),.t (.iface 426 (.ptr [.int .i64 (Arb l),.int .i64 2]))]
theorem Amu (l:List Entry) (hl:l.length<=1000000) (hsm: ∀x∈l,DW x):A17 318 [.t (.slice .any 18 (l.map Az)),.t (.func (.func 319) [] [])] [] (TY l) []:=by
 have hlm:(l.map Az).length=l.length:=List.length_map ..
 have hfree:(TY l).free=true:=by unfold TY;split<;>rfl
 refine ct0 Ag Tryz.func318 Y false Y hfree ?_
 have hcn:(((l.map Az).length:Nat):Int)=((l.length:Nat):Int):=by rw[hlm]
 repeat'(first|exact prB|refine stC ?_|refine stU (fun h=>?_) fun h=>?_|refine Dn Ag Y Y Y Y Y Y Y (l:=0) Y hcn Y Y Aa Aa ?_|fail)
 refine A3 (ι:=Nat) (fun i=>i<=l.length/\(l.take i).all B9=true) (fun i=>[(1,.t (.func (.func 319) [] [])),(6,.row 26 1 0 (((l.take i).map Bx).map Ic).length),(14,.t (.slice .any 18 (l.map Az))),(15,.t (.int .i64 l.length)),(16,.t (.int .i64 i))]) (fun i=>[(26,.grow 1 (((l.take i).map Bx).map Ic))]) (fun i=>l.length-i) 0 Ac ?_ ?_
 ·exact AE [] (Af Y Y (Af Y Y (Af Y Y (Af Y (by rw[hlm]) (Af Y Y Aj))))) Y
 rintro i ⟨hi,hall⟩
 by_cases hlt:i<l.length
 ·have hr:l[i]?=some l[i]:=List.getElem?_eq_getElem hlt
  have hs:=hsm l[i] (List.getElem_mem hlt)
  generalize l[i]=r at hr hs
  cases hm:B9 r with
  |false=>
   repeat'(first|exact prB|refine stC ?_|refine stU (fun h=>?_) fun h=>?_|refine stL ?_ (c:=Aej r hm hs.1 hs.2)|fail)
   have hno:l.all B9=false:=Qp hr hm
   refine Ai Y ?_
   simp only[TY,hno,Aig hr hall hm,Bool.false_eq_true,if_false]
   exact Ap ⟨Ak,A1x _,trivial⟩
  |true=>
   repeat'(first|exact prB|refine stC ?_|refine stU (fun h=>?_) fun h=>?_|refine stL ?_ (c:=Aei r hm hs.1 hs.2)|fail)
   refine Ay (i+1) ⟨hlt,KB hr hall hm⟩ Aa [8] (Af Y Y (Af Y ?_ (Af Y Y (Af Y Y (Af Y ?_ Aj))))) ?_
   ·rw[A5 hr];simp[Bq];rfl
   ·rw[An Aa Aa];rfl
   ·rw[A5 hr];simp only[List.map_append,List.map_cons,List.map_nil];rfl
 ·repeat'(first|exact prB|refine stC ?_|refine stU (fun h=>?_) fun h=>?_|fail)
  have hall':=VA Aa hall
  refine Ai Y ?_
  simp only[TY,hall',if_true]
  rw[List.take_of_length_le Aa]
  refine A1y ?_
  simp[B5]
  exact List.take_of_length_le Ac
theorem R8 (l:List Entry) (hl:l.length<=1000000) (hsm: ∀x∈l,DW x):A17 261 [.t (.slice .any 18 (l.map Az))] [] (.tuple [.t (.slice .any 1 (if l.all B9=true then(l.map Bx).map Ic else[])),.t (.int .i64 (if l.all B9=true then 0 else 2))]) []:=by
 refine ct0 Ag Tryz.func261 Y false Y Y ?_
 have ce:=Amu l hl hsm
 unfold TY at ce
 by_cases ha:l.all B9=true
 ·rw[if_pos ha]at ce;simp only[if_pos ha]
  repeat'(first|exact prB|refine stC ?_|refine stU (fun h=>?_) fun h=>?_|refine stL ?_ (c:=ce)|refine stL ?_ (c:=TW)|refine stM ?_ (c:=TW)|fail)
  exact Ai Y (A1y Y)
 ·rw[if_neg ha]at ce;simp only[if_neg ha]
  repeat'(first|exact prB|refine stC ?_|refine stU (fun h=>?_) fun h=>?_|refine stL ?_ (c:=ce)|refine stL ?_ (c:=X6 _ _)|refine stM ?_ (c:=X6 _ _)|fail)
  exact Ai Y (A1y Y)
theorem Aii (n:Nat) (hn:n<=1024):A17 288 [.t (.int .i64 n)] [] (.t (.int .i64 ((n+4:Nat):Int))) []:=by
 refine ct0 Ag Tryz.func288 Y false Y Y ?_
 repeat'(first|exact prB|refine stC ?_|refine stU (fun h=>?_) fun h=>?_|fail)
 refine Ai Y (A1y ?_)
 rw[An Aa Aa];congr 2;omega
def Ara (n i:Nat):List AV:=[.t (.int .u8 (if 0<i then((UInt8.ofNat (n % 256)).toNat:Int)else 0)),.t (.int .u8 (if 1<i then((UInt8.ofNat (n/256)).toNat:Int)else 0)),.t (.int .u8 0),.t (.int .u8 0)]
theorem U0 {n m:Nat} (h:m=n % 256):IntKind.u8.wrap (n:Int)=((UInt8.ofNat m).toNat:Int):=by
 subst h
 simp[IntKind.wrap,IntKind.bits,IntKind.signed]
theorem Air (n:Nat) (hn:n<=1024):A17 289 [.t (.int .i64 n)] [] (.agg (Ara n 4)) []:=by
 refine ct0 Ag Tryz.func289 Y false Y Y ?_
 repeat'(first|exact prB|refine stC ?_|refine stU (fun h=>?_) fun h=>?_|fail)
 refine A3 (ι:=Nat) (fun i=>i<=4) (fun i=>[(0,.t (.int .i64 n)),(2,.ref 4 0),(3,.ref 6 0),(5,.t (.int .i64 i))]) (fun i=>[(6,.cells (Ara n i)),(4,.cells (Ah Af8.zero))]) (fun i=>4-i) 0 Ac ?_ ?_
 ·exact AE [] (Af Y Y (Af Y Y (Af Y Y (Af Y Y Aj)))) Y
 have f0:Int.fdiv (n:Int) (2^min 0 64)=((n:Nat):Int):=by simp
 have f1:Int.fdiv (n:Int) (2^min 8 64)=((n/256:Nat):Int):=by simp[Int.fdiv_eq_ediv]
 have f2:Int.fdiv (n:Int) (2^min 16 64)=((0:Nat):Int):=by simp[Int.fdiv_eq_ediv];omega
 have f3:Int.fdiv (n:Int) (2^min 24 64)=((0:Nat):Int):=by simp[Int.fdiv_eq_ediv];omega
 intro i hi
 match i,hi with
 |0,_=>
  repeat'(first|exact prB|refine stC ?_|refine stU (fun h=>?_) fun h=>?_|refine Aad Ag 0 Y Y Y Y (An Ae Ae) Y ?_|fail)
  refine Ay 1 Aa Aa [] (Af Y Y (Af Y Y (Af Y Y (Af Y ?_ Aj)))) ?_
  ·rw[An Ae Ae];rfl
  ·rw[show IntKind.i64.bits=64 from rfl,f0,U0 Y];rfl
 |1,_=>
  repeat'(first|exact prB|refine stC ?_|refine stU (fun h=>?_) fun h=>?_|refine Aad Ag 8 Y Y Y Y (An Ae Ae) Y ?_|fail)
  refine Ay 2 Aa Aa [] (Af Y Y (Af Y Y (Af Y Y (Af Y ?_ Aj)))) ?_
  ·rw[An Ae Ae];rfl
  ·rw[show IntKind.i64.bits=64 from rfl,f1,U0 (m:=n/256) Aa];rfl
 |2,_=>
  repeat'(first|exact prB|refine stC ?_|refine stU (fun h=>?_) fun h=>?_|refine Aad Ag 16 Y Y Y Y (An Ae Ae) Y ?_|fail)
  refine Ay 3 Aa Aa [] (Af Y Y (Af Y Y (Af Y Y (Af Y ?_ Aj)))) ?_
  ·rw[An Ae Ae];rfl
  ·rw[show IntKind.i64.bits=64 from rfl,f2,U0 (m:=0) Y];rfl
 |3,_=>
  repeat'(first|exact prB|refine stC ?_|refine stU (fun h=>?_) fun h=>?_|refine Aad Ag 24 Y Y Y Y (An Ae Ae) Y ?_|fail)
  refine Ay 4 Aa Aa [] (Af Y Y (Af Y Y (Af Y Y (Af Y ?_ Aj)))) ?_
  ·rw[An Ae Ae];rfl
  ·rw[show IntKind.i64.bits=64 from rfl,f3,U0 (m:=0) Y];rfl
 |4,_=>
  repeat'(first|exact prB|refine stC ?_|refine stU (fun h=>?_) fun h=>?_|fail)
  exact Ai Y (A1y Y)
theorem Aeb (s:Bs) (hs:s.length<=1024):A17 211 [.t (.str s)] [] (.tuple [.t (.str (RP s)),.t .nilIface]) []:=by
 refine ct0 Ag Tryz.func211 Y false Y Y ?_
 repeat'(first|exact prB|refine stC ?_|refine stU (fun h=>?_) fun h=>?_|refine stL ?_ (c:=Aii _ hs)|refine stL ?_ (c:=Air _ hs)|refine Afx Ag Y Y Y Y Y Y Y Ac Y ?_|refine CO 4 8 (cs:=[.int .u8 ((UInt8.ofNat (s.length % 256)).toNat:Int),.int .u8 ((UInt8.ofNat (s.length/256)).toNat:Int),.int .u8 0,.int .u8 0]) Y Y Y Y Y ?_|refine Ci (s:=[UInt8.ofNat (s.length % 256),UInt8.ofNat (s.length/256),0,0]) Ag Y Y Y Y Y Y Y Y ?_|refine Qu Ag Y Y Y Y Y (by simp;omega) ?_|fail)
 exact Ai Y (A1y Y)
theorem Ll (s:Bs) (hs:s.length<=1024):A17 135 [.t (.str s)] [] (.tuple [.t (.str (RP s)),.t (.int .i64 0)]) []:=by
 refine ct0 Ag Tryz.func135 Y false Y Y ?_
 repeat'(first|exact prB|refine stC ?_|refine stU (fun h=>?_) fun h=>?_|refine stL ?_ (c:=Aeb s hs)|refine stL ?_ (c:=Ah7 2)|fail)
 exact Ai Y (A1y Y)
theorem Amf (name:Bs) (l:List Entry) (hl:l.length<=1000000) (hsm: ∀x∈l,DW x):A17 188 [.t (.str name),.t (.slice .any 18 (l.map Az))] [] (.tuple [.t (.slice .any 4 ((NW name l).map AF)),.t (.int .i64 (P9 l))]) []:=by
 refine ct0 Ag Tryz.func188 Y false Y Y ?_
 have cl:=R8 l hl hsm
 by_cases hall:l.all B9=true
 ·simp only[if_pos hall]at cl
  have hlm:((l.map Bx).map Ic).length=l.length:=by simp
  repeat'(first|exact prB|refine stC ?_|refine stU (fun h=>?_) fun h=>?_|refine stL ?_ (c:=cl)|fail)
  ·have hn:l=[]:=List.eq_nil_of_length_eq_zero Aa
   subst hn
   refine Ai Y ?_
   simp only[NW,P9]
   exact Ap ⟨Ak,A1x _,trivial⟩
  have hne:l≠[]:=fun e=>by subst e;simp at h
  refine A1z 8 43 4 Y Y ?_
  refine A3 (ι:=Nat) (fun i=>i<=l.length) (fun i=>[(0,.t (.str name)),(8,.row 86 4 0 (((l.take i).map (HS name)).map AF).length),(25,.t (.slice .any 1 ((l.map Bx).map Ic))),(26,.t (.int .i64 l.length)),(27,.t (.int .i64 i))]) (fun i=>[(86,.grow 4 (((l.take i).map (HS name)).map AF))]) (fun i=>l.length-i) 0 Ac ?_ ?_
  ·exact AE [] (Af Y Y (Af Y Y (Af Y Y (Af Y (by rw[hlm]) (Af Y Y Aj))))) Y
  rintro i hi
  by_cases hlt:i<l.length
  ·have hr:l[i]?=some l[i]:=List.getElem?_eq_getElem hlt
   have hm:=List.all_eq_true.1 hall l[i] (List.getElem_mem hlt)
   generalize l[i]=r at hr hm
   have hr2:(l.map Bx)[i]?=some (Bx r):=by simp[hr]
   repeat'(first|exact prB|refine stC ?_|refine stU (fun h=>?_) fun h=>?_|refine stL ?_ (c:=Ll _ (H5 hm))|fail)
   refine Ay (i+1) hlt Aa [] (Af Y Y (Af Y ?_ (Af Y Y (Af Y Y (Af Y ?_ Aj))))) ?_
   ·rw[A5 hr];simp[Bq]
   ·rw[An Aa Aa];rfl
   ·rw[A5 hr];simp[Bq,JK,AF,HS,EY,CP]
  ·repeat'(first|exact prB|refine stC ?_|refine stU (fun h=>?_) fun h=>?_|fail)
   refine Ai Y (A1y ?_)
   simp only[NW,P9,hne,hall,ne_eq,not_false_eq_true,and_self,if_true]
   rw[List.take_of_length_le Aa]
   simp[B5,Dp,Bq,JK,AF,HS]
   exact List.take_of_length_le Ac
 ·simp only[if_neg hall]at cl
  repeat'(first|exact prB|refine stC ?_|refine stU (fun h=>?_) fun h=>?_|refine stL ?_ (c:=cl)|fail)
  refine Ai Y ?_
  simp only[NW,P9,hall,Bool.false_eq_true,and_false,if_false]
  exact Ap ⟨Ak,A1x _,trivial⟩
end Go.Proofs.YtmohpcgmdheafaaGreatDoor
