/- Contracts and laws, joined: Sp, Ra, Rb, Rc, Rd, Re, Rf. No condition beside those that each theorem names. -/
import Derived.Test.YtmohpcgmdheafaaGreatDoorZD1
import Derived.Test.YtmohpcgmdheafaaGreatDoorZSt
set_option linter.unusedVariables false
set_option linter.unusedSimpArgs false
set_option maxRecDepth 100000
set_option maxHeartbeats 8000000
namespace Go.Proofs.YtmohpcgmdheafaaGreatDoor
open Go.Am
attribute [local irreducible] Decidable.decide
def AY (n:Nat):Bs:=if h:n<128 then[UInt8.ofNat n]else UInt8.ofNat (128+n % 128)::AY (n/128)
termination_by n
decreasing_by omega
theorem KG {n:Nat} (h:n<128):AY n=[UInt8.ofNat n]:=by rw[AY,dif_pos h]
theorem Mu {n:Nat} (h: ¬n<128):AY n=UInt8.ofNat (128+n % 128)::AY (n/128):=by rw[AY,dif_neg h]
theorem VN: ∀(k n:Nat),n<128^(k+1)->(AY n).length<=k+1
 |0,n,h=>by rw[KG (by simpa using h)];simp
 |k+1,n,h=>by
  by_cases h1:n<128
  ·rw[KG h1];simp
  ·rw[Mu h1,List.length_cons]
   have:=VN k (n/128) (by rw[Nat.div_lt_iff_lt_mul Ae];rw[Nat.pow_succ]at h;exact h)
   omega
theorem AC {n:Nat} (h:n<=1099511627776):(AY n).length<=6:=VN 5 n (Nat.lt_of_le_of_lt h Ae)
theorem NN {n:Int} {m:Nat} (h:n=m) (hm:m<256):T.int .u8 (IntKind.u8.wrap n)=T.int .u8 ((UInt8.ofNat m).toNat:Int):=by
 subst h
 have h1:(UInt8.ofNat m).toNat=m:=by simp[UInt8.toNat_ofNat'];omega
 rw[h1];congr 1
 simp[IntKind.wrap,IntKind.bits,IntKind.signed];omega
end Go.Proofs.YtmohpcgmdheafaaGreatDoor
namespace Go.Proofs.YtmohpcgmdheafaaGreatDoor
open Go.Am
attribute [local irreducible] Decidable.decide Tr A2 hSK hSW
theorem Ar7 (b:Bs) (n:Nat) (hn:n<=1099511627776) (hb:b.length<=1000000000):
  A17 296 [.t (.slice .any 1 (b.map A7)),.t (.int .i64 n)] [] (.tuple [.row 30 1 0 (b++AY n).length,.t (.int .i64 0)]) [(30,.grow 1 ((b++AY n).map A7))]:=by
 refine ct1 Ag Tryz.func296 Y Y ?_
 repeat'(first|exact prB|refine stC ?_|refine stU (fun h=>?_) fun h=>?_|fail)
 ·refine A3 (ι:=Nat×Bs) (fun p=>p.1<=1099511627776/\p.2++AY p.1=b++AY n) (fun p=>[(1,.t (.int .i64 p.1)),(6,.row 30 1 0 (p.2.map A7).length)]) (fun p=>[(30,.grow 1 (p.2.map A7))]) (fun p=>p.1) (n,b) ⟨hn,Y⟩ ?_ ?_
  ·exact AE [] (Af Y Y (Af Y Y Aj)) Y
  rintro⟨m,out⟩ ⟨hm,he⟩
  have hl:=AC hn
  have hol:out.length<=b.length+6:=by have:=congrArg List.length he;simp at this;omega
  repeat'(first|exact prB|refine stC ?_|refine stU (fun h=>?_) fun h=>?_|fail)
  ·refine Ay (m/128,out++[UInt8.ofNat (128+m % 128)]) ⟨by omega,?_⟩ (by simp;omega) [] (Af Y ?_ (Af Y (by simp[Bq]) Aj)) ?_
   ·rw[<-he,Mu (n:=m) Aa];simp
   ·rw[An (by simp;omega) (by simp;omega)];simp
   ·have e1:=NN (n:=IntKind.i64.wrap (128+(m:Int).tmod 128)) (m:=128+m % 128) (by have:(m:Int).tmod 128=((m % 128:Nat):Int):=rfl;rw[An Aa Aa];omega) Aa
    simp[Bq,ti5,A7,EY,CP,e1]
  ·have e2:out++[UInt8.ofNat m]=b++AY n:=by rw[<-he,KG Aa]
   have e1:=NN (n:=(m:Int)) (m:=m) Y Aa
   refine Ba [] Y Y ?_ (A1y ?_)
   ·rw[<-e2];simp[Bq,ti5,A7,EY,CP,e1]
   ·rw[<-e2];simp[Bq]
theorem Aaw (b:Bs) (n:Int) (h0:0<=n) (hn:n<=1099511627776) (hb:b.length<=1000000000):
  A17 296 [.t (.slice .any 1 (b.map A7)),.t (.int .i64 n)] [] (.tuple [.row 30 1 0 (b++AY n.toNat).length,.t (.int .i64 0)]) [(30,.grow 1 ((b++AY n.toNat).map A7))]:=by
 obtain⟨m,rfl⟩:=Int.eq_ofNat_of_zero_le h0
 exact Ar7 b m Aa hb
theorem Aln (b:Bs) (n:Int) (h0:0<=n) (hn:n<=1099511627776) (hb:b.length<=1000000000):
  A17 296 [.t (.slice .any 1 (b.map A7)),.t (.int .i64 n)] [] (.tuple [.t (.slice .any 1 ((b++AY n.toNat).map A7)),.t (.int .i64 0)]) []:=by
 have h:=Aaw b n h0 hn hb
 rw[<-List.length_map (f:=A7)]at h
 exact h.freeze2
theorem KU (b:Bs) (n:Int) (h0:0<=n) (hn:n<=1099511627776) (hb:b.length<=1000000000):
  A17 292 [.t (.slice .any 1 (b.map A7)),.t (.int .i64 n)] [] (.tuple [.t (.slice .any 1 ((b++AY n.toNat).map A7)),.t (.int .i64 0)]) []:=by
 refine ct0 Ag Tryz.func292 Y false Y Y ?_
 repeat'(first|exact prB|refine stC ?_|refine stU (fun h=>?_) fun h=>?_|refine stL ?_ (c:=Aln _ _ h0 hn hb)|fail)
 exact Ai Y (A1x _)
theorem PX (b:Bs) (y:Bool) (hb:b.length<=1000000000):
  A17 233 [.t (.slice .any 1 (b.map A7)),.t (.bool y)] [] (.t (.slice .any 1 ((b++[if y then 1 else 0]).map A7))) []:=by
 refine ct0 Ag Tryz.func233 Y false Y Y ?_
 repeat'(first|exact prB|refine stC ?_|refine stU (fun h=>?_) fun h=>?_|fail)
 ·refine Ai Y (A1y ?_);simp[B5,h,Bq,ti5,A7];exact List.take_of_length_le Ac
 ·refine Ai Y (A1y ?_);simp[B5,h,Bq,ti5,A7];exact List.take_of_length_le Ac
def BK (l:List Int):Bs:=l.flatMap fun n=>AY n.toNat
def DT (s:Bs):Bs:=AY s.length++s
theorem B8 (s:Bs):Dt s=s.map A7:=rfl
theorem PD (b s:Bs) (hs:s.length<=1024) (hb:b.length<=1000000000):
  A17 238 [.t (.slice .any 1 (b.map A7)),.t (.str s)] [] (.tuple [.t (.slice .any 1 ((b++DT s).map A7)),.t (.int .i64 0)]) []:=by
 refine ct0 Ag Tryz.func238 Y false Y Y ?_
 have hl:=AC (n:=s.length) Aa
 repeat'(first|exact prB|refine stC ?_|refine stU (fun h=>?_) fun h=>?_|refine A0 Ag [] [(30,30)] Y Y Y Y Y (Aaw _ _ Aa Aa hb) Y Y Y Y Y ?_|refine VL Ag Y Y Y Y Y Y Y Y Y Y Y Y Ac Y (by simp[DI];omega) ?_|fail)
 ·refine Ai Y (A1y ?_)
  simp[B5,DT,B8]
  exact List.take_of_length_le Ac
theorem Ee (b:Bs) (l:List Int) (hv: ∀n∈l,0<=n/\n<=1099511627776) (hl:l.length<=1000000) (hb:b.length<=100000000):
  A17 237 [.t (.slice .any 1 (b.map A7)),.t (.slice .any 1 (l.map Vu))] [] (.t (.slice .any 1 ((b++BK l).map A7))) []:=by
 refine ct0 Ag Tryz.func237 Y false Y Y ?_
 repeat'(first|exact prB|refine stC ?_|refine stU (fun h=>?_) fun h=>?_|fail)
 refine A3 (ι:=Nat) (fun i=>i<=l.length) (fun i=>[(0,.t (.slice .any 1 ((b++BK (l.take i)).map A7))),(1,.t (.slice .any 1 (l.map Vu))),(5,.t (.int .i64 i))]) (fun _=>[]) (fun i=>l.length-i) 0 Ac ?_ ?_
 ·exact AE [] (Af Y (by simp[BK]) (Af Y Y (Af Y Y Aj))) Y
 rintro i hi
 by_cases hlt:i<l.length
 ·have hr:l[i]?=some l[i]:=List.getElem?_eq_getElem hlt
  have hv':=hv l[i] (List.getElem_mem hlt)
  generalize l[i]=r at hr hv'
  have hbl:(b++BK (l.take i)).length<=1000000000:=by
   have: ∀(m:List Int),(∀n∈m,0<=n/\n<=1099511627776)->(BK m).length<=6*m.length:=by
    intro m
    induction m with
    |nil=>intro _;simp[BK]
    |cons a m ih=>
     intro h
     have h1:=ih fun n hn=>h n (by simp[hn])
     have h2:=AC (n:=a.toNat) (by have:=h a Ac;omega)
     simp only[BK,List.flatMap_cons,List.length_append,List.length_cons]at h1⊢
     omega
   have h1:=this (l.take i) fun n hn=>hv n (List.mem_of_mem_take hn)
   simp at h1⊢;omega
  repeat'(first|exact prB|refine stC ?_|refine stU (fun h=>?_) fun h=>?_|refine stL ?_ (c:=KU _ _ hv'.1 hv'.2 hbl)|fail)
  ·refine Ay (i+1) Aa Aa [] (Af Y ?_ (Af Y Y (Af Y ?_ Aj))) Y
   ·rw[A5 hr];simp[BK]
   ·rw[An Aa Aa];rfl
 ·repeat'(first|exact prB|refine stC ?_|refine stU (fun h=>?_) fun h=>?_|fail)
  ·refine Ai Y (A1y ?_);rw[List.take_of_length_le Aa]
def Ix (r:Rec):Bool:=decide ((r.key.length:Int)<=16)&&decide ((r.value.length:Int)<=16)
theorem Iw {r:Rec}:Ix r=true↔(r.key.length:Int)<=16/\(r.value.length:Int)<=16:=by simp[Ix]
theorem WA {r:Rec} (h: ¬((r.key.length:Int)<=16/\(r.value.length:Int)<=16)):Ix r=false:=by rw[<-Bool.not_eq_true,Iw];exact h
def CN (b:Batch):Prop:=1<=b.pid/\b.pid<=8/\0<=b.epoch/\b.epoch<=100/\0<=b.seq/\1<=b.recs.length/\b.recs.length<=4/\b.seq+b.recs.length<=1048576
instance (b:Batch):Decidable (CN b):=by unfold CN;infer_instance
def A9 (b:Batch):Bool:=decide (CN b)&&b.recs.all Ix
theorem KB {α:Type} {p:α->Bool} {l:List α} {i:Nat} {x:α} (h:l[i]?=some x) (ha:(l.take i).all p=true) (hp:p x=true):(l.take (i+1)).all p=true:=by
 rw[A5 h,List.all_append,ha];simp[hp]
theorem Qp {α:Type} {p:α->Bool} {l:List α} {i:Nat} {x:α} (h:l[i]?=some x) (hp:p x=false):l.all p=false:=by
 rw[List.all_eq_false];exact⟨x,List.mem_of_getElem? h,by simp[hp]⟩
theorem VA {α:Type} {p:α->Bool} {l:List α} {i:Nat} (h:l.length<=i) (ha:(l.take i).all p=true):l.all p=true:=by
 rwa[List.take_of_length_le h]at ha
theorem Ze {b:Batch} (h: ¬CN b):false=A9 b:=by simp[A9,h]
theorem Aa9 {b:Batch} (h:b.recs.all Ix=false):false=A9 b:=by simp[A9,h]
theorem Alw {b:Batch} (h:CN b) (h2:b.recs.all Ix=true):true=A9 b:=by simp[A9,h,h2]
theorem Vg (b:Batch):A17 223 [.agg (Ah (Au b))] [] (.t (.bool (A9 b))) []:=by
 refine ct0 Ag Tryz.func223 Y false Y Y ?_
 repeat'(first|exact prB|refine stC ?_|refine stU (fun h=>?_) fun h=>?_|fail)
 all_goals try rw[List.length_map]at*
 all_goals try(refine Ai Y ?_;refine AP (Ze ?_);unfold CN;omega)
 ·rw[An Aa Aa]at h
  refine Ai Y ?_;refine AP (Ze ?_);unfold CN;omega
 ·rw[An Aa Aa]at h
  have hbd:CN b:=by unfold CN;omega
  refine A3 (ι:=Nat) (fun i=>i<=b.recs.length/\(b.recs.take i).all Ix=true) (fun i=>[(1,.ref 2 0),(3,.t (.int .i64 i))]) (fun _=>[(2,.cells (Ah (Au b)))]) (fun i=>b.recs.length-i) 0 Ac ?_ ?_
  ·exact AE [] (Af Y Y (Af Y Y Aj)) Y
  rintro i ⟨hi,hall⟩
  by_cases hlt:i<b.recs.length
  ·have hr:b.recs[i]?=some b.recs[i]:=List.getElem?_eq_getElem hlt
   generalize b.recs[i]=r at hr
   repeat'(first|exact prB|refine stC ?_|refine stU (fun h=>?_) fun h=>?_|fail)
   ·exact Ai Y (AP (Aa9 (Qp hr (WA Aa))))
   ·refine Ay (i+1) ⟨hlt,KB hr hall (Iw.2 Aa)⟩ Aa [] (Af Y Y (Af Y ?_ Aj)) Y
    rw[An Aa Aa];rfl
   ·exact Ai Y (AP (Aa9 (Qp hr (WA Aa))))
  ·repeat'(first|exact prB|refine stC ?_|refine stU (fun h=>?_) fun h=>?_|fail)
   exact Ai Y (AP (Alw hbd (VA Aa hall)))
theorem Ii (n a b:Int):A17 162 [.t (.int .i64 n),.t (.int .i64 a),.t (.int .i64 b)] [] (.t (.bool (decide (a<=n/\n<=b)))) []:=by
 refine ct0 Ag Tryz.func162 Y false Y Y ?_
 repeat'(first|exact prB|refine stC ?_|refine stU (fun h=>?_) fun h=>?_|fail)
 all_goals(refine Ai Y (AP ?_);(first|exact bI Aa|exact bT Aa|exact bF Aa))
theorem MI (a b:Int):A17 222 [.t (.int .i64 a),.t (.int .i64 b)] [] (.t (.bool (decide (1<=a/\a<=8/\0<=b/\b<=100)))) []:=by
 refine ct0 Ag Tryz.func222 Y false Y Y ?_
 repeat'(first|exact prB|refine stC ?_|refine stU (fun h=>?_) fun h=>?_|fail)
 all_goals(refine Ai Y (AP ?_);(first|exact bI Aa|exact bT Aa|exact bF Aa))
def FD (r:Row):Bool:=decide (1<=r.pid/\r.pid<=8/\0<=r.seq/\r.seq<=1048575/\(r.key.length:Int)<=16/\(r.value.length:Int)<=16)
theorem R0 (r:Row):A17 92 [.agg (Ah (A8 r))] [] (.t (.bool (FD r))) []:=by
 refine ct0 Ag Tryz.func92 Y false Y Y ?_
 repeat'(first|exact prB|refine stC ?_|refine stU (fun h=>?_) fun h=>?_|refine stL ?_ (c:=Ii _ _ _)|fail)
 all_goals(refine Ai Y (AP ?_);unfold FD;(first|exact bI Aa|exact bT Aa|exact bF Aa))
theorem QN (a b:Batch) (ha:a.recs.length<=1000000):A17 176 [.agg (Ah (Au a)),.agg (Ah (Au b))] [] (.t (.bool (decide (a=b)))) []:=by
 refine ct0 Ag Tryz.func176 Y false Y Y ?_
 repeat'(first|exact prB|refine stC ?_|refine stU (fun h=>?_) fun h=>?_|refine stD 6 10 ?_|fail)
 all_goals try(refine Ai Y (AP (bF fun e=>?_));subst e;simp at*;done)
 rename_i h1 _ _ h2 _ _ h3 _ _ h4 _ _
 simp only[List.length_map,Decidable.not_not]at*
 have hl:a.recs.length=b.recs.length:=by omega
 refine A3 (ι:=Nat) (fun i=>i<=a.recs.length/\a.recs.take i=b.recs.take i) (fun i=>[(2,.ref 4 0),(3,.ref 6 0),(5,.t (.int .i64 i))]) (fun _=>[(6,.cells (Ah (Au b))),(4,.cells (Ah (Au a)))]) (fun i=>a.recs.length-i) 0 Ac ?_ ?_
 ·exact AE [] (Af Y Y (Af Y Y (Af Y Y Aj))) Y
 rintro i ⟨hi,htk⟩
 by_cases hlt:i<a.recs.length
 ·have hr:a.recs[i]?=some a.recs[i]:=List.getElem?_eq_getElem hlt
  have hs:b.recs[i]?=some (b.recs[i]' Aa):=List.getElem?_eq_getElem _
  generalize a.recs[i]=r at hr
  generalize b.recs[i]' Aa=s at hs
  repeat'(first|exact prB|refine stC ?_|refine stU (fun h=>?_) fun h=>?_|refine stD 6 10 ?_|fail)
  ·exact Ai Y (AP (bF (fun e=>by subst e;rw[hr]at hs;cases hs;simp at h)))
  ·have e:r=s:=by cases r;cases s;simp at h;simp[h]
   refine Ay (i+1) ⟨hlt,DV hr hs htk e⟩ Aa [] (Af Y Y (Af Y Y (Af Y ?_ Aj))) Y
   rw[An Aa Aa];rfl
 ·repeat'(first|exact prB|refine stC ?_|refine stU (fun h=>?_) fun h=>?_|refine stD 6 10 ?_|fail)
  have e:=Fg hl Aa htk
  exact Ai Y (AP (bT (by cases a;cases b;simp_all)))
theorem Ja (a b:Prod) (ha:a.seen.length<=1000000):A17 177 [.agg (Ah (Al a)),.agg (Ah (Al b))] [] (.t (.bool (decide (a=b)))) []:=by
 refine ct0 Ag Tryz.func177 Y false Y Y ?_
 repeat'(first|exact prB|refine stC ?_|refine stU (fun h=>?_) fun h=>?_|refine stD 6 10 ?_|fail)
 all_goals try(refine Ai Y (AP (bF fun e=>?_));subst e;simp at*;done)
 simp only[List.length_map,Decidable.not_not]at*
 have hl:a.seen.length=b.seen.length:=by omega
 refine A3 (ι:=Nat) (fun i=>i<=a.seen.length/\a.seen.take i=b.seen.take i) (fun i=>[(2,.ref 4 0),(3,.ref 6 0),(5,.t (.int .i64 i))]) (fun _=>[(6,.cells (Ah (Al b))),(4,.cells (Ah (Al a)))]) (fun i=>a.seen.length-i) 0 Ac ?_ ?_
 ·exact AE [] (Af Y Y (Af Y Y (Af Y Y Aj))) Y
 rintro i ⟨hi,htk⟩
 by_cases hlt:i<a.seen.length
 ·have hr:a.seen[i]?=some a.seen[i]:=List.getElem?_eq_getElem hlt
  have hs:b.seen[i]?=some (b.seen[i]' Aa):=List.getElem?_eq_getElem _
  generalize a.seen[i]=r at hr
  generalize b.seen[i]' Aa=s at hs
  repeat'(first|exact prB|refine stC ?_|refine stU (fun h=>?_) fun h=>?_|refine stD 6 10 ?_|fail)
  ·exact Ai Y (AP (bF (fun e=>by subst e;rw[hr]at hs;cases hs;simp at h)))
  ·have e:r=s:=by cases r;cases s;simp at h;simp[h]
   refine Ay (i+1) ⟨hlt,DV hr hs htk e⟩ Aa [] (Af Y Y (Af Y Y (Af Y ?_ Aj))) Y
   rw[An Aa Aa];rfl
 ·repeat'(first|exact prB|refine stC ?_|refine stU (fun h=>?_) fun h=>?_|refine stD 6 10 ?_|fail)
  have e:=Fg hl Aa htk
  exact Ai Y (AP (bT (by cases a;cases b;simp_all)))
theorem Agp (a b:Entry) (ha:a.b.recs.length<=1000000) (hp:a.prod.seen.length<=1000000):A17 294 [.agg (Ah (Az a)),.agg (Ah (Az b))] [] (.t (.bool (decide (a=b)))) []:=by
 refine ct0 Ag Tryz.func294 Y false Y Y ?_
 repeat'(first|exact prB|refine stC ?_|refine stU (fun h=>?_) fun h=>?_|refine stL ?_ (c:=QN a.b b.b ha)|refine stL ?_ (c:=Ja a.prod b.prod hp)|refine stM ?_ (c:=QN a.b b.b ha)|refine stM ?_ (c:=Ja a.prod b.prod hp)|fail)
 ·refine Ai Y (AP (bI ?_))
  rcases a with⟨k1,b1,y1,n1,o1,⟨ro1,rp1,rs1,rk1,rv1⟩,p1⟩
  rcases b with⟨k2,b2,y2,n2,o2,⟨ro2,rp2,rs2,rk2,rv2⟩,p2⟩
  simp at*;simp[*]
 all_goals exact Ai Y (AP (bF (fun e=>by subst e;simp at*)))
def K8 (x:Entry):Batch:=⟨x.b.pid,x.b.epoch,0,false,[]⟩
abbrev b0:Batch:=⟨0,0,0,false,[]⟩
abbrev Lw:Row:=⟨0,0,0,[],[]⟩
abbrev Gy:Prod:=⟨0,0,0,[]⟩
def Gr (x:Entry):Entry:=
 if x.kind=0 then⟨x.kind,x.b,false,0,0,Lw,Gy⟩
 else if x.kind=1 then⟨x.kind,K8 x,x.yes,0,0,Lw,Gy⟩
 else if x.kind=2 then⟨x.kind,b0,false,0,x.offset,Lw,Gy⟩
 else if x.kind=3 then⟨x.kind,x.b,x.yes,if x.yes=true then x.next else 0,0,Lw,Gy⟩
 else if x.kind=4 then⟨x.kind,K8 x,false,x.next,0,Lw,Gy⟩
 else if x.kind=5 then⟨x.kind,b0,false,0,0,⟨0,x.row.pid,x.row.seq,x.row.key,x.row.value⟩,Gy⟩
 else if x.kind=6 then⟨x.kind,b0,false,0,0,Lw,x.prod⟩
 else⟨x.kind,b0,false,0,0,Lw,Gy⟩
theorem Ab0 (x:Entry):A17 295 [.agg (Ah (Az x))] [] (.agg (Ah (Az (Gr x)))) []:=by
 refine ct0 Ag Tryz.func295 Y false Y Y ?_
 repeat'(first|exact prB|refine stC ?_|refine stU (fun h=>?_) fun h=>?_|fail)
 all_goals(refine Ai Y ?_;unfold Gr;simp only[*,if_true,if_false,Int.reduceEq])
 all_goals repeat'(first|exact A1x _|exact Ak|exact Ar|exact trivial|refine AA ?_|refine Ap ?_|refine And.intro ?_ ?_)
def Cn (s:Seen):Prop:=0<=s.seq/\1<=s.count/\s.count<=4/\ -1<=s.base/\s.base<=1048576
instance (s:Seen):Decidable (Cn s):=by unfold Cn;infer_instance
def Dl (next:Int):List Seen->Int
 |[]=>next
 |t::_=>t.seq
def BE (next:Int):List Seen->Bool
 |[]=>true
 |s::r=>decide (Cn s/\s.seq<=Dl next r-s.count)&&BE next r
def Cx (p:Prod):Prop:=1<=p.pid/\p.pid<=8/\0<=p.epoch/\p.epoch<=100/\0<=p.next/\p.next<=1048576/\(p.seen.length:Int)<=3
instance (p:Prod):Decidable (Cx p):=by unfold Cx;infer_instance
def C1 (p:Prod):Bool:=decide (Cx p)&&BE p.next p.seen
theorem Fx {next:Int} (h0:0<=next) (h1:next<=1048576): ∀{l:List Seen},BE next l=true->0<=Dl next l/\Dl next l<=1048576
 |[],_=>⟨h0,h1⟩
 |s::r,h=>by
  simp only[BE,Bool.and_eq_true,decide_eq_true_eq]at h
  have ih:=Fx h0 h1 h.2
  have:=h.1.1;unfold Cn at this
  simp only[Dl];omega
theorem WL {p:Prod} (h: ¬Cx p):false=C1 p:=by simp[C1,h]
theorem I7 {p:Prod} (h:BE p.next p.seen=false):false=C1 p:=by simp[C1,h]
theorem TA {p:Prod} (h:Cx p) (h2:BE p.next p.seen=true):true=C1 p:=by simp[C1,h,h2]
theorem Db {α:Type} {l:List α} {i:Nat} {x:α} (h:l[i]?=some x):l.drop i=x::l.drop (i+1):=by
 obtain⟨hi,rfl⟩:=List.getElem?_eq_some_iff.1 h
 exact List.drop_eq_getElem_cons hi
theorem Ari {next:Int} {l:List Seen} {r:Seen} (h: ¬Cn r):(decide (Cn r/\r.seq<=Dl next l-r.count)&&BE next l)=false:=by simp[h]
theorem Aze {next b:Int} {l:List Seen} {r:Seen} (h0:0<=next) (h1:next<=1048576) (hok:Cn r) (hb:Dl next l=b) (h:IntKind.i64.wrap (b-r.count)<r.seq):(decide (Cn r/\r.seq<=Dl next l-r.count)&&BE next l)=false:=by
 cases hc:BE next l with
 |false=>simp
 |true=>
  have:=Fx h0 h1 hc
  have hk:=hok;unfold Cn at hk
  rw[hb]at this⊢
  rw[An Aa Aa]at h
  have: ¬(r.seq<=b-r.count):=by omega
  simp[this]
theorem Aby {next b:Int} {l:List Seen} {r:Seen} (h0:0<=next) (h1:next<=1048576) (hok:Cn r) (hb:Dl next l=b) (h: ¬IntKind.i64.wrap (b-r.count)<r.seq):(decide (Cn r/\r.seq<=Dl next l-r.count)&&BE next l)=BE next l:=by
 cases hc:BE next l with
 |false=>simp
 |true=>
  have:=Fx h0 h1 hc
  have hk:=hok;unfold Cn at hk
  rw[hb]at this⊢
  rw[An Aa Aa]at h
  have:r.seq<=b-r.count:=by omega
  simp[this,hok]
theorem TB (p:Prod):A17 161 [.agg (Ah (Al p))] [] (.t (.bool (C1 p))) []:=by
 refine ct0 Ag Tryz.func161 Y false Y Y ?_
 have hlm:(p.seen.map AM).length=p.seen.length:=List.length_map ..
 repeat'(first|exact prB|refine stC ?_|refine stU (fun h=>?_) fun h=>?_|refine stL ?_ (c:=Ii _ _ _)|refine stL ?_ (c:=MI _ _)|fail)
 all_goals try(refine Ai Y (AP (WL ?_));unfold Cx;omega)
 have hb:Cx p:=by unfold Cx;omega
 have hb':=hb;unfold Cx at hb'
 refine A3 (ι:=Nat) (fun i=>i<=p.seen.length/\BE p.next p.seen=BE p.next (p.seen.drop i)) (fun i=>[(1,.ref 2 0),(3,.t (.int .i64 i))]) (fun _=>[(2,.cells (Ah (Al p)))]) (fun i=>p.seen.length-i) 0 Ac ?_ ?_
 ·exact AE [] (Af Y Y (Af Y Y Aj)) Y
 rintro i ⟨hi,hch⟩
 by_cases hlt:i<p.seen.length
 ·have hr:p.seen[i]?=some p.seen[i]:=List.getElem?_eq_getElem hlt
  generalize p.seen[i]=r at hr
  have hw:IntKind.i64.wrap ((i:Int)+1)=((i+1:Nat):Int):=by rw[An Aa Aa];rfl
  rw[Db hr]at hch
  simp only[BE]at hch
  by_cases h2:i+1<p.seen.length
  ·have hs:p.seen[i+1]?=some p.seen[i+1]:=List.getElem?_eq_getElem h2
   generalize p.seen[i+1]=s at hs
   have hbh:Dl p.next (p.seen.drop (i+1))=s.seq:=by rw[Db hs];rfl
   repeat'(first|exact prB|refine stC ?_|refine stU (fun h=>?_) fun h=>?_|refine stL ?_ (c:=Ii _ _ _)|fail)
   all_goals first
    |exact Ai Y (AP (I7 (hch.trans (Ari (by unfold Cn;omega)))))
    |exact Ai Y (AP (I7 (hch.trans (Aze Aa Aa (by unfold Cn;omega) (hbh) h))))
    |(refine Ay (i+1) ⟨by omega,hch.trans (Aby Aa Aa (by unfold Cn;omega) (hbh) h)⟩ Aa [4] (Af Y Y (Af Y (congrArg (fun z=>AV.t (T.int .i64 z)) hw) Aj)) Y)
  ·repeat'(first|exact prB|refine stC ?_|refine stU (fun h=>?_) fun h=>?_|refine stL ?_ (c:=Ii _ _ _)|fail)
   all_goals first
    |exact Ai Y (AP (I7 (hch.trans (Ari (by unfold Cn;omega)))))
    |exact Ai Y (AP (I7 (hch.trans (Aze Aa Aa (by unfold Cn;omega) (by rw[List.drop_of_length_le Aa];rfl) h))))
    |(refine Ay (i+1) ⟨by omega,hch.trans (Aby Aa Aa (by unfold Cn;omega) (by rw[List.drop_of_length_le Aa];rfl) h)⟩ Aa [4] (Af Y Y (Af Y (congrArg (fun z=>AV.t (T.int .i64 z)) hw) Aj)) Y)
 ·repeat'(first|exact prB|refine stC ?_|refine stU (fun h=>?_) fun h=>?_|fail)
  exact Ai Y (AP (TA hb (by rw[hch,List.drop_of_length_le Aa];rfl)))
end Go.Proofs.YtmohpcgmdheafaaGreatDoor
