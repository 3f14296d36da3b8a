/- Lemmas toward the law; each names its conditions. -/
import Derived.Test.YtppffhlbcgpgdaaGreatDoorYD1
import Derived.Test.YtppffhlbcgpgdaaGreatDoorYSt
set_option linter.all false
set_option maxRecDepth 100000
set_option maxHeartbeats 8000000
namespace Go.Proofs.YtppffhlbcgpgdaaGreatDoor
open Go.Am
attribute [local irreducible] Decidable.decide
def Bp (n:Nat):Bs:=if h:n<128 then[UInt8.ofNat n]else UInt8.ofNat (128+n % 128)::Bp (n/128)
termination_by n
decreasing_by omega
theorem Nr {n:Nat} (h:n<128):Bp n=[UInt8.ofNat n]:=by rw[Bp,dif_pos h]
theorem QD {n:Nat} (h: ¬n<128):Bp n=UInt8.ofNat (128+n % 128)::Bp (n/128):=by rw[Bp,dif_neg h]
theorem WI: ∀(k n:Nat),n<128^(k+1)->(Bp n).length<=k+1
 |0,n,h=>by rw[Nr (by simpa using h)];simp
 |k+1,n,h=>by
  by_cases h1:n<128
  ·rw[Nr h1];simp
  ·rw[QD h1,A2z];have:=WI k (n/128) (by rw[Nat.div_lt_iff_lt_mul Ae];rw[Nat.pow_succ]at h;exact h);omega
theorem AL {n:Nat} (h:n<=1099511627776):(Bp n).length<=6:=WI 5 n (Nat.lt_of_le_of_lt h Ae)
theorem Ajb {n:Int} {m:Nat} (h:n=m) (hm:m<256):T.int .u8 (IntKind.u8.wrap n)=T.int .u8 ((UInt8.ofNat m).toNat:Int):=by
 subst h;have h1:(UInt8.ofNat m).toNat=m:=by simp[UInt8.toNat_ofNat'];omega
 rw[h1];congr 1;simp[IntKind.wrap,IntKind.bits,IntKind.signed];omega
end Go.Proofs.YtppffhlbcgpgdaaGreatDoor
namespace Go.Proofs.YtppffhlbcgpgdaaGreatDoor
open Go.Am
attribute [local irreducible] Decidable.decide Tr A6 CG EJ
def Db (l:List Int):Bs:=l.flatMap λn=>Bp n.toNat
def FU (s:Bs):Bs:=Bp s.length++s
theorem CE (s:Bs):E3 s=s.map Ba:=rfl
def NJ (r:Rec):Bool:=decide ((r.key.length:Int)<=16)&&decide ((r.value.length:Int)<=16)
theorem U4 {r:Rec}:NJ r=true↔(r.key.length:Int)<=16/\(r.value.length:Int)<=16:=by simp[NJ]
theorem Au7 {r:Rec} (h: ¬((r.key.length:Int)<=16/\(r.value.length:Int)<=16)):NJ r=false:=by rw[<-A8a,U4];exact h
def E5 (b:Batch):Prop:=1<=b.lO/\b.lO<=8/\0<=b.lT/\b.lT<=100/\0<=b.seq/\1<=b.rZ.length/\b.rZ.length<=4/\b.seq+b.rZ.length<=1048576
instance (b:Batch):Decidable (E5 b):=by unfold E5;infer_instance
def A4 (b:Batch):Bool:=decide (E5 b)&&b.rZ.all NJ
theorem Zw {α:Type} {p:α->Bool} {l:List α} {i:Nat} {x:α} (h:l[i]?=some x) (ha:(l.take i).all p=true) (hp:p x=true):(l.take (i+1)).all p=true:=by
 rw[AB h,A8i,ha];simp[hp]
theorem Asg {α:Type} {p:α->Bool} {l:List α} {i:Nat} {x:α} (h:l[i]?=some x) (hp:p x=false):l.all p=false:=by
 rw[List.all_eq_false];exact⟨x,Apj h,by simp[hp]⟩
theorem Ash {α:Type} {p:α->Bool} {l:List α} {i:Nat} (h:l.length<=i) (ha:(l.take i).all p=true):l.all p=true:=by
 rwa[QQ h]at ha
theorem Auq {b:Batch} (h: ¬E5 b):false=A4 b:=by simp[A4,h]
theorem A0w {b:Batch} (h:b.rZ.all NJ=false):false=A4 b:=by simp[A4,h]
theorem A3d {b:Batch} (h:E5 b) (h2:b.rZ.all NJ=true):true=A4 b:=by simp[A4,h,h2]
theorem Anl (b:Batch):A3z 34 [.agg (Af (Ak b))] [] (.t (.bool (A4 b))) []:=by
 refine yF Tryz.func34 ?_
 repeat'(first|exact Au|refine yC ?_ ?_|refine⟨λh=>?_⟩|fail)
 all_goals try rw[Ts]at*
 all_goals try(refine Ah Y ?_;refine BL (Auq ?_);unfold E5;omega)
 ·rw[A1 Aa Aa]at h;refine Ah Y ?_;refine BL (Auq ?_);unfold E5;omega
 ·rw[A1 Aa Aa]at h;have kN:E5 b:=by unfold E5;omega
  refine AW (ι:=Nat) (λi=>i<=b.rZ.length/\(b.rZ.take i).all NJ=true) (λi=>[(1,.ref 2 0),(3,.t (.int .i64 i))]) (λ_=>[(2,.cells (Af (Ak b)))]) (λi=>b.rZ.length-i) 0 Ac ?_ ?_
  ·exact Bb [] Aa6 Y
  rintro i ⟨hi,aI⟩;by_cases aC:i<b.rZ.length
  ·have hr:b.rZ[i]?=some b.rZ[i]:=Kv aC;generalize b.rZ[i]=r at hr
   repeat'(first|exact Au|refine yC ?_ ?_|refine⟨λh=>?_⟩|fail)
   ·exact Ah Y (BL (A0w (Asg hr (Au7 Aa))))
   ·refine AM (i+1) ⟨aC,Zw hr aI (U4.2 Aa)⟩ Aa [] (Ag Y Y (Ag Y ?_ A8)) Y;rw[A1 Aa Aa];rfl
   ·exact Ah Y (BL (A0w (Asg hr (Au7 Aa))))
  ·repeat'(first|exact Au|refine yC ?_ ?_|refine⟨λh=>?_⟩|fail)
   exact Ah Y (BL (A3d kN (Ash Aa aI)))
def MO (r:Row):Bool:=decide (1<=r.lO/\r.lO<=8/\0<=r.seq/\r.seq<=1048575/\(r.key.length:Int)<=16/\(r.value.length:Int)<=16)
theorem Asy (a b:Batch) (ha:a.rZ.length<=1000000):A3z 60 [.agg (Af (Ak a)),.agg (Af (Ak b))] [] (.t (.bool (decide (a=b)))) []:=by
 refine yF Tryz.func60 ?_
 repeat'(first|exact Au|refine yC ?_ ?_|refine⟨λh=>?_⟩|refine B5 6 10 ?_|fail)
 all_goals try(refine Ah Y (BL (bF λe=>?_));subst e;simp at*;done)
 rename_i h1 _ _ h2 _ _ h3 _ _ h4 _ _;simp only[Ts,A73]at*;have hl:a.rZ.length=b.rZ.length:=Aa;refine AW (ι:=Nat) (λi=>i<=a.rZ.length/\a.rZ.take i=b.rZ.take i) (λi=>[(2,.ref 4 0),(3,.ref 6 0),(5,.t (.int .i64 i))]) (λ_=>[(6,.cells (Af (Ak b))),(4,.cells (Af (Ak a)))]) (λi=>a.rZ.length-i) 0 Ac ?_ ?_
 ·exact Bb [] Aa6 Y
 rintro i ⟨hi,dR⟩;by_cases aC:i<a.rZ.length
 ·have hr:a.rZ[i]?=some a.rZ[i]:=Kv aC;have hs:b.rZ[i]?=some (b.rZ[i]' Aa):=Kv _;generalize a.rZ[i]=r at hr;generalize b.rZ[i]' Aa=s at hs
  repeat'(first|exact Au|refine yC ?_ ?_|refine⟨λh=>?_⟩|refine B5 6 10 ?_|fail)
  ·exact Ah Y (BL (bF (λe=>by subst e;rw[hr]at hs;cases hs;simp at h)))
  ·have e:r=s:=by cases r;cases s;simp at h;simp[h]
   refine AM (i+1) ⟨aC,Nw hr hs dR e⟩ Aa [] (Ag Y Y (Ag Y Y (Ag Y ?_ A8))) Y;rw[A1 Aa Aa];rfl
 ·repeat'(first|exact Au|refine yC ?_ ?_|refine⟨λh=>?_⟩|refine B5 6 10 ?_|fail)
  have e:=QF hl Aa dR;exact Ah Y (BL (bT (by cases a;cases b;simp_all)))
def KH (x:Entry):Batch:=⟨x.b.lO,x.b.lT,0,false,[]⟩
abbrev b0:Batch:=⟨0,0,0,false,[]⟩
abbrev N7:Row:=⟨0,0,0,[],[]⟩
abbrev IZ:Prod:=⟨0,0,0,[]⟩
def IK (x:Entry):Entry:=
 if x.kind=0 then⟨x.kind,x.b,false,0,0,N7,IZ⟩
 else if x.kind=1 then⟨x.kind,KH x,x.oC,0,0,N7,IZ⟩
 else if x.kind=2 then⟨x.kind,b0,false,0,x.offset,N7,IZ⟩
 else if x.kind=3 then⟨x.kind,x.b,x.oC,if x.oC=true then x.next else 0,0,N7,IZ⟩
 else if x.kind=4 then⟨x.kind,KH x,false,x.next,0,N7,IZ⟩
 else if x.kind=5 then⟨x.kind,b0,false,0,0,⟨0,x.row.lO,x.row.seq,x.row.key,x.row.value⟩,IZ⟩
 else if x.kind=6 then⟨x.kind,b0,false,0,0,N7,x.vM⟩
 else⟨x.kind,b0,false,0,0,N7,IZ⟩
def EY (s:Seen):Prop:=0<=s.seq/\1<=s.count/\s.count<=4/\ -1<=s.s6/\s.s6<=1048576
instance (s:Seen):Decidable (EY s):=by unfold EY;infer_instance
def Fg (next:Int):List Seen->Int
 |[]=>next
 |t::_=>t.seq
def BQ (next:Int):List Seen->Bool
 |[]=>true
 |s::r=>decide (EY s/\s.seq<=Fg next r-s.count)&&BQ next r
def Dt (p:Prod):Prop:=1<=p.lO/\p.lO<=8/\0<=p.lT/\p.lT<=100/\0<=p.next/\p.next<=1048576/\(p.s9.length:Int)<=3
instance (p:Prod):Decidable (Dt p):=by unfold Dt;infer_instance
def CW (p:Prod):Bool:=decide (Dt p)&&BQ p.next p.s9
theorem K6 {next:Int} (h0:0<=next) (h1:next<=1048576): ∀{l:List Seen},BQ next l=true->0<=Fg next l/\Fg next l<=1048576
 |[],_=>⟨h0,h1⟩
 |s::r,h=>by
  simp only[BQ,Qp,Uj]at h;have ih:=K6 h0 h1 h.2;have:=h.1.1;unfold EY at this;simp only[Fg];omega
theorem Alg {p:Prod} (h: ¬Dt p):false=CW p:=by simp[CW,h]
theorem Yp {p:Prod} (h:BQ p.next p.s9=false):false=CW p:=by simp[CW,h]
theorem Agu {p:Prod} (h:Dt p) (h2:BQ p.next p.s9=true):true=CW p:=by simp[CW,h,h2]
theorem CL {α:Type} {l:List α} {i:Nat} {x:α} (h:l[i]?=some x):l.drop i=x::l.drop (i+1):=by
 obtain⟨hi,rfl⟩:=ZH.1 h;exact A67 hi
def DV (x:Entry):Bool:=decide (x=IK x)
def Cs (x:Entry):Bool:=DV x&&
 (if x.kind=0 then A4 x.b
 else if x.kind=1 then decide (1<=x.b.lO/\x.b.lO<=8/\0<=x.b.lT/\x.b.lT<=100)
 else if x.kind=2 then decide (0<=x.offset/\x.offset<=1048576)
 else if x.kind=3 then A4 x.b&&x.b.vV&&decide (0<=x.next/\x.next<=1048576)
 else if x.kind=4 then decide (1<=x.b.lO/\x.b.lO<=8/\0<=x.b.lT/\x.b.lT<=100)&&decide (0<=x.next/\x.next<=1048576)
 else if x.kind=5 then MO x.row
 else if x.kind=6 then CW x.vM
 else false)
def Aj5 (r:Rec):Bs:=FU r.key++FU r.value
def DB (y:Bool):Bs:=[if y then 1 else 0]
def EM (b:Batch):Bs:=Bp b.lO.toNat++Bp b.lT.toNat++Bp b.seq.toNat++DB b.vV++Bp b.rZ.length++b.rZ.flatMap Aj5
theorem Ig {s:Bs} (h:s.length<=16):(FU s).length<=22:=by
 have:=AL (n:=s.length) Aa;simp[FU];omega
theorem RL: ∀{l:List Rec},l.all NJ=true->(l.flatMap Aj5).length<=44*l.length
 |[],_=>Ac
 |r::l,h=>by
  simp only[A6y,Qp]at h;have ih:=RL h.2;have h1:=U4.1 h.1;have h2:=Ig (s:=r.key) Aa;have h3:=Ig (s:=r.value) Aa;simp only[A66,Xp,A2z,Aj5];omega
theorem U6 {sz:Nat}:Aq (.t (.slice .nil sz [])) (.t (.slice .any 1 (([]:Bs).map Ba))):=Ay
def N3 (s:Seen):Bs:=Db [s.seq,s.count,s.s6+1]
def BW (x:Entry):Bs:=UInt8.ofNat x.kind.toNat::
 (if x.kind=0 then EM x.b
 else if x.kind=1 then Db [x.b.lO,x.b.lT]++DB x.oC
 else if x.kind=2 then Db [x.offset]
 else if x.kind=3 then EM x.b++DB x.oC++(if x.oC then Db [x.next]else[])
 else if x.kind=4 then Db [x.b.lO,x.b.lT]++Db [x.next]
 else if x.kind=5 then Db [x.row.lO,x.row.seq]++FU x.row.key++FU x.row.value
 else Db [x.vM.lO,x.vM.lT,x.vM.next,x.vM.s9.length]++x.vM.s9.flatMap N3)
theorem GN {b:Batch} (h:A4 b=true):(EM b).length<=1000:=by
 simp only[A4,Qp,Uj]at h;obtain⟨kN,aI⟩:=h;unfold E5 at kN;have l1:=AL (n:=b.lO.toNat) Aa;have l2:=AL (n:=b.lT.toNat) Aa;have l3:=AL (n:=b.seq.toNat) Aa;have l4:=AL (n:=b.rZ.length) Aa;have l5:=RL aI;unfold EM;simp only[Xp,DB,A2z,A46];omega
theorem Agq {x:Entry} (h:Cs x=true):x.kind=0\/x.kind=1\/x.kind=2\/x.kind=3\/x.kind=4\/x.kind=5\/x.kind=6:=by
 unfold Cs at h;simp only[Qp]at h;have h:=h.2
 repeat (split at h;·simp[*])
 cases h
theorem Hg {x:Entry} (h:Cs x=true):x=IK x/\(if x.kind=0 then A4 x.b=true
 else if x.kind=1 then(1<=x.b.lO/\x.b.lO<=8/\0<=x.b.lT/\x.b.lT<=100)
 else if x.kind=2 then(0<=x.offset/\x.offset<=1048576)
 else if x.kind=3 then A4 x.b=true/\x.b.vV=true/\(0<=x.next/\x.next<=1048576)
 else if x.kind=4 then(1<=x.b.lO/\x.b.lO<=8/\0<=x.b.lT/\x.b.lT<=100)/\(0<=x.next/\x.next<=1048576)
 else if x.kind=5 then MO x.row=true
 else x.kind=6/\CW x.vM=true):=by
 unfold Cs DV at h;simp only[Qp,Uj]at h;obtain⟨h1,h⟩:=h;refine⟨h1,?_⟩;clear h1
 repeat (split at h;·simp_all)
 cases h
theorem MX {next:Int} (h0:0<=next) (h1:next<=1048576): ∀{l:List Seen},BQ next l=true-> ∀s∈l,EY s/\s.seq<=1048576
 |[],_,s,hs=>by simp at hs
 |t::r,h,s,hs=>by
  have hb:=K6 h0 h1 h;simp only[BQ,Qp,Uj]at h;rcases Als.1 hs with rfl|hs
  ·exact⟨h.1.1,hb.2⟩
  ·exact MX h0 h1 h.2 s hs
theorem Afa {s:Seen} (h:EY s) (h1:s.seq<=1048576):(N3 s).length<=18:=by
 unfold EY at h;have l1:=AL (n:=s.seq.toNat) Aa;have l2:=AL (n:=s.count.toNat) Aa;have l3:=AL (n:=(s.s6+1).toNat) Aa;simp[N3,Db];omega
theorem OA: ∀{l:List Seen},(∀s∈l,EY s/\s.seq<=1048576)->(l.flatMap N3).length<=18*l.length
 |[],_=>Ac
 |s::l,h=>by
  have ih:=OA (l:=l) λt ht=>h t (A57 _ ht);have h1:=h s Ac;have h2:=Afa h1.1 h1.2;simp only[A66,Xp,A2z];omega
def Wj (s:Bs):Bs:=[UInt8.ofNat (s.length % 256),UInt8.ofNat (s.length/256),0,0]++s
theorem PZ {n:Nat} {a b:Int} (h1:T.int .u8 a=T.int .u8 ((UInt8.ofNat (n % 256)).toNat:Int)) (h2:T.int .u8 b=T.int .u8 ((UInt8.ofNat (n/256)).toNat:Int)):CH 1 4 [T.int .u8 a,T.int .u8 b,T.int .u8 0,T.int .u8 0]=E3 [UInt8.ofNat (n % 256),UInt8.ofNat (n/256),0,0]:=by
 rw[h1,h2];rfl
theorem SE {x:Entry} (hm:Cs x=true):(BW x).length<=1024:=by
 have eQ:=(Hg hm).2;have v1: ∀n:Int,0<=n->n<=1099511627776->(Bp n.toNat).length<=6:=λn h0 h1=>AL Aa;unfold BW;rw[A2z];split at eQ
 ·rename_i hk;rw[WU hk];have:=GN eQ;omega
 rename_i qQ;rw[Ug qQ];split at eQ
 ·rename_i hk;rw[WU hk];have a1:=v1 x.b.lO Aa Aa;have a2:=v1 x.b.lT Aa Aa;simp[Db,DB];omega
 rename_i qP;rw[Ug qP];split at eQ
 ·rename_i hk;rw[WU hk];have a1:=v1 x.offset Aa Aa;simp[Db];omega
 rename_i g9;rw[Ug g9];split at eQ
 ·rename_i hk;rw[WU hk];have:=GN eQ.1;have a1:=v1 x.next Aa Aa;split<;>simp[Db,DB]<;>omega
 rename_i oE;rw[Ug oE];split at eQ
 ·rename_i hk;rw[WU hk];have a1:=v1 x.b.lO Aa Aa;have a2:=v1 x.b.lT Aa Aa;have a3:=v1 x.next Aa Aa;simp[Db];omega
 rename_i hk4;rw[Ug hk4];split at eQ
 ·rename_i hk;rw[WU hk];simp only[MO,Uj]at eQ;have a1:=v1 x.row.lO Aa Aa;have a2:=v1 x.row.seq Aa Aa;have a3:=Ig (s:=x.row.key) Aa;have a4:=Ig (s:=x.row.value) Aa;simp[Db];omega
 rename_i hk5;rw[Ug hk5];obtain⟨_,eQ⟩:=eQ;simp only[CW,Qp,Uj]at eQ;obtain⟨kN,PZ⟩:=eQ;unfold Dt at kN;have hs:=OA (MX Aa Aa PZ);have a1:=v1 x.vM.lO Aa Aa;have a2:=v1 x.vM.lT Aa Aa;have a3:=v1 x.vM.next Aa Aa;have a4:=v1 x.vM.s9.length Aa Aa;rw[Xp];have:(Db [x.vM.lO,x.vM.lT,x.vM.next,(x.vM.s9.length:Int)]).length<=24:=by simp[Db]at*;omega
 omega
def Vq (name:Bs) (x:Entry):Wr:=⟨0,name,Wj (BW x),0⟩
def EV (name:Bs) (l:List Entry):List Wr:=l.map (Vq name)++[⟨1,name,[],0⟩]
def RN (name:Bs) (l:List Entry):List Wr:=if l≠[]/\l.all Cs=true then EV name l else[]
def Tx (l:List Entry):Int:=if l≠[]/\l.all Cs=true then 0 else 2
def F2 (x:Entry):Prop:=x.b.rZ.length<=1000000/\x.vM.s9.length<=1000000
theorem Avu (n:Nat) (h:n<9223372036854775808):(BitVec.ofInt 64 (n:Int)&&&BitVec.ofInt 64 127).toNat=n % 128:=by
 rw[BitVec.toNat_and];have h1:(BitVec.ofInt 64 (n:Int)).toNat=n:=by simp[BitVec.toNat_ofInt];omega
 have h2:(BitVec.ofInt 64 127).toNat=127:=rfl;rw[h1,h2];exact Nat.and_two_pow_sub_one_eq_mod n 7
theorem Az2 (n:Nat) (h:n<128):(BitVec.ofInt 64 (n:Int)|||BitVec.ofInt 64 128).toNat=128+n:=by
 rw[BitVec.toNat_or];have h1:(BitVec.ofInt 64 (n:Int)).toNat=n:=by simp[BitVec.toNat_ofInt];omega
 have h2:(BitVec.ofInt 64 128).toNat=128:=rfl;rw[h1,h2];have:=Nat.two_pow_add_eq_or_of_lt (i:=7) (b:=n) Aa 1;simp at this;rw[Nat.or_comm];exact this.symm
theorem Azq (n:Nat):(n:Int).fdiv (2^7)=((n/128:Nat):Int):=by
 have h8:(2:Int)^7=128:=Ae;rw[h8,Int.fdiv_eq_ediv_of_nonneg _ Ae];omega
theorem Ak0 {n:Nat} (h:n<9223372036854775808):T.int .u8 (IntKind.u8.wrap (IntKind.i64.wrap (((BitVec.ofInt 64 (IntKind.i64.wrap (((BitVec.ofInt 64 (n:Int)&&&BitVec.ofInt 64 127).toNat:Nat):Int))|||BitVec.ofInt 64 128).toNat:Nat):Int)))=T.int .u8 ((UInt8.ofNat (128+n % 128)).toNat:Int):=by
 have hw:IntKind.i64.wrap ((n % 128:Nat):Int)=((n % 128:Nat):Int):=A1 Aa Aa;rw[Avu n h,hw,Az2 (n % 128) Aa];exact Ajb (by rw[A1 Aa Aa]) Aa
theorem Aut (n:Int):A3z 291 [.t (.int .i64 n)] [] (.t (.int .i64 (if 0<=n/\n<=1099511627776 then((Bp n.toNat).length:Int)else 0))) []:=by
 refine yF Tryz.func291 ?_
 repeat'(first|exact Au|refine yC ?_ ?_|refine⟨λh=>?_⟩|fail)
 ·refine Ah Y (A3m ?_);rw[Ug Aa]
 ·obtain⟨n,rfl⟩:=Int.eq_ofNat_of_zero_le (by omega:0<=n);rw[WU ⟨Aa,Aa⟩];have hl:=AL (n:=n) Aa;refine AW (ι:=Nat×Nat) (λp=>p.1<=1099511627776/\p.2+(Bp p.1).length=(Bp n).length+1) (λp=>[(0,.t (.int .i64 p.1)),(3,.t (.int .i64 p.2))]) (λ_=>[]) (λp=>p.1) (n,1) ⟨by simp;omega,by simp;omega⟩ ?_ ?_
  ·exact Bb [] Aa6 Y
  rintro⟨m,s⟩ ⟨hm,he⟩;simp only at hm he
  repeat'(first|exact Au|refine yC ?_ ?_|refine⟨λh=>?_⟩|fail)
  ·rw[QD (n:=m) Aa,A2z]at he;refine AM (m/128,s+1) ⟨by simp;omega,by simp;omega⟩ (by simp;omega) [] (Ag Y (A5s (λz=>AV.t (T.int .i64 z)) (Azq m)) (Ag Y ?_ A8)) Y;rw[A1 (by simp;omega) (by simp;omega)];rfl
  ·rw[Nr (n:=m) Aa]at he;refine Ah Y (A3m ?_);simp at he⊢;omega
 ·refine Ah Y (A3m ?_);rw[Ug Aa]
theorem Ao3 (b:Bs) (n:Nat) (hn:n<=1099511627776) (hb:b.length<=1000000000):
  A3z 294 [.row 1 1 0 (b.map Ba).length,.t (.int .i64 n)] [(1,.grow 1 (b.map Ba))] (.row 1 1 0 ((b++Bp n).map Ba).length) [(1,.grow 1 ((b++Bp n).map Ba))]:=by
 refine yG Tryz.func294 ?_;have hl:=AL hn
 repeat'(first|exact Au|refine yC ?_ ?_|refine⟨λh=>?_⟩|fail)
 refine AW (ι:=Nat×Bs) (λp=>p.1<=1099511627776/\p.2++Bp p.1=b++Bp n) (λp=>[(1,.t (.int .i64 p.1)),(0,.row 1 1 0 (p.2.map Ba).length)]) (λp=>[(1,.grow 1 (p.2.map Ba))]) (λp=>p.1) (n,b) ⟨hn,Y⟩ ?_ ?_
 ·exact Bb [] Aa6 Y
 rintro⟨m,out⟩ ⟨hm,he⟩;simp only at hm he;have hol:out.length<=b.length+6:=by have:=A5s List.length he;simp at this;omega
 repeat'(first|exact Au|refine yC ?_ ?_|refine⟨λh=>?_⟩|fail)
 ·refine AM (m/128,out++[UInt8.ofNat (128+m % 128)]) ⟨by simp;omega,?_⟩ (by simp;omega) [] (Ag Y (A5s (λz=>AV.t (T.int .i64 z)) (Azq m)) (Ag Y (by simp[CH]) A8)) ?_
  ·simp only;rw[<-he,QD (n:=m) Aa];simp
  ·have e1:=Ak0 (n:=m) Aa;simp only[A38,A5h,A8j];exact A5s (λz=>[(1,Blk.grow 1 (List.map Ba out++[[z]]))]) e1
 ·have e2:out++[UInt8.ofNat m]=b++Bp n:=by rw[<-he,Nr Aa]
  have e1:=Ajb (n:=(m:Int)) (m:=m) Y Aa;refine A0 [] Y Y ?_ (A3m ?_)
  ·rw[<-e2];simp[CH,Td,Ba,HI,CX,e1]
  ·rw[<-e2];simp[CH]
theorem Ai8 (n:Nat):1<=(Bp n).length:=by
 by_cases h:n<128
 ·rw[Nr h];simp
 ·rw[QD h];simp
theorem Aqy (n:Nat) (hn:n<=1099511627776):A3z 291 [.t (.int .i64 n)] [] (.t (.int .i64 ((Bp n).length:Int))) []:=by
 have:=Aut n;rw[WU ⟨Aa,Aa⟩]at this;exact this
theorem Ac6 (b:Bs) (n:Nat) (hn:n<=1099511627776) (hb:b.length<=1000000000):
  A3z 274 [.t (.slice .any 1 (b.map Ba)),.t (.int .i64 n)] [] (.tuple [.row 36 1 0 ((b++Bp n).map Ba).length,.t (.int .i64 0)]) [(36,.grow 1 ((b++Bp n).map Ba))]:=by
 refine yG Tryz.func274 ?_;have hl:=AL hn;have j9:=Ai8 n;have aQ:(b.map Ba).length=b.length:=Ts ..
 have dQ:IntKind.i64.wrap (((b.map Ba).length:Int)+((Bp n).length:Int))=(((b.map Ba).length+(Bp n).length:Nat):Int):=by
  rw[A1 Aa Aa];omega
 repeat'(first|exact Au|refine yC ?_ ?_|refine⟨λh=>?_⟩|refine BZ (Aqy n hn) ?_|refine DH Ai Y Y Y Y Y Y Y Y dQ Y Y Aa Aa ?_|refine Atp Ai Y Y Y Y Y Y Y Y Y Y Ac Ac Y ?_|refine BT [(36,1)] [(1,36)] (Ao3 b n hn hb) ?_|fail)
 refine A0 [] Y Y Y (A3l _)
theorem Ai9 (b:Bs) (n:Int) (h0:0<=n) (hn:n<=1099511627776) (hb:b.length<=1000000000):
  A3z 274 [.t (.slice .any 1 (b.map Ba)),.t (.int .i64 n)] [] (.tuple [.t (.slice .any 1 ((b++Bp n.toNat).map Ba)),.t (.int .i64 0)]) []:=by
 obtain⟨m,rfl⟩:=Int.eq_ofNat_of_zero_le h0;exact(Ac6 b m Aa hb).freeze2
theorem Cd (b:Bs) (n:Int) (h0:0<=n) (hn:n<=1099511627776) (hb:b.length<=1000000000):
  A3z 253 [.t (.slice .any 1 (b.map Ba)),.t (.int .i64 n)] [] (.tuple [.t (.slice .any 1 ((b++Bp n.toNat).map Ba)),.t (.int .i64 0)]) []:=by
 refine yF Tryz.func253 ?_
 repeat'(first|exact Au|refine yC ?_ ?_|refine⟨λh=>?_⟩|refine Ab0 ?_ (c:=Ai9 _ _ h0 hn hb)|fail)
 exact Ah Y (A3l _)
theorem S8 (b s:Bs) (hs:s.length<=1024) (hb:b.length<=1000000000):
  A3z 222 [.t (.slice .any 1 (b.map Ba)),.t (.str s)] [] (.tuple [.t (.slice .any 1 ((b++FU s).map Ba)),.t (.int .i64 0)]) []:=by
 refine yF Tryz.func222 ?_;have hl:=AL (n:=s.length) Aa
 repeat'(first|exact Au|refine yC ?_ ?_|refine⟨λh=>?_⟩|refine Ahc [] [(36,30)] ?_ (c:=(Ac6 _ s.length Aa hb))|refine Ai6 Ai Y Y Y Y Y Y Y Y Y Y Y Y Y Y (by simp[GL];omega) ?_|fail)
 refine Ah Y (A3m ?_);simp[BG,FU,CE];exact QQ Ac
theorem Aq7 (n:Nat) (h0:0<n) (hn:n<=10000000000):
  A3z 295 [.t (.slice .nil 0 []),.t (.int .i64 n)] [] (.row 44 1 0 0) [(44,.grow 1 [])]:=by
 refine yG Tryz.func295 ?_
 have hw:IntKind.i64.wrap ((n:Int)-IntKind.i64.wrap (0-((([]:List (List T)).length:Nat):Int)))=(n:Int):=by
  have:IntKind.i64.wrap (0-((([]:List (List T)).length:Nat):Int))=0:=by rw[A1 Ac Ac];simp
  rw[this,A1 Aa Aa];omega
 repeat'(first|exact Au|refine yC ?_ ?_|refine⟨λh=>?_⟩|refine Ai5 Ai Y Y Y Y Y Y Y Y ?_|refine Vt Ai Y Y Y Y Y Y Y Y Y Y Y hw Y Y h0 Aa ?_|fail)
 exact A0 [] Y Y Y (A3l _)
def Qv (b:Bs):List T:=[.slice .any 1 (b.map Ba)]
theorem Mu {l:List Bs} {i:Nat}:(l.take i).flatten.length<=l.flatten.length:=by
 have:l.flatten=(l.take i).flatten++(l.drop i).flatten:=by rw[<-A48,A5j]
 rw[this,Xp];omega
theorem Lw {l:List Bs} {i:Nat} {b:Bs} (h:l[i]?=some b):(l.take (i+1)).flatten=(l.take i).flatten++b:=by
 rw[AB h,A48];simp
theorem Ahl (l:List Bs) (h0:0<l.flatten.length) (hn:l.flatten.length<=10000000000) (sJ:l.length<=1000000):
  A3z 276 [.t (.slice .any 1 (l.map Qv))] [] (.t (.slice .any 1 (l.flatten.map Ba))) []:=by
 refine yF Tryz.func276 ?_;have aQ:(l.map Qv).length=l.length:=Ts ..
 repeat'(first|exact Au|refine yC ?_ ?_|refine⟨λh=>?_⟩|fail)
 refine AW (ι:=Nat) (λi=>i<=l.length) (λi=>[(0,.t (.slice .any 1 (l.map Qv))),(9,.t (.slice .any 1 (l.map Qv))),(10,.t (.int .i64 ((l.map Qv).length:Int))),(11,.t (.int .i64 i)),(3,.t (.int .i64 ((l.take i).flatten.length:Int)))]) (λ_=>[]) (λi=>l.length-i) 0 Ac ?_ ?_
 ·exact Bb [] Aa6 Y
 rintro i hi;by_cases aC:i<l.length
 ·have hr:l[i]?=some l[i]:=Kv aC;generalize l[i]=r at hr;have hs:=Lw hr;have oN:=A5s List.length hs;rw[Xp]at oN;have cJ:=Mu (l:=l) (i:=i+1);have hrm:(r.map Ba).length=r.length:=Ts ..
  have hw:IntKind.i64.wrap (((l.take i).flatten.length:Int)+((r.map Ba).length:Int))=((l.take (i+1)).flatten.length:Int):=by
   rw[A1 Aa Aa];omega
  repeat'(first|exact Au|refine yC ?_ ?_|refine⟨λh=>?_⟩|fail)
  refine AM (i+1) Aa Aa [] (Ag Y Y (Ag Y Y (Ag Y Y (Ag Y ?_ (Ag Y (A5s (λz=>AV.t (T.int .i64 z)) hw) A8))))) Y;rw[A1 Aa Aa];rfl
 ·have aI:l.take i=l:=QQ Aa
  repeat'(first|exact Au|refine yC ?_ ?_|refine⟨λh=>?_⟩|refine BT [] [(44,48)] (Aq7 (l.take i).flatten.length (by rw[aI];exact h0) (by rw[aI];exact hn)) ?_|fail)
  refine AW (ι:=Nat) (λj=>j<=l.length) (λj=>[(25,.t (.slice .any 1 (l.map Qv))),(26,.t (.int .i64 ((l.map Qv).length:Int))),(27,.t (.int .i64 j)),(6,.row 48 1 0 (((l.take j).flatten).map Ba).length)]) (λj=>[(48,.grow 1 (((l.take j).flatten).map Ba))]) (λj=>l.length-j) 0 Ac ?_ ?_
  ·exact Bb [] Aa6 Y
  rintro j hj;by_cases dX:j<l.length
  ·have hr:l[j]?=some l[j]:=Kv dX;generalize l[j]=r at hr;have hs:=Lw hr;have oN:=A5s List.length hs;rw[Xp]at oN;have cJ:=Mu (l:=l) (i:=j+1)
   repeat'(first|exact Au|refine yC ?_ ?_|refine⟨λh=>?_⟩|refine WH Ai Y Y Y Y Y Y Y Y Y Y Y Y Y Y (by simp only[Xp,Ts];omega) ?_|fail)
   refine AM (j+1) Aa Aa [] (Ag Y Y (Ag Y Y (Ag Y ?_ (Ag Y ?_ A8)))) ?_
   ·rw[A1 Aa Aa];rfl
   ·rw[hs,A38]
   ·rw[hs,A38];rfl
  ·have hY:l.take j=l:=QQ Aa
   repeat'(first|exact Au|refine yC ?_ ?_|refine⟨λh=>?_⟩|fail)
   refine Ah Y (A3m ?_);rw[hY];exact Al8 48 1 _
theorem JF (b:Bs) (y:Bool) (hb:b.length<=1000000000):
  A3z 224 [.t (.slice .any 1 (b.map Ba)),.t (.bool y)] [] (.t (.slice .any 1 ((b++DB y).map Ba))) []:=by
 have cc: ∀f:Bs,f.length=1->A3z 276 [.t (.slice .any 1 ([b,f].map Qv))] [] (.t (.slice .any 1 ((b++f).map Ba))) []:=λf hf=>by
  have:=Ahl [b,f] (by simp;omega) (by simp;omega) Ac
  simpa using this
 refine yF Tryz.func224 ?_;refine HA ?_;refine Jx Ai Y Y ?_;refine DQ Ai Y Y Y ?_;refine Asm ?_;refine HA ?_;refine Jx Ai Y Y ?_;refine QC Ai Y Y Y Y Y Y Y Y ?_
 cases y with
 |false=>
  repeat'(first|exact Au|refine yC ?_ ?_|refine⟨λh=>?_⟩|refine CO Ai Y Y Y Y (cc [0] Y) Y Y Y ⟨A9,trivial⟩ ?_|fail)
  exact Ah Y (A3l _)
 |true=>
  repeat'(first|exact Au|refine yC ?_ ?_|refine⟨λh=>?_⟩|refine CO Ai Y Y Y Y (cc [1] Y) Y Y Y ⟨A9,trivial⟩ ?_|fail)
  exact Ah Y (A3l _)
def Fx {α:Type} (p:α->Bool) (l:List α):Int:=match l.findIdx? p with
 |some i=>(i:Int)
 |none=> -1
theorem Wf {α:Type} {p:α->Bool} {l:List α} {i:Nat} {x:α} (h:l[i]?=some x) (ha:(l.take i).any p=false) (hp:p x=true):Fx p l=(i:Int):=by
 have aC:i<l.length:=(ZH.1 h).1
 have:l.findIdx? p=some i:=by
  rw[A6o];refine⟨aC,by obtain⟨_,rfl⟩:=ZH.1 h;exact hp,λj hj=>?_⟩;have:=A4u.1 ha (l[j]' Aa) (by rw[A51];exact⟨j,Aa,Y⟩)
  simpa using this
 simp[Fx,this]
theorem Lr {α:Type} {p:α->Bool} {l:List α} (h:l.any p=false):Fx p l= -1:=by
 have:l.findIdx? p=none:=by
  rw[A5e];intro x hx;have:=A4u.1 h x hx;simpa using this
 simp[Fx,this]
theorem Kt {α:Type} (p:α->Bool) (l:List α):(0<=Fx p l)↔l.any p=true:=by
 cases h:l.any p with
 |false=>rw[Lr h];simp
 |true=>
  have: ∃i,l.findIdx? p=some i:=by
   cases hf:l.findIdx? p with
   |some i=>exact⟨i,Y⟩
   |none=>rw[A5e]at hf;rw[A6s]at h;obtain⟨x,hx,hp⟩:=h;have:=hf x hx;simp[hp]at this
  obtain⟨i,hi⟩:=this;simp[Fx,hi]
theorem Y0 (bH:Nat) (cap:List T) (p:Rec->Bool) (l:List Rec) (hl:l.length<=1000000000) (hf: ∀r,A3z bH (.agg (Af (AX r))::Af cap) [] (.t (.bool (p r))) []) (e6:ED (Af cap)=true):
  A3z 227 [.t (.slice .any 2 (l.map AX)),.t (.func (.func bH) [] cap)] [] (.t (.int .i64 (Fx p l))) []:=by
 refine yF Tryz.func227 ?_;have aQ:(l.map AX).length=l.length:=Ts ..
 repeat'(first|exact Au|refine yC ?_ ?_|refine⟨λh=>?_⟩|fail)
 refine AW (ι:=Nat) (λi=>i<=l.length/\(l.take i).any p=false) (λi=>[(0,.t (.slice .any 2 (l.map AX))),(1,.t (.func (.func bH) [] cap)),(7,.t (.int .i64 ((l.map AX).length:Int))),(8,.t (.int .i64 i))]) (λ_=>[]) (λi=>l.length-i) 0 Ac ?_ ?_
 ·exact Bb [] Aa6 Y
 rintro i ⟨hi,bG⟩;by_cases aC:i<l.length
 ·have hr:l[i]?=some l[i]:=Kv aC;generalize l[i]=r at hr
  repeat'(first|exact Au|refine yC ?_ ?_|refine⟨λh=>?_⟩|refine Ji Ai Y Y Y Y Y Y e6 (hf r) Y Y ?_|fail)
  ·exact Ah Y (A3m (by rw[Wf hr bG h]))
  ·refine AM (i+1) ⟨aC,FH hr bG (by simpa using h)⟩ Aa [] (Ag Y Y (Ag Y Y (Ag Y Y (Ag Y ?_ A8)))) Y;rw[A1 Aa Aa];rfl
 ·repeat'(first|exact Au|refine yC ?_ ?_|refine⟨λh=>?_⟩|fail)
  exact Ah Y (A3m (by rw[Lr (G0 Aa bG)]))
theorem SN (bH:Nat) (cap:List T) (p:Rec->Bool) (l:List Rec) (hl:l.length<=1000000000) (hf: ∀r,A3z bH (.agg (Af (AX r))::Af cap) [] (.t (.bool (p r))) []) (e6:ED (Af cap)=true):
  A3z 182 [.t (.slice .any 2 (l.map AX)),.t (.func (.func bH) [] cap)] [] (.t (.bool (l.any p))) []:=by
 refine yF Tryz.func182 ?_
 repeat'(first|exact Au|refine yC ?_ ?_|refine⟨λh=>?_⟩|refine BZ (Y0 bH cap p l hl hf e6) ?_|fail)
 refine Ah Y (BL ?_);rw[<-A5f.2 ⟨λh=>(Kt p l).1 (A5c h),λh=>A32 ((Kt p l).2 h)⟩]
theorem Yz (bH:Nat) (cap:List T) (p:Row->Bool) (l:List Row) (hl:l.length<=1000000000) (hf: ∀r,A3z bH (.agg (Af (Aw r))::Af cap) [] (.t (.bool (p r))) []) (e6:ED (Af cap)=true):
  A3z 200 [.t (.slice .any 5 (l.map Aw)),.t (.func (.func bH) [] cap)] [] (.t (.int .i64 (Fx p l))) []:=by
 refine yF Tryz.func200 ?_;have aQ:(l.map Aw).length=l.length:=Ts ..
 repeat'(first|exact Au|refine yC ?_ ?_|refine⟨λh=>?_⟩|fail)
 refine AW (ι:=Nat) (λi=>i<=l.length/\(l.take i).any p=false) (λi=>[(0,.t (.slice .any 5 (l.map Aw))),(1,.t (.func (.func bH) [] cap)),(7,.t (.int .i64 ((l.map Aw).length:Int))),(8,.t (.int .i64 i))]) (λ_=>[]) (λi=>l.length-i) 0 Ac ?_ ?_
 ·exact Bb [] Aa6 Y
 rintro i ⟨hi,bG⟩;by_cases aC:i<l.length
 ·have hr:l[i]?=some l[i]:=Kv aC;generalize l[i]=r at hr
  repeat'(first|exact Au|refine yC ?_ ?_|refine⟨λh=>?_⟩|refine Ji Ai Y Y Y Y Y Y e6 (hf r) Y Y ?_|fail)
  ·exact Ah Y (A3m (by rw[Wf hr bG h]))
  ·refine AM (i+1) ⟨aC,FH hr bG (by simpa using h)⟩ Aa [] (Ag Y Y (Ag Y Y (Ag Y Y (Ag Y ?_ A8)))) Y;rw[A1 Aa Aa];rfl
 ·repeat'(first|exact Au|refine yC ?_ ?_|refine⟨λh=>?_⟩|fail)
  exact Ah Y (A3m (by rw[Lr (G0 Aa bG)]))
theorem SL (bH:Nat) (cap:List T) (p:Row->Bool) (l:List Row) (hl:l.length<=1000000000) (hf: ∀r,A3z bH (.agg (Af (Aw r))::Af cap) [] (.t (.bool (p r))) []) (e6:ED (Af cap)=true):
  A3z 137 [.t (.slice .any 5 (l.map Aw)),.t (.func (.func bH) [] cap)] [] (.t (.bool (l.any p))) []:=by
 refine yF Tryz.func137 ?_
 repeat'(first|exact Au|refine yC ?_ ?_|refine⟨λh=>?_⟩|refine BZ (Yz bH cap p l hl hf e6) ?_|fail)
 refine Ah Y (BL ?_);rw[<-A5f.2 ⟨λh=>(Kt p l).1 (A5c h),λh=>A32 ((Kt p l).2 h)⟩]
theorem PW (bH:Nat) (cap:List T) (p:Opn->Bool) (l:List Opn) (hl:l.length<=1000000000) (hf: ∀r,A3z bH (.agg (Af (An r))::Af cap) [] (.t (.bool (p r))) []) (e6:ED (Af cap)=true):
  A3z 154 [.t (.slice .any 3 (l.map An)),.t (.func (.func bH) [] cap)] [] (.t (.int .i64 (Fx p l))) []:=by
 refine yF Tryz.func154 ?_;have aQ:(l.map An).length=l.length:=Ts ..
 repeat'(first|exact Au|refine yC ?_ ?_|refine⟨λh=>?_⟩|fail)
 refine AW (ι:=Nat) (λi=>i<=l.length/\(l.take i).any p=false) (λi=>[(0,.t (.slice .any 3 (l.map An))),(1,.t (.func (.func bH) [] cap)),(7,.t (.int .i64 ((l.map An).length:Int))),(8,.t (.int .i64 i))]) (λ_=>[]) (λi=>l.length-i) 0 Ac ?_ ?_
 ·exact Bb [] Aa6 Y
 rintro i ⟨hi,bG⟩;by_cases aC:i<l.length
 ·have hr:l[i]?=some l[i]:=Kv aC;generalize l[i]=r at hr
  repeat'(first|exact Au|refine yC ?_ ?_|refine⟨λh=>?_⟩|refine Ji Ai Y Y Y Y Y Y e6 (hf r) Y Y ?_|fail)
  ·exact Ah Y (A3m (by rw[Wf hr bG h]))
  ·refine AM (i+1) ⟨aC,FH hr bG (by simpa using h)⟩ Aa [] (Ag Y Y (Ag Y Y (Ag Y Y (Ag Y ?_ A8)))) Y;rw[A1 Aa Aa];rfl
 ·repeat'(first|exact Au|refine yC ?_ ?_|refine⟨λh=>?_⟩|fail)
  exact Ah Y (A3m (by rw[Lr (G0 Aa bG)]))
theorem SO (bH:Nat) (cap:List T) (p:Opn->Bool) (l:List Opn) (hl:l.length<=1000000000) (hf: ∀r,A3z bH (.agg (Af (An r))::Af cap) [] (.t (.bool (p r))) []) (e6:ED (Af cap)=true):
  A3z 236 [.t (.slice .any 3 (l.map An)),.t (.func (.func bH) [] cap)] [] (.t (.bool (l.any p))) []:=by
 refine yF Tryz.func236 ?_
 repeat'(first|exact Au|refine yC ?_ ?_|refine⟨λh=>?_⟩|refine BZ (PW bH cap p l hl hf e6) ?_|fail)
 refine Ah Y (BL ?_);rw[<-A5f.2 ⟨λh=>(Kt p l).1 (A5c h),λh=>A32 ((Kt p l).2 h)⟩]
