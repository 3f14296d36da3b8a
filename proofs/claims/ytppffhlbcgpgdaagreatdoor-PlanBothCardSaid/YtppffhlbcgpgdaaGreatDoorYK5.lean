/- Lemmas toward the law; each names its conditions. -/
import Derived.Test.YtppffhlbcgpgdaaGreatDoorYJ5
set_option linter.all false
set_option maxRecDepth 100000
set_option maxHeartbeats 8000000
namespace Go.Proofs.YtppffhlbcgpgdaaGreatDoor
open Go.Am
attribute [local irreducible] Decidable.decide Tr A6 CG EJ
def JX (r:Row):Bool:=decide (r.lO<1\/r.lO>8\/r.seq<0\/r.seq>=1048576\/r.key.length>16\/r.value.length>16)
theorem Aig (r:Row):A3z 138 [.agg (Af (Aw r))] [] (.t (.bool (JX r))) []:=by
 refine yF Tryz.func138 ?_
 repeat'(first|exact Au|refine yC ?_ ?_|refine⟨λh=>?_⟩|fail)
 all_goals(refine Ah Y (BL ?_);simp only[JX];first|exact bI Aa|exact bT Aa|exact bF Aa)
def HT (last:Int):List Prod->Bool
 |[]=>true
 |p::r=>(decide (last<p.lO)&&CW p)&&HT p.lO r
def EN (l:List Prod):Bool:=HT 0 l
def Gj (l:List Prod):Prop:=l.length<=1000000/\ ∀p∈l,p.s9.length<=1000000
theorem Yc (l:List Prod) (hl:Gj l):A3z 139 [.t (.slice .any 4 (l.map Ar))] [] (.t (.bool (EN l))) []:=by
 obtain⟨hl,cS⟩:=hl;have aQ:(l.map Ar).length=l.length:=Ts ..;refine yF Tryz.func139 ?_
 repeat'(first|exact Au|refine yC ?_ ?_|refine⟨λh=>?_⟩|fail)
 refine AW (ι:=Nat×Int) (λq=>q.1<=l.length/\EN l=HT q.2 (l.drop q.1)) (λq=>[(3,.t (.int .i64 q.2)),(6,.t (.slice .any 4 (l.map Ar))),(7,.t (.int .i64 ((l.map Ar).length:Int))),(8,.t (.int .i64 q.1))]) (λ_=>[]) (λq=>l.length-q.1) (0,0) ⟨Ac,Y⟩ ?_ ?_
 ·exact Bb [] Aa6 Y
 rintro⟨i,last⟩ ⟨hi,hm⟩;simp only at hi hm;by_cases aC:i<l.length
 ·have hr:l[i]?=some l[i]:=Kv aC;have hs:=cS l[i] (Agz aC);generalize l[i]=r at hr hs;rw[CL hr]at hm;simp only[HT]at hm
  repeat'(first|exact Au|refine yC ?_ ?_|refine⟨λh=>?_⟩|refine BZ (Gt r hs) ?_|fail)
  ·have hk:CW r=false:=by simpa using h
   refine Ah Y (BL ?_);rw[hm,hk];simp
  ·have hk:CW r=true:=Ya h;refine AM (i+1,r.lO) ⟨by simp;omega,?_⟩ (by simp;omega) [5] (Ag Y Y (Ag Y Y (Ag Y Y (Ag Y ?_ A8)))) Y
   ·rw[hm,hk,A32 (show last<r.lO by simp only at*;omega)];rfl
   ·rw[A1 Aa Aa];rfl
  ·refine Ah Y (BL ?_);rw[hm,A44 (show ¬last<r.lO by simp only at*;omega)];simp
 ·repeat'(first|exact Au|refine yC ?_ ?_|refine⟨λh=>?_⟩|fail)
  refine Ah Y (BL ?_);rw[hm,A6n Aa];rfl
def Q5 {α:Type} (p:α->Bool) (l:List α):Int:=match l.findIdx? p with
 |some i=>(i:Int)
 |none=>(l.length:Int)
theorem Al6 {α:Type} {p:α->Bool} {l:List α} {i:Nat} {x:α} (h:l[i]?=some x) (ha:(l.take i).any p=false) (hp:p x=true):Q5 p l=(i:Int)/\l.any p=true:=by
 have:=Wf h ha hp;refine⟨?_,Acl h hp⟩;unfold Fx at this;unfold Q5;split at this
 ·rename_i j hj;rw[hj];exact this
 ·omega
theorem S9 {α:Type} {p:α->Bool} {l:List α} (h:l.any p=false):Q5 p l=(l.length:Int):=by
 have:=Lr h;unfold Fx at this;unfold Q5;split at this
 ·omega
 ·rename_i hj;rw[hj]
theorem LZ {α:Type} {p:α->Bool} {l:List α} (h:l.any p=true): ∃(i:Nat) (x:α),l[i]?=some x/\Q5 p l=(i:Int)/\l.find? p=some x/\p x=true:=by
 have h1: ∃i,l.findIdx? p=some i:=by
  cases hf:l.findIdx? p with
  |some i=>exact⟨i,Y⟩
  |none=>rw[A5e]at hf;rw[A6s]at h;obtain⟨x,hx,hp⟩:=h;have:=hf x hx;simp[hp]at this
 obtain⟨i,hi⟩:=h1;have h2:=A6o.1 hi;obtain⟨aC,hp,cH⟩:=h2;refine⟨i,l[i],Kv aC,by simp[Q5,hi],?_,hp⟩;rw[A8k];exact⟨hp,i,aC,Y,λj hj=>by have:=cH j hj;simpa using this⟩
theorem Kx (bH:Nat) (cap:List T) (p:Prod->Bool) (l:List Prod) (hl:l.length<=1000000000) (hf: ∀r,A3z bH (.agg (Af (Ar r))::Af cap) [] (.t (.bool (p r))) []) (e6:ED (Af cap)=true):
  A3z 158 [.t (.slice .any 4 (l.map Ar)),.t (.func (.func bH) [] cap)] [] (.tuple [.t (.int .i64 (Q5 p l)),.t (.bool (l.any p))]) []:=by
 refine yF Tryz.func158 ?_;have aQ:(l.map Ar).length=l.length:=Ts ..
 repeat'(first|exact Au|refine yC ?_ ?_|refine⟨λh=>?_⟩|fail)
 refine AW (ι:=Nat) (λi=>i<=l.length/\(l.take i).any p=false) (λi=>[(0,.t (.slice .any 4 (l.map Ar))),(1,.t (.func (.func bH) [] cap)),(8,.t (.slice .any 4 (l.map Ar))),(9,.t (.int .i64 ((l.map Ar).length:Int))),(10,.t (.int .i64 i))]) (λ_=>[]) (λi=>l.length-i) 0 Ac ?_ ?_
 ·exact Bb [] Aa6 Y
 rintro i ⟨hi,bG⟩;by_cases aC:i<l.length
 ·have hr:l[i]?=some l[i]:=Kv aC;generalize l[i]=r at hr
  repeat'(first|exact Au|refine yC ?_ ?_|refine⟨λh=>?_⟩|refine Ji Ai Y Y Y Y Y Y e6 (hf r) Y Y ?_|fail)
  ·obtain⟨q1,q2⟩:=Al6 hr bG h;exact Ah Y (A3m (by rw[q1,q2]))
  ·refine AM (i+1) ⟨aC,FH hr bG (by simpa using h)⟩ Aa [7] (Ag Y Y (Ag Y Y (Ag Y Y (Ag Y Y (Ag Y ?_ A8))))) Y;rw[A1 Aa Aa];rfl
 ·repeat'(first|exact Au|refine yC ?_ ?_|refine⟨λh=>?_⟩|fail)
  have ha:=G0 Aa bG;exact Ah Y (A3m (by rw[S9 ha,ha,aQ]))
theorem Oi (bH:Nat) (cap:List T) (p:Seen->Bool) (l:List Seen) (hl:l.length<=1000000000) (hf: ∀r,A3z bH (.agg (Af (AR r))::Af cap) [] (.t (.bool (p r))) []) (e6:ED (Af cap)=true):
  A3z 278 [.t (.slice .any 3 (l.map AR)),.t (.func (.func bH) [] cap)] [] (.tuple [.t (.int .i64 (Q5 p l)),.t (.bool (l.any p))]) []:=by
 refine yF Tryz.func278 ?_;have aQ:(l.map AR).length=l.length:=Ts ..
 repeat'(first|exact Au|refine yC ?_ ?_|refine⟨λh=>?_⟩|fail)
 refine AW (ι:=Nat) (λi=>i<=l.length/\(l.take i).any p=false) (λi=>[(0,.t (.slice .any 3 (l.map AR))),(1,.t (.func (.func bH) [] cap)),(8,.t (.slice .any 3 (l.map AR))),(9,.t (.int .i64 ((l.map AR).length:Int))),(10,.t (.int .i64 i))]) (λ_=>[]) (λi=>l.length-i) 0 Ac ?_ ?_
 ·exact Bb [] Aa6 Y
 rintro i ⟨hi,bG⟩;by_cases aC:i<l.length
 ·have hr:l[i]?=some l[i]:=Kv aC;generalize l[i]=r at hr
  repeat'(first|exact Au|refine yC ?_ ?_|refine⟨λh=>?_⟩|refine Ji Ai Y Y Y Y Y Y e6 (hf r) Y Y ?_|fail)
  ·obtain⟨q1,q2⟩:=Al6 hr bG h;exact Ah Y (A3m (by rw[q1,q2]))
  ·refine AM (i+1) ⟨aC,FH hr bG (by simpa using h)⟩ Aa [7] (Ag Y Y (Ag Y Y (Ag Y Y (Ag Y Y (Ag Y ?_ A8))))) Y;rw[A1 Aa Aa];rfl
 ·repeat'(first|exact Au|refine yC ?_ ?_|refine⟨λh=>?_⟩|fail)
  have ha:=G0 Aa bG;exact Ah Y (A3m (by rw[S9 ha,ha,aQ]))
theorem HZ (l:List Seen) (hl:l.length<=1000000):A3z 153 [.t (.slice .any 3 (l.map AR))] [] (.t (.slice .any 3 (l.map AR))) []:=by
 refine yF Tryz.func153 ?_;have aQ:(l.map AR).length=l.length:=Ts ..
 repeat'(first|exact Au|refine PA (λb hb=>?_)|refine yC ?_ ?_|refine⟨λh=>?_⟩|refine KO Ai Y Y Y Y Y Y Y Y Y Y Y Y Y (by simp;omega) ?_|fail)
 ·refine Ah Y ?_;have h0:=hb h;rw[h0];exact Ay
 ·refine Ah Y (A3m ?_);simp[BG];exact QQ Ac
theorem L6 (l:List Row) (hl:l.length<=1000000):A3z 152 [.t (.slice .any 5 (l.map Aw))] [] (.t (.slice .any 5 (l.map Aw))) []:=by
 refine yF Tryz.func152 ?_;have aQ:(l.map Aw).length=l.length:=Ts ..
 repeat'(first|exact Au|refine PA (λb hb=>?_)|refine yC ?_ ?_|refine⟨λh=>?_⟩|refine KO Ai Y Y Y Y Y Y Y Y Y Y Y Y Y (by simp;omega) ?_|fail)
 ·refine Ah Y ?_;have h0:=hb h;rw[h0];exact Ay
 ·refine Ah Y (A3m ?_);simp[BG];exact QQ Ac
theorem Ot (l:List Rec) (hl:l.length<=1000000):A3z 192 [.t (.slice .any 2 (l.map AX))] [] (.t (.slice .any 2 (l.map AX))) []:=by
 refine yF Tryz.func192 ?_;have aQ:(l.map AX).length=l.length:=Ts ..
 repeat'(first|exact Au|refine PA (λb hb=>?_)|refine yC ?_ ?_|refine⟨λh=>?_⟩|refine KO Ai Y Y Y Y Y Y Y Y Y Y Y Y Y (by simp;omega) ?_|fail)
 ·refine Ah Y ?_;have h0:=hb h;rw[h0];exact Ay
 ·refine Ah Y (A3m ?_);simp[BG];exact QQ Ac
theorem Mc (p:Prod) (h:p.s9.length<=1000000):A3z 208 [.agg (Af (Ar p))] [] (.agg (Af (Ar p))) []:=by
 refine yF Tryz.func208 ?_
 repeat'(first|exact Au|refine yC ?_ ?_|refine⟨λh=>?_⟩|refine BZ (HZ p.s9 h) ?_|fail)
 exact Ah Y (A3l _)
def EB:Prod:=⟨0,0,0,[]⟩
def BK (l:List Prod) (lO:Int):Prod:=(l.find? (λp=>decide (p.lO=lO))).getD EB
def H6 (l:List Prod) (lO:Int):Bool:=l.any (λp=>decide (p.lO=lO))
theorem Abw (lO:Int) (p:Prod):A3z 207 (.agg (Af (Ar p))::Af [.ptr [.int .i64 lO]]) [] (.t (.bool (decide (p.lO=lO)))) []:=by
 refine yF Tryz.func207 ?_
 repeat'(first|exact Au|refine yC ?_ ?_|refine⟨λh=>?_⟩|fail)
 exact Ah Y (A3l _)
theorem SC (l:List Prod) (lO:Int) (hl:Gj l):A3z 141 [.t (.slice .any 4 (l.map Ar)),.t (.int .i64 lO)] [] (.tuple [.agg (Af (Ar (BK l lO))),.t (.bool (H6 l lO))]) []:=by
 obtain⟨hl,cS⟩:=hl;have cf:=Kx 207 [.ptr [.int .i64 lO]] (λp=>decide (p.lO=lO)) l Aa (Abw lO) Y;refine yF Tryz.func141 ?_;refine HA ?_;refine Jx Ai Y Y ?_
 repeat'(first|exact Au|refine yA ?_ ?_|refine⟨λh=>?_⟩|fail)
 refine A3q (cs:=[.int .i64 lO]) 3 6 Y Y Y Y ?_
 cases hh:l.any (λp=>decide (p.lO=lO))with
 |false=>
  rw[hh]at cf
  have pS:BK l lO=EB:=by
   have:l.find? (λp=>decide (p.lO=lO))=none:=by rw[A5i];intro x hx;have:=A4u.1 hh x hx;simpa using this
   simp[BK,this]
  repeat'(first|exact Au|refine yC ?_ ?_|refine⟨λh=>?_⟩|fail)
  refine Ah Y ?_;rw[H6,hh,pS];exact As ⟨AC ⟨A3l _,A3l _,A3l _,Ay,trivial⟩,A3l _,trivial⟩
 |true=>
  rw[hh]at cf;obtain⟨i,x,hx,hi,qT,_⟩:=LZ hh;have pS:BK l lO=x:=by simp[BK,qT]
  have hsx:=cS x (Apj hx)
  repeat'(first|exact Au|refine yC ?_ ?_|refine⟨λh=>?_⟩|refine KN Ai Y Y Y Y Y Y Y hi (C8 hx) Y ?_|refine BZ (Mc x hsx) ?_|fail)
  refine Ah Y (A3m ?_);rw[H6,hh,pS];rfl
theorem Ahx:TR 399 1:=Zp Avn
theorem Ahy:TR 220 1:=Zp Avp
theorem W6:TR 372 1:=Zp Ahz
theorem Zq:TR 214 1:=Zp An4
theorem Agw:Aib 220 1:=Au1
theorem VZ:Aib 372 1:=Agy
theorem Afc:A3z 229 [.t .nilIface] [] (.t (.int .i64 0)) []:=by
 refine yF Tryz.func229 ?_
 repeat'(first|exact Au|refine yC ?_ ?_|refine⟨λh=>?_⟩|fail)
 exact Ah Y (A3m Y)
theorem Ajs (i n:Int):A3z 229 [.t (.iface 399 (.ptr [.int .i64 i,.int .i64 n]))] [] (.t (.int .i64 n)) []:=by
 refine yF Tryz.func229 ?_
 repeat'(first|exact Au|refine yC ?_ ?_|refine⟨λh=>?_⟩|refine BT [(6,1)] [(1,6)] (Qy Ahx [.int .i64 i,.int .i64 n] n 0 Y) ?_|fail)
 exact Ah Y (A3m Y)
theorem Aae:A3z 123 [.t .nilIface] [] (.t (.int .i64 0)) []:=by
 refine yF Tryz.func123 ?_
 repeat'(first|exact Au|refine yC ?_ ?_|refine⟨λh=>?_⟩|fail)
 exact Ah Y (A3m Y)
theorem OC (s:Bs) (n:Int):A3z 123 [.t (Co 220 s n)] [] (.t (.int .i64 n)) []:=by
 refine yF Tryz.func123 ?_
 repeat'(first|exact Au|refine yC ?_ ?_|refine⟨λh=>?_⟩|refine BZ (Yr Agw [.str s,.int .i64 n] n 130 Y) ?_|refine BT [(6,1)] [(1,6)] (Qy Ahy [.str s,.int .i64 n] n 0 Y) ?_|fail)
 all_goals(refine Ah Y (A3m ?_);first|rfl|(rw[show n=130 from Aa]))
theorem Vi (s:Bs) (n:Int):A3z 203 [.t (Co 372 s n)] [] (.t (.int .i64 n)) []:=by
 refine yF Tryz.func203 ?_
 repeat'(first|exact Au|refine yC ?_ ?_|refine⟨λh=>?_⟩|refine BZ (Yr VZ [.str s,.int .i64 n] n 2 Y) ?_|refine BT [(6,1)] [(1,6)] (Qy W6 [.str s,.int .i64 n] n 0 Y) ?_|fail)
 all_goals(refine Ah Y (A3m ?_);first|rfl|(rw[show n=2 from Aa]))
theorem Abz:A3z 95 [.t .nilIface] [] (.t (.int .i64 0)) []:=by
 refine yF Tryz.func95 ?_
 repeat'(first|exact Au|refine yC ?_ ?_|refine⟨λh=>?_⟩|fail)
 exact Ah Y (A3m Y)
theorem Ip (s:Bs) (n:Int):A3z 95 [.t (Co 214 s n)] [] (.t (.int .i64 n)) []:=by
 refine yF Tryz.func95 ?_
 repeat'(first|exact Au|refine yC ?_ ?_|refine⟨λh=>?_⟩|refine BZ (Yr Yt [.str s,.int .i64 n] n 2 Y) ?_|refine BT [(6,1)] [(1,6)] (Qy Zq [.str s,.int .i64 n] n 0 Y) ?_|fail)
 all_goals(refine Ah Y (A3m ?_);first|rfl|(rw[show n=2 from Aa]))
theorem Aaf (p:Part) (h1:p.rows.length<=1000000000) (h2:p.kI.length<=1000000000):A3z 136 [.agg (Af (Ax p))] [] (.t (.int .i64 (if EU p=true then 0 else 2))) []:=by
 refine yF Tryz.func136 ?_;have cc:=RM p h1 h2;unfold PC at cc
 cases h:EU p with
 |true=>
  simp only[h,Xs]at cc
  repeat'(first|exact Au|refine yC ?_ ?_|refine⟨λh=>?_⟩|refine BZ Aae ?_|fail)
  exact Ah Y (A3m Y)
 |false=>
  simp only[h,A0s,ZF]at cc
  repeat'(first|exact Au|refine yC ?_ ?_|refine⟨λh=>?_⟩|refine Ab0 ?_ (c:=OC _ _)|fail)
  exact Ah Y (A3m Y)
def KC (b:Batch) (s:Seen):Bool:=decide (s.seq=b.seq/\s.count=(b.rZ.length:Int))
def K1 (l:List Prod) (b:Batch):Prod:=if H6 l b.lO=true/\b.lT<=(BK l b.lO).lT then BK l b.lO else EB
def Gx (l:List Prod) (b:Batch):Bool:=H6 l b.lO&&decide (b.lT<(BK l b.lO).lT)
def Md (l:List Prod) (b:Batch):Int:=if(K1 l b).s9.any (KC b)=true then(((K1 l b).s9.find? (KC b)).map Seen.s6).getD 0 else if b.seq=(K1 l b).next then-1 else 0
def GJ (l:List Prod) (b:Batch):Int:=if Gx l b=true then 100 else if(K1 l b).s9.any (KC b)=true then 0 else if b.seq=(K1 l b).next then 0 else 101
def Mw (l:List Prod) (b:Batch):Bool:= !Gx l b&&(K1 l b).s9.any (KC b)
def Aac (lO n:Int):T:=.iface 399 (.ptr [.int .i64 lO,.int .i64 n])
def TC (l:List Prod) (b:Batch):T:=if GJ l b=0 then .nilIface else Aac b.lO (GJ l b)
theorem UM (b:Batch) (s:Seen):A3z 277 (.agg (Af (AR s))::Af [.ptr (Ak b)]) [] (.t (.bool (KC b s))) []:=by
 refine yF Tryz.func277 ?_;have aQ:(b.rZ.map AX).length=b.rZ.length:=Ts ..
 repeat'(first|exact Au|refine yC ?_ ?_|refine⟨λh=>?_⟩|fail)
 all_goals(refine Ah Y (BL ?_);simp_all[KC];try rfl)
theorem Alj (l:List Prod) (b:Batch) (hl:Gj l) (hb:b.rZ.length<=1000000000):A3z 228 [.t (.slice .any 4 (l.map Ar)),.agg (Af (Ak b))] [] (.tuple [.t (.int .i64 (if Gx l b=true then 0 else Md l b)),.t (.bool (Mw l b)),.t (TC l b)]) []:=by
 have cfind:=SC l b.lO hl;have aQ:(b.rZ.map AX).length=b.rZ.length:=Ts ..
 have cS:(BK l b.lO).s9.length<=1000000:=by
  unfold BK
  cases hf:l.find? (λp=>decide (p.lO=b.lO))with
  |none=>simp[EB]
  |some x=>simpa using hl.2 x (A40 hf)
 have cf:=λ(p:Prod) (h:p.s9.length<=1000000)=>Oi 277 [.ptr (Ak b)] (KC b) p.s9 Aa (UM b) Y;have c0:A3z 278 [.t (.slice .any 3 []),.t (.func (.func 277) [] [.ptr (Ak b)])] [] (.tuple [.t (.int .i64 0),.t (.bool false)]) []:=Oi 277 [.ptr (Ak b)] (KC b) [] Ac (UM b) Y;have jC:EB.s9.any (KC b)=false:=rfl;refine yF Tryz.func228 ?_;refine HA ?_;refine Jx Ai Y Y ?_
 repeat'(first|exact Au|refine yA ?_ ?_|refine⟨λh=>?_⟩|fail)
 refine A3q (cs:=Ak b) 3 6 Y Y Y Y ?_
 cases hk:H6 l b.lO with
 |false=>
  rw[hk]at cfind;have jK:K1 l b=EB:=by simp[K1,hk]
  have nL:Gx l b=false:=by simp[Gx,hk]
  repeat'(first|exact Au|refine yC ?_ ?_|refine⟨λh=>?_⟩|refine B5 4 7 ?_|refine B5 11 7 ?_|refine CO Ai Y Y Y Y (c0) Y Y Y ⟨Ay,A3l _,trivial⟩ ?_|fail)
  all_goals(refine Ah Y (A3m ?_);simp_all[Mw,TC,GJ,Md,EB,Aac])
 |true=>
  rw[hk]at cfind;generalize hp:BK l b.lO=p at cfind cS;have cfp:=cf p cS;have cH:Gx l b=decide (b.lT<p.lT):=by simp[Gx,hk,hp]
  by_cases aC:b.lT<p.lT
  ·have nL:Gx l b=true:=by simp[cH,aC]
   repeat'(first|exact Au|refine yC ?_ ?_|refine⟨λh=>?_⟩|refine B5 4 7 ?_|refine B5 11 7 ?_|fail)
   all_goals(refine Ah Y (A3m ?_);simp[Mw,TC,GJ,nL,Aac])
  ·have nL:Gx l b=false:=by simp[cH,aC]
   by_cases hO:p.lT<b.lT
   ·have jK:K1 l b=EB:=by simp[K1,hk,hp];omega
    repeat'(first|exact Au|refine yC ?_ ?_|refine⟨λh=>?_⟩|refine B5 4 7 ?_|refine B5 11 7 ?_|refine CO Ai Y Y Y Y (c0) Y Y Y ⟨Ay,A3l _,trivial⟩ ?_|fail)
    all_goals(refine Ah Y (A3m ?_);simp_all[Mw,TC,GJ,Md,EB,Aac])
   ·have jK:K1 l b=p:=by simp[K1,hk,hp];omega
    cases bG:p.s9.any (KC b)with
    |false=>
     rw[bG]at cfp
     repeat'(first|exact Au|refine yC ?_ ?_|refine⟨λh=>?_⟩|refine B5 4 7 ?_|refine B5 11 7 ?_|refine BZ cfp ?_|fail)
     all_goals(refine Ah Y (A3m ?_);simp_all[Mw,TC,GJ,Md,Aac])
    |true=>
     rw[bG]at cfp;obtain⟨i,x,hx,hi,qT,_⟩:=LZ bG
     repeat'(first|exact Au|refine yC ?_ ?_|refine⟨λh=>?_⟩|refine B5 4 7 ?_|refine B5 11 7 ?_|refine BZ cfp ?_|refine KN Ai Y Y Y Y Y Y Y hi (C8 hx) Y ?_|fail)
     all_goals(refine Ah Y (A3m ?_);simp_all[Mw,TC,GJ,Md,Aac])
