/- The general texts of the abstract machine, joined: Am21, Am22, Am23, Am24. -/
import Derived.Test.YtmohpcgmdheafaaGreatDoorZN1
set_option linter.unusedVariables false
set_option linter.unusedSimpArgs false
namespace Go.Am
theorem S9 (d:Nat):2*d/2=d:=by omega
section
variable {P:Program} {c:Conf} {alt:Oper->Env->Prop} {n:Nat} {ops:Array Oper} {news:List Nat}
def GV (ops:Array Oper) (o:Oper) (env:Env):Option Bool:=
 match o.guard with
 |none=>some true
 |some (j,want)=>match ops[j]? with
  |some oj=>match oj.dst with
   |some d=>match look env d with
    |some (.t (.bool b))=>(match b with
     |true=>(match want with
      |true=>some true
      |false=>some false)
     |false=>(match want with
      |true=>some false
      |false=>some true))
    |some (.t .undef)=>some false
    |_=>none
   |none=>none
  |none=>none
theorem IP {o:Oper} {env:Env} {kT kF:Env->Prop} (h:AL ops o env kT kF):
  ∃env1,(∀t,look env1 t=look env t)/\((GV ops o env=some true/\kT env1)\/(GV ops o env=some false/\kF env1)):=by
 have hl: ∀d b t,look env d=some (.t (.bool b))->look ((d,AV.t (.bool b))::env) t=look env t:=by
  intro d b t hd
  rw[Ao]
  split
  ·rename_i e;subst e;exact hd.symm
  ·rfl
 unfold AL at h
 unfold GV
 split at h
 ·rename_i hg;rw[hg];exact⟨env,fun _=>rfl,.inl ⟨rfl,h⟩⟩
 ·rename_i j want hg
  rw[hg]
  split at h
  ·rename_i oj hj
   simp only[hj]
   split at h
   ·rename_i d hd
    simp only[hd]
    split at h
    ·rename_i b hb
     simp only[hb]
     cases b<;>cases want
     ·exact⟨_,fun t=>hl d false t hb,.inl ⟨rfl,h.1 rfl⟩⟩
     ·exact⟨_,fun t=>hl d false t hb,.inr ⟨rfl,h.2 rfl⟩⟩
     ·exact⟨_,fun t=>hl d true t hb,.inr ⟨rfl,h.2 rfl⟩⟩
     ·exact⟨_,fun t=>hl d true t hb,.inl ⟨rfl,h.1 rfl⟩⟩
    ·rename_i hb;rw[hb];exact⟨env,fun _=>rfl,.inr ⟨rfl,h⟩⟩
    ·exact h.elim
   ·exact h.elim
  ·exact h.elim
def Ai6 (n:Nat) (dst:Option Nat):Prop:= ∀d,dst=some d->d<n
def WC:Oper->Env->Prop:=fun _ _=>False
def Uw (ops:Array Oper) (alt:Oper->Env->Prop):Prop:= ∀o env env',(∀t,t∈o.looksAt ops->look env t=look env' t)->alt o env->alt o env'
theorem Iy:Uw ops WC:=fun _ _ _ _ h=>h
def Out (P:Program) (c:Conf) (alt:Oper->Env->Prop) (n:Nat) (ops:Array Oper) (news:List Nat) (o:Oper) (env:Env) (σ:St) (y:AV) (nb:St):Prop:=
 Ai6 n o.dst/\((GV ops o env=some true/\alt o env/\y=.top/\nb=[])\/(GV ops o env=some true/\ ∃cf,EB P cf/\BW c cf news o env σ=some (y,nb))\/(GV ops o env=some false/\y=.t .undef/\nb=[]))
theorem OD {o:Oper} {env env':Env} (h: ∀t,t∈o.looksAt ops->look env t=look env' t):GV ops o env=GV ops o env':=by
 unfold GV
 split
 ·rfl
 ·rename_i j want hg
  split
  ·rename_i oj hj
   split
   ·rename_i d hd
    rw[h d (by unfold Oper.looksAt;rw[hg];simp[hj,hd])]
   ·rfl
  ·rfl
theorem EG {o:Oper} {env env':Env} (h: ∀t,t∈o.looksAt ops->look env t=look env' t): ∀x∈o.op.operands,ev env x=ev env' x:=by
 intro x hx
 cases x with
 |tmp t=>
  simp only[ev]
  refine h t ?_
  unfold Oper.looksAt
  refine List.mem_append.2 (.inl ?_)
  rw[List.mem_filterMap]
  exact⟨.tmp t,by simpa using hx,rfl⟩
 |const v=>rfl
 |func f=>rfl
 |global g=>rfl
theorem Out.congr (hal:Uw ops alt) {o:Oper} {env env':Env} {σ σ':St} {y:AV} {nb:St} (h:Out P c alt n ops news o env σ y nb) (he: ∀t,t∈o.looksAt ops->look env t=look env' t)
  (hs: ∀b,b∉news->look σ b=look σ' b) (hn: ∀b∈C0 o,look σ b=look σ' b):Out P c alt n ops news o env' σ' y nb:=by
 refine⟨h.1,?_⟩
 rw[<-OD he]
 rcases h.2 with⟨h1,h2,h3⟩|⟨h1,cf,h2,h3⟩|h3
 ·exact .inl ⟨h1,hal _ _ _ he h2,h3⟩
 ·exact .inr (.inl ⟨h1,cf,h2,by rw[<-Fh (EG he) hs hn];exact h3⟩)
 ·exact .inr (.inr h3)
theorem Out.new {o:Oper} {env:Env} {σ:St} {y:AV} {nb:St} (h:Out P c alt n ops news o env σ y nb):nb=[]\/ ∃d B,o.dst=some d/\nb=[(2*d,B)]/\C0 o=[2*d]/\look σ (2*d)=none:=by
 rcases h.2 with⟨_,_,_,h⟩|⟨_,cf,_,h⟩|⟨_,_,h⟩
 ·exact .inl h
 ·exact Q4 h
 ·exact .inl h
def Arm (o:Oper) (env:Env) (σ:St) (y:AV) (nb:St) (e:Env) (s:St):Prop:=
 (∀t,look e t=if o.dst=some t then some y else look env t)/\(∀b,look s b=look (nb++σ) b)
def JF (P:Program) (c:Conf) (alt:Oper->Env->Prop) (n:Nat) (ops:Array Oper) (news:List Nat):List Nat->Env->St->Env->St->Prop
 |[],env,σ,e,s=>(∀t,look e t=look env t)/\(∀b,look s b=look σ b)
 |i::r,env,σ,e,s=> ∃o y nb e1 s1,ops[i]?=some o/\(∀b∈C0 o,b∈news)/\Out P c alt n ops news o env σ y nb/\Arm o env σ y nb e1 s1/\JF P c alt n ops news r e1 s1 e s
theorem C4 {nb σ:St} {d:Nat} {B:Blk} (h:nb=[(2*d,B)]) (b:Nat):look (nb++σ) b=if 2*d=b then some B else look σ b:=by
 subst h;simp only[List.cons_append,List.nil_append];rw[Ao]
theorem JF.congr (hal:Uw ops alt): ∀{l:List Nat} {env env':Env} {σ σ':St} {e:Env} {s:St},JF P c alt n ops news l env σ e s->(∀t,look env t=look env' t)->(∀b,look σ b=look σ' b)->JF P c alt n ops news l env' σ' e s
 |[],env,env',σ,σ',e,s,h,he,hs=>⟨fun t=>by rw[h.1 t,he t],fun b=>by rw[h.2 b,hs b]⟩
 |i::r,env,env',σ,σ',e,s,⟨o,y,nb,e1,s1,h1,h2,h3,h4,h5⟩,he,hs=>by
  refine⟨o,y,nb,e1,s1,h1,h2,h3.congr hal (fun t _=>he t) (fun b _=>hs b) (fun b _=>hs b),⟨fun t=>by rw[h4.1 t,he t],fun b=>?_⟩,h5⟩
  rw[h4.2 b]
  rcases h3.new with hnb|⟨d,cs,_,hnb,_⟩
  ·subst hnb;exact hs b
  ·rw[C4 hnb,C4 hnb,hs b]
theorem A0r (hal:Uw ops alt) {i j:Nat} {r:List Nat} {oi oj:Oper} (hoi:ops[i]?=some oi) (hoj:ops[j]?=some oj) (hap:oj.apart ops oi=true) {env:Env} {σ:St} {e:Env} {s:St}
  (h:JF P c alt n ops news (j::i::r) env σ e s):JF P c alt n ops news (i::j::r) env σ e s:=by
 obtain⟨o1,y1,nb1,e1,s1,a1,a2,a3,a4,o2,y2,nb2,e2,s2,b1,b2,b3,b4,hr⟩:=h
 rw[hoj]at a1;cases a1
 rw[hoi]at b1;cases b1
 obtain⟨p1,p2,p3⟩:=Oper.apart_spec hap
 have hnl1: ∀b,look (nb1++σ) b≠look σ b->b∈C0 oj/\oj.dst=some (b/2)/\b=2*(b/2):=by
  intro b hb
  rcases a3.new with hnb|⟨d,cs,hd,hnb,hl,_⟩
  ·subst hnb;exact absurd rfl hb
  ·rw[C4 hnb]at hb
   split at hb
   ·rename_i e;subst e;exact⟨by rw[hl];simp,by rw[hd,S9],by rw[S9]⟩
   ·exact absurd rfl hb
 have hnl2: ∀(σ:St) b,look (nb2++σ) b≠look σ b->b∈C0 oi/\oi.dst=some (b/2)/\b=2*(b/2):=by
  intro σ b hb
  rcases b3.new with hnb|⟨d,cs,hd,hnb,hl,_⟩
  ·subst hnb;exact absurd rfl hb
  ·rw[C4 hnb]at hb
   split at hb
   ·rename_i e;subst e;exact⟨by rw[hl];simp,by rw[hd,S9],by rw[S9]⟩
   ·exact absurd rfl hb
 have newLab_dst: ∀(o:Oper) b,b∈C0 o->o.dst=some (b/2):=by
  intro o b hb
  unfold C0 at hb
  split at hb
  ·split at hb
   ·rename_i d hd;simp at hb;rw[hd,hb,S9]
   ·simp at hb
  ·split at hb
   ·rename_i d hd;simp at hb;rw[hd,hb,S9]
   ·simp at hb
  ·split at hb
   ·rename_i d hd;simp at hb;rw[hd,hb,S9]
   ·simp at hb
  ·split at hb
   ·rename_i d hd;simp at hb;rw[hd,hb,S9]
   ·simp at hb
  ·simp at hb
 have c3:Out P c alt n ops news oi env σ y2 nb2:=by
  refine b3.congr hal (fun t ht=>?_) (fun b hb=>?_) (fun b hb=>?_)
  ·rw[a4.1 t,if_neg (fun hd=>p1 t hd ht)]
  ·rw[a4.2 b]
   exact Classical.byContradiction fun hc=>hb (a2 b (hnl1 b hc).1)
  ·rw[a4.2 b]
   exact Classical.byContradiction fun hc=>p2 _ (hnl1 b hc).2.1 (newLab_dst oi b hb)
 obtain⟨e3,he3⟩: ∃e3:Env,∀t,look e3 t=if oi.dst=some t then some y2 else look env t:=by
  cases hd:oi.dst with
  |none=>exact⟨env,fun t=>by simp⟩
  |some d=>exact⟨(d,y2)::env,fun t=>by rw[Ao];simp⟩
 have d3:Out P c alt n ops news oj e3 (nb2++σ) y1 nb1:=by
  refine a3.congr hal (fun t ht=>?_) (fun b hb=>?_) (fun b hb=>?_)
  ·rw[he3 t,if_neg (fun hd=>p3 t hd ht)]
  ·exact Classical.byContradiction fun hc=>hb (b2 b (hnl2 σ b (Ne.symm hc)).1)
  ·exact Classical.byContradiction fun hc=>p2 _ (newLab_dst oj b hb) (hnl2 σ b (Ne.symm hc)).2.1
 refine⟨oi,y2,nb2,e3,nb2++σ,hoi,b2,c3,⟨he3,fun _=>rfl⟩,oj,y1,nb1,e2,s2,hoj,a2,d3,⟨fun t=>?_,fun b=>?_⟩,hr⟩
 ·rw[b4.1 t,a4.1 t,he3 t]
  by_cases h1:oi.dst=some t
  ·have h2: ¬oj.dst=some t:=fun h2=>p2 t h2 h1
   simp[h1,h2]
  ·simp[h1]
 ·rw[b4.2 b]
  have k1:look (nb2++s1) b=look (nb2++(nb1++σ)) b:=by
   rcases b3.new with hnb|⟨d,cs,_,hnb,_⟩
   ·subst hnb;exact a4.2 b
   ·rw[C4 hnb,C4 hnb,a4.2 b]
  rw[k1]
  rcases a3.new with ha|⟨d,cs,hd,ha,_⟩<;>rcases b3.new with hb|⟨d',cs',hd',hb,_⟩
  ·subst ha;subst hb;rfl
  ·subst ha;rfl
  ·subst hb;rfl
  ·rw[C4 hb,C4 ha,C4 ha,C4 hb]
   have hne:d≠d':=fun e=>p2 d hd (e▸hd')
   by_cases h1:2*d'=b
   ·have h2: ¬2*d=b:=fun h2=>hne (by rw[<-S9 d,<-S9 d',h1,h2])
    simp[h1,h2]
   ·simp[h1]
theorem V6 (hal:Uw ops alt) {i:Nat} {oi:Oper} (hoi:ops[i]?=some oi): ∀{l1 l2:List Nat},(∀j∈l1,∃oj,ops[j]?=some oj/\oj.apart ops oi=true)-> ∀{env:Env} {σ:St} {e:Env} {s:St},
  JF P c alt n ops news (l1++i::l2) env σ e s->JF P c alt n ops news (i::(l1++l2)) env σ e s
 |[],l2,_,env,σ,e,s,h=>h
 |j::l1,l2,hl,env,σ,e,s,h=>by
  obtain⟨oj,hoj,hap⟩:=hl j Ac
  obtain⟨o1,y1,nb1,e1,s1,a1,a2,a3,a4,h5⟩:=h
  have ih:=V6 hal hoi (l1:=l1) (l2:=l2) (fun j hj=>hl j (by simp[hj])) h5
  exact A0r hal hoi hoj hap ⟨o1,y1,nb1,e1,s1,a1,a2,a3,a4,ih⟩
end
end Go.Am
namespace Go.Am
inductive Pre (ops:Array Oper):Nat->Nat->Prop where
 |one (i:Nat) (o:Oper) (e:Edge) (h:ops[i]?=some o) (he:e∈o.after) (hb:Region.binds .any e=true):Pre ops e.on i
 |trans (j k i:Nat) (h1:Pre ops j k) (h2:Pre ops k i):Pre ops j i
def R4 (acc:List Nat):List Edge->Nat
 |[]=>0
 |e::r=>(match Region.binds .any e with
  |true=>2^e.on|||acc.getD e.on 0
  |false=>0)|||R4 acc r
def Eh:List Oper->List Nat->List Nat
 |[],acc=>acc
 |o::r,acc=>Eh r (acc++[R4 acc o.after.toList])
def NH (i:Nat):List Edge->Bool
 |[]=>true
 |e::r=>(match Region.binds .any e with
  |true=>Nat.blt e.on i
  |false=>true)&&NH i r
def Lo:Nat->List Oper->Bool
 |_,[]=>true
 |i,o::r=>NH i o.after.toList&&Lo (i+1) r
def Lu (m:Nat):Nat->Bool
 |0=>true
 |k+1=>Nat.testBit m k&&Lu m k
def IK (m:Nat) (ops:Array Oper) (o:Oper):Nat->List Oper->Bool
 |_,[]=>true
 |j,x::r=>(Nat.testBit m j||x.apart ops o)&&IK m ops o (j+1) r
def RH (ops:Array Oper) (ms:List Nat) (l:List Oper):Nat->List Oper->Bool
 |_,[]=>true
 |i,o::r=>IK (ms.getD i 0) ops o 0 (l.take i)&&RH ops ms l (i+1) r
def U1 (ms:List Nat):Nat->Nat->Bool
 |_,0=>true
 |i,k+1=>Lu (ms.getD i 0) i&&U1 ms (i+1) k
def Q1 (ms:List Nat):Nat->Nat
 |0=>0
 |k+1=>match Lu (ms.getD k 0) k with
  |true=>Q1 ms k
  |false=>k+1
def ID (ops:Array Oper):Option Nat:=
 let ms:=Eh ops.toList []
 let m:=Q1 ms ops.size
 match Lo 0 ops.toList&&(RH ops ms (ops.toList.take m) 0 (ops.toList.take m)&&U1 ms m (ops.size-m))with
 |true=>some m
 |false=>none
section
variable {ops:Array Oper}
theorem R3 {acc:List Nat} {i:Nat} {o:Oper} (ho:ops[i]?=some o) (hacc: ∀k m,acc[k]?=some m-> ∀j,m.testBit j=true->Pre ops j k): ∀(l:List Edge),(∀e∈l,e∈o.after)-> ∀j,(R4 acc l).testBit j=true->Pre ops j i
 |[],_,j,h=>by simp[R4]at h
 |e::r,hl,j,h=>by
  simp only[R4,Nat.testBit_or,Bool.or_eq_true]at h
  rcases h with h|h
  ·split at h
   ·rename_i hb
    have h1:=Pre.one i o e ho (hl e Ac) hb
    rw[Nat.testBit_or,Bool.or_eq_true]at h
    rcases h with h|h
    ·rw[Nat.testBit_two_pow]at h
     simp at h;subst h;exact h1
    ·cases hg:acc[e.on]? with
     |none=>simp[List.getD,hg]at h
     |some m=>simp[List.getD,hg]at h;exact .trans _ _ _ (hacc _ m hg j h) h1
   ·simp at h
  ·exact R3 ho hacc r (fun e he=>hl e (by simp[he])) j h
theorem T2: ∀(l:List Oper) (acc:List Nat),(∀j,l[j]?=ops[acc.length+j]?)->(∀k m,acc[k]?=some m-> ∀j,m.testBit j=true->Pre ops j k)-> ∀k m,(Eh l acc)[k]?=some m-> ∀j,m.testBit j=true->Pre ops j k
 |[],acc,_,hacc=>by simpa[Eh]using hacc
 |o::r,acc,hl,hacc=>by
  simp only[Eh]
  have ho:ops[acc.length]?=some o:=by have:=hl 0;simpa using this.symm
  refine T2 r _ (fun j=>?_) ?_
  ·have:=hl (j+1)
   simp at this
   rw[this];congr 1;simp;omega
  ·intro k m hk j hj
   by_cases h:k<acc.length
   ·rw[List.getElem?_append_left h]at hk;exact hacc k m hk j hj
   ·rw[List.getElem?_append_right Aa]at hk
    have hk0:k-acc.length=0:=by
     rcases Nat.eq_zero_or_pos (k-acc.length)with h'|h'
     ·exact h'
     ·rw[List.getElem?_eq_none (by simp;omega)]at hk;cases hk
    rw[hk0]at hk
    simp at hk;subst hk
    have:k=acc.length:=by omega
    subst this
    exact R3 ho hacc _ (fun e he=>by simpa using he) j hj
theorem Er (k j:Nat) (h:((Eh ops.toList []).getD k 0).testBit j=true):Pre ops j k:=by
 cases hg:(Eh ops.toList [])[k]? with
 |none=>simp[List.getD,hg]at h
 |some m=>
  simp[List.getD,hg]at h
  exact T2 ops.toList [] (fun j=>by simp) Ac k m hg j h
theorem P6 {m:Nat}: ∀{k:Nat},Lu m k=true-> ∀j,j<k->m.testBit j=true
 |0,_,j,h=>by omega
 |k+1,hb,j,h=>by
  simp only[Lu,Bool.and_eq_true]at hb
  by_cases e:j=k
  ·subst e;exact hb.1
  ·exact P6 hb.2 j Aa
theorem Ig {m:Nat} {o:Oper}: ∀{l:List Oper} {j0:Nat},IK m ops o j0 l=true-> ∀j x,l[j]?=some x->m.testBit (j0+j)=true\/x.apart ops o=true
 |[],j0,_,j,x,h=>by simp at h
 |y::r,j0,hb,j,x,h=>by
  simp only[IK,Bool.and_eq_true,Bool.or_eq_true]at hb
  cases j with
  |zero=>simp at h;subst h;exact hb.1
  |succ j=>simp at h;have:=Ig hb.2 j x h;rwa[show j0+1+j=j0+(j+1)by omega]at this
theorem Mg {ms:List Nat} {l:List Oper}: ∀{r:List Oper} {i0:Nat},RH ops ms l i0 r=true-> ∀i o,r[i]?=some o->IK (ms.getD (i0+i) 0) ops o 0 (l.take (i0+i))=true
 |[],i0,_,i,o,h=>by simp at h
 |y::r,i0,hb,i,o,h=>by
  simp only[RH,Bool.and_eq_true]at hb
  cases i with
  |zero=>simp at h;subst h;exact hb.1
  |succ i=>simp at h;have:=Mg hb.2 i o h;rwa[show i0+1+i=i0+(i+1)by omega]at this
theorem Q0 {ms:List Nat}: ∀{k i0:Nat},U1 ms i0 k=true-> ∀i,i<k->Lu (ms.getD (i0+i) 0) (i0+i)=true
 |0,i0,_,i,h=>by omega
 |k+1,i0,hb,i,h=>by
  simp only[U1,Bool.and_eq_true]at hb
  cases i with
  |zero=>exact hb.1
  |succ i=>have:=Q0 hb.2 i Aa;rwa[show i0+1+i=i0+(i+1)by omega]at this
theorem NG {i:Nat}: ∀{l:List Edge},NH i l=true-> ∀e∈l,Region.binds .any e=true->e.on<i
 |[],_,e,h,_=>by simp at h
 |x::r,hb,e,h,hbi=>by
  simp only[NH,Bool.and_eq_true]at hb
  simp at h
  rcases h with rfl|h
  ·rw[hbi]at hb;simpa[Nat.blt_eq]using hb.1
  ·exact NG hb.2 e h hbi
theorem HQ: ∀{l:List Oper} {i0:Nat},Lo i0 l=true-> ∀i o,l[i]?=some o-> ∀e∈o.after,Region.binds .any e=true->e.on<i0+i
 |[],i0,_,i,o,h=>by simp at h
 |x::r,i0,hb,i,o,h=>by
  simp only[Lo,Bool.and_eq_true]at hb
  cases i with
  |zero=>simp at h;subst h;exact fun e he hbi=>NG hb.1 e (by simpa using he) hbi
  |succ i=>simp at h;have:=HQ hb.2 i o h;rwa[show i0+1+i=i0+(i+1)by omega]at this
structure DrawOk (ops:Array Oper) (m:Nat):Prop where
 edge: ∀(i:Nat) o,ops[i]?=some o-> ∀e∈o.after,Region.binds .any e=true->e.on<i
 head: ∀i oi,i<m->ops[i]?=some oi-> ∀j oj,j<i->ops[j]?=some oj->Pre ops j i\/oj.apart ops oi=true
 tail: ∀i,m<=i->i<ops.size-> ∀j,j<i->Pre ops j i
 le:m<=ops.size
theorem SR (ms:List Nat): ∀k,Q1 ms k<=k
 |0=>by simp[Q1]
 |k+1=>by
  simp only[Q1]
  split
  ·have:=SR ms k;omega
  ·omega
theorem Sc {m:Nat} (h:ID ops=some m):DrawOk ops m:=by
 unfold ID at h
 simp only at h
 split at h
 ·rename_i hb
  simp at h
  simp only[Bool.and_eq_true]at hb
  obtain⟨h1,h2,h3⟩:=hb
  rw[h]at h2 h3
  have hle:m<=ops.size:=by rw[<-h];exact SR _ _
  refine⟨fun i o ho e he hbi=>?_,fun i oi hi hoi j oj hj hoj=>?_,fun i hi hsz j hj=>?_,hle⟩
  ·have:=HQ h1 i o (by rw[Array.getElem?_toList];exact ho) e he hbi;omega
  ·have:=Mg h2 i oi (by rw[List.getElem?_take,if_pos hi,Array.getElem?_toList];exact hoi)
   have:=Ig this j oj (by rw[List.getElem?_take,if_pos Aa,List.getElem?_take,if_pos Aa,Array.getElem?_toList];exact hoj)
   simp only[Nat.zero_add]at this
   rcases this with h'|h'
   ·exact .inl (Er _ _ h')
   ·exact .inr h'
  ·have:=Q0 h3 (i-m) Aa
   rw[show m+(i-m)=i by omega]at this
   exact Er _ _ (P6 this j hj)
 ·simp at h
end
end Go.Am
namespace Go.Am
section
variable {P:Program} {c:Conf} {n m:Nat} {ops:Array Oper} {news:List Nat}
def Li (listed:Array Bool) (i:Nat):Prop:=listed[i]?=some true
theorem Bv {listed:Array Bool} (hs:listed.size=ops.size) {i:Nat}:i∈Region.ready .any ops listed↔ ¬Li listed i/\ ∃o,ops[i]?=some o/\ ∀e∈o.after,Region.binds .any e=true->Li listed e.on:=by
 unfold Region.ready Li
 rw[List.mem_filter,List.mem_range]
 constructor
 ·rintro⟨hi,h⟩
  rw[Bool.and_eq_true]at h
  obtain⟨h1,h2⟩:=h
  have hl:listed[i]?=some (listed[i]' Aa):=Array.getElem?_eq_getElem _
  have ho:ops[i]?=some ops[i]:=Array.getElem?_eq_getElem hi
  refine⟨fun hc=>?_,ops[i],ho,fun e he hb=>?_⟩
  ·simp[Array.getD_eq_getD_getElem?,hc]at h1
  ·rw[ho]at h2
   simp only[Option.map_some,Option.getD_some,Array.all_eq_true_iff_forall_mem]at h2
   have:=h2 e he
   simp[hb,Array.getD_eq_getD_getElem?]at this
   cases hg:listed[e.on]? with
   |none=>simp[hg]at this
   |some b=>simp[hg]at this;rw[this]
 ·rintro⟨h1,o,ho,h2⟩
  have hi:i<ops.size:=by
   rcases Nat.lt_or_ge i ops.size with h|h
   ·exact h
   ·rw[Array.getElem?_eq_none h]at ho;cases ho
  refine⟨hi,?_⟩
  rw[Bool.and_eq_true]
  constructor
  ·have hl:listed[i]?=some (listed[i]' Aa):=Array.getElem?_eq_getElem _
   cases hv:listed[i]' Aa with
   |true=>rw[hv]at hl;exact absurd hl h1
   |false=>rw[hv]at hl;simp[Array.getD_eq_getD_getElem?,hl]
  ·rw[ho]
   simp only[Option.map_some,Option.getD_some,Array.all_eq_true_iff_forall_mem]
   intro e he
   cases hb:Region.binds .any e with
   |false=>rfl
   |true=>have:=h2 e he hb;unfold Li at*;simp[Array.getD_eq_getD_getElem?,this]
def DC (ops:Array Oper) (listed:Array Bool):Prop:= ∀(i:Nat) o,ops[i]?=some o->Li listed i-> ∀e∈o.after,Region.binds .any e=true->Li listed e.on
theorem YS {listed:Array Bool} (hd:DC ops listed) {j i:Nat} (h:Pre ops j i):Li listed i->Li listed j:=by
 induction h with
 |one i o e ho he hb=>exact fun hi=>hd i o ho hi e he hb
 |trans j k i _ _ ih1 ih2=>exact fun hi=>ih1 (ih2 hi)
theorem CA {listed:Array Bool} (hd:DC ops listed) {j i:Nat} (h:Pre ops j i):(∀o,ops[i]?=some o-> ∀e∈o.after,Region.binds .any e=true->Li listed e.on)->Li listed j:=by
 induction h with
 |one i o e ho he hb=>exact fun hi=>hi o ho e he hb
 |trans j k i h1 _ _ ih2=>exact fun hi=>YS hd h1 (ih2 hi)
theorem DL {listed:Array Bool} {i j:Nat} (hi:i<listed.size):Li (listed.setIfInBounds i true) j↔j=i\/Li listed j:=by
 unfold Li
 by_cases h:j=i
 ·subst h;simp[Array.getElem?_setIfInBounds_self,hi]
 ·rw[Array.getElem?_setIfInBounds_ne (Ne.symm h)];simp[h]
theorem DC.set {listed:Array Bool} (hd:DC ops listed) {i:Nat} (hi:i<listed.size) (hr: ∀o,ops[i]?=some o-> ∀e∈o.after,Region.binds .any e=true->Li listed e.on):DC ops (listed.setIfInBounds i true):=by
 intro j o ho hj e he hb
 rw[DL hi]at hj⊢
 rcases hj with rfl|hj
 ·exact .inr (hr o ho e he hb)
 ·exact .inr (hd j o ho hj e he hb)
theorem FM {F:Fence} (hF:IsW F) {i:Nat} {o:Oper} (ho:ops[i]?=some o) {Q:Exit->Act->World->Prop} {K:Act->World->Prop} {a:Act} {w:World}
  (h:(Region.wanted o (yielded ops a.tmps)=true/\o.wpIn F 0 P a w K Q)\/(Region.wanted o (yielded ops a.tmps)=false/\K (a.put o.dst undef) w)):wpOpIn F 0 P ops Q i K a w:=by
 unfold wpOpIn
 rw[ho]
 rcases h with⟨h1,h2⟩|⟨h1,h2⟩
 ·simp only[h1,if_true];exact h2
 ·simp only[h1,Bool.false_eq_true,if_false];exact⟨fun f _=>hF.fn f,h2⟩
theorem Ha {F:Fence} (hF:IsW F) (hD:DrawOk ops m) {K:Exit->Env->St->Prop} {w0:World} {g0:G}: ∀(fuel i0:Nat) {listed:Array Bool} {w:World} {g:G} {a:Act} {env:Env} {σ:St},
  m<=i0->i0<=ops.size->listed.size=ops.size->(∀i,i<ops.size->(Li listed i↔i<i0))->ops.size-i0<=fuel->A2 P n ops (ops.toList.drop i0) env σ (K .normal)->Good n w g a env σ->Ext w0 g0 w g->
  wpAnyIn F 0 P .any ops (BS n w0 g0 K) fuel listed a w:=by
 intro fuel
 induction fuel with
 |zero=>
  intro i0 listed w g a env σ h1 h2 hs hl hf h hg hx
  have:i0=ops.size:=by omega
  subst this
  have hready:Region.ready .any ops listed=[]:=by
   apply List.eq_nil_iff_forall_not_mem.2
   intro i hi
   rw[Bv hs]at hi
   obtain⟨hn,o,ho,_⟩:=hi
   have hi':i<ops.size:=by
    rcases Nat.lt_or_ge i ops.size with h|h
    ·exact h
    ·rw[Array.getElem?_eq_none h]at ho;cases ho
   exact hn ((hl i hi').2 hi')
  rw[List.drop_of_length_le Ac]at h
  exact⟨hready,env,σ,g,hx,hg,h⟩
 |succ fuel ih=>
  intro i0 listed w g a env σ h1 h2 hs hl hf h hg hx
  by_cases hend:i0=ops.size
  ·subst hend
   rw[List.drop_of_length_le Ac]at h
   refine⟨fun _=>⟨env,σ,g,hx,hg,h⟩,fun i hi=>?_⟩
   rw[Bv hs]at hi
   obtain⟨hn,o,ho,_⟩:=hi
   have hi':i<ops.size:=by
    rcases Nat.lt_or_ge i ops.size with h|h
    ·exact h
    ·rw[Array.getElem?_eq_none h]at ho;cases ho
   exact absurd ((hl i hi').2 hi') hn
  ·have hlt:i0<ops.size:=by omega
   have ho:ops[i0]?=some ops[i0]:=Array.getElem?_eq_getElem hlt
   have hrdy: ∀o,ops[i0]?=some o-> ∀e∈o.after,Region.binds .any e=true->Li listed e.on:=fun o ho' e he hb=>by
    have:=hD.edge i0 o ho' e he hb
    exact(hl _ Aa).2 this
   have hin:i0∈Region.ready .any ops listed:=by
    rw[Bv hs]
    exact⟨fun hc=>by have:=(hl i0 hlt).1 hc;omega,ops[i0],ho,hrdy _ ho⟩
   refine⟨fun hnil=>by rw[hnil]at hin;simp at hin,fun i hi=>?_⟩
   rw[Bv hs]at hi
   obtain⟨hn,o,ho',hr'⟩:=hi
   have hisz:i<ops.size:=by
    rcases Nat.lt_or_ge i ops.size with h|h
    ·exact h
    ·rw[Array.getElem?_eq_none h]at ho';cases ho'
   have hdc:DC ops listed:=by
    intro j oj hoj hlj e he hb
    have hj:j<ops.size:=by
     rcases Nat.lt_or_ge j ops.size with h|h
     ·exact h
     ·rw[Array.getElem?_eq_none h]at hoj;cases hoj
    have h1:=(hl j hj).1 hlj
    have h2:=hD.edge j oj hoj e he hb
    exact(hl _ Aa).2 Aa
   have hieq:i=i0:=by
    rcases Nat.lt_trichotomy i i0 with h'|h'|h'
    ·exact absurd ((hl i hisz).2 h') hn
    ·exact h'
    ·have hpre:=hD.tail i Aa hisz i0 h'
     have:=CA hdc hpre (fun o2 ho2=>by rw[ho']at ho2;cases ho2;exact hr')
     have:=(hl i0 hlt).1 this
     omega
   subst hieq
   rw[ho']at ho;cases ho
   have hdrop:ops.toList.drop i=ops[i]::ops.toList.drop (i+1):=by
    rw[List.drop_eq_getElem_cons (by simpa using hlt)];simp
   rw[hdrop]at h
   simp only[A2]at h
   have hl': ∀j,j<ops.size->(Li (listed.setIfInBounds i true) j↔j<i+1):=by
    intro j hj
    rw[DL Aa,hl j hj];omega
   refine FM hF ho' ?_
   rcases F6 hg h with⟨hw,env0,h,hg⟩|⟨hw,env0,h,hg⟩
   ·refine .inl ⟨hw,?_⟩
    refine h w g a hg.inv hg.env F hF _ _ ?_
    rintro v w' ⟨x,e1,s1,⟨g',k1,k2,k3,k4⟩,e2,hput,h⟩
    exact ih (i+1) Aa Aa (by simp[hs]) hl' Aa h (Cm hput ⟨k4,k3,hg.defers.ext k1,hg.size⟩ k2) (hx.trans k1)
   ·refine .inr ⟨hw,?_⟩
    obtain⟨e2,hput,h⟩:=h
    exact ih (i+1) Aa Aa (by simp[hs]) hl' Aa h (Cm hput hg (.t _ _ .undef)) hx
theorem Good.eqv {w:World} {g:G} {a:Act} {env env':Env} {σ σ':St} (hg:Good n w g a env σ) (he: ∀t,look env' t=look env t) (hs: ∀b,look σ' b=look σ b):Good n w g a env' σ':=by
 refine⟨fun t x hx=>hg.env t x (by rw[<-he t];exact hx),⟨fun b B hB=>hg.inv.ok b B (by rw[<-hs b];exact hB),fun b=>by rw[hs b];exact hg.inv.dom b,hg.inv.inj,hg.inv.lt,fun b hb=>by rw[hs b];exact hg.inv.bx b hb,hg.inv.dis,hg.inv.im,hg.inv.lo,hg.inv.sx.mono (Nat.le_refl _) rfl (fun _ _ _ h=>h) (fun _ _ _ _ _=>rfl) (fun c blk h=>.inl ⟨c,h⟩) (fun b L hL=>by rw[<-hs b];exact hL)⟩,hg.defers,hg.size⟩
theorem Dc {w:World} {g:G} {a:Act} {env:Env} {σ:St} (hg:Good n w g a env σ) {o:Oper} {b:Bool} (h:GV ops o env=some b):Region.wanted o (yielded ops a.tmps)=b:=by
 have key:AL ops o env (fun _=>b=true) (fun _=>b=false):=by
  unfold GV at h
  unfold AL
  split at h
  ·rename_i hgd;rw[hgd];simp at h;first|exact h|exact h.symm
  ·rename_i j want hgd
   rw[hgd]
   simp only
   split at h
   ·rename_i oj hj
    simp only[hj]
    split at h
    ·rename_i d hd
     simp only[hd]
     split at h
     ·rename_i p hp
      simp only[hp]
      cases p<;>cases want<;>simp_all
     ·rename_i hp;rw[hp];simp at h;first|exact h|exact h.symm
     ·simp at h
    ·simp at h
   ·simp at h
 rcases F6 hg key with⟨h1,_,h2,_⟩|⟨h1,_,h2,_⟩
 ·rw[h1,h2]
 ·rw[h1,h2]
theorem Zs {F:Fence} (hF:IsW F) (hp:ProgOk P c) (hD:DrawOk ops m) {K:Exit->Env->St->Prop} {w0:World} {g0:G} {e:Env} {s:St} (htl:A2 P n ops (ops.toList.drop m) e s (K .normal)):
  ∀(fuel:Nat) {listed:Array Bool} {rem:List Nat} {w:World} {g:G} {a:Act} {env:Env} {σ:St},listed.size=ops.size->DC ops listed->(∀i,m<=i->i<ops.size-> ¬Li listed i)->
  (∀i,i∈rem↔i<m/\ ¬Li listed i)->rem.Pairwise (· < ·)->rem.length+(ops.size-m)<=fuel->JF P c WC n ops news rem env σ e s->Good n w g a env σ->Ext w0 g0 w g->
  wpAnyIn F 0 P .any ops (BS n w0 g0 K) fuel listed a w:=by
 intro fuel
 induction fuel with
 |zero=>
  intro listed rem w g a env σ hs hdc hhi hrem hsort hf hruns hg hx
  have hnil:rem=[]:=List.eq_nil_of_length_eq_zero Aa
  subst hnil
  refine Ha hF hD 0 m (Nat.le_refl _) hD.le hs (fun i hi=>⟨fun h=>?_,fun h=>?_⟩) Aa htl (hg.eqv hruns.1 hruns.2) hx
  ·exact Classical.byContradiction fun hc=>hhi i Aa hi h
  ·exact Classical.byContradiction fun hc=>by have:=(hrem i).2 ⟨h,hc⟩;simp at this
 |succ fuel ih=>
  intro listed rem w g a env σ hs hdc hhi hrem hsort hf hruns hg hx
  by_cases hnil:rem=[]
  ·subst hnil
   refine Ha hF hD (fuel+1) m (Nat.le_refl _) hD.le hs (fun i hi=>⟨fun h=>?_,fun h=>?_⟩) (by simp at hf;omega) htl (hg.eqv hruns.1 hruns.2) hx
   ·exact Classical.byContradiction fun hc=>hhi i Aa hi h
   ·exact Classical.byContradiction fun hc=>by have:=(hrem i).2 ⟨h,hc⟩;simp at this
  ·obtain⟨i0,rest,rfl⟩: ∃i0 rest,rem=i0::rest:=List.exists_cons_of_ne_nil hnil
   have hm:=hD.le
   obtain⟨hi0,hn0⟩:=(hrem i0).1 Ac
   have hmin: ∀j,j<i0->Li listed j:=fun j hj=>Classical.byContradiction fun hc=>by
    have:=(hrem j).2 ⟨by omega,hc⟩
    simp at this
    rcases this with h'|h'
    ·omega
    ·have:=(List.pairwise_cons.1 hsort).1 j h';omega
   have ho0:ops[i0]?=some ops[i0]:=Array.getElem?_eq_getElem Aa
   have hin:i0∈Region.ready .any ops listed:=by
    rw[Bv hs]
    exact⟨hn0,ops[i0],ho0,fun e he hb=>hmin _ (hD.edge i0 _ ho0 e he hb)⟩
   refine⟨fun hnil=>by rw[hnil]at hin;simp at hin,fun i hi=>?_⟩
   rw[Bv hs]at hi
   obtain⟨hn,o,ho,hr⟩:=hi
   have hisz:i<ops.size:=by
    rcases Nat.lt_or_ge i ops.size with h|h
    ·exact h
    ·rw[Array.getElem?_eq_none h]at ho;cases ho
   have hr': ∀o2,ops[i]?=some o2-> ∀e∈o2.after,Region.binds .any e=true->Li listed e.on:=fun o2 ho2=>by rw[ho]at ho2;cases ho2;exact hr
   have him:i<m:=Classical.byContradiction fun hc=>hn0 (CA hdc (hD.tail i Aa hisz i0 Aa) hr')
   have himem:i∈i0::rest:=(hrem i).2 ⟨him,hn⟩
   obtain⟨l1,l2,hsplit⟩:=List.append_of_mem himem
   rw[hsplit]at hruns hsort hrem hf
   have hlt: ∀j∈l1,j<i:=fun j hj=>(List.pairwise_append.1 hsort).2.2 j hj i Ac
   have hgt: ∀j∈l2,i<j:=fun j hj=>(List.pairwise_cons.1 (List.pairwise_append.1 hsort).2.1).1 j hj
   have hb:=V6 Iy ho (l1:=l1) (l2:=l2) (fun j hj=>by
    obtain⟨hjm,hjn⟩:=(hrem j).1 (by simp[hj])
    have hoj:ops[j]?=some ops[j]:=Array.getElem?_eq_getElem Aa
    refine⟨ops[j],hoj,?_⟩
    rcases hD.head i o him ho j ops[j] (hlt j hj) hoj with h'|h'
    ·exact absurd (CA hdc h' hr') hjn
    ·exact h') hruns
   obtain⟨o2,y,nb,e1,s1,q1,q2,q3,q4,q5⟩:=hb
   rw[ho]at q1;cases q1
   have hrem': ∀j,j∈l1++l2↔j<m/\ ¬Li (listed.setIfInBounds i true) j:=by
    intro j
    rw[DL Aa]
    have hj:=hrem j
    constructor
    ·intro hmem
     have hne:j≠i:=by
      rcases List.mem_append.1 hmem with h'|h'
      ·have:=hlt j h';omega
      ·have:=hgt j h';omega
     have:=hj.1 (by rcases List.mem_append.1 hmem with h'|h'<;>simp[h'])
     exact⟨this.1,fun hc=>by rcases hc with h'|h';exact hne h';exact this.2 h'⟩
    ·rintro⟨h1,h2⟩
     have hne:j≠i:=fun e=>h2 (.inl e)
     have:=hj.2 ⟨h1,fun hc=>h2 (.inr hc)⟩
     simp at this⊢
     rcases this with h'|h'|h'
     ·exact .inl h'
     ·exact absurd h' hne
     ·exact .inr h'
   have hsort':(l1++l2).Pairwise (· < ·):=by
    refine List.pairwise_append.2 ⟨(List.pairwise_append.1 hsort).1,(List.pairwise_cons.1 (List.pairwise_append.1 hsort).2.1).2,fun x hx y hy=>?_⟩
    have:=hlt x hx;have:=hgt y hy;omega
   have hhi': ∀j,m<=j->j<ops.size-> ¬Li (listed.setIfInBounds i true) j:=fun j hj hjs hc=>by
    rw[DL Aa]at hc
    rcases hc with h'|h'
    ·omega
    ·exact hhi j hj hjs h'
   have hcont: ∀{w':World} {g':G} {a':Act} {env':Env} {σ':St},(∀t,look env' t=look e1 t)->(∀b,look σ' b=look s1 b)->Good n w' g' a' env' σ'->Ext w0 g0 w' g'->
     wpAnyIn F 0 P .any ops (BS n w0 g0 K) fuel (listed.setIfInBounds i true) a' w':=by
    intro w' g' a' env' σ' he1 hs1 hg1 hx1
    exact ih (by simp[hs]) (hdc.set Aa hr') hhi' hrem' hsort' (by simp at hf⊢;omega) (q5.congr Iy (fun t=>(he1 t).symm) (fun b=>(hs1 b).symm)) hg1 hx1
   have hputg: ∀{w':World} {g':G} {v:Value} {σ':St},Good n w' g' a env σ'->Rel w' g' v y->(∀b,look σ' b=look s1 b)->Ext w0 g0 w' g'->
     wpAnyIn F 0 P .any ops (BS n w0 g0 K) fuel (listed.setIfInBounds i true) (a.put o.dst v) w':=by
    intro w' g' v σ' hg1 hrel hs1 hx1
    cases hd:o.dst with
    |none=>
     refine hcont (env':=env) (fun t=>?_) hs1 hg1 hx1
     rw[q4.1 t,hd];simp
    |some d=>
     have hlt:=q3.1 d hd
     have hput:B4 n (some d) y env=some ((d,y)::env):=by
      simp only[B4]
      have:Nat.blt d n=true:=by simpa[Nat.blt_eq]using hlt
      rw[this]
     refine hcont (env':=(d,y)::env) (fun t=>?_) hs1 (Cm hput hg1 hrel) hx1
     rw[q4.1 t,hd,Ao];simp
   refine FM hF ho ?_
   rcases q3.2 with⟨_,hal,_⟩|⟨hw,cf,hcf,hst⟩|⟨hw,hy,hnb⟩
   ·exact hal.elim
   ·refine .inl ⟨Dc hg hw,?_⟩
    refine FU hp hcf hg.inv hg.env hst F hF _ _ ?_
    rintro v w' ⟨g',k1,k2,k3,k4⟩
    exact hputg (σ':=nb++σ) ⟨k4,k3,hg.defers.ext k1,hg.size⟩ k2 (fun b=>(q4.2 b).symm) (hx.trans k1)
   ·refine .inr ⟨Dc hg hw,?_⟩
    subst hy;subst hnb
    exact hputg (σ':=σ) hg (.t _ _ .undef) (fun b=>(q4.2 b).symm) hx
end
end Go.Am
namespace Go.Am
def D1:List Oper->List Nat
 |[]=>[]
 |o::r=>C0 o++D1 r
def Vf (t:Nat):List Oper->Option Operand
 |[]=>none
 |o::r=>match o.dst with
  |some d=>(match Nat.beq d t with
   |true=>(match o.op with
    |.move y=>some y
    |.assign y=>some y
    |_=>none)
   |false=>Vf t r)
  |none=>Vf t r
def Azd (ops:List Oper) (x:Operand):Operand:=
 match x with
 |.tmp t=>(match Vf t ops with
  |some y=>y
  |none=>x)
 |_=>x
def Oj (ops:List Oper) (env:Env):List Oper->List AV
 |[]=>[]
 |o::r=>match o.op with
  |.slice _ x _ _ (some _)=>(match ev env (Azd ops x)with
   |some y=>y::Oj ops env r
   |none=>Oj ops env r)
  |_=>Oj ops env r
def regFrz (ops:Array Oper) (env:Env) (σ:St):Env×St:=
 match Oj ops.toList env ops.toList with
 |[]=>(env,σ)
 |y::r=>(DQ σ (y::r) env σ).2
def hSK (P:Program) (c:Conf) (n:Nat) (ops:Array Oper) (news:List Nat):List Oper->Env->St->(Env->St->Prop)->Prop
 |[],env,σ,K=>K env σ
 |o::rest,env,σ,K=>AL ops o env (fun env=> ∃cf x nb,EB P cf/\BW c cf news o env σ=some (x,nb)/\FX n o.dst x env fun e2=>hSK P c n ops news rest e2 (nb++σ) K)
   (fun env=>FX n o.dst (.t .undef) env fun e2=>hSK P c n ops news rest e2 σ K)
def Aid (P:Program) (c:Conf) (n:Nat) (ops:Array Oper) (draw:Bool) (env:Env) (σ:St) (K:Env->St->Prop):Prop:=
 match draw with
 |true=>(match ID ops with
  |some m=>hSK P c n ops (D1 (ops.toList.take m)) (ops.toList.take m) env σ (fun env σ=>A2 P n ops (ops.toList.drop m) env σ K)
  |none=>False)
 |false=>A2 P n ops ops.toList env σ K
def E4 (P:Program) (c:Conf) (n:Nat):Code->Env->St->(Exit->Env->St->Prop)->Prop
 |.skip,env,σ,K=>K .normal env σ
 |.region _ ops draw,env,σ,K=>Aid P c n ops draw (regFrz ops env σ).1 (regFrz ops env σ).2 (K .normal)
 |.seq a b,env,σ,K=>E4 P c n a env σ (fun ex env σ=>match ex with
  |.normal=>E4 P c n b env σ K
  |ex=>K ex env σ)
 |.cond x a b,env,σ,K=> ∃p,ev env x=some (.t (.bool p))/\(p=true->E4 P c n a env σ K)/\(p=false->E4 P c n b env σ K)
 |.block id b,env,σ,K=>E4 P c n b env σ (fun ex env σ=>match ex with
  |.exit i=>(match Nat.beq i id with
   |true=>K .normal env σ
   |false=>K (.exit i) env σ)
  |ex=>K ex env σ)
 |.loop b,env,σ,K=>Tr P n (.loop b) env σ K
 |.exit id,env,σ,K=>K (.exit id) env σ
 |.ret,env,σ,K=>K .ret env σ
 |_,_,_,_=>False
section
variable {P:Program} {c:Conf} {cf:Nat->List AV->St->Option (AV×St)} {R:Type}
theorem Jm {o:Oper}: ∀{l:List Oper},o∈l-> ∀b∈C0 o,b∈D1 l
 |[],h,_,_=>by simp at h
 |x::r,h,b,hb=>by
  simp only[D1,List.mem_append]
  simp at h
  rcases h with rfl|h
  ·exact .inl hb
  ·exact .inr (Jm h b hb)
theorem F9 {n:Nat} {dst:Option Nat} {x:AV} {env env1 env2:Env} (h:B4 n dst x env1=some env2) (he: ∀t,look env1 t=look env t):Ai6 n dst/\ ∀t,look env2 t=if dst=some t then some x else look env t:=by
 unfold B4 at h
 split at h
 ·rename_i d
  split at h
  ·rename_i hb
   simp at h;subst h
   refine⟨fun d' hd'=>(by injection hd' with hd';subst hd';simpa[Nat.blt_eq]using hb),fun t=>?_⟩
   rw[Ao,he t];simp
  ·simp at h
 ·simp at h;subst h
  exact⟨fun d hd=>(by cases hd),fun t=>by simp[he t]⟩
theorem Nt {alt:Oper->Env->Prop} {n:Nat} {ops:Array Oper} {news:List Nat} {K:Env->St->Prop}: ∀(l:List Oper) (i0:Nat),(∀j,j<l.length->l[j]?=ops[i0+j]?)->(∀o∈l,∀b∈C0 o,b∈news)-> ∀{env:Env} {σ:St},
  hSK P c n ops news l env σ K-> ∃e s,JF P c alt n ops news (List.range' i0 l.length) env σ e s/\K e s
 |[],i0,_,_,env,σ,h=>⟨env,σ,⟨fun _=>rfl,fun _=>rfl⟩,h⟩
 |o::rest,i0,hl,hn,env,σ,h=>by
  simp only[hSK]at h
  have ho:ops[i0]?=some o:=by have:=hl 0 Ac;simpa using this.symm
  have hl': ∀j,j<rest.length->rest[j]?=ops[i0+1+j]?:=fun j hj=>by
   have:=hl (j+1) (by simp;exact hj)
   simp at this
   rw[this];congr 1;omega
  have hn': ∀o∈rest,∀b∈C0 o,b∈news:=fun x hx=>hn x (by simp[hx])
  obtain⟨env1,he1,hc⟩:=IP h
  rcases hc with⟨hw,cf,x,nb,hcf,hst,env2,hput,h⟩|⟨hw,env2,hput,h⟩
  ·obtain⟨e,s,h1,h2⟩:=Nt rest (i0+1) hl' hn' h
   obtain⟨p1,p2⟩:=F9 hput he1
   refine⟨e,s,⟨o,x,nb,env2,nb++σ,ho,hn o Ac,⟨p1,.inr (.inl ⟨hw,cf,hcf,?_⟩)⟩,⟨p2,fun _=>rfl⟩,h1⟩,h2⟩
   rw[<-hst]
   exact Fh (EG (ops:=ops) fun t _=>(he1 t).symm) (fun _ _=>rfl) (fun _ _=>rfl)
  ·obtain⟨e,s,h1,h2⟩:=Nt rest (i0+1) hl' hn' h
   obtain⟨p1,p2⟩:=F9 hput he1
   exact⟨e,s,⟨o,.t .undef,[],env2,σ,ho,hn o Ac,⟨p1,.inr (.inr ⟨hw,rfl,rfl⟩)⟩,⟨p2,fun _=>rfl⟩,h1⟩,h2⟩
theorem Ext.drew (w:World) (g:G):Ext w g {w with drawn:=w.drawn+1} g:=⟨Nat.le_refl _,fun _ _ _=>rfl,fun _ _ h=>h,fun _ _=>Iff.rfl,fun _ _ h=>h,fun _ h=>⟨h,rfl⟩,⟨rfl,rfl,rfl⟩,Gt (fun _ _ _ _ h=>h) (fun _ _ _ _ _=>rfl)⟩
theorem Good.drew {n:Nat} {w:World} {g:G} {a:Act} {env:Env} {σ:St} (hg:Good n w g a env σ):Good n {w with drawn:=w.drawn+1} g a env σ:=by
 have hr: ∀v x,Rel w g v x->Rel {w with drawn:=w.drawn+1} g v x:=fun v x h=>h.mono (Ext.drew w g).keeps (fun _ _ h=>h) (fun _ _ h=>h)
 exact⟨hg.env.mono hr,⟨fun b B hB=>Fc.mono (w:=w) (g:=g) rfl (fun _ _ h=>h) (fun _ _=>rfl) hr (hg.inv.ok b B hB),hg.inv.dom,hg.inv.inj,hg.inv.lt,hg.inv.bx,hg.inv.dis,hg.inv.im_of (Ext.drew w g).keeps,hg.inv.lo,hg.inv.sx.mono (Nat.le_refl _) rfl (fun _ _ _ h=>h) (fun _ _ _ _ _=>rfl) (fun c blk h=>.inl ⟨c,h⟩) (fun b L hL=>hL)⟩,hg.defers.ext (Ext.drew w g),hg.size⟩
theorem Rw {w:World} {g:G} {a:Act} {env:Env} (he:AK w g a env) (ops:List Oper): ∀l:List Oper,∃vs,Bt w g vs (Oj ops env l)
 |[]=>⟨[],Bt.nil⟩
 |o::r=>by
  obtain⟨vs,h⟩:=Rw he ops r
  unfold Oj
  split
  ·split
   ·rename_i y hy
    exact⟨_,A1v (AG he hy) h⟩
   ·exact⟨vs,h⟩
  ·exact⟨vs,h⟩
theorem Fo {n:Nat} {w:World} {g:G} {a:Act} {env env':Env} {σ σ':St} {ops:Array Oper} (h:regFrz ops env σ=(env',σ')) (hg:Good n w g a env σ): ∃g',Ext w g w g'/\Good n w g' a env' σ':=by
 unfold regFrz at h
 obtain⟨vs,hr⟩:=Rw hg.env ops.toList ops.toList
 split at h
 ·simp at h;obtain⟨rfl,rfl⟩:=h;exact⟨g,A1t _ _,hg⟩
 ·rename_i y r hm
  rw[hm]at hr
  obtain⟨g',k1,k2,_,k3⟩:=CQ (w:=w) σ (as:=y::r) (as':=(DQ σ (y::r) env σ).1) (env':=env') (σ':=σ') (by rw[<-h]) hg.inv hr hg.env
  exact⟨g',k1,⟨k3,k2,hg.defers.ext k1,hg.size⟩⟩
theorem Df (hp:ProgOk P c) {n:Nat}: ∀(code:Code) {K:Exit->Env->St->Prop} {env:Env} {σ:St},E4 P c n code env σ K->Tr P n code env σ K
 |.skip,K,env,σ,h,F,hF,hrf,w,g,a,hg=>by
  simp only[E4]at h
  exact wpIn_skip ⟨env,σ,g,A1t _ _,hg,h⟩
 |.region id ops draw,K,env0,σ0,h,F,hF,hrf,w,g0,a,hg0=>by
  simp only[E4]at h
  obtain⟨g,hx,hg⟩:=Fo (env':=(regFrz ops env0 σ0).1) (σ':=(regFrz ops env0 σ0).2) rfl hg0
  generalize(regFrz ops env0 σ0).1=env at h hg
  generalize(regFrz ops env0 σ0).2=σ at h hg
  refine wpIn_mono ?_ fun ex a2 w2 (hq:BS n w g K ex a2 w2)=>hq.lift hx
  unfold Aid at h
  split at h
  ·split at h
   ·rename_i m hm
    have hD:=Sc hm
    obtain⟨e,s,h1,h2⟩:=Nt (ops.toList.take m) 0 (fun j hj=>by simp at hj;rw[List.getElem?_take,if_pos Aa,Array.getElem?_toList,Nat.zero_add]) (fun o ho=>Jm ho) h
    ·refine wpIn_region_any hp.mix ?_
     have hlen:(ops.toList.take m).length=m:=by have:=hD.le;simp;omega
     rw[hlen]at h1
     refine Zs hF hp hD h2 ops.size Ac (fun i o ho hl=>?_) (fun i h1 h2 hl=>?_) (rem:=List.range' 0 m) (fun i=>?_) List.pairwise_lt_range' (by simp;have:=hD.le;omega) h1 (hg.drew) (Ext.drew w g)
     ·simp[Li,Array.getElem?_replicate]at hl
     ·simp[Li,Array.getElem?_replicate]at hl
     ·simp[Li,Array.getElem?_replicate,List.mem_range'_1]
   ·exact h.elim
  ·exact wpIn_region_list (Mh hF ops.toList h hg (A1t _ _))
 |.seq x y,K,env,σ,h,F,hF,hrf,w,g,a,hg=>by
  simp only[E4]at h
  refine wpIn_seq (wpIn_mono (Df hp x h F hF hrf.seq.1 w g a hg) ?_)
  rintro ex a' w' ⟨env',σ',g',h1,h2,h3⟩
  cases ex with
  |normal=>exact wpIn_mono (Df hp y h3 F hF hrf.seq.2 w' g' a' h2) fun ex a2 w2 hq=>hq.lift h1
  |exit id=>exact⟨env',σ',g',h1,h2,h3⟩
  |goto l=>exact⟨env',σ',g',h1,h2,h3⟩
  |ret=>exact⟨env',σ',g',h1,h2,h3⟩
  |panic ch=>exact⟨env',σ',g',h1,h2,h3⟩
  |outgrown=>exact⟨env',σ',g',h1,h2,h3⟩
 |.cond x y z,K,env,σ,h,F,hF,hrf,w,g,a,hg=>by
  simp only[E4]at h
  obtain⟨p,hb,ht,hf⟩:=h
  have hv:=EE (AG hg.env hb)
  cases p with
  |true=>exact wpIn_cond_true hv (Df hp y (ht rfl) F hF hrf.cond.1 w g a hg)
  |false=>exact wpIn_cond_false hv (Df hp z (hf rfl) F hF hrf.cond.2 w g a hg)
 |.block id b,K,env,σ,h,F,hF,hrf,w,g,a,hg=>by
  simp only[E4]at h
  refine wpIn_block (wpIn_mono (Df hp b h F hF hrf.block w g a hg) ?_)
  rintro ex a' w' ⟨env',σ',g',h1,h2,h3⟩
  cases ex with
  |normal=>exact⟨env',σ',g',h1,h2,h3⟩
  |exit i=>
   simp only[Exit.inBlock]
   by_cases e:i=id
   ·subst e
    simp at h3⊢
    exact⟨env',σ',g',h1,h2,h3⟩
   ·simp only[Cr e]at h3
    simp only[if_neg e]
    exact⟨env',σ',g',h1,h2,h3⟩
  |goto l=>exact⟨env',σ',g',h1,h2,h3⟩
  |ret=>exact⟨env',σ',g',h1,h2,h3⟩
  |panic ch=>exact⟨env',σ',g',h1,h2,h3⟩
  |outgrown=>exact⟨env',σ',g',h1,h2,h3⟩
 |.loop b,K,env,σ,h,F,hF,hrf,w,g,a,hg=>h F hF hrf w g a hg
 |.exit id,K,env,σ,h,F,hF,hrf,w,g,a,hg=>by
  simp only[E4]at h
  exact wpIn_exit ⟨env,σ,g,A1t _ _,hg,h⟩
 |.ret,K,env,σ,h,F,hF,hrf,w,g,a,hg=>by
  simp only[E4]at h
  exact wpIn_ret ⟨env,σ,g,A1t _ _,hg,h⟩
 |.rangeFunc ..,K,env,σ,h,F,hF,hrf,w,g,a,hg=>by simp[E4]at h
 |.scope _,K,env,σ,h,F,hF,hrf,w,g,a,hg=>by simp[E4]at h
 |.label _,K,env,σ,h,F,hF,hrf,w,g,a,hg=>by simp[E4]at h
 |.goto _,K,env,σ,h,F,hF,hrf,w,g,a,hg=>by simp[E4]at h
 |.refuse _,K,env,σ,h,F,hF,hrf,w,g,a,hg=>by simp[E4]at h
theorem OM {F:Fence} {b:Code} {Q:Exit->Act->World->Prop}: ∀{n m:Nat},n<=m-> ∀{a:Act} {w:World},Code.roundsIn F 0 P b Q n a w->Code.roundsIn F 0 P b Q m a w
 |0,_,_,a,w,h=>h.elim
 |n+1,0,hle,a,w,h=>by omega
 |n+1,m+1,hle,a,w,h=>by
  rw[roundsIn_succ]at h⊢
  refine wpIn_mono h fun ex a' w' hq=>?_
  cases ex with
  |normal=>exact OM Aa hq
  |exit id=>exact hq
  |goto l=>exact hq
  |ret=>exact hq
  |panic ch=>exact hq
  |outgrown=>exact hq
theorem Tr.rounds {F:Fence} (hF:IsW F) {n:Nat} {b:Code} (hrf:RF F b) {K:Exit->Env->St->Prop} {I:Nat->Env->St->Prop}
  (hstep: ∀m env σ,I m env σ->Tr P n b env σ (fun ex e s=>match ex with
   |.normal=> ∃m',m'<m/\I m' e s
   |ex=>K ex e s)): ∀(m:Nat) {env:Env} {σ:St} {w:World} {g:G} {a:Act} {w0:World} {g0:G},I m env σ->Good n w g a env σ->Ext w0 g0 w g->Code.roundsIn F 0 P b (BS n w0 g0 K) (m+1) a w:=by
 intro m
 induction m using Nat.strongRecOn with
 |ind m ih=>
  intro env σ w g a w0 g0 hI hg hx
  rw[roundsIn_succ]
  refine wpIn_mono (hstep m env σ hI F hF hrf w g a hg) ?_
  rintro ex a' w' ⟨env',σ',g',h1,h2,h3⟩
  cases ex with
  |normal=>
   obtain⟨m',hlt,hI'⟩:=h3
   have:=ih m' hlt hI' h2 (hx.trans h1)
   exact OM Aa this
  |exit id=>exact⟨env',σ',g',hx.trans h1,h2,h3⟩
  |goto l=>exact⟨env',σ',g',hx.trans h1,h2,h3⟩
  |ret=>exact⟨env',σ',g',hx.trans h1,h2,h3⟩
  |panic ch=>exact⟨env',σ',g',hx.trans h1,h2,h3⟩
  |outgrown=>exact⟨env',σ',g',hx.trans h1,h2,h3⟩
theorem Tr.loop {n:Nat} {b:Code} {K:Exit->Env->St->Prop} (I:Nat->Env->St->Prop) {env:Env} {σ:St} (m:Nat) (h0:I m env σ)
  (hstep: ∀m env σ,I m env σ->Tr P n b env σ (fun ex e s=>match ex with
   |.normal=> ∃m',m'<m/\I m' e s
   |ex=>K ex e s)):Tr P n (.loop b) env σ K:=
 fun F hF hrf w g a hg=>wpIn_loop_rounds (m+1) (Tr.rounds hF hrf.loop hstep m h0 hg (A1t _ _))
theorem Rel.lo {w:World} {g:G} {v:Value} {x:AV} (n:Nat) (h:Rel w g v x):Rel w {g with lo:=n} v x:=
 Rel.mono (w:=w) (w':=w) (g:=g) (g':={g with lo:=n}) (fun _ _ _ h1 h2=>⟨h1,h2⟩) (fun _ _ h=>h) (fun _ _ h=>h) h
theorem Inv.setLo {w:World} {g:G} {σ:St} (n:Nat) (hn:n<=w.heap.size) (h:Inv w g σ):Inv w {g with lo:=n} σ:=
 ⟨fun b B hB=>Fc.mono (w:=w) (g:=g) (g':={g with lo:=n}) rfl (fun _ _ h=>h) (fun _ _=>rfl) (fun _ _ hr=>hr.lo n) (h.ok b B hB),h.dom,h.inj,h.lt,h.bx,h.dis,h.im,hn,h.sx.mono (Nat.le_refl _) rfl (fun _ _ _ h=>h) (fun _ _ _ _ _=>rfl) (fun c blk h=>.inl ⟨c,h⟩) (fun b L hL=>hL)⟩
theorem VX {w:World} {D:Nat} {ds:Option (List Deferred)} (hD:w.heap[D]?=some (.deferred ds)) (o:Obj) {g:G} {v:Value} {x:AV} (h:Rel w g v x):Rel (w.putObj D o) g v x:=by
 refine h.mono (fun b off u h1 h2=>⟨h1,?_⟩) (fun _ _ h=>h) (fun b p hp=>?_)
 ·have hne:b≠D:=fun e=>by subst e;simp[World.cell?,hD]at h2
  rw[BX (World.putObj_heap_other hne)];exact h2
 ·have hne:b≠D:=fun e=>by subst e;simp[World.shape?,hD]at hp
  simp only[World.shape?,World.putObj_heap_other hne]at hp⊢;exact hp
theorem Agj {w:World} {D:Nat} {ds:Option (List Deferred)} (hD:w.heap[D]?=some (.deferred ds)) (o:Obj) {g:G} {σ:St} (h:Inv w g σ):Inv (w.putObj D o) g σ:=by
 refine⟨fun b B hB=>?_,h.dom,h.inj,fun blk hb=>by rw[World.putObj_size];exact h.lt blk hb,h.bx,h.dis,fun p hp=>⟨(h.im p hp).1,by
  have hc:=(h.im p hp).2
  have hne:p.1≠D:=fun e=>by rw[e]at hc;simp[World.cell?,hD]at hc
  rw[BX (World.putObj_heap_other hne)];exact hc⟩,by rw[World.putObj_size];exact h.lo,⟨fun blk e he=>by rw[World.putObj_size];exact h.sx.lt blk e he,h.sx.bs,h.sx.one,fun b L hL=>?_⟩⟩
 rotate_left 1
 ·obtain⟨k1,k2⟩:=h.sx.ok b L hL
  refine⟨k1,fun p hp=>?_⟩
  obtain⟨q1,q2,vs,ty,q3,q4⟩:=k2 p hp
  have hne:p.1≠D:=fun e=>by rw[e,hD]at q3;cases q3
  exact⟨q1,q2,vs,ty,by rw[World.putObj_heap_other hne];exact q3,q4⟩
 have hok:=h.ok b B hB
 refine hok.mono rfl (fun _ _ h=>h) (fun blk hb=>World.putObj_heap_other fun e=>?_) (fun _ _ hr=>VX hD o hr)
 subst e
 cases B with
 |cells cs=>obtain⟨blk',vs,e,h1,h2,h3,_⟩:=hok;rw[h1]at hb;cases hb;rw[hD]at h3;cases h3
 |grow sz es=>
  rcases hok.2 with⟨h1,_⟩|⟨blk',vs,e,h1,h2,h3,_⟩
  ·rw[h1]at hb;cases hb
  ·rw[h1]at hb;cases hb;rw[hD]at h3;cases h3
 |rights L=>have h1:g.β b=some none:=hok;rw[h1]at hb;cases hb
 |loop l st pe ps asg bd n env=>obtain⟨r,h1,h2,h3,_⟩:=hok;rw[h1]at hb;cases hb;rw[hD]at h3;cases h3
 |mp ks xs=>obtain⟨blk',es,clk,h1,h2,h3,_⟩:=hok;rw[h1]at hb;cases hb;rw[hD]at h3;cases h3
theorem OW {fn:Func} {tmps:Array Value} {Rr:Ending->World->Prop} {F:Fence} {w0:World} {g0:G} (h0:g0.lo=w0.heap.size) {n:Nat} {env:Env} {σ:St} {g:G}: ∀(Ds:List Nat) {w:World},Ds.Nodup->
  (∀D∈Ds,w.heap[D]?=some (.deferred (some []))/\g.lo<=D)->Ext w0 g0 w g->AK w g ⟨tmps,[]⟩ env->Inv w g σ->n<=tmps.size->
  (∀w':World,Ext w0 g0 w' g->Good n w' g ⟨tmps,[]⟩ env σ-> ∃v,(results fn tmps).run P w'=.ok v w'/\Rr (.returned v) w')->
  LeavesInM F 0 P fn tmps Rr (Ds.map (fun D=>({target:=.collected D,args:= #[]}:Deferred))) .returning w
 |[],w,_,_,hx,he,hi,hn,hk=>hk w hx ⟨he,hi,G3.nil,hn⟩
 |D::r,w,hnd,hm,hx,he,hi,hn,hk=>by
  obtain⟨m1,m2⟩:=hm D Ac
  have hlo:=hx.lo.1
  refine⟨by simp,.inl ⟨D,_,rfl,run_takeDeferred m1,?_⟩⟩
  refine OW h0 r (List.nodup_cons.1 hnd).2 (fun E hE=>?_) ?_ (fun t x ht=>VX m1 _ (he t x ht)) (Agj m1 _ hi) hn hk
  ·have hne:E≠D:=fun e=>(List.nodup_cons.1 hnd).1 (e▸hE)
   obtain⟨k1,k2⟩:=hm E (by simp[hE])
   exact⟨by rw[World.putObj_heap_other hne];exact k1,k2⟩
  ·have hge:w0.heap.size<=D:=by rw[<-h0,<-hlo];exact m2
   refine⟨by rw[World.putObj_size];exact hx.size,fun blk hb ho=>?_,hx.own,hx.oth,fun b p hp=>?_,hx.bx,hx.lo,fun blk e hb ho he=>?_⟩
   ·rw[World.putObj_heap_other Aa];exact hx.keep blk hb ho
   ·have hq:=hx.shape b p hp
    have hne:b≠D:=fun e=>by subst e;simp[World.shape?,m1]at hq
    simp only[World.shape?,World.putObj_heap_other hne]at hq⊢;exact hq
   ·obtain⟨a1,a2⟩:=hx.sp blk e hb ho he
    exact⟨fun o hlt=>by rw[BX (World.putObj_heap_other Aa)];exact a1 o hlt,a2⟩
theorem Gl {f:Nat} {fn:Func} (hf:P.funcs[f]?=some fn) {code:Code} (hb:fn.body=some code) {as:List AV} {σ:St} {K:Exit->Env->St->Prop} (hle:Nat.ble as.length fn.ntmps=true)
  (h:Tr P fn.ntmps code (FG 0 as) σ K) {vs:List Value} {w:World} {g:G} (hr:Bt w g vs as) (hi:Inv w g σ) {Rr:Ending->World->Prop}
  (hfin: ∀ex a' w' g' env' σ',Ext w g w' g'->Good fn.ntmps w' g' a' env' σ'->K ex env' σ'->(ex=.normal\/ex=.ret)/\ ∃v,(results fn a'.tmps).run P w'=.ok v w'/\Rr (.returned v) w'):
  Calls P f vs.toArray w Rr:=by
 have hlen:as.length<=fn.ntmps:=by simpa using hle
 have hg:Good fn.ntmps w {g with lo:=w.heap.size} {tmps:=vs.toArray++Array.replicate (fn.ntmps-vs.toArray.size) undef,defers:=[]} (FG 0 as) σ:=by
  refine⟨fun t x hx=>?_,hi.setLo _ (Nat.le_refl _),G3.nil,by simp;have:=hr.1;omega⟩
  obtain⟨_,h2⟩:=RX as 0 t x hx
  simp at h2
  have hlt:=AW h2
  have hv:vs[t]?=some (vs[t]'(by rw[hr.1];exact hlt)):=List.getElem?_eq_getElem _
  have e:(vs.toArray++Array.replicate (fn.ntmps-vs.toArray.size) undef).getD t undef=vs[t]'(by rw[hr.1];exact hlt):=by
   rw[Array.getD_eq_getD_getElem?,Array.getElem?_append_left (by simp;rw[hr.1];exact hlt)]
   simp only[List.getElem?_toArray,hv,Option.getD_some]
  rw[e]
  exact(hr.2 t _ x hv h2).lo _
 refine(callsIn_wide (n:=0)).1 (callsIn_of_wp_marks hf hb trivial (wpIn_mono (h Fence.wide (.inl rfl) (.inl rfl) w _ _ hg) ?_))
 rintro ex a' w' ⟨env',σ1,g',h1,h2,h3⟩
 have back: ∀w2,Ext w {g with lo:=w.heap.size} w2 g'->Ext w g w2 {g' with lo:=g.lo}:=fun w2 hx=>⟨hx.size,hx.keep,hx.own,hx.oth,hx.shape,hx.bx,⟨rfl,hx.lo.2⟩,hx.sp⟩
 have hex:ex=.normal\/ex=.ret:=(hfin ex ⟨a'.tmps,[]⟩ w' {g' with lo:=g.lo} env' σ1 (back _ h1) ⟨fun t x ht=>(h2.env t x ht).lo _,h2.inv.setLo _ (Nat.le_trans hi.lo h1.size),G3.nil,h2.size⟩ h3).1
 obtain⟨Ds,d1,d2,d3⟩:=h2.defers
 have hl:=OW (P:=P) (fn:=fn) (tmps:=a'.tmps) (Rr:=Rr) (F:=Fence.wide) (w0:=w) (g0:={g with lo:=w.heap.size}) rfl (n:=fn.ntmps) (env:=env') (σ:=σ1) (g:=g') Ds (w:=w') d2 (fun D hD=>⟨(d3 D hD).1,(d3 D hD).2.2⟩) h1 h2.env h2.inv h2.size
  (fun w2 hx hgd=>(hfin ex ⟨a'.tmps,[]⟩ w2 {g' with lo:=g.lo} env' σ1 (back _ hx) ⟨fun t x ht=>(hgd.env t x ht).lo _,hgd.inv.setLo _ (Nat.le_trans hi.lo hx.size),G3.nil,hgd.size⟩ h3).2)
 rw[<-d1]at hl
 rcases hex with rfl|rfl
 ·exact hl
 ·exact hl
def Ct (P:Program) (f:Nat) (as:List AV) (σ:St) (r:AV) (σ':St):Prop:=
 (∃fn,P.funcs[f]?=some fn/\fn.body.isSome=true)/\Akp P f as σ r σ'
def Sub (x y:AV):Prop:= ∀w g v,Rel w g v x->Rel w g v y
theorem A1x (x:AV):Sub x x:=fun _ _ _ h=>h
theorem XD (hp:ProgOk P c) {f:Nat} {fn:Func} (hf:P.funcs[f]?=some fn) {code:Code} (hb:fn.body=some code) {as:List AV} {σ σ':St} {r:AV} (own:Bool) (hle:Nat.ble as.length fn.ntmps=true)
  (h:Tr P fn.ntmps code (FG 0 as) σ (fun ex e s=>(ex=.normal\/ex=.ret)/\ ∃r0,JY c.te own fn.results.toList e s=some (r0,σ')/\Sub r0 r)):Ct P f as σ r σ':=by
 refine⟨⟨fn,hf,by simp[hb]⟩,?_⟩
 intro vs w g hr hi
 refine Gl hf hb hle h hr hi fun ex a' w' g' env' σ1 h1 h2 h3=>?_
 obtain⟨hex,r0,h4,h5⟩:=h3
 obtain⟨v,g2,q1,q2,q3,q4⟩:=Is hp h2 h4
 exact⟨hex,v,q1,v,g2,rfl,h1.trans q2,h5 _ _ _ q3,q4⟩
end
end Go.Am
