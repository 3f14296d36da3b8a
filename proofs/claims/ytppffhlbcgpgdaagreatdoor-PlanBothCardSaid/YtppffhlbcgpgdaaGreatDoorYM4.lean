/- The general texts of the abstract machine, joined: Am21, Am22, Am23, Am24. -/
import Derived.Test.YtppffhlbcgpgdaaGreatDoorYN1
set_option linter.all false
namespace Go.Am
theorem T4 (d:Nat):2*d/2=d:=Aa
section
variable {P:Program} {c:Conf} {alt:Oper->A2->Prop} {n:Nat} {ops:Array Oper} {news:List Nat}
def FR (ops:Array Oper) (o:Oper) (env:A2):Option Bool:=
 match o.guard with
 |none=>some true
 |some (j,want)=>match ops[j]? with
  |some oj=>match oj.dst with
   |some d=>match look env d with
    |some (.t (.bool b))=>(match b with
     |true=>(match want with
      |true=>some true
      |false=>some false)
     |false=>(match want with
      |true=>some false
      |false=>some true))
    |some (.t .undef)=>some false
    |_=>none
   |none=>none
  |none=>none
theorem JN {o:Oper} {env:A2} {kT kF:A2->Prop} (h:Bt ops o env kT kF):
  ∃aV,(∀t,look aV t=look env t)/\((FR ops o env=some true/\kT aV)\/(FR ops o env=some false/\kF aV)):=by
 have hl: ∀d b t,look env d=some (.t (.bool b))->look ((d,AV.t (.bool b))::env) t=look env t:=by
  intro d b t hd;rw[Ap];split
  ·rename_i e;subst e;exact hd.symm
  ·rfl
 unfold Bt at h;unfold FR;split at h
 ·rename_i hg;rw[hg];exact⟨env,λ_=>rfl,.inl ⟨rfl,h⟩⟩
 ·rename_i j want hg;rw[hg];split at h
  ·rename_i oj hj;simp only[hj];split at h
   ·rename_i d hd;simp only[hd];split at h
    ·rename_i b hb;simp only[hb];cases b<;>cases want
     ·exact⟨_,λt=>hl d false t hb,.inl ⟨rfl,h.1 rfl⟩⟩
     ·exact⟨_,λt=>hl d false t hb,.inr ⟨rfl,h.2 rfl⟩⟩
     ·exact⟨_,λt=>hl d true t hb,.inr ⟨rfl,h.2 rfl⟩⟩
     ·exact⟨_,λt=>hl d true t hb,.inl ⟨rfl,h.1 rfl⟩⟩
    ·rename_i hb;rw[hb];exact⟨env,λ_=>rfl,.inr ⟨rfl,h⟩⟩
    ·exact h.elim
   ·exact h.elim
  ·exact h.elim
def Ang (n:Nat) (dst:Option Nat):Prop:= ∀d,dst=some d->d<n
def Ads:Oper->A2->Prop:=λ_ _=>False
def Ti (ops:Array Oper) (alt:Oper->A2->Prop):Prop:= ∀o env env',(∀t,t∈o.looksAt ops->look env t=look env' t)->alt o env->alt o env'
theorem NL:Ti ops Ads:=λ_ _ _ _ h=>h
def Ub (P:Program) (c:Conf) (alt:Oper->A2->Prop) (n:Nat) (ops:Array Oper) (news:List Nat) (o:Oper) (env:A2) (σ:St) (y:AV) (nb:St):Prop:=
 Ang n o.dst/\((FR ops o env=some true/\alt o env/\y=.top/\nb=[])\/(FR ops o env=some true/\ ∃cf,O1 P cf/\Cz c cf news o env σ=some (y,nb))\/(FR ops o env=some false/\y=.t .undef/\nb=[]))
theorem IP {o:Oper} {env env':A2} (h: ∀t,t∈o.looksAt ops->look env t=look env' t):FR ops o env=FR ops o env':=by
 unfold FR;split
 ·rfl
 ·rename_i j want hg;split
  ·rename_i oj hj;split
   ·rename_i d hd;rw[h d (by unfold Oper.looksAt;rw[hg];simp[hj,hd])]
   ·rfl
  ·rfl
theorem DD {o:Oper} {env env':A2} (h: ∀t,t∈o.looksAt ops->look env t=look env' t): ∀x∈o.op.operands,ev env x=ev env' x:=by
 intro x hx
 cases x with
 |tmp t=>
  simp only[ev];refine h t ?_;unfold Oper.looksAt;refine A25.2 (.inl ?_);rw[List.mem_filterMap];exact⟨.tmp t,by simpa using hx,rfl⟩
 |const v=>rfl
 |func f=>rfl
 |global g=>rfl
theorem Ub.congr (iH:Ti ops alt) {o:Oper} {env env':A2} {σ σ':St} {y:AV} {nb:St} (h:Ub P c alt n ops news o env σ y nb) (he: ∀t,t∈o.looksAt ops->look env t=look env' t)
  (hs: ∀b,b∉news->look σ b=look σ' b) (hn: ∀b∈C1 o,look σ b=look σ' b):Ub P c alt n ops news o env' σ' y nb:=by
 refine⟨h.1,?_⟩;rw[<-IP he];rcases h.2 with⟨h1,h2,h3⟩|⟨h1,cf,h2,h3⟩|h3
 ·exact .inl ⟨h1,iH _ _ _ he h2,h3⟩
 ·exact .inr (.inl ⟨h1,cf,h2,by rw[<-Ex (DD he) hs hn];exact h3⟩)
 ·exact .inr (.inr h3)
theorem Ub.new {o:Oper} {env:A2} {σ:St} {y:AV} {nb:St} (h:Ub P c alt n ops news o env σ y nb):nb=[]\/ ∃d B,o.dst=some d/\nb=[(2*d,B)]/\C1 o=[2*d]/\look σ (2*d)=none:=by
 rcases h.2 with⟨_,_,_,h⟩|⟨_,cf,_,h⟩|⟨_,_,h⟩
 ·exact .inl h
 ·exact Rv h
 ·exact .inl h
def Atg (o:Oper) (env:A2) (σ:St) (y:AV) (nb:St) (e:A2) (s:St):Prop:=
 (∀t,look e t=if o.dst=some t then some y else look env t)/\(∀b,look s b=look (nb++σ) b)
def JM (P:Program) (c:Conf) (alt:Oper->A2->Prop) (n:Nat) (ops:Array Oper) (news:List Nat):List Nat->A2->St->A2->St->Prop
 |[],env,σ,e,s=>(∀t,look e t=look env t)/\(∀b,look s b=look σ b)
 |i::r,env,σ,e,s=> ∃o y nb e1 s1,ops[i]?=some o/\(∀b∈C1 o,b∈news)/\Ub P c alt n ops news o env σ y nb/\Atg o env σ y nb e1 s1/\JM P c alt n ops news r e1 s1 e s
theorem Ca {nb σ:St} {d:Nat} {B:Blk} (h:nb=[(2*d,B)]) (b:Nat):look (nb++σ) b=if 2*d=b then some B else look σ b:=by
 subst h;simp only[A5n,A6w];rw[Ap]
theorem JM.congr (iH:Ti ops alt): ∀{l:List Nat} {env env':A2} {σ σ':St} {e:A2} {s:St},JM P c alt n ops news l env σ e s->(∀t,look env t=look env' t)->(∀b,look σ b=look σ' b)->JM P c alt n ops news l env' σ' e s
 |[],env,env',σ,σ',e,s,h,he,hs=>⟨λt=>by rw[h.1 t,he t],λb=>by rw[h.2 b,hs b]⟩
 |i::r,env,env',σ,σ',e,s,⟨o,y,nb,e1,s1,h1,h2,h3,h4,h5⟩,he,hs=>by
  refine⟨o,y,nb,e1,s1,h1,h2,h3.congr iH (λt _=>he t) (λb _=>hs b) (λb _=>hs b),⟨λt=>by rw[h4.1 t,he t],λb=>?_⟩,h5⟩;rw[h4.2 b];rcases h3.new with c8|⟨d,cs,_,c8,_⟩
  ·subst c8;exact hs b
  ·rw[Ca c8,Ca c8,hs b]
theorem A15 (iH:Ti ops alt) {i j:Nat} {r:List Nat} {oi oj:Oper} (gF:ops[i]?=some oi) (dA:ops[j]?=some oj) (jM:oj.apart ops oi=true) {env:A2} {σ:St} {e:A2} {s:St}
  (h:JM P c alt n ops news (j::i::r) env σ e s):JM P c alt n ops news (i::j::r) env σ e s:=by
 obtain⟨o1,y1,nb1,e1,s1,a1,a2,a3,a4,o2,y2,nb2,e2,s2,b1,b2,b3,b4,hr⟩:=h;rw[dA]at a1;cases a1;rw[gF]at b1;cases b1;obtain⟨p1,p2,p3⟩:=Oper.apart_spec jM
 have o6: ∀b,look (nb1++σ) b≠look σ b->b∈C1 oj/\oj.dst=some (b/2)/\b=2*(b/2):=by
  intro b hb;rcases a3.new with c8|⟨d,cs,hd,c8,hl,_⟩
  ·subst c8;exact absurd rfl hb
  ·rw[Ca c8]at hb;split at hb
   ·rename_i e;subst e;exact⟨by rw[hl];simp,by rw[hd,T4],by rw[T4]⟩
   ·exact absurd rfl hb
 have oZ: ∀(σ:St) b,look (nb2++σ) b≠look σ b->b∈C1 oi/\oi.dst=some (b/2)/\b=2*(b/2):=by
  intro σ b hb;rcases b3.new with c8|⟨d,cs,hd,c8,hl,_⟩
  ·subst c8;exact absurd rfl hb
  ·rw[Ca c8]at hb;split at hb
   ·rename_i e;subst e;exact⟨by rw[hl];simp,by rw[hd,T4],by rw[T4]⟩
   ·exact absurd rfl hb
 have newLab_dst: ∀(o:Oper) b,b∈C1 o->o.dst=some (b/2):=by
  intro o b hb;unfold C1 at hb;split at hb
  ·split at hb
   ·rename_i d hd;simp at hb;rw[hd,hb,T4]
   ·simp at hb
  ·split at hb
   ·rename_i d hd;simp at hb;rw[hd,hb,T4]
   ·simp at hb
  ·split at hb
   ·rename_i d hd;simp at hb;rw[hd,hb,T4]
   ·simp at hb
  ·split at hb
   ·rename_i d hd;simp at hb;rw[hd,hb,T4]
   ·simp at hb
  ·simp at hb
 have c3:Ub P c alt n ops news oi env σ y2 nb2:=by
  refine b3.congr iH (λt ht=>?_) (λb hb=>?_) (λb hb=>?_)
  ·rw[a4.1 t,Ug (λhd=>p1 t hd ht)]
  ·rw[a4.2 b];exact Ya λhc=>hb (a2 b (o6 b hc).1)
  ·rw[a4.2 b];exact Ya λhc=>p2 _ (o6 b hc).2.1 (newLab_dst oi b hb)
 obtain⟨e3,lN⟩: ∃e3:A2,∀t,look e3 t=if oi.dst=some t then some y2 else look env t:=by
  cases hd:oi.dst with
  |none=>exact⟨env,λt=>Ac⟩
  |some d=>exact⟨(d,y2)::env,λt=>by rw[Ap];simp⟩
 have d3:Ub P c alt n ops news oj e3 (nb2++σ) y1 nb1:=by
  refine a3.congr iH (λt ht=>?_) (λb hb=>?_) (λb hb=>?_)
  ·rw[lN t,Ug (λhd=>p3 t hd ht)]
  ·exact Ya λhc=>hb (b2 b (oZ σ b (A6f hc)).1)
  ·exact Ya λhc=>p2 _ (newLab_dst oj b hb) (oZ σ b (A6f hc)).2.1
 refine⟨oi,y2,nb2,e3,nb2++σ,gF,b2,c3,⟨lN,λ_=>rfl⟩,oj,y1,nb1,e2,s2,dA,a2,d3,⟨λt=>?_,λb=>?_⟩,hr⟩
 ·rw[b4.1 t,a4.1 t,lN t];by_cases h1:oi.dst=some t
  ·have h2: ¬oj.dst=some t:=λh2=>p2 t h2 h1;simp[h1,h2]
  ·simp[h1]
 ·rw[b4.2 b]
  have k1:look (nb2++s1) b=look (nb2++(nb1++σ)) b:=by
   rcases b3.new with c8|⟨d,cs,_,c8,_⟩
   ·subst c8;exact a4.2 b
   ·rw[Ca c8,Ca c8,a4.2 b]
  rw[k1];rcases a3.new with ha|⟨d,cs,hd,ha,_⟩<;>rcases b3.new with hb|⟨d',cs',nN,hb,_⟩
  ·subst ha;subst hb;rfl
  ·subst ha;rfl
  ·subst hb;rfl
  ·rw[Ca hb,Ca ha,Ca ha,Ca hb];have aE:d≠d':=λe=>p2 d hd (e▸nN);by_cases h1:2*d'=b
   ·have h2: ¬2*d=b:=λh2=>aE (by rw[<-T4 d,<-T4 d',h1,h2]);simp[h1,h2]
   ·simp[h1]
theorem W3 (iH:Ti ops alt) {i:Nat} {oi:Oper} (gF:ops[i]?=some oi): ∀{l1 l2:List Nat},(∀j∈l1,∃oj,ops[j]?=some oj/\oj.apart ops oi=true)-> ∀{env:A2} {σ:St} {e:A2} {s:St},
  JM P c alt n ops news (l1++i::l2) env σ e s->JM P c alt n ops news (i::(l1++l2)) env σ e s
 |[],l2,_,env,σ,e,s,h=>h
 |j::l1,l2,hl,env,σ,e,s,h=>by
  obtain⟨oj,dA,jM⟩:=hl j Ac;obtain⟨o1,y1,nb1,e1,s1,a1,a2,a3,a4,h5⟩:=h;have ih:=W3 iH gF (l1:=l1) (l2:=l2) (λj hj=>hl j (by simp[hj])) h5;exact A15 iH gF dA jM ⟨o1,y1,nb1,e1,s1,a1,a2,a3,a4,ih⟩
end
end Go.Am
namespace Go.Am
inductive Pre (ops:Array Oper):Nat->Nat->Prop where
 |one (i:Nat) (o:Oper) (e:Edge) (h:ops[i]?=some o) (he:e∈o.after) (hb:Region.binds .any e=true):Pre ops e.on i
 |trans (j k i:Nat) (h1:Pre ops j k) (h2:Pre ops k i):Pre ops j i
def Sl (acc:List Nat):List Edge->Nat
 |[]=>0
 |e::r=>(match Region.binds .any e with
  |true=>2^e.on|||acc.getD e.on 0
  |false=>0)|||Sl acc r
def HG:List Oper->List Nat->List Nat
 |[],acc=>acc
 |o::r,acc=>HG r (acc++[Sl acc o.after.toList])
def Oz (i:Nat):List Edge->Bool
 |[]=>true
 |e::r=>(match Region.binds .any e with
  |true=>Nat.blt e.on i
  |false=>true)&&Oz i r
def Oo:Nat->List Oper->Bool
 |_,[]=>true
 |i,o::r=>Oz i o.after.toList&&Oo (i+1) r
def Mg (m:Nat):Nat->Bool
 |0=>true
 |k+1=>Nat.testBit m k&&Mg m k
def JL (m:Nat) (ops:Array Oper) (o:Oper):Nat->List Oper->Bool
 |_,[]=>true
 |j,x::r=>(Nat.testBit m j||x.apart ops o)&&JL m ops o (j+1) r
def Wg (ops:Array Oper) (ms:List Nat) (l:List Oper):Nat->List Oper->Bool
 |_,[]=>true
 |i,o::r=>JL (ms.getD i 0) ops o 0 (l.take i)&&Wg ops ms l (i+1) r
def V0 (ms:List Nat):Nat->Nat->Bool
 |_,0=>true
 |i,k+1=>Mg (ms.getD i 0) i&&V0 ms (i+1) k
def Rs (ms:List Nat):Nat->Nat
 |0=>0
 |k+1=>match Mg (ms.getD k 0) k with
  |true=>Rs ms k
  |false=>k+1
def Mv (ops:Array Oper):Option Nat:=
 let ms:=HG ops.toList [];let m:=Rs ms ops.size
 match Oo 0 ops.toList&&(Wg ops ms (ops.toList.take m) 0 (ops.toList.take m)&&V0 ms m (ops.size-m))with
 |true=>some m
 |false=>none
section
variable {ops:Array Oper}
theorem Sk {acc:List Nat} {i:Nat} {o:Oper} (ho:ops[i]?=some o) (iX: ∀k m,acc[k]?=some m-> ∀j,m.testBit j=true->Pre ops j k): ∀(l:List Edge),(∀e∈l,e∈o.after)-> ∀j,(Sl acc l).testBit j=true->Pre ops j i
 |[],_,j,h=>by simp[Sl]at h
 |e::r,hl,j,h=>by
  simp only[Sl,Nat.testBit_or,A6b]at h;rcases h with h|h
  ·split at h
   ·rename_i hb;have h1:=Pre.one i o e ho (hl e Ac) hb;rw[Nat.testBit_or,A6b]at h;rcases h with h|h
    ·rw[Nat.testBit_two_pow]at h;simp at h;subst h;exact h1
    ·cases hg:acc[e.on]? with
     |none=>simp[List.getD,hg]at h
     |some m=>simp[List.getD,hg]at h;exact .trans _ _ _ (iX _ m hg j h) h1
   ·simp at h
  ·exact Sk ho iX r (λe he=>hl e (by simp[he])) j h
theorem UC: ∀(l:List Oper) (acc:List Nat),(∀j,l[j]?=ops[acc.length+j]?)->(∀k m,acc[k]?=some m-> ∀j,m.testBit j=true->Pre ops j k)-> ∀k m,(HG l acc)[k]?=some m-> ∀j,m.testBit j=true->Pre ops j k
 |[],acc,_,iX=>by simpa[HG]using iX
 |o::r,acc,hl,iX=>by
  simp only[HG];have ho:ops[acc.length]?=some o:=by have:=hl 0;simpa using this.symm
  refine UC r _ (λj=>?_) ?_
  ·have:=hl (j+1);simp at this;rw[this];congr 1;simp;omega
  ·intro k m hk j hj;by_cases h:k<acc.length
   ·rw[Abh h]at hk;exact iX k m hk j hj
   ·rw[Aez Aa]at hk
    have qQ:k-acc.length=0:=by
     rcases A8t (k-acc.length)with h'|h'
     ·exact h'
     ·rw[A5w (by simp;omega)]at hk;cases hk
    rw[qQ]at hk;simp at hk;subst hk;have:k=acc.length:=Aa;subst this;exact Sk ho iX _ (λe he=>by simpa using he) j hj
theorem GF (k j:Nat) (h:((HG ops.toList []).getD k 0).testBit j=true):Pre ops j k:=by
 cases hg:(HG ops.toList [])[k]? with
 |none=>simp[List.getD,hg]at h
 |some m=>
  simp[List.getD,hg]at h;exact UC ops.toList [] (λj=>Ac) Ac k m hg j h
theorem Q1 {m:Nat}: ∀{k:Nat},Mg m k=true-> ∀j,j<k->m.testBit j=true
 |0,_,j,h=>Aa
 |k+1,hb,j,h=>by
  simp only[Mg,Qp]at hb;by_cases e:j=k
  ·subst e;exact hb.1
  ·exact Q1 hb.2 j Aa
theorem Mx {m:Nat} {o:Oper}: ∀{l:List Oper} {j0:Nat},JL m ops o j0 l=true-> ∀j x,l[j]?=some x->m.testBit (j0+j)=true\/x.apart ops o=true
 |[],j0,_,j,x,h=>by simp at h
 |y::r,j0,hb,j,x,h=>by
  simp only[JL,Qp,A6b]at hb
  cases j with
  |zero=>simp at h;subst h;exact hb.1
  |succ j=>simp at h;have:=Mx hb.2 j x h;rwa[show j0+1+j=j0+(j+1)from Aa]at this
theorem Sz {ms:List Nat} {l:List Oper}: ∀{r:List Oper} {i0:Nat},Wg ops ms l i0 r=true-> ∀i o,r[i]?=some o->JL (ms.getD (i0+i) 0) ops o 0 (l.take (i0+i))=true
 |[],i0,_,i,o,h=>by simp at h
 |y::r,i0,hb,i,o,h=>by
  simp only[Wg,Qp]at hb
  cases i with
  |zero=>simp at h;subst h;exact hb.1
  |succ i=>simp at h;have:=Sz hb.2 i o h;rwa[show i0+1+i=i0+(i+1)from Aa]at this
theorem Rq {ms:List Nat}: ∀{k i0:Nat},V0 ms i0 k=true-> ∀i,i<k->Mg (ms.getD (i0+i) 0) (i0+i)=true
 |0,i0,_,i,h=>Aa
 |k+1,i0,hb,i,h=>by
  simp only[V0,Qp]at hb
  cases i with
  |zero=>exact hb.1
  |succ i=>have:=Rq hb.2 i Aa;rwa[show i0+1+i=i0+(i+1)from Aa]at this
theorem Oy {i:Nat}: ∀{l:List Edge},Oz i l=true-> ∀e∈l,Region.binds .any e=true->e.on<i
 |[],_,e,h,_=>by simp at h
 |x::r,hb,e,h,mJ=>by
  simp only[Oz,Qp]at hb;simp at h;rcases h with rfl|h
  ·rw[mJ]at hb;simpa[A6i]using hb.1
  ·exact Oy hb.2 e h mJ
theorem L3: ∀{l:List Oper} {i0:Nat},Oo i0 l=true-> ∀i o,l[i]?=some o-> ∀e∈o.after,Region.binds .any e=true->e.on<i0+i
 |[],i0,_,i,o,h=>by simp at h
 |x::r,i0,hb,i,o,h=>by
  simp only[Oo,Qp]at hb
  cases i with
  |zero=>simp at h;subst h;exact λe he mJ=>Oy hb.1 e (by simpa using he) mJ
  |succ i=>simp at h;have:=L3 hb.2 i o h;rwa[show i0+1+i=i0+(i+1)from Aa]at this
structure DrawOk (ops:Array Oper) (m:Nat):Prop where
 edge: ∀(i:Nat) o,ops[i]?=some o-> ∀e∈o.after,Region.binds .any e=true->e.on<i
 head: ∀i oi,i<m->ops[i]?=some oi-> ∀j oj,j<i->ops[j]?=some oj->Pre ops j i\/oj.apart ops oi=true
 tail: ∀i,m<=i->i<ops.size-> ∀j,j<i->Pre ops j i
 le:m<=ops.size
theorem TZ (ms:List Nat): ∀k,Rs ms k<=k
 |0=>by simp[Rs]
 |k+1=>by
  simp only[Rs];split
  ·have:=TZ ms k;omega
  ·omega
theorem L4 {m:Nat} (h:Mv ops=some m):DrawOk ops m:=by
 unfold Mv at h;simp only at h;split at h
 ·rename_i hb;simp at h;simp only[Qp]at hb;obtain⟨h1,h2,h3⟩:=hb;rw[h]at h2 h3;have cJ:m<=ops.size:=by rw[<-h];exact TZ _ _
  refine⟨λi o ho e he mJ=>?_,λi oi hi gF j oj hj dA=>?_,λi hi aN j hj=>?_,cJ⟩
  ·have:=L3 h1 i o (by rw[Agx];exact ho) e he mJ;omega
  ·have:=Sz h2 i oi (by rw[Aoy,WU hi,Agx];exact gF);have:=Mx this j oj (by rw[Aoy,WU Aa,Aoy,WU Aa,Agx];exact dA);simp only[Atj]at this;rcases this with h'|h'
   ·exact .inl (GF _ _ h')
   ·exact .inr h'
  ·have:=Rq h3 (i-m) Aa;rw[show m+(i-m)=i from Aa]at this;exact GF _ _ (Q1 this j hj)
 ·simp at h
end
end Go.Am
namespace Go.Am
section
variable {P:Program} {c:Conf} {n m:Nat} {ops:Array Oper} {news:List Nat}
def Li (aB:Array Bool) (i:Nat):Prop:=aB[i]?=some true
theorem BR {aB:Array Bool} (hs:aB.size=ops.size) {i:Nat}:i∈Region.ready .any ops aB↔ ¬Li aB i/\ ∃o,ops[i]?=some o/\ ∀e∈o.after,Region.binds .any e=true->Li aB e.on:=by
 unfold Region.ready Li;rw[A6c,A7z];constructor
 ·rintro⟨hi,h⟩;rw[Qp]at h;obtain⟨h1,h2⟩:=h;have hl:aB[i]?=some (aB[i]' Aa):=A23 _;have ho:ops[i]?=some ops[i]:=A23 hi;refine⟨λhc=>?_,ops[i],ho,λe he hb=>?_⟩
  ·simp[A5b,hc]at h1
  ·rw[ho]at h2;simp only[A4g,A81,A79]at h2;have:=h2 e he;simp[hb,A5b]at this
   cases hg:aB[e.on]? with
   |none=>simp[hg]at this
   |some b=>simp[hg]at this;rw[this]
 ·rintro⟨h1,o,ho,h2⟩
  have hi:i<ops.size:=by
   rcases A4i i ops.size with h|h
   ·exact h
   ·rw[A39 h]at ho;cases ho
  refine⟨hi,?_⟩;rw[Qp];constructor
  ·have hl:aB[i]?=some (aB[i]' Aa):=A23 _
   cases hv:aB[i]' Aa with
   |true=>rw[hv]at hl;exact absurd hl h1
   |false=>rw[hv]at hl;simp[A5b,hl]
  ·rw[ho];simp only[A4g,A81,A79];intro e he
   cases hb:Region.binds .any e with
   |false=>rfl
   |true=>have:=h2 e he hb;unfold Li at*;simp[A5b,this]
def DC (ops:Array Oper) (aB:Array Bool):Prop:= ∀(i:Nat) o,ops[i]?=some o->Li aB i-> ∀e∈o.after,Region.binds .any e=true->Li aB e.on
theorem RU {aB:Array Bool} (hd:DC ops aB) {j i:Nat} (h:Pre ops j i):Li aB i->Li aB j:=by
 induction h with
 |one i o e ho he hb=>exact λhi=>hd i o ho hi e he hb
 |trans j k i _ _ ih1 ih2=>exact λhi=>ih1 (ih2 hi)
theorem Dk {aB:Array Bool} (hd:DC ops aB) {j i:Nat} (h:Pre ops j i):(∀o,ops[i]?=some o-> ∀e∈o.after,Region.binds .any e=true->Li aB e.on)->Li aB j:=by
 induction h with
 |one i o e ho he hb=>exact λhi=>hi o ho e he hb
 |trans j k i h1 _ _ ih2=>exact λhi=>RU hd h1 (ih2 hi)
theorem E8 {aB:Array Bool} {i j:Nat} (hi:i<aB.size):Li (aB.setIfInBounds i true) j↔j=i\/Li aB j:=by
 unfold Li;by_cases h:j=i
 ·subst h;simp[Array.getElem?_setIfInBounds_self,hi]
 ·rw[A7f (A6f h)];simp[h]
theorem DC.set {aB:Array Bool} (hd:DC ops aB) {i:Nat} (hi:i<aB.size) (hr: ∀o,ops[i]?=some o-> ∀e∈o.after,Region.binds .any e=true->Li aB e.on):DC ops (aB.setIfInBounds i true):=by
 intro j o ho hj e he hb;rw[E8 hi]at hj⊢;rcases hj with rfl|hj
 ·exact .inr (hr o ho e he hb)
 ·exact .inr (hd j o ho hj e he hb)
theorem HK {F:Fence} (hF:Q3 F) {i:Nat} {o:Oper} (ho:ops[i]?=some o) {Q:Exit->Act->World->Prop} {K:Act->World->Prop} {a:Act} {w:World}
  (h:(Region.wanted o (yielded ops a.tmps)=true/\o.wpIn F 0 P a w K Q)\/(Region.wanted o (yielded ops a.tmps)=false/\K (a.put o.dst undef) w)):wpOpIn F 0 P ops Q i K a w:=by
 unfold wpOpIn;rw[ho];rcases h with⟨h1,h2⟩|⟨h1,h2⟩
 ·simp only[h1,Xs];exact h2
 ·simp only[h1,A0s,ZF];exact⟨λf _=>hF.fn f,h2⟩
theorem FM {F:Fence} (hF:Q3 F) (hD:DrawOk ops m) {K:Exit->A2->St->Prop} {w0:World} {g0:G}: ∀(fuel i0:Nat) {aB:Array Bool} {w:World} {g:G} {a:Act} {env:A2} {σ:St},
  m<=i0->i0<=ops.size->aB.size=ops.size->(∀i,i<ops.size->(Li aB i↔i<i0))->ops.size-i0<=fuel->A6 P n ops (ops.toList.drop i0) env σ (K .normal)->Good n w g a env σ->Ext w0 g0 w g->
  wpAnyIn F 0 P .any ops (Cl n w0 g0 K) fuel aB a w:=by
 intro fuel
 induction fuel with
 |zero=>
  intro i0 aB w g a env σ h1 h2 hs hl hf h hg hx;have:i0=ops.size:=Aa;subst this
  have gK:Region.ready .any ops aB=[]:=by
   apply A6a.2;intro i hi;rw[BR hs]at hi;obtain⟨hn,o,ho,_⟩:=hi
   have dC:i<ops.size:=by
    rcases A4i i ops.size with h|h
    ·exact h
    ·rw[A39 h]at ho;cases ho
   exact hn ((hl i dC).2 dC)
  rw[A6n Ac]at h;exact⟨gK,env,σ,g,hx,hg,h⟩
 |succ fuel ih=>
  intro i0 aB w g a env σ h1 h2 hs hl hf h hg hx;by_cases bL:i0=ops.size
  ·subst bL;rw[A6n Ac]at h;refine⟨λ_=>⟨env,σ,g,hx,hg,h⟩,λi hi=>?_⟩;rw[BR hs]at hi;obtain⟨hn,o,ho,_⟩:=hi
   have dC:i<ops.size:=by
    rcases A4i i ops.size with h|h
    ·exact h
    ·rw[A39 h]at ho;cases ho
   exact absurd ((hl i dC).2 dC) hn
  ·have aC:i0<ops.size:=Aa;have ho:ops[i0]?=some ops[i0]:=A23 aC
   have gA: ∀o,ops[i0]?=some o-> ∀e∈o.after,Region.binds .any e=true->Li aB e.on:=λo dE e he hb=>by
    have:=hD.edge i0 o dE e he hb;exact(hl _ Aa).2 this
   have cK:i0∈Region.ready .any ops aB:=by
    rw[BR hs];exact⟨λhc=>by have:=(hl i0 aC).1 hc;omega,ops[i0],ho,gA _ ho⟩
   refine⟨λbD=>by rw[bD]at cK;simp at cK,λi hi=>?_⟩;rw[BR hs]at hi;obtain⟨hn,o,dE,eO⟩:=hi
   have dK:i<ops.size:=by
    rcases A4i i ops.size with h|h
    ·exact h
    ·rw[A39 h]at dE;cases dE
   have eF:DC ops aB:=by
    intro j oj dA eR e he hb
    have hj:j<ops.size:=by
     rcases A4i j ops.size with h|h
     ·exact h
     ·rw[A39 h]at dA;cases dA
    have h1:=(hl j hj).1 eR;have h2:=hD.edge j oj dA e he hb;exact(hl _ Aa).2 Aa
   have nI:i=i0:=by
    rcases A8x i i0 with h'|h'|h'
    ·exact absurd ((hl i dK).2 h') hn
    ·exact h'
    ·have bC:=hD.tail i Aa dK i0 h';have:=Dk eF bC (λo2 d7=>by rw[dE]at d7;cases d7;exact eO);have:=(hl i0 aC).1 this;omega
   subst nI;rw[dE]at ho;cases ho
   have pX:ops.toList.drop i=ops[i]::ops.toList.drop (i+1):=by
    rw[A67 (by simpa using aC)];simp
   rw[pX]at h;simp only[A6]at h
   have cX: ∀j,j<ops.size->(Li (aB.setIfInBounds i true) j↔j<i+1):=by
    intro j hj;rw[E8 Aa,hl j hj];omega
   refine HK hF dE ?_;rcases Ib hg h with⟨hw,e9,h,hg⟩|⟨hw,e9,h,hg⟩
   ·refine .inl ⟨hw,?_⟩;refine h w g a hg.inv hg.env F hF _ _ ?_;rintro v w' ⟨x,e1,s1,⟨g',k1,k2,k3,k4⟩,e2,bB,h⟩;exact ih (i+1) Aa Aa (by simp[hs]) cX Aa h (Da bB ⟨k4,k3,hg.defers.ext k1,hg.size⟩ k2) (hx.trans k1)
   ·refine .inr ⟨hw,?_⟩;obtain⟨e2,bB,h⟩:=h;exact ih (i+1) Aa Aa (by simp[hs]) cX Aa h (Da bB hg (.t _ _ .undef)) hx
theorem Good.eqv {w:World} {g:G} {a:Act} {env env':A2} {σ σ':St} (hg:Good n w g a env σ) (he: ∀t,look env' t=look env t) (hs: ∀b,look σ' b=look σ b):Good n w g a env' σ':=by
 refine⟨λt x hx=>hg.env t x (by rw[<-he t];exact hx),⟨λb B hB=>hg.inv.ok b B (by rw[<-hs b];exact hB),λb=>by rw[hs b];exact hg.inv.dom b,hg.inv.inj,hg.inv.lt,λb hb=>by rw[hs b];exact hg.inv.bx b hb,hg.inv.dis,hg.inv.im,hg.inv.lo,hg.inv.sx.mono (WW _) rfl (λ_ _ _ h=>h) (λ_ _ _ _ _=>rfl) (λc aA h=>.inl ⟨c,h⟩) (λb L hL=>by rw[<-hs b];exact hL)⟩,hg.defers,hg.size⟩
theorem Dl {w:World} {g:G} {a:Act} {env:A2} {σ:St} (hg:Good n w g a env σ) {o:Oper} {b:Bool} (h:FR ops o env=some b):Region.wanted o (yielded ops a.tmps)=b:=by
 have key:Bt ops o env (λ_=>b=true) (λ_=>b=false):=by
  unfold FR at h;unfold Bt;split at h
  ·rename_i c9;rw[c9];simp at h;first|exact h|exact h.symm
  ·rename_i j want c9;rw[c9];simp only;split at h
   ·rename_i oj hj;simp only[hj];split at h
    ·rename_i d hd;simp only[hd];split at h
     ·rename_i p hp;simp only[hp];cases p<;>cases want<;>simp_all
     ·rename_i hp;rw[hp];simp at h;first|exact h|exact h.symm
     ·simp at h
    ·simp at h
   ·simp at h
 rcases Ib hg key with⟨h1,_,h2,_⟩|⟨h1,_,h2,_⟩
 ·rw[h1,h2]
 ·rw[h1,h2]
theorem Abo {F:Fence} (hF:Q3 F) (hp:ProgOk P c) (hD:DrawOk ops m) {K:Exit->A2->St->Prop} {w0:World} {g0:G} {e:A2} {s:St} (dY:A6 P n ops (ops.toList.drop m) e s (K .normal)):
  ∀(fuel:Nat) {aB:Array Bool} {rem:List Nat} {w:World} {g:G} {a:Act} {env:A2} {σ:St},aB.size=ops.size->DC ops aB->(∀i,m<=i->i<ops.size-> ¬Li aB i)->
  (∀i,i∈rem↔i<m/\ ¬Li aB i)->rem.Pairwise (· < ·)->rem.length+(ops.size-m)<=fuel->JM P c Ads n ops news rem env σ e s->Good n w g a env σ->Ext w0 g0 w g->
  wpAnyIn F 0 P .any ops (Cl n w0 g0 K) fuel aB a w:=by
 intro fuel
 induction fuel with
 |zero=>
  intro aB rem w g a env σ hs eF dU aZ aS hf aT hg hx;have bD:rem=[]:=Aq1 Aa;subst bD;refine FM hF hD 0 m (WW _) hD.le hs (λi hi=>⟨λh=>?_,λh=>?_⟩) Aa dY (hg.eqv aT.1 aT.2) hx
  ·exact Ya λhc=>dU i Aa hi h
  ·exact Ya λhc=>by have:=(aZ i).2 ⟨h,hc⟩;simp at this
 |succ fuel ih=>
  intro aB rem w g a env σ hs eF dU aZ aS hf aT hg hx;by_cases bD:rem=[]
  ·subst bD;refine FM hF hD (fuel+1) m (WW _) hD.le hs (λi hi=>⟨λh=>?_,λh=>?_⟩) (by simp at hf;omega) dY (hg.eqv aT.1 aT.2) hx
   ·exact Ya λhc=>dU i Aa hi h
   ·exact Ya λhc=>by have:=(aZ i).2 ⟨h,hc⟩;simp at this
  ·obtain⟨i0,aD,rfl⟩: ∃i0 aD,rem=i0::aD:=A6r bD;have hm:=hD.le;obtain⟨dT,dB⟩:=(aZ i0).1 Ac
   have cW: ∀j,j<i0->Li aB j:=λj hj=>Ya λhc=>by
    have:=(aZ j).2 ⟨Aa,hc⟩;simp at this;rcases this with h'|h'
    ·omega
    ·have:=(A2x.1 aS).1 j h';omega
   have fQ:ops[i0]?=some ops[i0]:=A23 Aa
   have cK:i0∈Region.ready .any ops aB:=by
    rw[BR hs];exact⟨dB,ops[i0],fQ,λe he hb=>cW _ (hD.edge i0 _ fQ e he hb)⟩
   refine⟨λbD=>by rw[bD]at cK;simp at cK,λi hi=>?_⟩;rw[BR hs]at hi;obtain⟨hn,o,ho,hr⟩:=hi
   have dK:i<ops.size:=by
    rcases A4i i ops.size with h|h
    ·exact h
    ·rw[A39 h]at ho;cases ho
   have eO: ∀o2,ops[i]?=some o2-> ∀e∈o2.after,Region.binds .any e=true->Li aB e.on:=λo2 d7=>by rw[ho]at d7;cases d7;exact hr
   have iR:i<m:=Ya λhc=>dB (Dk eF (hD.tail i Aa dK i0 Aa) eO);have eZ:i∈i0::aD:=(aZ i).2 ⟨iR,hn⟩;obtain⟨l1,l2,bY⟩:=A7y eZ;rw[bY]at aT aS aZ hf;have aC: ∀j∈l1,j<i:=λj hj=>(A22.1 aS).2.2 j hj i Ac;have hO: ∀j∈l2,i<j:=λj hj=>(A2x.1 (A22.1 aS).2.1).1 j hj
   have hb:=W3 NL ho (l1:=l1) (l2:=l2) (λj hj=>by
    obtain⟨qR,jA⟩:=(aZ j).1 (by simp[hj]);have dA:ops[j]?=some ops[j]:=A23 Aa;refine⟨ops[j],dA,?_⟩;rcases hD.head i o iR ho j ops[j] (aC j hj) dA with h'|h'
    ·exact absurd (Dk eF h' eO) jA
    ·exact h') aT
   obtain⟨o2,y,nb,e1,s1,q1,q2,q3,q4,q5⟩:=hb;rw[ho]at q1;cases q1
   have eV: ∀j,j∈l1++l2↔j<m/\ ¬Li (aB.setIfInBounds i true) j:=by
    intro j;rw[E8 Aa];have hj:=aZ j;constructor
    ·intro dJ
     have aE:j≠i:=by
      rcases A25.1 dJ with h'|h'
      ·have:=aC j h';omega
      ·have:=hO j h';omega
     have:=hj.1 (by rcases A25.1 dJ with h'|h'<;>simp[h']);exact⟨this.1,λhc=>by rcases hc with h'|h';exact aE h';exact this.2 h'⟩
    ·rintro⟨h1,h2⟩;have aE:j≠i:=λe=>h2 (.inl e);have:=hj.2 ⟨h1,λhc=>h2 (.inr hc)⟩;simp at this⊢;rcases this with h'|h'|h'
     ·exact .inl h'
     ·exact absurd h' aE
     ·exact .inr h'
   have dP:(l1++l2).Pairwise (· < ·):=by
    refine A22.2 ⟨(A22.1 aS).1,(A2x.1 (A22.1 aS).2.1).2,λx hx y hy=>?_⟩;have:=aC x hx;have:=hO y hy;omega
   have gR: ∀j,m<=j->j<ops.size-> ¬Li (aB.setIfInBounds i true) j:=λj hj nH hc=>by
    rw[E8 Aa]at hc;rcases hc with h'|h'
    ·omega
    ·exact dU j hj nH h'
   have eA: ∀{w':World} {g':G} {a':Act} {env':A2} {σ':St},(∀t,look env' t=look e1 t)->(∀b,look σ' b=look s1 b)->Good n w' g' a' env' σ'->Ext w0 g0 w' g'->
     wpAnyIn F 0 P .any ops (Cl n w0 g0 K) fuel (aB.setIfInBounds i true) a' w':=by
    intro w' g' a' env' σ' bM cC fA eC;exact ih (by simp[hs]) (eF.set Aa eO) gR eV dP (by simp at hf⊢;omega) (q5.congr NL (λt=>(bM t).symm) (λb=>(cC b).symm)) fA eC
   have cM: ∀{w':World} {g':G} {v:Value} {σ':St},Good n w' g' a env σ'->Rel w' g' v y->(∀b,look σ' b=look s1 b)->Ext w0 g0 w' g'->
     wpAnyIn F 0 P .any ops (Cl n w0 g0 K) fuel (aB.setIfInBounds i true) (a.put o.dst v) w':=by
    intro w' g' v σ' fA aJ cC eC
    cases hd:o.dst with
    |none=>
     refine eA (env':=env) (λt=>?_) cC fA eC;rw[q4.1 t,hd];simp
    |some d=>
     have aC:=q3.1 d hd
     have bB:BM n (some d) y env=some ((d,y)::env):=by
      simp only[BM];have:Nat.blt d n=true:=by simpa[A6i]using aC
      rw[this]
     refine eA (env':=(d,y)::env) (λt=>?_) cC (Da bB fA aJ) eC;rw[q4.1 t,hd,Ap];simp
   refine HK hF ho ?_;rcases q3.2 with⟨_,iH,_⟩|⟨hw,cf,fB,cL⟩|⟨hw,hy,c8⟩
   ·exact iH.elim
   ·refine .inl ⟨Dl hg hw,?_⟩;refine GY hp fB hg.inv hg.env cL F hF _ _ ?_;rintro v w' ⟨g',k1,k2,k3,k4⟩;exact cM (σ':=nb++σ) ⟨k4,k3,hg.defers.ext k1,hg.size⟩ k2 (λb=>(q4.2 b).symm) (hx.trans k1)
   ·refine .inr ⟨Dl hg hw,?_⟩;subst hy;subst c8;exact cM (σ':=σ) hg (.t _ _ .undef) (λb=>(q4.2 b).symm) hx
end
end Go.Am
namespace Go.Am
def FO:List Oper->List Nat
 |[]=>[]
 |o::r=>C1 o++FO r
def VV (t:Nat):List Oper->Option Operand
 |[]=>none
 |o::r=>match o.dst with
  |some d=>(match Nat.beq d t with
   |true=>(match o.op with
    |.move y=>some y
    |.assign y=>some y
    |_=>none)
   |false=>VV t r)
  |none=>VV t r
def A0k (ops:List Oper) (x:Operand):Operand:=
 match x with
 |.tmp t=>(match VV t ops with
  |some y=>y
  |none=>x)
 |_=>x
def OL (ops:List Oper) (env:A2):List Oper->List AV
 |[]=>[]
 |o::r=>match o.op with
  |.slice _ x _ _ (some _)=>(match ev env (A0k ops x)with
   |some y=>y::OL ops env r
   |none=>OL ops env r)
  |_=>OL ops env r
def regFrz (ops:Array Oper) (env:A2) (σ:St):A2×St:=
 match OL ops.toList env ops.toList with
 |[]=>(env,σ)
 |y::r=>(EC σ (y::r) env σ).2
def CG (P:Program) (c:Conf) (n:Nat) (ops:Array Oper) (news:List Nat):List Oper->A2->St->(A2->St->Prop)->Prop
 |[],env,σ,K=>K env σ
 |o::aD,env,σ,K=>Bt ops o env (λenv=> ∃cf x nb,O1 P cf/\Cz c cf news o env σ=some (x,nb)/\RQ n o.dst x env λe2=>CG P c n ops news aD e2 (nb++σ) K)
   (λenv=>RQ n o.dst (.t .undef) env λe2=>CG P c n ops news aD e2 σ K)
def Aq6 (P:Program) (c:Conf) (n:Nat) (ops:Array Oper) (draw:Bool) (env:A2) (σ:St) (K:A2->St->Prop):Prop:=
 match draw with
 |true=>(match Mv ops with
  |some m=>CG P c n ops (FO (ops.toList.take m)) (ops.toList.take m) env σ (λenv σ=>A6 P n ops (ops.toList.drop m) env σ K)
  |none=>False)
 |false=>A6 P n ops ops.toList env σ K
def Gb (P:Program) (c:Conf) (n:Nat):Code->A2->St->(Exit->A2->St->Prop)->Prop
 |.skip,env,σ,K=>K .normal env σ
 |.region _ ops draw,env,σ,K=>Aq6 P c n ops draw (regFrz ops env σ).1 (regFrz ops env σ).2 (K .normal)
 |.seq a b,env,σ,K=>Gb P c n a env σ (λex env σ=>match ex with
  |.normal=>Gb P c n b env σ K
  |ex=>K ex env σ)
 |.cond x a b,env,σ,K=> ∃p,ev env x=some (.t (.bool p))/\(p=true->Gb P c n a env σ K)/\(p=false->Gb P c n b env σ K)
 |.block id b,env,σ,K=>Gb P c n b env σ (λex env σ=>match ex with
  |.exit i=>(match Nat.beq i id with
   |true=>K .normal env σ
   |false=>K (.exit i) env σ)
  |ex=>K ex env σ)
 |.loop b,env,σ,K=>Tr P n (.loop b) env σ K
 |.exit id,env,σ,K=>K (.exit id) env σ
 |.ret,env,σ,K=>K .ret env σ
 |_,_,_,_=>False
section
variable {P:Program} {c:Conf} {cf:Nat->List AV->St->Option (AV×St)} {R:Type}
theorem Kk {o:Oper}: ∀{l:List Oper},o∈l-> ∀b∈C1 o,b∈FO l
 |[],h,_,_=>by simp at h
 |x::r,h,b,hb=>by
  simp only[FO,A25];simp at h;rcases h with rfl|h
  ·exact .inl hb
  ·exact .inr (Kk h b hb)
theorem GA {n:Nat} {dst:Option Nat} {x:AV} {env aV env2:A2} (h:BM n dst x aV=some env2) (he: ∀t,look aV t=look env t):Ang n dst/\ ∀t,look env2 t=if dst=some t then some x else look env t:=by
 unfold BM at h;split at h
 ·rename_i d;split at h
  ·rename_i hb;simp at h;subst h;refine⟨λd' nN=>(by injection nN with nN;subst nN;simpa[A6i]using hb),λt=>?_⟩;rw[Ap,he t];simp
  ·simp at h
 ·simp at h;subst h;exact⟨λd hd=>(by cases hd),λt=>by simp[he t]⟩
theorem Lv {alt:Oper->A2->Prop} {n:Nat} {ops:Array Oper} {news:List Nat} {K:A2->St->Prop}: ∀(l:List Oper) (i0:Nat),(∀j,j<l.length->l[j]?=ops[i0+j]?)->(∀o∈l,∀b∈C1 o,b∈news)-> ∀{env:A2} {σ:St},
  CG P c n ops news l env σ K-> ∃e s,JM P c alt n ops news (List.range' i0 l.length) env σ e s/\K e s
 |[],i0,_,_,env,σ,h=>⟨env,σ,⟨λ_=>rfl,λ_=>rfl⟩,h⟩
 |o::aD,i0,hl,hn,env,σ,h=>by
  simp only[CG]at h;have ho:ops[i0]?=some o:=by have:=hl 0 Ac;simpa using this.symm
  have cX: ∀j,j<aD.length->aD[j]?=ops[i0+1+j]?:=λj hj=>by
   have:=hl (j+1) (by simp;exact hj);simp at this;rw[this];congr 1;omega
  have iO: ∀o∈aD,∀b∈C1 o,b∈news:=λx hx=>hn x (by simp[hx]);obtain⟨aV,bM,hc⟩:=JN h;rcases hc with⟨hw,cf,x,nb,fB,cL,env2,bB,h⟩|⟨hw,env2,bB,h⟩
  ·obtain⟨e,s,h1,h2⟩:=Lv aD (i0+1) cX iO h;obtain⟨p1,p2⟩:=GA bB bM;refine⟨e,s,⟨o,x,nb,env2,nb++σ,ho,hn o Ac,⟨p1,.inr (.inl ⟨hw,cf,fB,?_⟩)⟩,⟨p2,λ_=>rfl⟩,h1⟩,h2⟩;rw[<-cL];exact Ex (DD (ops:=ops) λt _=>(bM t).symm) (λ_ _=>rfl) (λ_ _=>rfl)
  ·obtain⟨e,s,h1,h2⟩:=Lv aD (i0+1) cX iO h;obtain⟨p1,p2⟩:=GA bB bM;exact⟨e,s,⟨o,.t .undef,[],env2,σ,ho,hn o Ac,⟨p1,.inr (.inr ⟨hw,rfl,rfl⟩)⟩,⟨p2,λ_=>rfl⟩,h1⟩,h2⟩
theorem Ext.drew (w:World) (g:G):Ext w g {w with drawn:=w.drawn+1} g:=⟨WW _,λ_ _ _=>rfl,λ_ _ h=>h,λ_ _=>A6h,λ_ _ h=>h,λ_ h=>⟨h,rfl⟩,⟨rfl,rfl,rfl⟩,Hu (λ_ _ _ _ h=>h) (λ_ _ _ _ _=>rfl)⟩
theorem Good.drew {n:Nat} {w:World} {g:G} {a:Act} {env:A2} {σ:St} (hg:Good n w g a env σ):Good n {w with drawn:=w.drawn+1} g a env σ:=by
 have hr: ∀v x,Rel w g v x->Rel {w with drawn:=w.drawn+1} g v x:=λv x h=>h.mono (Ext.drew w g).keeps (λ_ _ h=>h) (λ_ _ h=>h);exact⟨hg.env.mono hr,⟨λb B hB=>Fh.mono (w:=w) (g:=g) rfl (λ_ _ h=>h) (λ_ _=>rfl) hr (hg.inv.ok b B hB),hg.inv.dom,hg.inv.inj,hg.inv.lt,hg.inv.bx,hg.inv.dis,hg.inv.im_of (Ext.drew w g).keeps,hg.inv.lo,hg.inv.sx.mono (WW _) rfl (λ_ _ _ h=>h) (λ_ _ _ _ _=>rfl) (λc aA h=>.inl ⟨c,h⟩) (λb L hL=>hL)⟩,hg.defers.ext (Ext.drew w g),hg.size⟩
theorem Sg {w:World} {g:G} {a:Act} {env:A2} (he:AQ w g a env) (ops:List Oper): ∀l:List Oper,∃vs,BB w g vs (OL ops env l)
 |[]=>⟨[],BB.nil⟩
 |o::r=>by
  obtain⟨vs,h⟩:=Sg he ops r;unfold OL;split
  ·split
   ·rename_i y hy;exact⟨_,A3k (AF he hy) h⟩
   ·exact⟨vs,h⟩
  ·exact⟨vs,h⟩
theorem Fl {n:Nat} {w:World} {g:G} {a:Act} {env env':A2} {σ σ':St} {ops:Array Oper} (h:regFrz ops env σ=(env',σ')) (hg:Good n w g a env σ): ∃g',Ext w g w g'/\Good n w g' a env' σ':=by
 unfold regFrz at h;obtain⟨vs,hr⟩:=Sg hg.env ops.toList ops.toList;split at h
 ·simp at h;obtain⟨rfl,rfl⟩:=h;exact⟨g,A3h _ _,hg⟩
 ·rename_i y r hm;rw[hm]at hr;obtain⟨g',k1,k2,_,k3⟩:=Df (w:=w) σ (as:=y::r) (as':=(EC σ (y::r) env σ).1) (env':=env') (σ':=σ') (by rw[<-h]) hg.inv hr hg.env;exact⟨g',k1,⟨k3,k2,hg.defers.ext k1,hg.size⟩⟩
theorem Fd (hp:ProgOk P c) {n:Nat}: ∀(code:Code) {K:Exit->A2->St->Prop} {env:A2} {σ:St},Gb P c n code env σ K->Tr P n code env σ K
 |.skip,K,env,σ,h,F,hF,bP,w,g,a,hg=>by
  simp only[Gb]at h;exact wpIn_skip ⟨env,σ,g,A3h _ _,hg,h⟩
 |.region id ops draw,K,e9,σ0,h,F,hF,bP,w,g0,a,lL=>by
  simp only[Gb]at h;obtain⟨g,hx,hg⟩:=Fl (env':=(regFrz ops e9 σ0).1) (σ':=(regFrz ops e9 σ0).2) rfl lL;generalize(regFrz ops e9 σ0).1=env at h hg;generalize(regFrz ops e9 σ0).2=σ at h hg;refine A5d ?_ λex a2 w2 (hq:Cl n w g K ex a2 w2)=>hq.lift hx;unfold Aq6 at h;split at h
  ·split at h
   ·rename_i m hm;have hD:=L4 hm;obtain⟨e,s,h1,h2⟩:=Lv (ops.toList.take m) 0 (λj hj=>by simp at hj;rw[Aoy,WU Aa,Agx,Atj]) (λo ho=>Kk ho) h
    ·refine A7j hp.mix ?_;have aO:(ops.toList.take m).length=m:=by have:=hD.le;simp;omega
     rw[aO]at h1;refine Abo hF hp hD h2 ops.size Ac (λi o ho hl=>?_) (λi h1 h2 hl=>?_) (rem:=List.range' 0 m) (λi=>?_) A7g (by simp;have:=hD.le;omega) h1 (hg.drew) (Ext.drew w g)
     ·simp[Li,A4w]at hl
     ·simp[Li,A4w]at hl
     ·simp[Li,A4w,A72]
   ·exact h.elim
  ·exact wpIn_region_list (MS hF ops.toList h hg (A3h _ _))
 |.seq x y,K,env,σ,h,F,hF,bP,w,g,a,hg=>by
  simp only[Gb]at h;refine wpIn_seq (A5d (Fd hp x h F hF bP.seq.1 w g a hg) ?_);rintro ex a' w' ⟨env',σ',g',h1,h2,h3⟩
  cases ex with
  |normal=>exact A5d (Fd hp y h3 F hF bP.seq.2 w' g' a' h2) λex a2 w2 hq=>hq.lift h1
  |exit id=>exact⟨env',σ',g',h1,h2,h3⟩
  |goto l=>exact⟨env',σ',g',h1,h2,h3⟩
  |ret=>exact⟨env',σ',g',h1,h2,h3⟩
  |panic ch=>exact⟨env',σ',g',h1,h2,h3⟩
  |outgrown=>exact⟨env',σ',g',h1,h2,h3⟩
 |.cond x y z,K,env,σ,h,F,hF,bP,w,g,a,hg=>by
  simp only[Gb]at h;obtain⟨p,hb,ht,hf⟩:=h;have hv:=Gm (AF hg.env hb)
  cases p with
  |true=>exact wpIn_cond_true hv (Fd hp y (ht rfl) F hF bP.cond.1 w g a hg)
  |false=>exact wpIn_cond_false hv (Fd hp z (hf rfl) F hF bP.cond.2 w g a hg)
 |.block id b,K,env,σ,h,F,hF,bP,w,g,a,hg=>by
  simp only[Gb]at h;refine wpIn_block (A5d (Fd hp b h F hF bP.block w g a hg) ?_);rintro ex a' w' ⟨env',σ',g',h1,h2,h3⟩
  cases ex with
  |normal=>exact⟨env',σ',g',h1,h2,h3⟩
  |exit i=>
   simp only[Exit.inBlock];by_cases e:i=id
   ·subst e;simp at h3⊢;exact⟨env',σ',g',h1,h2,h3⟩
   ·simp only[CF e]at h3;simp only[Ug e];exact⟨env',σ',g',h1,h2,h3⟩
  |goto l=>exact⟨env',σ',g',h1,h2,h3⟩
  |ret=>exact⟨env',σ',g',h1,h2,h3⟩
  |panic ch=>exact⟨env',σ',g',h1,h2,h3⟩
  |outgrown=>exact⟨env',σ',g',h1,h2,h3⟩
 |.loop b,K,env,σ,h,F,hF,bP,w,g,a,hg=>h F hF bP w g a hg
 |.exit id,K,env,σ,h,F,hF,bP,w,g,a,hg=>by
  simp only[Gb]at h;exact wpIn_exit ⟨env,σ,g,A3h _ _,hg,h⟩
 |.ret,K,env,σ,h,F,hF,bP,w,g,a,hg=>by
  simp only[Gb]at h;exact wpIn_ret ⟨env,σ,g,A3h _ _,hg,h⟩
 |.rangeFunc ..,K,env,σ,h,F,hF,bP,w,g,a,hg=>by simp[Gb]at h
 |.scope _,K,env,σ,h,F,hF,bP,w,g,a,hg=>by simp[Gb]at h
 |.label _,K,env,σ,h,F,hF,bP,w,g,a,hg=>by simp[Gb]at h
 |.goto _,K,env,σ,h,F,hF,bP,w,g,a,hg=>by simp[Gb]at h
 |.refuse _,K,env,σ,h,F,hF,bP,w,g,a,hg=>by simp[Gb]at h
theorem PE {F:Fence} {b:Code} {Q:Exit->Act->World->Prop}: ∀{n m:Nat},n<=m-> ∀{a:Act} {w:World},Code.roundsIn F 0 P b Q n a w->Code.roundsIn F 0 P b Q m a w
 |0,_,_,a,w,h=>h.elim
 |n+1,0,cJ,a,w,h=>Aa
 |n+1,m+1,cJ,a,w,h=>by
  rw[roundsIn_succ]at h⊢;refine A5d h λex a' w' hq=>?_
  cases ex with
  |normal=>exact PE Aa hq
  |exit id=>exact hq
  |goto l=>exact hq
  |ret=>exact hq
  |panic ch=>exact hq
  |outgrown=>exact hq
theorem Tr.rounds {F:Fence} (hF:Q3 F) {n:Nat} {b:Code} (bP:RF F b) {K:Exit->A2->St->Prop} {I:Nat->A2->St->Prop}
  (gE: ∀m env σ,I m env σ->Tr P n b env σ (λex e s=>match ex with
   |.normal=> ∃m',m'<m/\I m' e s
   |ex=>K ex e s)): ∀(m:Nat) {env:A2} {σ:St} {w:World} {g:G} {a:Act} {w0:World} {g0:G},I m env σ->Good n w g a env σ->Ext w0 g0 w g->Code.roundsIn F 0 P b (Cl n w0 g0 K) (m+1) a w:=by
 intro m
 induction m using Nat.strongRecOn with
 |ind m ih=>
  intro env σ w g a w0 g0 hI hg hx;rw[roundsIn_succ];refine A5d (gE m env σ hI F hF bP w g a hg) ?_;rintro ex a' w' ⟨env',σ',g',h1,h2,h3⟩
  cases ex with
  |normal=>
   obtain⟨m',aC,hI'⟩:=h3;have:=ih m' aC hI' h2 (hx.trans h1);exact PE Aa this
  |exit id=>exact⟨env',σ',g',hx.trans h1,h2,h3⟩
  |goto l=>exact⟨env',σ',g',hx.trans h1,h2,h3⟩
  |ret=>exact⟨env',σ',g',hx.trans h1,h2,h3⟩
  |panic ch=>exact⟨env',σ',g',hx.trans h1,h2,h3⟩
  |outgrown=>exact⟨env',σ',g',hx.trans h1,h2,h3⟩
theorem Tr.loop {n:Nat} {b:Code} {K:Exit->A2->St->Prop} (I:Nat->A2->St->Prop) {env:A2} {σ:St} (m:Nat) (h0:I m env σ)
  (gE: ∀m env σ,I m env σ->Tr P n b env σ (λex e s=>match ex with
   |.normal=> ∃m',m'<m/\I m' e s
   |ex=>K ex e s)):Tr P n (.loop b) env σ K:=
 λF hF bP w g a hg=>wpIn_loop_rounds (m+1) (Tr.rounds hF bP.loop gE m h0 hg (A3h _ _))
theorem Rel.lo {w:World} {g:G} {v:Value} {x:AV} (n:Nat) (h:Rel w g v x):Rel w {g with lo:=n} v x:=
 Rel.mono (w:=w) (w':=w) (g:=g) (g':={g with lo:=n}) (λ_ _ _ h1 h2=>⟨h1,h2⟩) (λ_ _ h=>h) (λ_ _ h=>h) h
theorem Inv.setLo {w:World} {g:G} {σ:St} (n:Nat) (hn:n<=w.heap.size) (h:Inv w g σ):Inv w {g with lo:=n} σ:=
 ⟨λb B hB=>Fh.mono (w:=w) (g:=g) (g':={g with lo:=n}) rfl (λ_ _ h=>h) (λ_ _=>rfl) (λ_ _ hr=>hr.lo n) (h.ok b B hB),h.dom,h.inj,h.lt,h.bx,h.dis,h.im,hn,h.sx.mono (WW _) rfl (λ_ _ _ h=>h) (λ_ _ _ _ _=>rfl) (λc aA h=>.inl ⟨c,h⟩) (λb L hL=>hL)⟩
theorem WX {w:World} {D:Nat} {ds:Option (List Deferred)} (hD:w.heap[D]?=some (.deferred ds)) (o:Obj) {g:G} {v:Value} {x:AV} (h:Rel w g v x):Rel (w.putObj D o) g v x:=by
 refine h.mono (λb off u h1 h2=>⟨h1,?_⟩) (λ_ _ h=>h) (λb p hp=>?_)
 ·have aE:b≠D:=λe=>by subst e;simp[World.cell?,hD]at h2
  rw[Ch (A29 aE)];exact h2
 ·have aE:b≠D:=λe=>by subst e;simp[World.shape?,hD]at hp
  simp only[World.shape?,A29 aE]at hp⊢;exact hp
theorem Ajp {w:World} {D:Nat} {ds:Option (List Deferred)} (hD:w.heap[D]?=some (.deferred ds)) (o:Obj) {g:G} {σ:St} (h:Inv w g σ):Inv (w.putObj D o) g σ:=by
 refine⟨λb B hB=>?_,h.dom,h.inj,λaA hb=>by rw[A5x];exact h.lt aA hb,h.bx,h.dis,λp hp=>⟨(h.im p hp).1,by
  have hc:=(h.im p hp).2;have aE:p.1≠D:=λe=>by rw[e]at hc;simp[World.cell?,hD]at hc
  rw[Ch (A29 aE)];exact hc⟩,by rw[A5x];exact h.lo,⟨λaA e he=>by rw[A5x];exact h.sx.lt aA e he,h.sx.bs,h.sx.one,λb L hL=>?_⟩⟩
 rotate_left 1
 ·obtain⟨k1,k2⟩:=h.sx.ok b L hL;refine⟨k1,λp hp=>?_⟩;obtain⟨q1,q2,vs,ty,q3,q4⟩:=k2 p hp;have aE:p.1≠D:=λe=>by rw[e,hD]at q3;cases q3
  exact⟨q1,q2,vs,ty,by rw[A29 aE];exact q3,q4⟩
 have bA:=h.ok b B hB;refine bA.mono rfl (λ_ _ h=>h) (λaA hb=>A29 λe=>?_) (λ_ _ hr=>WX hD o hr);subst e
 cases B with
 |cells cs=>obtain⟨aX,vs,e,h1,h2,h3,_⟩:=bA;rw[h1]at hb;cases hb;rw[hD]at h3;cases h3
 |grow sz es=>
  rcases bA.2 with⟨h1,_⟩|⟨aX,vs,e,h1,h2,h3,_⟩
  ·rw[h1]at hb;cases hb
  ·rw[h1]at hb;cases hb;rw[hD]at h3;cases h3
 |rights L=>have h1:g.β b=some none:=bA;rw[h1]at hb;cases hb
 |loop l st pe ps asg bd n env=>obtain⟨r,h1,h2,h3,_⟩:=bA;rw[h1]at hb;cases hb;rw[hD]at h3;cases h3
 |mp ks xs=>obtain⟨aX,es,clk,h1,h2,h3,_⟩:=bA;rw[h1]at hb;cases hb;rw[hD]at h3;cases h3
theorem PV {fn:Func} {tmps:Array Value} {Rr:Ending->World->Prop} {F:Fence} {w0:World} {g0:G} (h0:g0.lo=w0.heap.size) {n:Nat} {env:A2} {σ:St} {g:G}: ∀(Ds:List Nat) {w:World},Ds.Nodup->
  (∀D∈Ds,w.heap[D]?=some (.deferred (some []))/\g.lo<=D)->Ext w0 g0 w g->AQ w g ⟨tmps,[]⟩ env->Inv w g σ->n<=tmps.size->
  (∀w':World,Ext w0 g0 w' g->Good n w' g ⟨tmps,[]⟩ env σ-> ∃v,(results fn tmps).run P w'=.ok v w'/\Rr (.returned v) w')->
  LeavesInM F 0 P fn tmps Rr (Ds.map (λD=>({target:=.collected D,args:= #[]}:Deferred))) .returning w
 |[],w,_,_,hx,he,hi,hn,hk=>hk w hx ⟨he,hi,HJ.nil,hn⟩
 |D::r,w,gI,hm,hx,he,hi,hn,hk=>by
  obtain⟨m1,m2⟩:=hm D Ac;have eT:=hx.lo.1;refine⟨Ac,.inl ⟨D,_,rfl,run_takeDeferred m1,?_⟩⟩;refine PV h0 r (A7w.1 gI).2 (λE hE=>?_) ?_ (λt x ht=>WX m1 _ (he t x ht)) (Ajp m1 _ hi) hn hk
  ·have aE:E≠D:=λe=>(A7w.1 gI).1 (e▸hE);obtain⟨k1,k2⟩:=hm E (by simp[hE]);exact⟨by rw[A29 aE];exact k1,k2⟩
  ·have dN:w0.heap.size<=D:=by rw[<-h0,<-eT];exact m2
   refine⟨by rw[A5x];exact hx.size,λaA hb ho=>?_,hx.own,hx.oth,λb p hp=>?_,hx.bx,hx.lo,λaA e hb ho he=>?_⟩
   ·rw[A29 Aa];exact hx.keep aA hb ho
   ·have hq:=hx.shape b p hp;have aE:b≠D:=λe=>by subst e;simp[World.shape?,m1]at hq
    simp only[World.shape?,A29 aE]at hq⊢;exact hq
   ·obtain⟨a1,a2⟩:=hx.sp aA e hb ho he;exact⟨λo aC=>by rw[Ch (A29 Aa)];exact a1 o aC,a2⟩
theorem Jd {f:Nat} {fn:Func} (hf:P.funcs[f]?=some fn) {code:Code} (hb:fn.body=some code) {as:List AV} {σ:St} {K:Exit->A2->St->Prop} (cJ:Nat.ble as.length fn.ntmps=true)
  (h:Tr P fn.ntmps code (H7 0 as) σ K) {vs:List Value} {w:World} {g:G} (hr:BB w g vs as) (hi:Inv w g σ) {Rr:Ending->World->Prop}
  (lM: ∀ex a' w' g' env' σ',Ext w g w' g'->Good fn.ntmps w' g' a' env' σ'->K ex env' σ'->(ex=.normal\/ex=.ret)/\ ∃v,(results fn a'.tmps).run P w'=.ok v w'/\Rr (.returned v) w'):
  Calls P f vs.toArray w Rr:=by
 have aO:as.length<=fn.ntmps:=by simpa using cJ
 have hg:Good fn.ntmps w {g with lo:=w.heap.size} {tmps:=vs.toArray++Array.replicate (fn.ntmps-vs.toArray.size) undef,defers:=[]} (H7 0 as) σ:=by
  refine⟨λt x hx=>?_,hi.setLo _ (WW _),HJ.nil,by simp;have:=hr.1;omega⟩;obtain⟨_,h2⟩:=SF as 0 t x hx;simp at h2;have aC:=Bu h2;have hv:vs[t]?=some (vs[t]'(by rw[hr.1];exact aC)):=Kv _
  have e:(vs.toArray++Array.replicate (fn.ntmps-vs.toArray.size) undef).getD t undef=vs[t]'(by rw[hr.1];exact aC):=by
   rw[A5b,A4a (by simp;rw[hr.1];exact aC)];simp only[A7k,hv,A81]
  rw[e];exact(hr.2 t _ x hv h2).lo _
 refine(callsIn_wide (n:=0)).1 (callsIn_of_wp_marks hf hb trivial (A5d (h Fence.wide (.inl rfl) (.inl rfl) w _ _ hg) ?_));rintro ex a' w' ⟨env',σ1,g',h1,h2,h3⟩
 have back: ∀w2,Ext w {g with lo:=w.heap.size} w2 g'->Ext w g w2 {g' with lo:=g.lo}:=λw2 hx=>⟨hx.size,hx.keep,hx.own,hx.oth,hx.shape,hx.bx,⟨rfl,hx.lo.2⟩,hx.sp⟩
 have eL:ex=.normal\/ex=.ret:=(lM ex ⟨a'.tmps,[]⟩ w' {g' with lo:=g.lo} env' σ1 (back _ h1) ⟨λt x ht=>(h2.env t x ht).lo _,h2.inv.setLo _ (A47 hi.lo h1.size),HJ.nil,h2.size⟩ h3).1;obtain⟨Ds,d1,d2,d3⟩:=h2.defers
 have hl:=PV (P:=P) (fn:=fn) (tmps:=a'.tmps) (Rr:=Rr) (F:=Fence.wide) (w0:=w) (g0:={g with lo:=w.heap.size}) rfl (n:=fn.ntmps) (env:=env') (σ:=σ1) (g:=g') Ds (w:=w') d2 (λD hD=>⟨(d3 D hD).1,(d3 D hD).2.2⟩) h1 h2.env h2.inv h2.size
  (λw2 hx c9=>(lM ex ⟨a'.tmps,[]⟩ w2 {g' with lo:=g.lo} env' σ1 (back _ hx) ⟨λt x ht=>(c9.env t x ht).lo _,c9.inv.setLo _ (A47 hi.lo hx.size),HJ.nil,c9.size⟩ h3).2)
 rw[<-d1]at hl;rcases eL with rfl|rfl
 ·exact hl
 ·exact hl
def Ct (P:Program) (f:Nat) (as:List AV) (σ:St) (r:AV) (σ':St):Prop:=
 (∃fn,P.funcs[f]?=some fn/\fn.body.isSome=true)/\Aoo P f as σ r σ'
def Aq (x y:AV):Prop:= ∀w g v,Rel w g v x->Rel w g v y
theorem A3l (x:AV):Aq x x:=λ_ _ _ h=>h
end
