/- Lemmas toward the law; each names its conditions. -/
import Derived.Test.YtppffhlbcgpgdaaGreatDoorYN3
set_option linter.all false
namespace Go.Am
section
variable {P:Program} {c:Conf} {n m:Nat} {ops:Array Oper} {news:List Nat} {ex:Nat->List Nat} {sl:List (Nat×Nat)}
def ET (sl:List (Nat×Nat)) (i:Nat) (o:Oper) (l:Nat):Prop:=l∈C1 o\/(i,l)∈sl
def Aiw (ω:List (Nat×Nat)) (σ2:St):Bool:=GB (Lq ω)&&(GB (KP ω)&&Anu ω σ2)
def Asj (P:Program) (c:Conf) (sl:List (Nat×Nat)) (i:Nat) (o:Oper) (env:A2) (σ:St) (y:AV) (nb:St):Prop:=
 ∃cf cl f as r σ2 ω,O1 P cf/\o.op=.call cl/\DG c env cl=some (f,as)/\ED as=true/\cf f as []=some (r,σ2)/\Aiw ω σ2=true/\(∀b∈KP ω,(i,b)∈sl/\look σ b=none)/\y=Dn (look ω) r/\nb=Ll ω σ2
mutual
theorem UE (f:Nat->Option Nat): ∀(x:AV),x.free=true->Dn f x=x
 |.t x,_=>rfl
 |.top,_=>rfl
 |.ref ..,h=>by simp[AV.free]at h
 |.eref ..,h=>by simp[AV.free]at h
 |.mref ..,h=>by simp[AV.free]at h
 |.row ..,h=>by simp[AV.free]at h
 |.iface t x,h=>by simp only[AV.free]at h;simp only[Dn,UE f x h]
 |.func fn x y,h=>by simp only[AV.free,Qp]at h;simp only[Dn,Ij f x h.1,Ij f y h.2]
 |.agg cs,h=>by simp only[AV.free]at h;simp only[Dn,Ij f cs h]
 |.tuple cs,h=>by simp only[AV.free]at h;simp only[Dn,Ij f cs h]
theorem Ij (f:Nat->Option Nat): ∀(l:List AV),ED l=true->Gq f l=l
 |[],_=>rfl
 |x::r,h=>by simp only[ED,Qp]at h;simp only[Gq,UE f x h.1,Ij f r h.2]
end
mutual
theorem QO {f:Nat->Option Nat} (hf: ∀b,f b=some b): ∀(x:AV),Dn f x=x
 |.t x=>rfl
 |.top=>rfl
 |.ref c o=>by simp[Dn,hf]
 |.eref c s k o=>by simp[Dn,hf]
 |.mref c=>by simp[Dn,hf]
 |.row c s l k=>by simp[Dn,hf]
 |.iface t x=>by simp only[Dn,QO hf x]
 |.func fn x y=>by simp only[Dn,LS hf x,LS hf y]
 |.agg cs=>by simp only[Dn,LS hf cs]
 |.tuple cs=>by simp only[Dn,LS hf cs]
theorem LS {f:Nat->Option Nat} (hf: ∀b,f b=some b): ∀(l:List AV),Gq f l=l
 |[]=>rfl
 |x::r=>by simp only[Gq,QO hf x,LS hf r]
end
theorem Ady {f:Nat->Option Nat} (hf: ∀b,f b=some b): ∀(l:A2),T3 f l=l
 |[]=>rfl
 |(t,x)::r=>by simp only[T3,QO hf x,Ady hf r]
theorem Aqu {f:Nat->Option Nat} (hf: ∀b,f b=some b) (B:Blk):Mj f B=B:=by
 cases B<;>simp[Mj,LS hf,Ady hf]
theorem Uv (σ:St): ∀s:St,KD [] σ s=s
 |[]=>rfl
 |(b,B)::r=>by
  have hk: ∀b,G3 [] σ b=some b:=λb=>by simp[G3,look]
  simp only[KD,look,Aqu hk,Uv σ r]
theorem Zf {σ:St}: ∀{ω:List (Nat×Nat)},(∀b∈KP ω,look σ b=none)->Ahp [] σ ω=true
 |[],_=>rfl
 |(c,b)::r,h=>by
  simp only[Ahp,look,h b (by simp[KP]),Zf (ω:=r) (λb' hb=>h b' (by simp[KP,hb]))];simp
theorem TS {P:Program} {c:Conf} {sl:List (Nat×Nat)} (hp:ProgOk P c) {i:Nat} {o:Oper} {w:World} {g:G} {a:Act} {env:A2} {σ:St} {y:AV} {nb:St} (hi:Inv w g σ) (he:AQ w g a env) (h:Asj P c sl i o env σ y nb):
  BN P o a w (λv w'=> ∃g',Ext w g w' g'/\Rel w' g' v y/\AQ w' g' a env/\Inv w' g' (nb++σ)):=by
 obtain⟨cf,cl,f,as,r,σ2,ω,fB,ho,hc,e6,hr,hw,hl,rfl,rfl⟩:=h;simp only[Aiw,Qp]at hw
 have hR:Ze [] ω σ σ2=true:=by
  simp only[Ze,Lq,GB,hw.1,hw.2.1,hw.2.2,Anv,Zf (λb hb=>(hl b hb).2),Bool.and_self]
 have hR:=QY hR;obtain⟨⟨fn,hf,hb⟩,hca⟩:=fB _ _ _ _ _ hr;obtain⟨vs,aM,aJ⟩:=Dc hp he hc ho hf hb;obtain⟨i1,i2⟩:=V1 hi hR;have lY:=aJ.ren (look []) i2;rw[Ij _ as e6]at lY;refine BN.enter aM ((hca vs w _ lY i1).mono ?_);rintro ed w' ⟨v,g1,rfl,q1,q2,q3⟩;obtain⟨g',k1,k2,k3,k4⟩:=Ng hi hR q1 q3;rw[Uv]at k2;have hk: ∀b,G3 [] σ b=some b:=λb=>by simp[G3,look]
 refine⟨v,rfl,g',k1,k3 v r q2,λt x hx=>?_,k2⟩;have:=k4 _ _ (he t x hx)
 rwa[QO hk]at this
theorem Fq: ∀{nb σ:St} {b:Nat},look (nb++σ) b=match look nb b with
  |some B=>some B
  |none=>look σ b
 |[],σ,b=>by simp[look]
 |(k,B)::r,σ,b=>by
  rw[A5n,Ap,Ap];split
  ·rfl
  ·exact Fq
def Z3 (P:Program) (c:Conf) (n:Nat) (ops:Array Oper) (news:List Nat) (ex:Nat->List Nat) (sl:List (Nat×Nat)) (i:Nat) (o:Oper) (env:A2) (σ:St) (y:AV) (nb:St):Prop:=
 Ang n o.dst/\
 ((FR ops o env=some true/\ ∃t so xo p x0 lab B0 B1,o.op=.store t so xo/\o.dst=none/\ev env so=some p/\ev env xo=some x0/\(i,lab)∈sl/\look σ lab=some B0/\(∀σ,look σ lab=some B0->F0 c.te t p x0 σ=some (upd σ lab B1))/\y=.top/\nb=[(lab,B1)])
 \/(FR ops o env=some true/\ ∃cf,O1 P cf/\Cz c cf (ex i++news) o env σ=some (y,nb))
 \/(FR ops o env=some false/\y=.t .undef/\nb=[])
 \/(FR ops o env=some true/\Asj P c sl i o env σ y nb))
theorem Z3.congr {i:Nat} {o:Oper} {env env':A2} {σ σ':St} {y:AV} {nb:St} (h:Z3 P c n ops news ex sl i o env σ y nb) (he: ∀t,t∈o.looksAt ops->look env t=look env' t)
  (hs: ∀b,b∉ex i++news->look σ b=look σ' b) (hn: ∀b,ET sl i o b->look σ b=look σ' b):Z3 P c n ops news ex sl i o env' σ' y nb:=by
 refine⟨h.1,?_⟩;rw[<-IP he];rcases h.2 with⟨h1,t,so,xo,p,x0,lab,B0,B1,q1,q2,q3,q4,q5,q6,q7,q8,q9⟩|⟨h1,cf,h2,h3⟩|h3|⟨h1,cf,cl,f,as,r,σ2,ω,w1,w2,w3,w4,w5,w6,w7,w8,w9⟩
 ·refine .inl ⟨h1,t,so,xo,p,x0,lab,B0,B1,q1,q2,?_,?_,q5,?_,q7,q8,q9⟩
  ·rw[<-DD he so (by rw[q1];simp[Op.operands])];exact q3
  ·rw[<-DD he xo (by rw[q1];simp[Op.operands])];exact q4
  ·rw[<-hn lab (.inr q5)];exact q6
 ·exact .inr (.inl ⟨h1,cf,h2,by rw[<-Ex (DD he) hs (λb hb=>hn b (.inl hb))];exact h3⟩)
 ·exact .inr (.inr (.inl h3))
 ·have iN: ∀x∈cl.operands,ev env x=ev env' x:=λx hx=>DD he x (by rw[w2];exact hx);exact .inr (.inr (.inr ⟨h1,cf,cl,f,as,r,σ2,ω,w1,w2,by rw[<-Jr iN];exact w3,w4,w5,w6,λb hb=>⟨(w7 b hb).1,by rw[<-hn b (.inr (w7 b hb).1)];exact(w7 b hb).2⟩,w8,w9⟩))
theorem Jo {ω:List (Nat×Nat)} {b:Nat}: ∀{s:St},look (Ll ω s) b≠none-> ∃c,look ω c=some b
 |[],h=>by simp[Ll,look]at h
 |(c',B)::r,h=>by
  simp only[Ll]at h;split at h
  ·rename_i b' cN;rw[Ap]at h;by_cases e:b'=b
   ·subst e;exact⟨c',cN⟩
   ·rw[Ug e]at h;exact Jo h
  ·exact Jo h
theorem Z3.new {i:Nat} {o:Oper} {env:A2} {σ:St} {y:AV} {nb:St} (h:Z3 P c n ops news ex sl i o env σ y nb) {b:Nat} (hb:look nb b≠none):ET sl i o b:=by
 rcases h.2 with⟨_,t,so,xo,p,x0,lab,B0,B1,_,_,_,_,q5,_,_,_,q9⟩|⟨_,cf,_,h⟩|⟨_,_,h⟩|⟨_,cf,cl,f,as,r,σ2,ω,w1,w2,w3,w4,w5,w6,w7,w8,w9⟩
 ·subst q9;rw[Ap]at hb;split at hb
  ·rename_i e;subst e;exact .inr q5
  ·simp[look]at hb
 ·rcases Rv h with h|⟨d,B,_,h2,h3,_⟩
  ·subst h;simp[look]at hb
  ·subst h2;rw[Ap]at hb;split at hb
   ·rename_i e;subst e;exact .inl (by rw[h3];simp)
   ·simp[look]at hb
 ·subst h;simp[look]at hb
 ·subst w9;obtain⟨c',hc⟩:=Jo hb;exact .inr (w7 b (NP (Hj hc))).1
def LC (P:Program) (c:Conf) (n:Nat) (ops:Array Oper) (news:List Nat) (ex:Nat->List Nat) (sl:List (Nat×Nat)):List Nat->A2->St->A2->St->Prop
 |[],env,σ,e,s=>(∀t,look e t=look env t)/\(∀b,look s b=look σ b)
 |i::r,env,σ,e,s=> ∃o y nb e1 s1,ops[i]?=some o/\Z3 P c n ops news ex sl i o env σ y nb/\Atg o env σ y nb e1 s1/\LC P c n ops news ex sl r e1 s1 e s
theorem ON {nb σ:St} {l:Nat} {B:Blk} (h:nb=[(l,B)]) (b:Nat):look (nb++σ) b=if l=b then some B else look σ b:=by
 subst h;simp only[A5n,A6w];rw[Ap]
theorem LC.congr: ∀{l:List Nat} {env env':A2} {σ σ':St} {e:A2} {s:St},LC P c n ops news ex sl l env σ e s->(∀t,look env t=look env' t)->(∀b,look σ b=look σ' b)->LC P c n ops news ex sl l env' σ' e s
 |[],env,env',σ,σ',e,s,h,he,hs=>⟨λt=>by rw[h.1 t,he t],λb=>by rw[h.2 b,hs b]⟩
 |i::r,env,env',σ,σ',e,s,⟨o,y,nb,e1,s1,h1,h3,h4,h5⟩,he,hs=>by
  refine⟨o,y,nb,e1,s1,h1,h3.congr (λt _=>he t) (λb _=>hs b) (λb _=>hs b),⟨λt=>by rw[h4.1 t,he t],λb=>?_⟩,h5⟩;rw[h4.2 b,Fq,Fq,hs b]
structure Indep (ops:Array Oper) (news:List Nat) (ex:Nat->List Nat) (sl:List (Nat×Nat)) (i j:Nat) (oi oj:Oper):Prop where
 ap:oj.apart ops oi=true
 tj: ∀l,ET sl j oj l->l∈ex i++news/\ ¬ET sl i oi l
 ti: ∀l,ET sl i oi l->l∈ex j++news
theorem Azm {i j:Nat} {r:List Nat} {oi oj:Oper} (gF:ops[i]?=some oi) (dA:ops[j]?=some oj) (hI:Indep ops news ex sl i j oi oj) {env:A2} {σ:St} {e:A2} {s:St}
  (h:LC P c n ops news ex sl (j::i::r) env σ e s):LC P c n ops news ex sl (i::j::r) env σ e s:=by
 obtain⟨o1,y1,nb1,e1,s1,a1,a3,a4,o2,y2,nb2,e2,s2,b1,b3,b4,hr⟩:=h;rw[dA]at a1;cases a1;rw[gF]at b1;cases b1;obtain⟨p1,p2,p3⟩:=Oper.apart_spec hI.ap
 have n1: ∀(σ:St) b,¬ET sl j oj b->look (nb1++σ) b=look σ b:=by
  intro σ b hb;have h0:look nb1 b=none:=Ya λhc=>hb (a3.new hc);rw[Fq,h0]
 have n2: ∀(σ:St) b,¬ET sl i oi b->look (nb2++σ) b=look σ b:=by
  intro σ b hb;have h0:look nb2 b=none:=Ya λhc=>hb (b3.new hc);rw[Fq,h0]
 have c3:Z3 P c n ops news ex sl i oi env σ y2 nb2:=by
  refine b3.congr (λt ht=>?_) (λb hb=>?_) (λb hb=>?_)
  ·rw[a4.1 t,Ug (λhd=>p1 t hd ht)]
  ·rw[a4.2 b];exact n1 σ b (λhc=>hb (hI.tj b hc).1)
  ·rw[a4.2 b];exact n1 σ b (λhc=>(hI.tj b hc).2 hb)
 obtain⟨e3,lN⟩: ∃e3:A2,∀t,look e3 t=if oi.dst=some t then some y2 else look env t:=by
  cases hd:oi.dst with
  |none=>exact⟨env,λt=>Ac⟩
  |some d=>exact⟨(d,y2)::env,λt=>by rw[Ap];simp⟩
 have d3:Z3 P c n ops news ex sl j oj e3 (nb2++σ) y1 nb1:=by
  refine a3.congr (λt ht=>?_) (λb hb=>?_) (λb hb=>?_)
  ·rw[lN t,Ug (λhd=>p3 t hd ht)]
  ·exact(n2 σ b (λhc=>hb (hI.ti b hc))).symm
  ·exact(n2 σ b (λhc=>(hI.tj b hb).2 hc)).symm
 refine⟨oi,y2,nb2,e3,nb2++σ,gF,c3,⟨lN,λ_=>rfl⟩,oj,y1,nb1,e2,s2,dA,d3,⟨λt=>?_,λb=>?_⟩,hr⟩
 ·rw[b4.1 t,a4.1 t,lN t];by_cases h1:oi.dst=some t
  ·have h2: ¬oj.dst=some t:=λh2=>p2 t h2 h1;simp[h1,h2]
  ·simp[h1]
 ·rw[b4.2 b];by_cases hi:ET sl i oi b
  ·have hj: ¬ET sl j oj b:=λhc=>(hI.tj b hc).2 hi;rw[n1 _ b hj,Fq,Fq,a4.2 b,n1 σ b hj]
  ·rw[n2 _ b hi,a4.2 b,Fq,Fq,n2 σ b hi]
theorem Wz {i:Nat} {oi:Oper} (gF:ops[i]?=some oi): ∀{l1 l2:List Nat},(∀j∈l1,∃oj,ops[j]?=some oj/\Indep ops news ex sl i j oi oj)-> ∀{env:A2} {σ:St} {e:A2} {s:St},
  LC P c n ops news ex sl (l1++i::l2) env σ e s->LC P c n ops news ex sl (i::(l1++l2)) env σ e s
 |[],l2,_,env,σ,e,s,h=>h
 |j::l1,l2,hl,env,σ,e,s,h=>by
  obtain⟨oj,dA,jM⟩:=hl j Ac;obtain⟨o1,y1,nb1,e1,s1,a1,a3,a4,h5⟩:=h;have ih:=Wz gF (l1:=l1) (l2:=l2) (λj hj=>hl j (by simp[hj])) h5;exact Azm gF dA jM ⟨o1,y1,nb1,e1,s1,a1,a3,a4,ih⟩
theorem P8 (hp:ProgOk P c) {op:Oper} {t:Nat} {so xo:Operand} {p x0:AV} {σ2:St} (ho:op.op=.store t so xo)
  {w:World} {g:G} {a:Act} {env:A2} {σ:St} (hi:Inv w g σ) (he:AQ w g a env) (h1:ev env so=some p) (h2:ev env xo=some x0) (oM:F0 c.te t p x0 σ=some σ2):BN P op a w (λv w'=> ∃g',Ext w g w' g'/\Rel w' g' v .top/\AQ w' g' a env/\Inv w' g' σ2):=by
 obtain⟨w',q1,q2,q3,q4⟩:=KS hp.te hi (AF he h1) (AF he h2) oM;exact BN.skip (w':=w') (by simp[execOp,ho,q1]) ⟨g,q2,.top _,he.mono q4,q3⟩
theorem Y3 {F:Fence} (hF:Q3 F) (hp:ProgOk P c) (hD:DrawOk ops m) (hI: ∀i oi,i<m->ops[i]?=some oi-> ∀j oj,j<i->ops[j]?=some oj->Pre ops j i\/Indep ops news ex sl i j oi oj) {K:Exit->A2->St->Prop} {w0:World} {g0:G} {e:A2} {s:St} (dY:A6 P n ops (ops.toList.drop m) e s (K .normal)):
  ∀(fuel:Nat) {aB:Array Bool} {rem:List Nat} {w:World} {g:G} {a:Act} {env:A2} {σ:St},aB.size=ops.size->DC ops aB->(∀i,m<=i->i<ops.size-> ¬Li aB i)->
  (∀i,i∈rem↔i<m/\ ¬Li aB i)->rem.Pairwise (· < ·)->rem.length+(ops.size-m)<=fuel->LC P c n ops news ex sl rem env σ e s->Good n w g a env σ->Ext w0 g0 w g->
  wpAnyIn F 0 P .any ops (Cl n w0 g0 K) fuel aB a w:=by
 intro fuel
 induction fuel with
 |zero=>
  intro aB rem w g a env σ hs eF dU aZ aS hf aT hg hx;have bD:rem=[]:=Aq1 Aa;subst bD;refine FM hF hD 0 m (WW _) hD.le hs (λi hi=>⟨λh=>?_,λh=>?_⟩) Aa dY (hg.eqv aT.1 aT.2) hx
  ·exact Ya λhc=>dU i Aa hi h
  ·exact Ya λhc=>by have:=(aZ i).2 ⟨h,hc⟩;simp at this
 |succ fuel ih=>
  intro aB rem w g a env σ hs eF dU aZ aS hf aT hg hx;by_cases bD:rem=[]
  ·subst bD;refine FM hF hD (fuel+1) m (WW _) hD.le hs (λi hi=>⟨λh=>?_,λh=>?_⟩) (by simp at hf;omega) dY (hg.eqv aT.1 aT.2) hx
   ·exact Ya λhc=>dU i Aa hi h
   ·exact Ya λhc=>by have:=(aZ i).2 ⟨h,hc⟩;simp at this
  ·obtain⟨i0,aD,rfl⟩: ∃i0 aD,rem=i0::aD:=A6r bD;have hm:=hD.le;obtain⟨dT,dB⟩:=(aZ i0).1 Ac
   have cW: ∀j,j<i0->Li aB j:=λj hj=>Ya λhc=>by
    have:=(aZ j).2 ⟨Aa,hc⟩;simp at this;rcases this with h'|h'
    ·omega
    ·have:=(A2x.1 aS).1 j h';omega
   have fQ:ops[i0]?=some ops[i0]:=A23 Aa
   have cK:i0∈Region.ready .any ops aB:=by
    rw[BR hs];exact⟨dB,ops[i0],fQ,λe he hb=>cW _ (hD.edge i0 _ fQ e he hb)⟩
   refine⟨λbD=>by rw[bD]at cK;simp at cK,λi hi=>?_⟩;rw[BR hs]at hi;obtain⟨hn,o,ho,hr⟩:=hi
   have dK:i<ops.size:=by
    rcases A4i i ops.size with h|h
    ·exact h
    ·rw[A39 h]at ho;cases ho
   have eO: ∀o2,ops[i]?=some o2-> ∀e∈o2.after,Region.binds .any e=true->Li aB e.on:=λo2 d7=>by rw[ho]at d7;cases d7;exact hr
   have iR:i<m:=Ya λhc=>dB (Dk eF (hD.tail i Aa dK i0 Aa) eO);have eZ:i∈i0::aD:=(aZ i).2 ⟨iR,hn⟩;obtain⟨l1,l2,bY⟩:=A7y eZ;rw[bY]at aT aS aZ hf;have aC: ∀j∈l1,j<i:=λj hj=>(A22.1 aS).2.2 j hj i Ac;have hO: ∀j∈l2,i<j:=λj hj=>(A2x.1 (A22.1 aS).2.1).1 j hj
   have hb:=Wz ho (l1:=l1) (l2:=l2) (λj hj=>by
    obtain⟨qR,jA⟩:=(aZ j).1 (by simp[hj]);have dA:ops[j]?=some ops[j]:=A23 Aa;refine⟨ops[j],dA,?_⟩;rcases hI i o iR ho j ops[j] (aC j hj) dA with h'|h'
    ·exact absurd (Dk eF h' eO) jA
    ·exact h') aT
   obtain⟨o2,y,nb,e1,s1,q1,q3,q4,q5⟩:=hb;rw[ho]at q1;cases q1
   have eV: ∀j,j∈l1++l2↔j<m/\ ¬Li (aB.setIfInBounds i true) j:=by
    intro j;rw[E8 Aa];have hj:=aZ j;constructor
    ·intro dJ
     have aE:j≠i:=by
      rcases A25.1 dJ with h'|h'
      ·have:=aC j h';omega
      ·have:=hO j h';omega
     have:=hj.1 (by rcases A25.1 dJ with h'|h'<;>simp[h']);exact⟨this.1,λhc=>by rcases hc with h'|h';exact aE h';exact this.2 h'⟩
    ·rintro⟨h1,h2⟩;have aE:j≠i:=λe=>h2 (.inl e);have:=hj.2 ⟨h1,λhc=>h2 (.inr hc)⟩;simp at this⊢;rcases this with h'|h'|h'
     ·exact .inl h'
     ·exact absurd h' aE
     ·exact .inr h'
   have dP:(l1++l2).Pairwise (· < ·):=by
    refine A22.2 ⟨(A22.1 aS).1,(A2x.1 (A22.1 aS).2.1).2,λx hx y hy=>?_⟩;have:=aC x hx;have:=hO y hy;omega
   have gR: ∀j,m<=j->j<ops.size-> ¬Li (aB.setIfInBounds i true) j:=λj hj nH hc=>by
    rw[E8 Aa]at hc;rcases hc with h'|h'
    ·omega
    ·exact dU j hj nH h'
   have eA: ∀{w':World} {g':G} {a':Act} {env':A2} {σ':St},(∀t,look env' t=look e1 t)->(∀b,look σ' b=look s1 b)->Good n w' g' a' env' σ'->Ext w0 g0 w' g'->
     wpAnyIn F 0 P .any ops (Cl n w0 g0 K) fuel (aB.setIfInBounds i true) a' w':=by
    intro w' g' a' env' σ' bM cC fA eC;exact ih (by simp[hs]) (eF.set Aa eO) gR eV dP (by simp at hf⊢;omega) (q5.congr (λt=>(bM t).symm) (λb=>(cC b).symm)) fA eC
   have cM: ∀{w':World} {g':G} {v:Value} {σ':St},Good n w' g' a env σ'->Rel w' g' v y->(∀b,look σ' b=look s1 b)->Ext w0 g0 w' g'->
     wpAnyIn F 0 P .any ops (Cl n w0 g0 K) fuel (aB.setIfInBounds i true) (a.put o.dst v) w':=by
    intro w' g' v σ' fA aJ cC eC
    cases hd:o.dst with
    |none=>
     refine eA (env':=env) (λt=>?_) cC fA eC;rw[q4.1 t,hd];simp
    |some d=>
     have aC:=q3.1 d hd
     have bB:BM n (some d) y env=some ((d,y)::env):=by
      simp only[BM];have:Nat.blt d n=true:=by simpa[A6i]using aC
      rw[this]
     refine eA (env':=(d,y)::env) (λt=>?_) cC (Da bB fA aJ) eC;rw[q4.1 t,hd,Ap];simp
   refine HK hF ho ?_;rcases q3.2 with⟨hw,t,so,xo,p,x0,lab,B0,B1,r1,r2,r3,r4,r5,r6,r7,r8,r9⟩|⟨hw,cf,fB,cL⟩|⟨hw,hy,c8⟩|⟨hw,jS⟩
   ·refine .inl ⟨Dl hg hw,?_⟩;refine P8 hp r1 hg.inv hg.env r3 r4 (r7 σ r6) F hF _ _ ?_;rintro v w' ⟨g',k1,k2,k3,k4⟩;subst r8;refine cM (σ':=upd σ lab B1) ⟨k3,k4,hg.defers.ext k1,hg.size⟩ k2 (λb=>?_) (hx.trans k1);rw[q4.2 b,ON r9,AK]
   ·refine .inl ⟨Dl hg hw,?_⟩;refine GY hp fB hg.inv hg.env cL F hF _ _ ?_;rintro v w' ⟨g',k1,k2,k3,k4⟩;exact cM (σ':=nb++σ) ⟨k4,k3,hg.defers.ext k1,hg.size⟩ k2 (λb=>(q4.2 b).symm) (hx.trans k1)
   ·refine .inr ⟨Dl hg hw,?_⟩;subst hy;subst c8;exact cM (σ':=σ) hg (.t _ _ .undef) (λb=>(q4.2 b).symm) hx
   ·refine .inl ⟨Dl hg hw,?_⟩;refine TS hp hg.inv hg.env jS F hF _ _ ?_;rintro v w' ⟨g',k1,k2,k3,k4⟩;exact cM (σ':=nb++σ) ⟨k3,k4,hg.defers.ext k1,hg.size⟩ k2 (λb=>(q4.2 b).symm) (hx.trans k1)
end
def A0l (m k:Nat):Bool:=Nat.beq ((m/2^k) % 2) 1
def Av9 (ms:List Nat) (i k:Nat):Bool:= !(Nat.beq i k)&&(!(A0l (ms.getD i 0) k)&& !(A0l (ms.getD k 0) i))
def Wn (ms:List Nat) (i:Nat):List (Nat×Nat)->List Nat
 |[]=>[]
 |(k,lab)::r=>bif Av9 ms i k then lab::Wn ms i r else Wn ms i r
def OQ (i:Nat):List (Nat×Nat)->List Nat
 |[]=>[]
 |(k,lab)::r=>bif Nat.beq k i then lab::OQ i r else OQ i r
def Aet (sl:List (Nat×Nat)) (i:Nat) (o:Oper):List Nat:=C1 o++OQ i sl
def Zy (ls:List Nat):List Nat->Bool
 |[]=>true
 |l::r=>Kl l ls&&Zy ls r
def VT (ls:List Nat):List Nat->Bool
 |[]=>true
 |l::r=> !(Kl l ls)&&VT ls r
def Aaz (ms:List Nat) (news:List Nat) (sl:List (Nat×Nat)) (i j:Nat) (oi oj:Oper):Bool:=
 (Zy (Wn ms i sl++news) (Aet sl j oj)&&VT (Aet sl i oi) (Aet sl j oj))&&Zy (Wn ms j sl++news) (Aet sl i oi)
def RD (ms:List Nat) (news:List Nat) (sl:List (Nat×Nat)) (i:Nat) (oi:Oper):Nat->List Oper->Bool
 |_,[]=>true
 |j,oj::r=>((ms.getD i 0).testBit j||Aaz ms news sl i j oi oj)&&RD ms news sl i oi (j+1) r
def Ku (ms:List Nat) (news:List Nat) (sl:List (Nat×Nat)) (l:List Oper):Nat->List Oper->Bool
 |_,[]=>true
 |i,o::r=>RD ms news sl i o 0 (l.take i)&&Ku ms news sl l (i+1) r
theorem MR {i l:Nat}: ∀{sl:List (Nat×Nat)},l∈OQ i sl↔(i,l)∈sl
 |[]=>by simp[OQ]
 |(k,lab)::r=>by
  simp only[OQ]
  cases h:Nat.beq k i with
  |true=>
   have e:=A4f h;subst e;simp only[A6x,Als,MR (sl:=r),A6p,A7b]
  |false=>
   have e:k≠i:=λe=>by subst e;simp at h
   simp only[A61,MR (sl:=r),Als,A6p];exact⟨.inr,λh=>h.elim (λh=>absurd h.1.symm e) id⟩
theorem Ns {sl:List (Nat×Nat)} {i:Nat} {o:Oper} {l:Nat}:l∈Aet sl i o↔ET sl i o l:=by
 simp only[Aet,A25,MR,ET]
theorem SY {ls:List Nat}: ∀{r:List Nat},Zy ls r=true-> ∀l∈r,l∈ls
 |[],_,l,h=>by simp at h
 |x::r,hb,l,h=>by
  simp only[Zy,Qp]at hb;rcases Als.1 h with e|e
  ·subst e;exact I3.1 hb.1
  ·exact SY hb.2 l e
theorem U5 {ls:List Nat}: ∀{r:List Nat},VT ls r=true-> ∀l∈r,l∉ls
 |[],_,l,h=>by simp at h
 |x::r,hb,l,h=>by
  simp only[VT,Qp,A5y]at hb;rcases Als.1 h with e|e
  ·subst e;exact λhc=>by rw[I3.2 hc]at hb;cases hb.1
  ·exact U5 hb.2 l e
theorem RC {ms news:List Nat} {sl:List (Nat×Nat)} {i:Nat} {oi:Oper}: ∀{j0:Nat} {l:List Oper},RD ms news sl i oi j0 l=true-> ∀j oj,l[j]?=some oj->(ms.getD i 0).testBit (j0+j)=true\/Aaz ms news sl i (j0+j) oi oj=true
 |j0,[],_,j,oj,h=>by simp at h
 |j0,x::r,hb,j,oj,h=>by
  simp only[RD,Qp,A6b]at hb
  cases j with
  |zero=>simp at h;subst h;exact hb.1
  |succ j=>
   have:=RC hb.2 j oj (by simpa using h)
   rwa[show j0+1+j=j0+(j+1)from Aa]at this
theorem PX {ms news:List Nat} {sl:List (Nat×Nat)} {l0:List Oper}: ∀{i0:Nat} {l:List Oper},Ku ms news sl l0 i0 l=true-> ∀i oi,l[i]?=some oi->RD ms news sl (i0+i) oi 0 (l0.take (i0+i))=true
 |i0,[],_,i,oi,h=>by simp at h
 |i0,x::r,hb,i,oi,h=>by
  simp only[Ku,Qp]at hb
  cases i with
  |zero=>simp at h;subst h;exact hb.1
  |succ i=>
   have:=PX hb.2 i oi (by simpa using h)
   rwa[show i0+1+i=i0+(i+1)from Aa]at this
section
variable {P:Program} {c:Conf} {n m:Nat} {ops:Array Oper} {news:List Nat} {ex:Nat->List Nat} {sl:List (Nat×Nat)}
theorem Y1 (hD:DrawOk ops m) (h:Ku (HG ops.toList []) news sl (ops.toList.take m) 0 (ops.toList.take m)=true): ∀i oi,i<m->ops[i]?=some oi-> ∀j oj,j<i->ops[j]?=some oj->Pre ops j i\/Indep ops news (λi=>Wn (HG ops.toList []) i sl) sl i j oi oj:=by
 intro i oi hi gF j oj hj dA;have h1:=PX h i oi (by rw[Aoy,WU hi,Agx];exact gF);simp only[Atj]at h1;have h2:=RC h1 j oj (by rw[Aoy,WU hj,Aoy,WU Aa,Agx];exact dA);simp only[Atj]at h2;rcases h2 with h2|h2
 ·exact .inl (GF _ _ h2)
 ·rcases hD.head i oi hi gF j oj hj dA with h3|h3
  ·exact .inl h3
  ·simp only[Aaz,Qp]at h2;refine .inr ⟨h3,λl hl=>⟨SY h2.1.1 l (Ns.2 hl),λhc=>U5 h2.1.2 l (Ns.2 hl) (Ns.2 hc)⟩,λl hl=>SY h2.2 l (Ns.2 hl)⟩
def EJ (P:Program) (c:Conf) (n:Nat) (ops:Array Oper) (news:List Nat) (ex:Nat->List Nat) (sl:List (Nat×Nat)):Nat->List Oper->A2->St->(A2->St->Prop)->Prop
 |_,[],env,σ,K=>K env σ
 |i,o::aD,env,σ,K=>Bt ops o env
   (λenv=>(∃cf x nb,O1 P cf/\Cz c cf (ex i++news) o env σ=some (x,nb)/\RQ n o.dst x env λe2=>EJ P c n ops news ex sl (i+1) aD e2 (nb++σ) K)
    \/(∃t so xo p x0 lab B0 B1,o.op=.store t so xo/\o.dst=none/\ev env so=some p/\ev env xo=some x0/\(i,lab)∈sl/\look σ lab=some B0/\(∀σ,look σ lab=some B0->F0 c.te t p x0 σ=some (upd σ lab B1))/\EJ P c n ops news ex sl (i+1) aD env (upd σ lab B1) K)
    \/(∃y nb,Asj P c sl i o env σ y nb/\RQ n o.dst y env λe2=>EJ P c n ops news ex sl (i+1) aD e2 (nb++σ) K))
   (λenv=>RQ n o.dst (.t .undef) env λe2=>EJ P c n ops news ex sl (i+1) aD e2 σ K)
theorem I9 {K:A2->St->Prop}: ∀(l:List Oper) (i0:Nat),(∀j,j<l.length->l[j]?=ops[i0+j]?)-> ∀{env:A2} {σ:St},
  EJ P c n ops news ex sl i0 l env σ K-> ∃e s,LC P c n ops news ex sl (List.range' i0 l.length) env σ e s/\K e s
 |[],i0,_,env,σ,h=>⟨env,σ,⟨λ_=>rfl,λ_=>rfl⟩,h⟩
 |o::aD,i0,hl,env,σ,h=>by
  simp only[EJ]at h;have ho:ops[i0]?=some o:=by have:=hl 0 Ac;simpa using this.symm
  have cX: ∀j,j<aD.length->aD[j]?=ops[i0+1+j]?:=λj hj=>by
   have:=hl (j+1) (by simp;exact hj);simp at this;rw[this];congr 1;omega
  obtain⟨aV,bM,hc⟩:=JN h;rcases hc with⟨hw,⟨cf,x,nb,fB,cL,env2,bB,h⟩|⟨t,so,xo,p,x0,lab,B0,B1,r1,r2,r3,r4,r5,r6,r7,h⟩|⟨y,nb,⟨cf,cl,f,as,r,σ2,ω,w1,w2,w3,w4,w5,w6,w7,w8,w9⟩,env2,bB,h⟩⟩|⟨hw,env2,bB,h⟩
  ·obtain⟨e,s,h1,h2⟩:=I9 aD (i0+1) cX h;obtain⟨p1,p2⟩:=GA bB bM;refine⟨e,s,⟨o,x,nb,env2,nb++σ,ho,⟨p1,.inr (.inl ⟨hw,cf,fB,?_⟩)⟩,⟨p2,λ_=>rfl⟩,h1⟩,h2⟩;rw[<-cL];exact Ex (DD (ops:=ops) λt _=>(bM t).symm) (λ_ _=>rfl) (λ_ _=>rfl)
  ·obtain⟨e,s,h1,h2⟩:=I9 aD (i0+1) cX h;have iE: ∀x∈o.op.operands,ev aV x=ev env x:=DD (ops:=ops) (o:=o) λt _=>bM t;refine⟨e,s,⟨o,.top,[(lab,B1)],aV,upd σ lab B1,ho,⟨λd hd=>(by rw[r2]at hd;cases hd),.inl ⟨hw,t,so,xo,p,x0,lab,B0,B1,r1,r2,?_,?_,r5,r6,r7,rfl,rfl⟩⟩,⟨λt=>by rw[r2];simp[bM t],λb=>by rw[AK,ON rfl]⟩,h1⟩,h2⟩
   ·rw[<-iE so (by rw[r1];simp[Op.operands])];exact r3
   ·rw[<-iE xo (by rw[r1];simp[Op.operands])];exact r4
  ·obtain⟨e,s,h1,h2⟩:=I9 aD (i0+1) cX h;obtain⟨p1,p2⟩:=GA bB bM;have iN: ∀x∈cl.operands,ev aV x=ev env x:=λx hx=>DD (ops:=ops) (o:=o) (λt _=>bM t) x (by rw[w2];exact hx);exact⟨e,s,⟨o,y,nb,env2,nb++σ,ho,⟨p1,.inr (.inr (.inr ⟨hw,cf,cl,f,as,r,σ2,ω,w1,w2,by rw[<-Jr iN];exact w3,w4,w5,w6,w7,w8,w9⟩))⟩,⟨p2,λ_=>rfl⟩,h1⟩,h2⟩
  ·obtain⟨e,s,h1,h2⟩:=I9 aD (i0+1) cX h;obtain⟨p1,p2⟩:=GA bB bM;exact⟨e,s,⟨o,.t .undef,[],env2,σ,ho,⟨p1,.inr (.inr (.inl ⟨hw,rfl,rfl⟩))⟩,⟨p2,λ_=>rfl⟩,h1⟩,h2⟩
theorem Ati (hp:ProgOk P c) (sl:List (Nat×Nat)) {id:Nat} {env env':A2} {σ σ':St} {K:Exit->A2->St->Prop} {l1 l2:List Oper} {nw:List Nat} {ms:List Nat} (hm:Mv ops=some m) (hz:regFrz ops env σ=(env',σ'))
  (h1:ops.toList.take m=l1) (h2:ops.toList.drop m=l2) (h3:FO l1=nw) (h4:HG ops.toList []=ms) (kL:Ku ms nw sl l1 0 l1=true)
  (h:EJ P c n ops nw (λi=>Wn ms i sl) sl 0 l1 env' σ' (λe s=>A6 P n ops l2 e s (K .normal))):Tr P n (.region id ops true) env σ K:=by
 subst h4;subst h3;subst h1;subst h2;have hD:=L4 hm;intro F hF bP w g0 a lL;obtain⟨g,hx,hg⟩:=Fl hz lL;refine A5d ?_ λex a2 w2 (hq:Cl n w g K ex a2 w2)=>hq.lift hx;obtain⟨e,s,q1,q2⟩:=I9 (ops.toList.take m) 0 (λj hj=>by simp at hj;rw[Aoy,WU Aa,Agx,Atj]) h;refine A7j hp.mix ?_;have aO:(ops.toList.take m).length=m:=by have:=hD.le;simp;omega
 rw[aO]at q1;refine Y3 hF hp hD (Y1 hD kL) q2 ops.size Ac (λi o ho hl=>?_) (λi h1 h2 hl=>?_) (rem:=List.range' 0 m) (λi=>?_) A7g (by simp;have:=hD.le;omega) q1 (hg.drew) (Ext.drew w g)
 ·simp[Li,A4w]at hl
 ·simp[Li,A4w]at hl
 ·simp[Li,A4w,A72]
end
def Yn:AV->Option Nat
 |.ref b _=>some b
 |.eref b _ _ _=>some b
 |_=>none
def ZG (te:TE) (t:Nat) (p x:AV) (lab:Nat) (B:Blk):Option Blk:=
 match F0 te t p x [(lab,B)]with
 |some σ=>look σ lab
 |none=>none
theorem Ae0 {te:TE} {t lab:Nat} {p x:AV} {B B1:Blk} (hl:Yn p=some lab) (h:ZG te t p x lab B=some B1): ∀σ,look σ lab=some B->F0 te t p x σ=some (upd σ lab B1):=by
 intro σ hσ;have hs:look [(lab,B)] lab=some B:=by simp[Ap]
 unfold ZG at h
 cases p with
 |ref b off=>
  simp only[Yn,A26]at hl;subst hl;unfold F0 at h⊢;split at h
  ·rename_i σ2 h2;split at h2
   ·rename_i ti hti;split at h2
    ·rename_i ys lS;split at h2
     ·rename_i aO;simp only[hs]at h2;simp only[hσ]
      cases B with
      |cells cs=>
       simp only at h2⊢;split at h2
       ·rename_i ho;cases h2;rw[AK,WU rfl]at h;cases h;rw[WU aO,WU ho]
       ·cases h2
      |_=>simp at h2
     ·cases h2
    ·cases h2
   ·cases h2
  ·cases h
 |eref b sz k off=>
  simp only[Yn,A26]at hl;subst hl;unfold F0 at h⊢;split at h
  ·rename_i σ2 h2;split at h2
   ·rename_i ti hti;split at h2
    ·rename_i ys lS;split at h2
     ·rename_i aO;simp only[hs]at h2;simp only[hσ]
      cases B with
      |grow cO es=>
       simp only at h2⊢;split at h2
       ·rename_i hz;split at h2
        ·rename_i e he;split at h2
         ·rename_i ts fS;split at h2
          ·rename_i ho;cases h2;rw[AK,WU rfl]at h;cases h;subst hz;rw[WU aO,WU rfl,WU ho]
          ·cases h2
         ·cases h2
        ·cases h2
       ·cases h2
      |_=>simp at h2
     ·cases h2
    ·cases h2
   ·cases h2
  ·cases h
 |_=>simp[Yn]at hl
def Ak4 (i lab:Nat):List (Nat×Nat)->Bool
 |[]=>false
 |(j,l)::r=>bif Nat.beq j i&&Nat.beq l lab then true else Ak4 i lab r
theorem Adu {i lab:Nat}: ∀{sl:List (Nat×Nat)},Ak4 i lab sl=true->(i,lab)∈sl
 |[],h=>by simp[Ak4]at h
 |(j,l)::r,h=>by
  simp only[Ak4]at h
  cases hb:Nat.beq j i&&Nat.beq l lab with
  |true=>
   simp only[Qp]at hb;have e1:=A4f hb.1;have e2:=A4f hb.2;subst e1;subst e2;exact List.mem_cons_self ..
  |false=>rw[hb]at h;simp only[A61]at h;exact A57 _ (Adu h)
section
variable {P:Program} {c:Conf} {n i:Nat} {ops:Array Oper} {news:List Nat} {ex:Nat->List Nat} {sl:List (Nat×Nat)} {aD:List Oper} {env:A2} {σ:St} {o:Oper} {K:A2->St->Prop}
theorem Av4 (h:K env σ):EJ P c n ops news ex sl i [] env σ K:=h
theorem Av3 {nw:List Nat} {j:Nat} (hn:ex i++news=nw) (hj:i+1=j) (h:CG P c n ops nw [o] env σ (λe s=>EJ P c n ops news ex sl j aD e s K)):EJ P c n ops news ex sl i (o::aD) env σ K:=by
 subst hn;subst hj;simp only[CG]at h;simp only[EJ];unfold Bt at h⊢
 have a1: ∀e,(∃cf x nb,O1 P cf/\Cz c cf (ex i++news) o e σ=some (x,nb)/\RQ n o.dst x e λe2=>EJ P c n ops news ex sl (i+1) aD e2 (nb++σ) K)->((∃cf x nb,O1 P cf/\Cz c cf (ex i++news) o e σ=some (x,nb)/\RQ n o.dst x e λe2=>EJ P c n ops news ex sl (i+1) aD e2 (nb++σ) K)
    \/(∃t so xo p x0 lab B0 B1,o.op=.store t so xo/\o.dst=none/\ev e so=some p/\ev e xo=some x0/\(i,lab)∈sl/\look σ lab=some B0/\(∀σ,look σ lab=some B0->F0 c.te t p x0 σ=some (upd σ lab B1))/\EJ P c n ops news ex sl (i+1) aD e (upd σ lab B1) K)
    \/(∃y nb,Asj P c sl i o e σ y nb/\RQ n o.dst y e λe2=>EJ P c n ops news ex sl (i+1) aD e2 (nb++σ) K)):=λe h=>.inl h
 split at h
 ·exact a1 _ h
 ·split at h
  ·split at h
   ·split at h
    ·exact⟨λe=>a1 _ (h.1 e),λe=>h.2 e⟩
    ·exact h
    ·exact h
   ·exact h
  ·exact h
theorem Aot {t lab j:Nat} {so xo:Operand} {p x0:AV} {B0 B1:Blk} {s:St} (hg:o.guard=none) (ho:o.op=.store t so xo) (hd:o.dst=none) (h1:ev env so=some p) (h2:ev env xo=some x0) (hl:Yn p=some lab) (hm:Ak4 i lab sl=true) (hb:look σ lab=some B0)
  (hs:ZG c.te t p x0 lab B0=some B1) (hu:upd σ lab B1=s) (hj:i+1=j) (h:EJ P c n ops news ex sl j aD env s K):EJ P c n ops news ex sl i (o::aD) env σ K:=by
 subst hu;subst hj;simp only[EJ,Bt,hg];exact .inr (.inl ⟨t,so,xo,p,x0,lab,B0,B1,ho,hd,h1,h2,Adu hm,hb,Ae0 hl hs,h⟩)
end
section
variable {P:Program} {c:Conf} {n m:Nat} {ops:Array Oper} {news:List Nat} {ex:Nat->List Nat} {sl:List (Nat×Nat)}
theorem PY {F:Fence} (hF:Q3 F) (hp:ProgOk P c) (fW: ∀(i:Nat) o,ops[i]?=some o-> ∀e∈o.after,Region.binds .any e=true->e.on<i) (cJ:m<=ops.size) (iT: ∀i,m<=i->i<ops.size-> ∀j,j<m->Pre ops j i) (hI: ∀i oi,i<m->ops[i]?=some oi-> ∀j oj,j<i->ops[j]?=some oj->Pre ops j i\/Indep ops news ex sl i j oi oj) {K:Exit->A2->St->Prop} {w0:World} {g0:G} {e:A2} {s:St}
  (dY: ∀(fuel:Nat) {aB:Array Bool} {w:World} {g:G} {a:Act},aB.size=ops.size->(∀i,i<ops.size->(Li aB i↔i<m))->ops.size-m<=fuel->Good n w g a e s->Ext w0 g0 w g->wpAnyIn F 0 P .any ops (Cl n w0 g0 K) fuel aB a w):
  ∀(fuel:Nat) {aB:Array Bool} {rem:List Nat} {w:World} {g:G} {a:Act} {env:A2} {σ:St},aB.size=ops.size->DC ops aB->(∀i,m<=i->i<ops.size-> ¬Li aB i)->
  (∀i,i∈rem↔i<m/\ ¬Li aB i)->rem.Pairwise (· < ·)->rem.length+(ops.size-m)<=fuel->LC P c n ops news ex sl rem env σ e s->Good n w g a env σ->Ext w0 g0 w g->
  wpAnyIn F 0 P .any ops (Cl n w0 g0 K) fuel aB a w:=by
 intro fuel
 induction fuel with
 |zero=>
  intro aB rem w g a env σ hs eF dU aZ aS hf aT hg hx;have bD:rem=[]:=Aq1 Aa;subst bD;refine dY 0 hs (λi hi=>⟨λh=>?_,λh=>?_⟩) Aa (hg.eqv aT.1 aT.2) hx
  ·exact Ya λhc=>dU i Aa hi h
  ·exact Ya λhc=>by have:=(aZ i).2 ⟨h,hc⟩;simp at this
 |succ fuel ih=>
  intro aB rem w g a env σ hs eF dU aZ aS hf aT hg hx;by_cases bD:rem=[]
  ·subst bD;refine dY (fuel+1) hs (λi hi=>⟨λh=>?_,λh=>?_⟩) (by simp at hf;omega) (hg.eqv aT.1 aT.2) hx
   ·exact Ya λhc=>dU i Aa hi h
   ·exact Ya λhc=>by have:=(aZ i).2 ⟨h,hc⟩;simp at this
  ·obtain⟨i0,aD,rfl⟩: ∃i0 aD,rem=i0::aD:=A6r bD;have hm:=cJ;obtain⟨dT,dB⟩:=(aZ i0).1 Ac
   have cW: ∀j,j<i0->Li aB j:=λj hj=>Ya λhc=>by
    have:=(aZ j).2 ⟨Aa,hc⟩;simp at this;rcases this with h'|h'
    ·omega
    ·have:=(A2x.1 aS).1 j h';omega
   have fQ:ops[i0]?=some ops[i0]:=A23 Aa
   have cK:i0∈Region.ready .any ops aB:=by
    rw[BR hs];exact⟨dB,ops[i0],fQ,λe he hb=>cW _ (fW i0 _ fQ e he hb)⟩
   refine⟨λbD=>by rw[bD]at cK;simp at cK,λi hi=>?_⟩;rw[BR hs]at hi;obtain⟨hn,o,ho,hr⟩:=hi
   have dK:i<ops.size:=by
    rcases A4i i ops.size with h|h
    ·exact h
    ·rw[A39 h]at ho;cases ho
   have eO: ∀o2,ops[i]?=some o2-> ∀e∈o2.after,Region.binds .any e=true->Li aB e.on:=λo2 d7=>by rw[ho]at d7;cases d7;exact hr
   have iR:i<m:=Ya λhc=>dB (Dk eF (iT i Aa dK i0 dT) eO);have eZ:i∈i0::aD:=(aZ i).2 ⟨iR,hn⟩;obtain⟨l1,l2,bY⟩:=A7y eZ;rw[bY]at aT aS aZ hf;have aC: ∀j∈l1,j<i:=λj hj=>(A22.1 aS).2.2 j hj i Ac;have hO: ∀j∈l2,i<j:=λj hj=>(A2x.1 (A22.1 aS).2.1).1 j hj
   have hb:=Wz ho (l1:=l1) (l2:=l2) (λj hj=>by
    obtain⟨qR,jA⟩:=(aZ j).1 (by simp[hj]);have dA:ops[j]?=some ops[j]:=A23 Aa;refine⟨ops[j],dA,?_⟩;rcases hI i o iR ho j ops[j] (aC j hj) dA with h'|h'
    ·exact absurd (Dk eF h' eO) jA
    ·exact h') aT
   obtain⟨o2,y,nb,e1,s1,q1,q3,q4,q5⟩:=hb;rw[ho]at q1;cases q1
   have eV: ∀j,j∈l1++l2↔j<m/\ ¬Li (aB.setIfInBounds i true) j:=by
    intro j;rw[E8 Aa];have hj:=aZ j;constructor
    ·intro dJ
     have aE:j≠i:=by
      rcases A25.1 dJ with h'|h'
      ·have:=aC j h';omega
      ·have:=hO j h';omega
     have:=hj.1 (by rcases A25.1 dJ with h'|h'<;>simp[h']);exact⟨this.1,λhc=>by rcases hc with h'|h';exact aE h';exact this.2 h'⟩
    ·rintro⟨h1,h2⟩;have aE:j≠i:=λe=>h2 (.inl e);have:=hj.2 ⟨h1,λhc=>h2 (.inr hc)⟩;simp at this⊢;rcases this with h'|h'|h'
     ·exact .inl h'
     ·exact absurd h' aE
     ·exact .inr h'
   have dP:(l1++l2).Pairwise (· < ·):=by
    refine A22.2 ⟨(A22.1 aS).1,(A2x.1 (A22.1 aS).2.1).2,λx hx y hy=>?_⟩;have:=aC x hx;have:=hO y hy;omega
   have gR: ∀j,m<=j->j<ops.size-> ¬Li (aB.setIfInBounds i true) j:=λj hj nH hc=>by
    rw[E8 Aa]at hc;rcases hc with h'|h'
    ·omega
    ·exact dU j hj nH h'
   have eA: ∀{w':World} {g':G} {a':Act} {env':A2} {σ':St},(∀t,look env' t=look e1 t)->(∀b,look σ' b=look s1 b)->Good n w' g' a' env' σ'->Ext w0 g0 w' g'->
     wpAnyIn F 0 P .any ops (Cl n w0 g0 K) fuel (aB.setIfInBounds i true) a' w':=by
    intro w' g' a' env' σ' bM cC fA eC;exact ih (by simp[hs]) (eF.set Aa eO) gR eV dP (by simp at hf⊢;omega) (q5.congr (λt=>(bM t).symm) (λb=>(cC b).symm)) fA eC
   have cM: ∀{w':World} {g':G} {v:Value} {σ':St},Good n w' g' a env σ'->Rel w' g' v y->(∀b,look σ' b=look s1 b)->Ext w0 g0 w' g'->
     wpAnyIn F 0 P .any ops (Cl n w0 g0 K) fuel (aB.setIfInBounds i true) (a.put o.dst v) w':=by
    intro w' g' v σ' fA aJ cC eC
    cases hd:o.dst with
    |none=>
     refine eA (env':=env) (λt=>?_) cC fA eC;rw[q4.1 t,hd];simp
    |some d=>
     have aC:=q3.1 d hd
     have bB:BM n (some d) y env=some ((d,y)::env):=by
      simp only[BM];have:Nat.blt d n=true:=by simpa[A6i]using aC
      rw[this]
     refine eA (env':=(d,y)::env) (λt=>?_) cC (Da bB fA aJ) eC;rw[q4.1 t,hd,Ap];simp
   refine HK hF ho ?_;rcases q3.2 with⟨hw,t,so,xo,p,x0,lab,B0,B1,r1,r2,r3,r4,r5,r6,r7,r8,r9⟩|⟨hw,cf,fB,cL⟩|⟨hw,hy,c8⟩|⟨hw,jS⟩
   ·refine .inl ⟨Dl hg hw,?_⟩;refine P8 hp r1 hg.inv hg.env r3 r4 (r7 σ r6) F hF _ _ ?_;rintro v w' ⟨g',k1,k2,k3,k4⟩;subst r8;refine cM (σ':=upd σ lab B1) ⟨k3,k4,hg.defers.ext k1,hg.size⟩ k2 (λb=>?_) (hx.trans k1);rw[q4.2 b,ON r9,AK]
   ·refine .inl ⟨Dl hg hw,?_⟩;refine GY hp fB hg.inv hg.env cL F hF _ _ ?_;rintro v w' ⟨g',k1,k2,k3,k4⟩;exact cM (σ':=nb++σ) ⟨k4,k3,hg.defers.ext k1,hg.size⟩ k2 (λb=>(q4.2 b).symm) (hx.trans k1)
   ·refine .inr ⟨Dl hg hw,?_⟩;subst hy;subst c8;exact cM (σ':=σ) hg (.t _ _ .undef) (λb=>(q4.2 b).symm) hx
   ·refine .inl ⟨Dl hg hw,?_⟩;refine TS hp hg.inv hg.env jS F hF _ _ ?_;rintro v w' ⟨g',k1,k2,k3,k4⟩;exact cM (σ':=nb++σ) ⟨k3,k4,hg.defers.ext k1,hg.size⟩ k2 (λb=>(q4.2 b).symm) (hx.trans k1)
theorem Ahw {F:Fence} (hF:Q3 F) (fW: ∀(i:Nat) o,ops[i]?=some o-> ∀e∈o.after,Region.binds .any e=true->e.on<i) {k:Nat} (hk:k<ops.size) (iT: ∀i,k<i->i<ops.size->Pre ops k i) {K:Exit->A2->St->Prop} {w0:World} {g0:G} {o:Oper} (ho:ops[k]?=some o) {env:A2} {σ:St} {Q:A2->St->Prop} (h:A6 P n ops [o] env σ Q)
  (cont: ∀(fuel:Nat) {aB:Array Bool} {w:World} {g:G} {a:Act} {e:A2} {s:St},Q e s->aB.size=ops.size->(∀i,i<ops.size->(Li aB i↔i<k+1))->ops.size-(k+1)<=fuel->Good n w g a e s->Ext w0 g0 w g->wpAnyIn F 0 P .any ops (Cl n w0 g0 K) fuel aB a w):
  ∀(fuel:Nat) {aB:Array Bool} {w:World} {g:G} {a:Act},aB.size=ops.size->(∀i,i<ops.size->(Li aB i↔i<k))->ops.size-k<=fuel->Good n w g a env σ->Ext w0 g0 w g->wpAnyIn F 0 P .any ops (Cl n w0 g0 K) fuel aB a w:=by
 intro fuel aB w g a hs hl hf hg hx
 cases fuel with
 |zero=>omega
 |succ fuel=>
  have gA: ∀o,ops[k]?=some o-> ∀e∈o.after,Region.binds .any e=true->Li aB e.on:=λo dE e he hb=>by
   have:=fW k o dE e he hb;exact(hl _ Aa).2 this
  have cK:k∈Region.ready .any ops aB:=by
   rw[BR hs];exact⟨λhc=>by have:=(hl k hk).1 hc;omega,o,ho,gA _ ho⟩
  refine⟨λbD=>by rw[bD]at cK;simp at cK,λi hi=>?_⟩;rw[BR hs]at hi;obtain⟨hn,o',dE,eO⟩:=hi
  have dK:i<ops.size:=by
   rcases A4i i ops.size with h|h
   ·exact h
   ·rw[A39 h]at dE;cases dE
  have eF:DC ops aB:=by
   intro j oj dA eR e he hb
   have hj:j<ops.size:=by
    rcases A4i j ops.size with h|h
    ·exact h
    ·rw[A39 h]at dA;cases dA
   have h1:=(hl j hj).1 eR;have h2:=fW j oj dA e he hb;exact(hl _ Aa).2 Aa
  have nI:i=k:=by
   rcases A8x i k with h'|h'|h'
   ·exact absurd ((hl i dK).2 h') hn
   ·exact h'
   ·have bC:=iT i h' dK;have:=Dk eF bC (λo2 d7=>by rw[dE]at d7;cases d7;exact eO);have:=(hl k hk).1 this;omega
  subst nI;rw[dE]at ho;cases ho;simp only[A6]at h
  have cX: ∀j,j<ops.size->(Li (aB.setIfInBounds i true) j↔j<i+1):=by
   intro j hj;rw[E8 Aa,hl j hj];omega
  refine HK hF dE ?_;rcases Ib hg h with⟨hw,e9,h,hg⟩|⟨hw,e9,h,hg⟩
  ·refine .inl ⟨hw,?_⟩;refine h w g a hg.inv hg.env F hF _ _ ?_;rintro v w' ⟨x,e1,s1,⟨g',k1,k2,k3,k4⟩,e2,bB,h⟩;exact cont fuel h (by simp[hs]) cX Aa (Da bB ⟨k4,k3,hg.defers.ext k1,hg.size⟩ k2) (hx.trans k1)
  ·refine .inr ⟨hw,?_⟩;obtain⟨e2,bB,h⟩:=h;exact cont fuel h (by simp[hs]) cX Aa (Da bB hg (.t _ _ .undef)) hx
def As9 (ms:List Nat) (k sz:Nat):Bool:=(List.range sz).all λi=>Nat.blt i k||((List.range k).all (λj=>(ms.getD i 0).testBit j)&&(Nat.beq i k||(ms.getD i 0).testBit k))
theorem An1 {k:Nat} (h:As9 (HG ops.toList []) k ops.size=true):(∀i,k<=i->i<ops.size-> ∀j,j<k->Pre ops j i)/\(∀i,k<i->i<ops.size->Pre ops k i):=by
 have key: ∀i,k<=i->i<ops.size->(∀j,j<k->((HG ops.toList []).getD i 0).testBit j=true)/\(i=k\/((HG ops.toList []).getD i 0).testBit k=true):=by
  intro i h1 h2;have:=A21.1 h i (A7z.2 h2);simp only[A6b,Qp,A21,A7z]at this;rcases this with h3|⟨h3,h4⟩
  ·have h3:i<k:=by simpa[A6i]using h3
   omega
  ·refine⟨h3,?_⟩;rcases h4 with h4|h4
   ·exact .inl (A4f h4)
   ·exact .inr h4
 refine⟨λi h1 h2 j hj=>GF _ _ ((key i h1 h2).1 j hj),λi h1 h2=>?_⟩;rcases(key i Aa h2).2 with h3|h3
 ·omega
 ·exact GF _ _ h3
theorem Mz (hp:ProgOk P c) (sl:List (Nat×Nat)) (k:Nat) {id:Nat} {env env':A2} {σ σ':St} {K:Exit->A2->St->Prop} {l1 l2 la lb:List Oper} {o:Oper} {nw:List Nat} {ms:List Nat} (hm:Mv ops=some m) (hz:regFrz ops env σ=(env',σ'))
  (h1:ops.toList.take m=l1) (h2:ops.toList.drop m=l2) (h3:FO l1=nw) (h4:HG ops.toList []=ms) (kL:Ku ms nw sl l1 0 l1=true) (tK:As9 ms k ops.size=true) (nF:Nat.blt k m=true) (ho:ops[k]?=some o) (h5:l1.take k=la) (h6:l1.drop (k+1)=lb)
  (h:EJ P c n ops nw (λi=>Wn ms i sl) sl 0 la env' σ' (λe s=>A6 P n ops [o] e s (λe s=>EJ P c n ops nw (λi=>Wn ms i sl) sl (k+1) lb e s (λe s=>A6 P n ops l2 e s (K .normal))))):Tr P n (.region id ops true) env σ K:=by
 subst h4;subst h3;subst h5;subst h6;subst h1;subst h2;have hD:=L4 hm;have nF:k<m:=by simpa[A6i]using nF
 have cJ:=hD.le;obtain⟨iW,mL⟩:=An1 tK;have hI:=Y1 hD kL;have aO:(ops.toList.take m).length=m:=by simp;omega
 intro F hF bP w g0 a lL;obtain⟨g,hx,hg⟩:=Fl hz lL;refine A5d ?_ λex a2 w2 (hq:Cl n w g K ex a2 w2)=>hq.lift hx;have oD:((ops.toList.take m).take k).length=k:=by simp;omega
 obtain⟨e,s,q1,q2⟩:=I9 ((ops.toList.take m).take k) 0 (λj hj=>by rw[oD]at hj;rw[Aoy,WU hj,Aoy,WU Aa,Agx,Atj]) h;rw[oD]at q1;refine A7j hp.mix ?_;refine PY (m:=k) hF hp hD.edge Aa iW (λi oi hi gF j oj hj dA=>hI i oi Aa gF j oj hj dA) ?_ ops.size Ac (λi o ho hl=>?_) (λi h1 h2 hl=>?_) (rem:=List.range' 0 k) (λi=>?_) A7g (by simp;omega) q1 (hg.drew) (Ext.drew w g)
 ·intro fuel aB w1 g1 a1 hs hl hf fA eC;refine Ahw hF hD.edge Aa mL ho q2 ?_ fuel hs hl hf fA eC;intro fuel aB w2 g2 a2 e2 s2 hq hs hl hf jH jQ;have f8:((ops.toList.take m).drop (k+1)).length=m-(k+1):=by simp;omega
  obtain⟨e3,s3,q3,q4⟩:=I9 ((ops.toList.take m).drop (k+1)) (k+1) (λj hj=>by rw[f8]at hj;rw[A4z,Aoy,WU Aa,Agx]) hq;rw[f8]at q3;refine PY (m:=m) hF hp hD.edge cJ (λi h1 h2 j hj=>hD.tail i h1 h2 j Aa) hI ?_ fuel hs ?_ (λi h1 h2 hc=>?_) (rem:=List.range' (k+1) (m-(k+1))) (λi=>?_) A7g (by simp;omega) q3 jH jQ
  ·intro fuel aB w3 g3 a3 hs hl hf nK iB;exact FM hF hD fuel m (WW _) cJ hs hl hf q4 nK iB
  ·intro j oj dA eR e he hb
   have hj:j<ops.size:=by
    rcases A4i j ops.size with h|h
    ·exact h
    ·rw[A39 h]at dA;cases dA
   have h1:=(hl j hj).1 eR;have h2:=hD.edge j oj dA e he hb;exact(hl _ Aa).2 Aa
  ·have:=(hl i h2).1 hc;omega
  ·rw[A72];constructor
   ·intro h;exact⟨Aa,λhc=>by have:=(hl i Aa).1 hc;omega⟩
   ·intro h;refine⟨Nat.le_of_not_lt λhc=>h.2 ((hl i Aa).2 hc),Aa⟩
 ·simp[Li,A4w]at hl
 ·simp[Li,A4w]at hl
 ·simp[Li,A4w,A72]
end
mutual
def Asu:T->Bool
 |.undef=>true
 |.bool _=>true
 |.int _ _=>true
 |.str _=>true
 |.nilIface=>true
 |.nilPtr=>true
 |.nilFunc=>true
 |.nilMap=>true
 |.slice _ _ []=>true
 |.agg l=>ZN l
 |.tuple l=>ZN l
 |_=>false
def ZN:List T->Bool
 |[]=>true
 |x::r=>Asu x&&ZN r
end
mutual
def Azr:AV->Bool
 |.t x=>Asu x
 |.row _ _ _ _=>true
 |.agg l=>ZO l
 |.tuple l=>ZO l
 |_=>false
def ZO:List AV->Bool
 |[]=>true
 |x::r=>Azr x&&ZO r
end
mutual
def Az6 (σ:St):AV->Option AV
 |.agg cs=>match Ale σ cs with
  |some ys=>some (.agg ys)
  |none=>none
 |.t x=>some (.t x)
 |.row b sz lo n=>HH σ (.row b sz lo n)
 |_=>none
def Ale (σ:St):List AV->Option (List AV)
 |[]=>some []
 |x::r=>match Az6 σ x with
  |some y=>match Ale σ r with
   |some s=>some (y::s)
   |none=>none
  |none=>none
end
def Asi (c:Nat) (l:List Nat):List Nat:=bif Kl c l then l else c::l
mutual
def A0p:AV->List Nat->List Nat
 |.t _,l=>l
 |.top,l=>l
 |.ref c _,l=>Asi c l
 |.eref c _ _ _,l=>Asi c l
 |.mref c,l=>Asi c l
 |.row c _ _ _,l=>Asi c l
 |.iface _ x,l=>A0p x l
 |.func _ f c,l=>Aoc f (Aoc c l)
 |.agg cs,l=>Aoc cs l
 |.tuple cs,l=>Aoc cs l
def Aoc:List AV->List Nat->List Nat
 |[],l=>l
 |x::r,l=>Aoc r (A0p x l)
end
def Aum (c:Nat):Bool:=Nat.beq (c % 2) 1
section
variable {P:Program} {c:Conf} {cf:Nat->List AV->St->Option (AV×St)} {R:Type}
end
section
variable {P:Program} {c:Conf} {cf:Nat->List AV->St->Option (AV×St)} {R:Type}
end
section
variable {P:Program}
theorem Tr.killOne {n:Nat} {code:Code} {env:A2} {σ:St} {K:Exit->A2->St->Prop} (b:Nat) (hb:Aum b=false) (h:Tr P n code (Gv b env) (CX b σ) K):Tr P n code env σ K:=by
 intro F hF bP w g a hg;have mL: ¬b % 2=1:=λe=>by simp[Aum,e]at hb
 obtain⟨k1,k2,k3⟩:=Yq hg.inv b (λcN=>by have:=(hg.inv.bx _ cN).1;omega);exact A5d (h F hF bP w _ a ⟨k3 a env hg.env,k2,hg.defers.ext k1,hg.size⟩) λex a2 w2 hq=>hq.lift k1
end
