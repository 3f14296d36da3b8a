/- Contracts and laws, joined: Hx, Hy, Hv, Hl, Hk, Hr, Hz. No condition beside those that each theorem names. -/
import Derived.Test.YtmohpcgmdheafaaGreatDoorZN3
set_option linter.unusedVariables false
set_option linter.unusedSimpArgs false
namespace Go.Am
section
variable {P:Program} {c:Conf} {n m:Nat} {ops:Array Oper} {news:List Nat} {ex:Nat->List Nat} {sl:List (Nat×Nat)}
def Tou (sl:List (Nat×Nat)) (i:Nat) (o:Oper) (l:Nat):Prop:=l∈C0 o\/(i,l)∈sl
def Yn (ω:List (Nat×Nat)) (σ2:St):Bool:=FB (Ks ω)&&(FB (GY ω)&&Ajj ω σ2)
def ZP (P:Program) (c:Conf) (sl:List (Nat×Nat)) (i:Nat) (o:Oper) (env:Env) (σ:St) (y:AV) (nb:St):Prop:=
 ∃cf cl f as r σ2 ω,EB P cf/\o.op=.call cl/\C6 c env cl=some (f,as)/\D7 as=true/\cf f as []=some (r,σ2)/\Yn ω σ2=true/\(∀b∈GY ω,(i,b)∈sl/\look σ b=none)/\y=CV (look ω) r/\nb=Iv ω σ2
mutual
theorem T3 (f:Nat->Option Nat): ∀(x:AV),x.free=true->CV f x=x
 |.t x,_=>rfl
 |.top,_=>rfl
 |.ref ..,h=>by simp[AV.free]at h
 |.eref ..,h=>by simp[AV.free]at h
 |.mref ..,h=>by simp[AV.free]at h
 |.row ..,h=>by simp[AV.free]at h
 |.iface t x,h=>by simp only[AV.free]at h;simp only[CV,T3 f x h]
 |.func fn x y,h=>by simp only[AV.free,Bool.and_eq_true]at h;simp only[CV,GP f x h.1,GP f y h.2]
 |.agg cs,h=>by simp only[AV.free]at h;simp only[CV,GP f cs h]
 |.tuple cs,h=>by simp only[AV.free]at h;simp only[CV,GP f cs h]
theorem GP (f:Nat->Option Nat): ∀(l:List AV),D7 l=true->HY f l=l
 |[],_=>rfl
 |x::r,h=>by simp only[D7,Bool.and_eq_true]at h;simp only[HY,T3 f x h.1,GP f r h.2]
end
mutual
theorem MS {f:Nat->Option Nat} (hf: ∀b,f b=some b): ∀(x:AV),CV f x=x
 |.t x=>rfl
 |.top=>rfl
 |.ref c o=>by simp[CV,hf]
 |.eref c s k o=>by simp[CV,hf]
 |.mref c=>by simp[CV,hf]
 |.row c s l k=>by simp[CV,hf]
 |.iface t x=>by simp only[CV,MS hf x]
 |.func fn x y=>by simp only[CV,Lg hf x,Lg hf y]
 |.agg cs=>by simp only[CV,Lg hf cs]
 |.tuple cs=>by simp only[CV,Lg hf cs]
theorem Lg {f:Nat->Option Nat} (hf: ∀b,f b=some b): ∀(l:List AV),HY f l=l
 |[]=>rfl
 |x::r=>by simp only[HY,MS hf x,Lg hf r]
end
theorem Abd {f:Nat->Option Nat} (hf: ∀b,f b=some b): ∀(l:Env),S7 f l=l
 |[]=>rfl
 |(t,x)::r=>by simp only[S7,MS hf x,Abd hf r]
theorem Aly {f:Nat->Option Nat} (hf: ∀b,f b=some b) (B:Blk):Ly f B=B:=by
 cases B<;>simp[Ly,Lg hf,Abd hf]
theorem NV (σ:St): ∀s:St,J9 [] σ s=s
 |[]=>rfl
 |(b,B)::r=>by
  have hk: ∀b,Ft [] σ b=some b:=fun b=>by simp[Ft,look]
  simp only[J9,look,Aly hk,NV σ r]
theorem XJ {σ:St}: ∀{ω:List (Nat×Nat)},(∀b∈GY ω,look σ b=none)->V2 [] σ ω=true
 |[],_=>rfl
 |(c,b)::r,h=>by
  simp only[V2,look,h b (by simp[GY]),XJ (ω:=r) (fun b' hb=>h b' (by simp[GY,hb]))]
  simp
theorem SQ {P:Program} {c:Conf} {sl:List (Nat×Nat)} (hp:ProgOk P c) {i:Nat} {o:Oper} {w:World} {g:G} {a:Act} {env:Env} {σ:St} {y:AV} {nb:St} (hi:Inv w g σ) (he:AK w g a env) (h:ZP P c sl i o env σ y nb):
  BJ P o a w (fun v w'=> ∃g',Ext w g w' g'/\Rel w' g' v y/\AK w' g' a env/\Inv w' g' (nb++σ)):=by
 obtain⟨cf,cl,f,as,r,σ2,ω,hcf,ho,hc,hfr,hr,hw,hl,rfl,rfl⟩:=h
 simp only[Yn,Bool.and_eq_true]at hw
 have hR:SF [] ω σ σ2=true:=by
  simp only[SF,Ks,FB,hw.1,hw.2.1,hw.2.2,Ajk,XJ (fun b hb=>(hl b hb).2),Bool.and_self]
 have hR:=NA hR
 obtain⟨⟨fn,hf,hb⟩,hca⟩:=hcf _ _ _ _ _ hr
 obtain⟨vs,hrun,hrel⟩:=C5 hp he hc ho hf hb
 obtain⟨i1,i2⟩:=PF hi hR
 have hrel2:=hrel.ren (look []) i2
 rw[GP _ as hfr]at hrel2
 refine BJ.enter hrun ((hca vs w _ hrel2 i1).mono ?_)
 rintro ed w' ⟨v,g1,rfl,q1,q2,q3⟩
 obtain⟨g',k1,k2,k3,k4⟩:=J2 hi hR q1 q3
 rw[NV]at k2
 have hk: ∀b,Ft [] σ b=some b:=fun b=>by simp[Ft,look]
 refine⟨v,rfl,g',k1,k3 v r q2,fun t x hx=>?_,k2⟩
 have:=k4 _ _ (he t x hx)
 rwa[MS hk]at this
theorem Ew: ∀{nb σ:St} {b:Nat},look (nb++σ) b=match look nb b with
  |some B=>some B
  |none=>look σ b
 |[],σ,b=>by simp[look]
 |(k,B)::r,σ,b=>by
  rw[List.cons_append,Ao,Ao]
  split
  ·rfl
  ·exact Ew
def Yi (P:Program) (c:Conf) (n:Nat) (ops:Array Oper) (news:List Nat) (ex:Nat->List Nat) (sl:List (Nat×Nat)) (i:Nat) (o:Oper) (env:Env) (σ:St) (y:AV) (nb:St):Prop:=
 Ai6 n o.dst/\
 ((GV ops o env=some true/\ ∃t so xo p x0 lab B0 B1,o.op=.store t so xo/\o.dst=none/\ev env so=some p/\ev env xo=some x0/\(i,lab)∈sl/\look σ lab=some B0/\(∀σ,look σ lab=some B0->EK c.te t p x0 σ=some (upd σ lab B1))/\y=.top/\nb=[(lab,B1)])
 \/(GV ops o env=some true/\ ∃cf,EB P cf/\BW c cf (ex i++news) o env σ=some (y,nb))
 \/(GV ops o env=some false/\y=.t .undef/\nb=[])
 \/(GV ops o env=some true/\ZP P c sl i o env σ y nb))
theorem Yi.congr {i:Nat} {o:Oper} {env env':Env} {σ σ':St} {y:AV} {nb:St} (h:Yi P c n ops news ex sl i o env σ y nb) (he: ∀t,t∈o.looksAt ops->look env t=look env' t)
  (hs: ∀b,b∉ex i++news->look σ b=look σ' b) (hn: ∀b,Tou sl i o b->look σ b=look σ' b):Yi P c n ops news ex sl i o env' σ' y nb:=by
 refine⟨h.1,?_⟩
 rw[<-OD he]
 rcases h.2 with⟨h1,t,so,xo,p,x0,lab,B0,B1,q1,q2,q3,q4,q5,q6,q7,q8,q9⟩|⟨h1,cf,h2,h3⟩|h3|⟨h1,cf,cl,f,as,r,σ2,ω,w1,w2,w3,w4,w5,w6,w7,w8,w9⟩
 ·refine .inl ⟨h1,t,so,xo,p,x0,lab,B0,B1,q1,q2,?_,?_,q5,?_,q7,q8,q9⟩
  ·rw[<-EG he so (by rw[q1];simp[Op.operands])];exact q3
  ·rw[<-EG he xo (by rw[q1];simp[Op.operands])];exact q4
  ·rw[<-hn lab (.inr q5)];exact q6
 ·exact .inr (.inl ⟨h1,cf,h2,by rw[<-Fh (EG he) hs (fun b hb=>hn b (.inl hb))];exact h3⟩)
 ·exact .inr (.inr (.inl h3))
 ·have hop: ∀x∈cl.operands,ev env x=ev env' x:=fun x hx=>EG he x (by rw[w2];exact hx)
  exact .inr (.inr (.inr ⟨h1,cf,cl,f,as,r,σ2,ω,w1,w2,by rw[<-Ie hop];exact w3,w4,w5,w6,fun b hb=>⟨(w7 b hb).1,by rw[<-hn b (.inr (w7 b hb).1)];exact(w7 b hb).2⟩,w8,w9⟩))
theorem HZ {ω:List (Nat×Nat)} {b:Nat}: ∀{s:St},look (Iv ω s) b≠none-> ∃c,look ω c=some b
 |[],h=>by simp[Iv,look]at h
 |(c',B)::r,h=>by
  simp only[Iv]at h
  split at h
  ·rename_i b' hb'
   rw[Ao]at h
   by_cases e:b'=b
   ·subst e;exact⟨c',hb'⟩
   ·rw[if_neg e]at h;exact HZ h
  ·exact HZ h
theorem Yi.new {i:Nat} {o:Oper} {env:Env} {σ:St} {y:AV} {nb:St} (h:Yi P c n ops news ex sl i o env σ y nb) {b:Nat} (hb:look nb b≠none):Tou sl i o b:=by
 rcases h.2 with⟨_,t,so,xo,p,x0,lab,B0,B1,_,_,_,_,q5,_,_,_,q9⟩|⟨_,cf,_,h⟩|⟨_,_,h⟩|⟨_,cf,cl,f,as,r,σ2,ω,w1,w2,w3,w4,w5,w6,w7,w8,w9⟩
 ·subst q9
  rw[Ao]at hb
  split at hb
  ·rename_i e;subst e;exact .inr q5
  ·simp[look]at hb
 ·rcases Q4 h with h|⟨d,B,_,h2,h3,_⟩
  ·subst h;simp[look]at hb
  ·subst h2
   rw[Ao]at hb
   split at hb
   ·rename_i e;subst e;exact .inl (by rw[h3];simp)
   ·simp[look]at hb
 ·subst h;simp[look]at hb
 ·subst w9
  obtain⟨c',hc⟩:=HZ hb
  exact .inr (w7 b (MQ (Gb hc))).1
def KD (P:Program) (c:Conf) (n:Nat) (ops:Array Oper) (news:List Nat) (ex:Nat->List Nat) (sl:List (Nat×Nat)):List Nat->Env->St->Env->St->Prop
 |[],env,σ,e,s=>(∀t,look e t=look env t)/\(∀b,look s b=look σ b)
 |i::r,env,σ,e,s=> ∃o y nb e1 s1,ops[i]?=some o/\Yi P c n ops news ex sl i o env σ y nb/\Arm o env σ y nb e1 s1/\KD P c n ops news ex sl r e1 s1 e s
theorem Om {nb σ:St} {l:Nat} {B:Blk} (h:nb=[(l,B)]) (b:Nat):look (nb++σ) b=if l=b then some B else look σ b:=by
 subst h;simp only[List.cons_append,List.nil_append];rw[Ao]
theorem KD.congr: ∀{l:List Nat} {env env':Env} {σ σ':St} {e:Env} {s:St},KD P c n ops news ex sl l env σ e s->(∀t,look env t=look env' t)->(∀b,look σ b=look σ' b)->KD P c n ops news ex sl l env' σ' e s
 |[],env,env',σ,σ',e,s,h,he,hs=>⟨fun t=>by rw[h.1 t,he t],fun b=>by rw[h.2 b,hs b]⟩
 |i::r,env,env',σ,σ',e,s,⟨o,y,nb,e1,s1,h1,h3,h4,h5⟩,he,hs=>by
  refine⟨o,y,nb,e1,s1,h1,h3.congr (fun t _=>he t) (fun b _=>hs b) (fun b _=>hs b),⟨fun t=>by rw[h4.1 t,he t],fun b=>?_⟩,h5⟩
  rw[h4.2 b,Ew,Ew,hs b]
structure Indep (ops:Array Oper) (news:List Nat) (ex:Nat->List Nat) (sl:List (Nat×Nat)) (i j:Nat) (oi oj:Oper):Prop where
 ap:oj.apart ops oi=true
 tj: ∀l,Tou sl j oj l->l∈ex i++news/\ ¬Tou sl i oi l
 ti: ∀l,Tou sl i oi l->l∈ex j++news
theorem Ax8 {i j:Nat} {r:List Nat} {oi oj:Oper} (hoi:ops[i]?=some oi) (hoj:ops[j]?=some oj) (hI:Indep ops news ex sl i j oi oj) {env:Env} {σ:St} {e:Env} {s:St}
  (h:KD P c n ops news ex sl (j::i::r) env σ e s):KD P c n ops news ex sl (i::j::r) env σ e s:=by
 obtain⟨o1,y1,nb1,e1,s1,a1,a3,a4,o2,y2,nb2,e2,s2,b1,b3,b4,hr⟩:=h
 rw[hoj]at a1;cases a1
 rw[hoi]at b1;cases b1
 obtain⟨p1,p2,p3⟩:=Oper.apart_spec hI.ap
 have n1: ∀(σ:St) b,¬Tou sl j oj b->look (nb1++σ) b=look σ b:=by
  intro σ b hb
  have h0:look nb1 b=none:=Classical.byContradiction fun hc=>hb (a3.new hc)
  rw[Ew,h0]
 have n2: ∀(σ:St) b,¬Tou sl i oi b->look (nb2++σ) b=look σ b:=by
  intro σ b hb
  have h0:look nb2 b=none:=Classical.byContradiction fun hc=>hb (b3.new hc)
  rw[Ew,h0]
 have c3:Yi P c n ops news ex sl i oi env σ y2 nb2:=by
  refine b3.congr (fun t ht=>?_) (fun b hb=>?_) (fun b hb=>?_)
  ·rw[a4.1 t,if_neg (fun hd=>p1 t hd ht)]
  ·rw[a4.2 b];exact n1 σ b (fun hc=>hb (hI.tj b hc).1)
  ·rw[a4.2 b];exact n1 σ b (fun hc=>(hI.tj b hc).2 hb)
 obtain⟨e3,he3⟩: ∃e3:Env,∀t,look e3 t=if oi.dst=some t then some y2 else look env t:=by
  cases hd:oi.dst with
  |none=>exact⟨env,fun t=>by simp⟩
  |some d=>exact⟨(d,y2)::env,fun t=>by rw[Ao];simp⟩
 have d3:Yi P c n ops news ex sl j oj e3 (nb2++σ) y1 nb1:=by
  refine a3.congr (fun t ht=>?_) (fun b hb=>?_) (fun b hb=>?_)
  ·rw[he3 t,if_neg (fun hd=>p3 t hd ht)]
  ·exact(n2 σ b (fun hc=>hb (hI.ti b hc))).symm
  ·exact(n2 σ b (fun hc=>(hI.tj b hb).2 hc)).symm
 refine⟨oi,y2,nb2,e3,nb2++σ,hoi,c3,⟨he3,fun _=>rfl⟩,oj,y1,nb1,e2,s2,hoj,d3,⟨fun t=>?_,fun b=>?_⟩,hr⟩
 ·rw[b4.1 t,a4.1 t,he3 t]
  by_cases h1:oi.dst=some t
  ·have h2: ¬oj.dst=some t:=fun h2=>p2 t h2 h1
   simp[h1,h2]
  ·simp[h1]
 ·rw[b4.2 b]
  by_cases hi:Tou sl i oi b
  ·have hj: ¬Tou sl j oj b:=fun hc=>(hI.tj b hc).2 hi
   rw[n1 _ b hj,Ew,Ew,a4.2 b,n1 σ b hj]
  ·rw[n2 _ b hi,a4.2 b,Ew,Ew,n2 σ b hi]
theorem V5 {i:Nat} {oi:Oper} (hoi:ops[i]?=some oi): ∀{l1 l2:List Nat},(∀j∈l1,∃oj,ops[j]?=some oj/\Indep ops news ex sl i j oi oj)-> ∀{env:Env} {σ:St} {e:Env} {s:St},
  KD P c n ops news ex sl (l1++i::l2) env σ e s->KD P c n ops news ex sl (i::(l1++l2)) env σ e s
 |[],l2,_,env,σ,e,s,h=>h
 |j::l1,l2,hl,env,σ,e,s,h=>by
  obtain⟨oj,hoj,hap⟩:=hl j Ac
  obtain⟨o1,y1,nb1,e1,s1,a1,a3,a4,h5⟩:=h
  have ih:=V5 hoi (l1:=l1) (l2:=l2) (fun j hj=>hl j (by simp[hj])) h5
  exact Ax8 hoi hoj hap ⟨o1,y1,nb1,e1,s1,a1,a3,a4,ih⟩
theorem OJ (hp:ProgOk P c) {op:Oper} {t:Nat} {so xo:Operand} {p x0:AV} {σ2:St} (ho:op.op=.store t so xo)
  {w:World} {g:G} {a:Act} {env:Env} {σ:St} (hi:Inv w g σ) (he:AK w g a env) (h1:ev env so=some p) (h2:ev env xo=some x0) (hsv:EK c.te t p x0 σ=some σ2):BJ P op a w (fun v w'=> ∃g',Ext w g w' g'/\Rel w' g' v .top/\AK w' g' a env/\Inv w' g' σ2):=by
 obtain⟨w',q1,q2,q3,q4⟩:=OI hp.te hi (AG he h1) (AG he h2) hsv
 exact BJ.skip (w':=w') (by simp[execOp,ho,q1]) ⟨g,q2,.top _,he.mono q4,q3⟩
theorem WU {F:Fence} (hF:IsW F) (hp:ProgOk P c) (hD:DrawOk ops m) (hI: ∀i oi,i<m->ops[i]?=some oi-> ∀j oj,j<i->ops[j]?=some oj->Pre ops j i\/Indep ops news ex sl i j oi oj) {K:Exit->Env->St->Prop} {w0:World} {g0:G} {e:Env} {s:St} (htl:A2 P n ops (ops.toList.drop m) e s (K .normal)):
  ∀(fuel:Nat) {listed:Array Bool} {rem:List Nat} {w:World} {g:G} {a:Act} {env:Env} {σ:St},listed.size=ops.size->DC ops listed->(∀i,m<=i->i<ops.size-> ¬Li listed i)->
  (∀i,i∈rem↔i<m/\ ¬Li listed i)->rem.Pairwise (· < ·)->rem.length+(ops.size-m)<=fuel->KD P c n ops news ex sl rem env σ e s->Good n w g a env σ->Ext w0 g0 w g->
  wpAnyIn F 0 P .any ops (BS n w0 g0 K) fuel listed a w:=by
 intro fuel
 induction fuel with
 |zero=>
  intro listed rem w g a env σ hs hdc hhi hrem hsort hf hruns hg hx
  have hnil:rem=[]:=List.eq_nil_of_length_eq_zero Aa
  subst hnil
  refine Ha hF hD 0 m (Nat.le_refl _) hD.le hs (fun i hi=>⟨fun h=>?_,fun h=>?_⟩) Aa htl (hg.eqv hruns.1 hruns.2) hx
  ·exact Classical.byContradiction fun hc=>hhi i Aa hi h
  ·exact Classical.byContradiction fun hc=>by have:=(hrem i).2 ⟨h,hc⟩;simp at this
 |succ fuel ih=>
  intro listed rem w g a env σ hs hdc hhi hrem hsort hf hruns hg hx
  by_cases hnil:rem=[]
  ·subst hnil
   refine Ha hF hD (fuel+1) m (Nat.le_refl _) hD.le hs (fun i hi=>⟨fun h=>?_,fun h=>?_⟩) (by simp at hf;omega) htl (hg.eqv hruns.1 hruns.2) hx
   ·exact Classical.byContradiction fun hc=>hhi i Aa hi h
   ·exact Classical.byContradiction fun hc=>by have:=(hrem i).2 ⟨h,hc⟩;simp at this
  ·obtain⟨i0,rest,rfl⟩: ∃i0 rest,rem=i0::rest:=List.exists_cons_of_ne_nil hnil
   have hm:=hD.le
   obtain⟨hi0,hn0⟩:=(hrem i0).1 Ac
   have hmin: ∀j,j<i0->Li listed j:=fun j hj=>Classical.byContradiction fun hc=>by
    have:=(hrem j).2 ⟨by omega,hc⟩
    simp at this
    rcases this with h'|h'
    ·omega
    ·have:=(List.pairwise_cons.1 hsort).1 j h';omega
   have ho0:ops[i0]?=some ops[i0]:=Array.getElem?_eq_getElem Aa
   have hin:i0∈Region.ready .any ops listed:=by
    rw[Bv hs]
    exact⟨hn0,ops[i0],ho0,fun e he hb=>hmin _ (hD.edge i0 _ ho0 e he hb)⟩
   refine⟨fun hnil=>by rw[hnil]at hin;simp at hin,fun i hi=>?_⟩
   rw[Bv hs]at hi
   obtain⟨hn,o,ho,hr⟩:=hi
   have hisz:i<ops.size:=by
    rcases Nat.lt_or_ge i ops.size with h|h
    ·exact h
    ·rw[Array.getElem?_eq_none h]at ho;cases ho
   have hr': ∀o2,ops[i]?=some o2-> ∀e∈o2.after,Region.binds .any e=true->Li listed e.on:=fun o2 ho2=>by rw[ho]at ho2;cases ho2;exact hr
   have him:i<m:=Classical.byContradiction fun hc=>hn0 (CA hdc (hD.tail i Aa hisz i0 Aa) hr')
   have himem:i∈i0::rest:=(hrem i).2 ⟨him,hn⟩
   obtain⟨l1,l2,hsplit⟩:=List.append_of_mem himem
   rw[hsplit]at hruns hsort hrem hf
   have hlt: ∀j∈l1,j<i:=fun j hj=>(List.pairwise_append.1 hsort).2.2 j hj i Ac
   have hgt: ∀j∈l2,i<j:=fun j hj=>(List.pairwise_cons.1 (List.pairwise_append.1 hsort).2.1).1 j hj
   have hb:=V5 ho (l1:=l1) (l2:=l2) (fun j hj=>by
    obtain⟨hjm,hjn⟩:=(hrem j).1 (by simp[hj])
    have hoj:ops[j]?=some ops[j]:=Array.getElem?_eq_getElem Aa
    refine⟨ops[j],hoj,?_⟩
    rcases hI i o him ho j ops[j] (hlt j hj) hoj with h'|h'
    ·exact absurd (CA hdc h' hr') hjn
    ·exact h') hruns
   obtain⟨o2,y,nb,e1,s1,q1,q3,q4,q5⟩:=hb
   rw[ho]at q1;cases q1
   have hrem': ∀j,j∈l1++l2↔j<m/\ ¬Li (listed.setIfInBounds i true) j:=by
    intro j
    rw[DL Aa]
    have hj:=hrem j
    constructor
    ·intro hmem
     have hne:j≠i:=by
      rcases List.mem_append.1 hmem with h'|h'
      ·have:=hlt j h';omega
      ·have:=hgt j h';omega
     have:=hj.1 (by rcases List.mem_append.1 hmem with h'|h'<;>simp[h'])
     exact⟨this.1,fun hc=>by rcases hc with h'|h';exact hne h';exact this.2 h'⟩
    ·rintro⟨h1,h2⟩
     have hne:j≠i:=fun e=>h2 (.inl e)
     have:=hj.2 ⟨h1,fun hc=>h2 (.inr hc)⟩
     simp at this⊢
     rcases this with h'|h'|h'
     ·exact .inl h'
     ·exact absurd h' hne
     ·exact .inr h'
   have hsort':(l1++l2).Pairwise (· < ·):=by
    refine List.pairwise_append.2 ⟨(List.pairwise_append.1 hsort).1,(List.pairwise_cons.1 (List.pairwise_append.1 hsort).2.1).2,fun x hx y hy=>?_⟩
    have:=hlt x hx;have:=hgt y hy;omega
   have hhi': ∀j,m<=j->j<ops.size-> ¬Li (listed.setIfInBounds i true) j:=fun j hj hjs hc=>by
    rw[DL Aa]at hc
    rcases hc with h'|h'
    ·omega
    ·exact hhi j hj hjs h'
   have hcont: ∀{w':World} {g':G} {a':Act} {env':Env} {σ':St},(∀t,look env' t=look e1 t)->(∀b,look σ' b=look s1 b)->Good n w' g' a' env' σ'->Ext w0 g0 w' g'->
     wpAnyIn F 0 P .any ops (BS n w0 g0 K) fuel (listed.setIfInBounds i true) a' w':=by
    intro w' g' a' env' σ' he1 hs1 hg1 hx1
    exact ih (by simp[hs]) (hdc.set Aa hr') hhi' hrem' hsort' (by simp at hf⊢;omega) (q5.congr (fun t=>(he1 t).symm) (fun b=>(hs1 b).symm)) hg1 hx1
   have hputg: ∀{w':World} {g':G} {v:Value} {σ':St},Good n w' g' a env σ'->Rel w' g' v y->(∀b,look σ' b=look s1 b)->Ext w0 g0 w' g'->
     wpAnyIn F 0 P .any ops (BS n w0 g0 K) fuel (listed.setIfInBounds i true) (a.put o.dst v) w':=by
    intro w' g' v σ' hg1 hrel hs1 hx1
    cases hd:o.dst with
    |none=>
     refine hcont (env':=env) (fun t=>?_) hs1 hg1 hx1
     rw[q4.1 t,hd];simp
    |some d=>
     have hlt:=q3.1 d hd
     have hput:B4 n (some d) y env=some ((d,y)::env):=by
      simp only[B4]
      have:Nat.blt d n=true:=by simpa[Nat.blt_eq]using hlt
      rw[this]
     refine hcont (env':=(d,y)::env) (fun t=>?_) hs1 (Cm hput hg1 hrel) hx1
     rw[q4.1 t,hd,Ao];simp
   refine FM hF ho ?_
   rcases q3.2 with⟨hw,t,so,xo,p,x0,lab,B0,B1,r1,r2,r3,r4,r5,r6,r7,r8,r9⟩|⟨hw,cf,hcf,hst⟩|⟨hw,hy,hnb⟩|⟨hw,hwide⟩
   ·refine .inl ⟨Dc hg hw,?_⟩
    refine OJ hp r1 hg.inv hg.env r3 r4 (r7 σ r6) F hF _ _ ?_
    rintro v w' ⟨g',k1,k2,k3,k4⟩
    subst r8
    refine hputg (σ':=upd σ lab B1) ⟨k3,k4,hg.defers.ext k1,hg.size⟩ k2 (fun b=>?_) (hx.trans k1)
    rw[q4.2 b,Om r9,B3]
   ·refine .inl ⟨Dc hg hw,?_⟩
    refine FU hp hcf hg.inv hg.env hst F hF _ _ ?_
    rintro v w' ⟨g',k1,k2,k3,k4⟩
    exact hputg (σ':=nb++σ) ⟨k4,k3,hg.defers.ext k1,hg.size⟩ k2 (fun b=>(q4.2 b).symm) (hx.trans k1)
   ·refine .inr ⟨Dc hg hw,?_⟩
    subst hy;subst hnb
    exact hputg (σ':=σ) hg (.t _ _ .undef) (fun b=>(q4.2 b).symm) hx
   ·refine .inl ⟨Dc hg hw,?_⟩
    refine SQ hp hg.inv hg.env hwide F hF _ _ ?_
    rintro v w' ⟨g',k1,k2,k3,k4⟩
    exact hputg (σ':=nb++σ) ⟨k3,k4,hg.defers.ext k1,hg.size⟩ k2 (fun b=>(q4.2 b).symm) (hx.trans k1)
end
def Azf (m k:Nat):Bool:=Nat.beq ((m/2^k) % 2) 1
def Atx (ms:List Nat) (i k:Nat):Bool:= !(Nat.beq i k)&&(!(Azf (ms.getD i 0) k)&& !(Azf (ms.getD k 0) i))
def RV (ms:List Nat) (i:Nat):List (Nat×Nat)->List Nat
 |[]=>[]
 |(k,lab)::r=>bif Atx ms i k then lab::RV ms i r else RV ms i r
def Oo (i:Nat):List (Nat×Nat)->List Nat
 |[]=>[]
 |(k,lab)::r=>bif Nat.beq k i then lab::Oo i r else Oo i r
def Acc (sl:List (Nat×Nat)) (i:Nat) (o:Oper):List Nat:=C0 o++Oo i sl
def Yc (ls:List Nat):List Nat->Bool
 |[]=>true
 |l::r=>FC l ls&&Yc ls r
def Vb (ls:List Nat):List Nat->Bool
 |[]=>true
 |l::r=> !(FC l ls)&&Vb ls r
def YZ (ms:List Nat) (news:List Nat) (sl:List (Nat×Nat)) (i j:Nat) (oi oj:Oper):Bool:=
 (Yc (RV ms i sl++news) (Acc sl j oj)&&Vb (Acc sl i oi) (Acc sl j oj))&&Yc (RV ms j sl++news) (Acc sl i oi)
def QQ (ms:List Nat) (news:List Nat) (sl:List (Nat×Nat)) (i:Nat) (oi:Oper):Nat->List Oper->Bool
 |_,[]=>true
 |j,oj::r=>((ms.getD i 0).testBit j||YZ ms news sl i j oi oj)&&QQ ms news sl i oi (j+1) r
def HO (ms:List Nat) (news:List Nat) (sl:List (Nat×Nat)) (l:List Oper):Nat->List Oper->Bool
 |_,[]=>true
 |i,o::r=>QQ ms news sl i o 0 (l.take i)&&HO ms news sl l (i+1) r
theorem Me {i l:Nat}: ∀{sl:List (Nat×Nat)},l∈Oo i sl↔(i,l)∈sl
 |[]=>by simp[Oo]
 |(k,lab)::r=>by
  simp only[Oo]
  cases h:Nat.beq k i with
  |true=>
   have e:=Nat.eq_of_beq_eq_true h
   subst e
   simp only[cond_true,List.mem_cons,Me (sl:=r),Prod.mk.injEq,true_and]
  |false=>
   have e:k≠i:=fun e=>by subst e;simp at h
   simp only[cond_false,Me (sl:=r),List.mem_cons,Prod.mk.injEq]
   exact⟨.inr,fun h=>h.elim (fun h=>absurd h.1.symm e) id⟩
theorem Mv {sl:List (Nat×Nat)} {i:Nat} {o:Oper} {l:Nat}:l∈Acc sl i o↔Tou sl i o l:=by
 simp only[Acc,List.mem_append,Me,Tou]
theorem Sv {ls:List Nat}: ∀{r:List Nat},Yc ls r=true-> ∀l∈r,l∈ls
 |[],_,l,h=>by simp at h
 |x::r,hb,l,h=>by
  simp only[Yc,Bool.and_eq_true]at hb
  rcases List.mem_cons.1 h with e|e
  ·subst e;exact Hg.1 hb.1
  ·exact Sv hb.2 l e
theorem Ty {ls:List Nat}: ∀{r:List Nat},Vb ls r=true-> ∀l∈r,l∉ls
 |[],_,l,h=>by simp at h
 |x::r,hb,l,h=>by
  simp only[Vb,Bool.and_eq_true,Bool.not_eq_true']at hb
  rcases List.mem_cons.1 h with e|e
  ·subst e;exact fun hc=>by rw[Hg.2 hc]at hb;cases hb.1
  ·exact Ty hb.2 l e
theorem QP {ms news:List Nat} {sl:List (Nat×Nat)} {i:Nat} {oi:Oper}: ∀{j0:Nat} {l:List Oper},QQ ms news sl i oi j0 l=true-> ∀j oj,l[j]?=some oj->(ms.getD i 0).testBit (j0+j)=true\/YZ ms news sl i (j0+j) oi oj=true
 |j0,[],_,j,oj,h=>by simp at h
 |j0,x::r,hb,j,oj,h=>by
  simp only[QQ,Bool.and_eq_true,Bool.or_eq_true]at hb
  cases j with
  |zero=>simp at h;subst h;exact hb.1
  |succ j=>
   have:=QP hb.2 j oj (by simpa using h)
   rwa[show j0+1+j=j0+(j+1)by omega]at this
theorem OY {ms news:List Nat} {sl:List (Nat×Nat)} {l0:List Oper}: ∀{i0:Nat} {l:List Oper},HO ms news sl l0 i0 l=true-> ∀i oi,l[i]?=some oi->QQ ms news sl (i0+i) oi 0 (l0.take (i0+i))=true
 |i0,[],_,i,oi,h=>by simp at h
 |i0,x::r,hb,i,oi,h=>by
  simp only[HO,Bool.and_eq_true]at hb
  cases i with
  |zero=>simp at h;subst h;exact hb.1
  |succ i=>
   have:=OY hb.2 i oi (by simpa using h)
   rwa[show i0+1+i=i0+(i+1)by omega]at this
section
variable {P:Program} {c:Conf} {n m:Nat} {ops:Array Oper} {news:List Nat} {ex:Nat->List Nat} {sl:List (Nat×Nat)}
theorem WR (hD:DrawOk ops m) (h:HO (Eh ops.toList []) news sl (ops.toList.take m) 0 (ops.toList.take m)=true): ∀i oi,i<m->ops[i]?=some oi-> ∀j oj,j<i->ops[j]?=some oj->Pre ops j i\/Indep ops news (fun i=>RV (Eh ops.toList []) i sl) sl i j oi oj:=by
 intro i oi hi hoi j oj hj hoj
 have h1:=OY h i oi (by rw[List.getElem?_take,if_pos hi,Array.getElem?_toList];exact hoi)
 simp only[Nat.zero_add]at h1
 have h2:=QP h1 j oj (by rw[List.getElem?_take,if_pos hj,List.getElem?_take,if_pos Aa,Array.getElem?_toList];exact hoj)
 simp only[Nat.zero_add]at h2
 rcases h2 with h2|h2
 ·exact .inl (Er _ _ h2)
 ·rcases hD.head i oi hi hoi j oj hj hoj with h3|h3
  ·exact .inl h3
  ·simp only[YZ,Bool.and_eq_true]at h2
   refine .inr ⟨h3,fun l hl=>⟨Sv h2.1.1 l (Mv.2 hl),fun hc=>Ty h2.1.2 l (Mv.2 hl) (Mv.2 hc)⟩,fun l hl=>Sv h2.2 l (Mv.2 hl)⟩
def hSW (P:Program) (c:Conf) (n:Nat) (ops:Array Oper) (news:List Nat) (ex:Nat->List Nat) (sl:List (Nat×Nat)):Nat->List Oper->Env->St->(Env->St->Prop)->Prop
 |_,[],env,σ,K=>K env σ
 |i,o::rest,env,σ,K=>AL ops o env
   (fun env=>(∃cf x nb,EB P cf/\BW c cf (ex i++news) o env σ=some (x,nb)/\FX n o.dst x env fun e2=>hSW P c n ops news ex sl (i+1) rest e2 (nb++σ) K)
    \/(∃t so xo p x0 lab B0 B1,o.op=.store t so xo/\o.dst=none/\ev env so=some p/\ev env xo=some x0/\(i,lab)∈sl/\look σ lab=some B0/\(∀σ,look σ lab=some B0->EK c.te t p x0 σ=some (upd σ lab B1))/\hSW P c n ops news ex sl (i+1) rest env (upd σ lab B1) K)
    \/(∃y nb,ZP P c sl i o env σ y nb/\FX n o.dst y env fun e2=>hSW P c n ops news ex sl (i+1) rest e2 (nb++σ) K))
   (fun env=>FX n o.dst (.t .undef) env fun e2=>hSW P c n ops news ex sl (i+1) rest e2 σ K)
theorem Hn {K:Env->St->Prop}: ∀(l:List Oper) (i0:Nat),(∀j,j<l.length->l[j]?=ops[i0+j]?)-> ∀{env:Env} {σ:St},
  hSW P c n ops news ex sl i0 l env σ K-> ∃e s,KD P c n ops news ex sl (List.range' i0 l.length) env σ e s/\K e s
 |[],i0,_,env,σ,h=>⟨env,σ,⟨fun _=>rfl,fun _=>rfl⟩,h⟩
 |o::rest,i0,hl,env,σ,h=>by
  simp only[hSW]at h
  have ho:ops[i0]?=some o:=by have:=hl 0 Ac;simpa using this.symm
  have hl': ∀j,j<rest.length->rest[j]?=ops[i0+1+j]?:=fun j hj=>by
   have:=hl (j+1) (by simp;exact hj)
   simp at this
   rw[this];congr 1;omega
  obtain⟨env1,he1,hc⟩:=IP h
  rcases hc with⟨hw,⟨cf,x,nb,hcf,hst,env2,hput,h⟩|⟨t,so,xo,p,x0,lab,B0,B1,r1,r2,r3,r4,r5,r6,r7,h⟩|⟨y,nb,⟨cf,cl,f,as,r,σ2,ω,w1,w2,w3,w4,w5,w6,w7,w8,w9⟩,env2,hput,h⟩⟩|⟨hw,env2,hput,h⟩
  ·obtain⟨e,s,h1,h2⟩:=Hn rest (i0+1) hl' h
   obtain⟨p1,p2⟩:=F9 hput he1
   refine⟨e,s,⟨o,x,nb,env2,nb++σ,ho,⟨p1,.inr (.inl ⟨hw,cf,hcf,?_⟩)⟩,⟨p2,fun _=>rfl⟩,h1⟩,h2⟩
   rw[<-hst]
   exact Fh (EG (ops:=ops) fun t _=>(he1 t).symm) (fun _ _=>rfl) (fun _ _=>rfl)
  ·obtain⟨e,s,h1,h2⟩:=Hn rest (i0+1) hl' h
   have hel: ∀x∈o.op.operands,ev env1 x=ev env x:=EG (ops:=ops) (o:=o) fun t _=>he1 t
   refine⟨e,s,⟨o,.top,[(lab,B1)],env1,upd σ lab B1,ho,⟨fun d hd=>(by rw[r2]at hd;cases hd),.inl ⟨hw,t,so,xo,p,x0,lab,B0,B1,r1,r2,?_,?_,r5,r6,r7,rfl,rfl⟩⟩,⟨fun t=>by rw[r2];simp[he1 t],fun b=>by rw[B3,Om rfl]⟩,h1⟩,h2⟩
   ·rw[<-hel so (by rw[r1];simp[Op.operands])];exact r3
   ·rw[<-hel xo (by rw[r1];simp[Op.operands])];exact r4
  ·obtain⟨e,s,h1,h2⟩:=Hn rest (i0+1) hl' h
   obtain⟨p1,p2⟩:=F9 hput he1
   have hop: ∀x∈cl.operands,ev env1 x=ev env x:=fun x hx=>EG (ops:=ops) (o:=o) (fun t _=>he1 t) x (by rw[w2];exact hx)
   exact⟨e,s,⟨o,y,nb,env2,nb++σ,ho,⟨p1,.inr (.inr (.inr ⟨hw,cf,cl,f,as,r,σ2,ω,w1,w2,by rw[<-Ie hop];exact w3,w4,w5,w6,w7,w8,w9⟩))⟩,⟨p2,fun _=>rfl⟩,h1⟩,h2⟩
  ·obtain⟨e,s,h1,h2⟩:=Hn rest (i0+1) hl' h
   obtain⟨p1,p2⟩:=F9 hput he1
   exact⟨e,s,⟨o,.t .undef,[],env2,σ,ho,⟨p1,.inr (.inr (.inl ⟨hw,rfl,rfl⟩))⟩,⟨p2,fun _=>rfl⟩,h1⟩,h2⟩
theorem BC (hp:ProgOk P c) (sl:List (Nat×Nat)) {id:Nat} {env env':Env} {σ σ':St} {K:Exit->Env->St->Prop} {l1 l2:List Oper} {nw:List Nat} {ms:List Nat} (hm:ID ops=some m) (hz:regFrz ops env σ=(env',σ'))
  (h1:ops.toList.take m=l1) (h2:ops.toList.drop m=l2) (h3:D1 l1=nw) (h4:Eh ops.toList []=ms) (hchk:HO ms nw sl l1 0 l1=true)
  (h:hSW P c n ops nw (fun i=>RV ms i sl) sl 0 l1 env' σ' (fun e s=>A2 P n ops l2 e s (K .normal))):Tr P n (.region id ops true) env σ K:=by
 subst h4;subst h3;subst h1;subst h2
 have hD:=Sc hm
 intro F hF hrf w g0 a hg0
 obtain⟨g,hx,hg⟩:=Fo hz hg0
 refine wpIn_mono ?_ fun ex a2 w2 (hq:BS n w g K ex a2 w2)=>hq.lift hx
 obtain⟨e,s,q1,q2⟩:=Hn (ops.toList.take m) 0 (fun j hj=>by simp at hj;rw[List.getElem?_take,if_pos Aa,Array.getElem?_toList,Nat.zero_add]) h
 refine wpIn_region_any hp.mix ?_
 have hlen:(ops.toList.take m).length=m:=by have:=hD.le;simp;omega
 rw[hlen]at q1
 refine WU hF hp hD (WR hD hchk) q2 ops.size Ac (fun i o ho hl=>?_) (fun i h1 h2 hl=>?_) (rem:=List.range' 0 m) (fun i=>?_) List.pairwise_lt_range' (by simp;have:=hD.le;omega) q1 (hg.drew) (Ext.drew w g)
 ·simp[Li,Array.getElem?_replicate]at hl
 ·simp[Li,Array.getElem?_replicate]at hl
 ·simp[Li,Array.getElem?_replicate,List.mem_range'_1]
end
def T9:AV->Option Nat
 |.ref b _=>some b
 |.eref b _ _ _=>some b
 |_=>none
def U3 (te:TE) (t:Nat) (p x:AV) (lab:Nat) (B:Blk):Option Blk:=
 match EK te t p x [(lab,B)]with
 |some σ=>look σ lab
 |none=>none
theorem ST {te:TE} {t lab:Nat} {p x:AV} {B B1:Blk} (hl:T9 p=some lab) (h:U3 te t p x lab B=some B1): ∀σ,look σ lab=some B->EK te t p x σ=some (upd σ lab B1):=by
 intro σ hσ
 have hs:look [(lab,B)] lab=some B:=by simp[Ao]
 unfold U3 at h
 cases p with
 |ref b off=>
  simp only[T9,Option.some.injEq]at hl;subst hl
  unfold EK at h⊢
  split at h
  ·rename_i σ2 h2
   split at h2
   ·rename_i ti hti
    split at h2
    ·rename_i ys hys
     split at h2
     ·rename_i hlen
      simp only[hs]at h2
      simp only[hσ]
      cases B with
      |cells cs=>
       simp only at h2⊢
       split at h2
       ·rename_i ho
        cases h2
        rw[B3,if_pos rfl]at h;cases h
        rw[if_pos hlen,if_pos ho]
       ·cases h2
      |_=>simp at h2
     ·cases h2
    ·cases h2
   ·cases h2
  ·cases h
 |eref b sz k off=>
  simp only[T9,Option.some.injEq]at hl;subst hl
  unfold EK at h⊢
  split at h
  ·rename_i σ2 h2
   split at h2
   ·rename_i ti hti
    split at h2
    ·rename_i ys hys
     split at h2
     ·rename_i hlen
      simp only[hs]at h2
      simp only[hσ]
      cases B with
      |grow sz' es=>
       simp only at h2⊢
       split at h2
       ·rename_i hz
        split at h2
        ·rename_i e he
         split at h2
         ·rename_i ts hts
          split at h2
          ·rename_i ho
           cases h2
           rw[B3,if_pos rfl]at h;cases h
           subst hz;rw[if_pos hlen,if_pos rfl,if_pos ho]
          ·cases h2
         ·cases h2
        ·cases h2
       ·cases h2
      |_=>simp at h2
     ·cases h2
    ·cases h2
   ·cases h2
  ·cases h
 |_=>simp[T9]at hl
def Zd (i lab:Nat):List (Nat×Nat)->Bool
 |[]=>false
 |(j,l)::r=>bif Nat.beq j i&&Nat.beq l lab then true else Zd i lab r
theorem PN {i lab:Nat}: ∀{sl:List (Nat×Nat)},Zd i lab sl=true->(i,lab)∈sl
 |[],h=>by simp[Zd]at h
 |(j,l)::r,h=>by
  simp only[Zd]at h
  cases hb:Nat.beq j i&&Nat.beq l lab with
  |true=>
   simp only[Bool.and_eq_true]at hb
   have e1:=Nat.eq_of_beq_eq_true hb.1
   have e2:=Nat.eq_of_beq_eq_true hb.2
   subst e1;subst e2;exact List.mem_cons_self ..
  |false=>rw[hb]at h;simp only[cond_false]at h;exact List.mem_cons_of_mem _ (PN h)
section
variable {P:Program} {c:Conf} {n i:Nat} {ops:Array Oper} {news:List Nat} {ex:Nat->List Nat} {sl:List (Nat×Nat)} {rest:List Oper} {env:Env} {σ:St} {o:Oper} {K:Env->St->Prop}
theorem Att (h:K env σ):hSW P c n ops news ex sl i [] env σ K:=h
theorem Ats {nw:List Nat} {j:Nat} (hn:ex i++news=nw) (hj:i+1=j) (h:hSK P c n ops nw [o] env σ (fun e s=>hSW P c n ops news ex sl j rest e s K)):hSW P c n ops news ex sl i (o::rest) env σ K:=by
 subst hn;subst hj
 simp only[hSK]at h
 simp only[hSW]
 unfold AL at h⊢
 have a1: ∀e,(∃cf x nb,EB P cf/\BW c cf (ex i++news) o e σ=some (x,nb)/\FX n o.dst x e fun e2=>hSW P c n ops news ex sl (i+1) rest e2 (nb++σ) K)->((∃cf x nb,EB P cf/\BW c cf (ex i++news) o e σ=some (x,nb)/\FX n o.dst x e fun e2=>hSW P c n ops news ex sl (i+1) rest e2 (nb++σ) K)
    \/(∃t so xo p x0 lab B0 B1,o.op=.store t so xo/\o.dst=none/\ev e so=some p/\ev e xo=some x0/\(i,lab)∈sl/\look σ lab=some B0/\(∀σ,look σ lab=some B0->EK c.te t p x0 σ=some (upd σ lab B1))/\hSW P c n ops news ex sl (i+1) rest e (upd σ lab B1) K)
    \/(∃y nb,ZP P c sl i o e σ y nb/\FX n o.dst y e fun e2=>hSW P c n ops news ex sl (i+1) rest e2 (nb++σ) K)):=fun e h=>.inl h
 split at h
 ·exact a1 _ h
 ·split at h
  ·split at h
   ·split at h
    ·exact⟨fun e=>a1 _ (h.1 e),fun e=>h.2 e⟩
    ·exact h
    ·exact h
   ·exact h
  ·exact h
theorem Akq {t lab j:Nat} {so xo:Operand} {p x0:AV} {B0 B1:Blk} {s:St} (hg:o.guard=none) (ho:o.op=.store t so xo) (hd:o.dst=none) (h1:ev env so=some p) (h2:ev env xo=some x0) (hl:T9 p=some lab) (hm:Zd i lab sl=true) (hb:look σ lab=some B0)
  (hs:U3 c.te t p x0 lab B0=some B1) (hu:upd σ lab B1=s) (hj:i+1=j) (h:hSW P c n ops news ex sl j rest env s K):hSW P c n ops news ex sl i (o::rest) env σ K:=by
 subst hu;subst hj
 simp only[hSW,AL,hg]
 exact .inr (.inl ⟨t,so,xo,p,x0,lab,B0,B1,ho,hd,h1,h2,PN hm,hb,ST hl hs,h⟩)
end
mutual
def J7:T->Bool
 |.undef=>true
 |.bool _=>true
 |.int _ _=>true
 |.str _=>true
 |.nilIface=>true
 |.nilPtr=>true
 |.nilFunc=>true
 |.nilMap=>true
 |.slice _ _ []=>true
 |.agg l=>JU l
 |.tuple l=>JU l
 |_=>false
def JU:List T->Bool
 |[]=>true
 |x::r=>J7 x&&JU r
end
theorem LL: ∀{l:List T},JU l=true-> ∀(i:Nat) x,l[i]?=some x->J7 x=true
 |[],_,i,x,h=>by simp at h
 |y::r,hs,i,x,h=>by
  simp only[JU,Bool.and_eq_true]at hs
  cases i with
  |zero=>simp at h;subst h;exact hs.1
  |succ i=>simp at h;exact LL hs.2 i x h
theorem SY {w w':World} {M M':Nat->Nat->Prop} {v:Value} {x:T} (h:RelT w M v x):J7 x=true->RelT w' M' v x:=by
 induction h with
 |undef=>exact fun _=>.undef
 |bool b=>exact fun _=>.bool b
 |int k n=>exact fun _=>.int k n
 |str s=>exact fun _=>.str s
 |nilPtr=>exact fun _=>.nilPtr
 |nilIface=>exact fun _=>.nilIface
 |nilFunc=>exact fun _=>.nilFunc
 |nilMap=>exact fun _=>.nilMap
 |sliceNil m sz=>exact fun _=>.sliceNil m sz
 |sliceZ a m sz hm=>exact fun _=>.sliceZ a m sz hm
 |slice b off len cap m sz es vs hl hc hf hm hp hsz hone hcell hrel ih=>
  intro hs
  cases es with
  |nil=>exact .slice b off len cap m sz [] vs hl hc hf hm hp hsz hone (fun i x hx=>by simp at hx) (fun i x hx=>by simp at hx)
  |cons a b=>simp[J7]at hs
 |agg vs xs h _ ih=>intro hs;simp only[J7]at hs;exact .agg vs xs h (fun i v x a b=>ih i v x a b (LL hs i x b))
 |tuple vs xs h _ ih=>intro hs;simp only[J7]at hs;exact .tuple vs xs h (fun i v x a b=>ih i v x a b (LL hs i x b))
 |ptr=>intro hs;simp[J7]at hs
 |iface=>intro hs;simp[J7]at hs
 |func=>intro hs;simp[J7]at hs
mutual
def Iq:AV->Bool
 |.t x=>J7 x
 |.row _ _ _ _=>true
 |.agg l=>QJ l
 |.tuple l=>QJ l
 |_=>false
def QJ:List AV->Bool
 |[]=>true
 |x::r=>Iq x&&QJ r
end
theorem LN: ∀{l:List AV},QJ l=true-> ∀(i:Nat) x,l[i]?=some x->Iq x=true
 |[],_,i,x,h=>by simp at h
 |y::r,hs,i,x,h=>by
  simp only[QJ,Bool.and_eq_true]at hs
  cases i with
  |zero=>simp at h;subst h;exact hs.1
  |succ i=>simp at h;exact LN hs.2 i x h
def QG:List (List T)->Bool
 |[]=>true
 |e::r=>JU e&&QG r
def We:St->Bool
 |[]=>true
 |(_,B)::r=>(match B with
  |.grow _ es=>QG es
  |_=>false)&&We r
theorem QE: ∀{l:List T},JU l=true-> ∀x∈l,J7 x=true
 |[],_,x,h=>by simp at h
 |y::r,hs,x,h=>by
  simp only[JU,Bool.and_eq_true]at hs
  rcases List.mem_cons.1 h with e|e
  ·subst e;exact hs.1
  ·exact QE hs.2 x e
theorem QF: ∀{l:List (List T)},QG l=true-> ∀x∈l.flatten,J7 x=true
 |[],_,x,h=>by simp at h
 |y::r,hs,x,h=>by
  simp only[QG,Bool.and_eq_true]at hs
  rw[List.flatten_cons,List.mem_append]at h
  rcases h with h|h
  ·exact QE hs.1 x h
  ·exact QF hs.2 x h
theorem QI: ∀{σ:St},We σ=true-> ∀b B,look σ b=some B-> ∃sz es,B=.grow sz es/\QG es=true
 |[],_,b,B,h=>by simp[look]at h
 |(c,C)::r,hs,b,B,h=>by
  simp only[We,Bool.and_eq_true]at hs
  rw[Ao]at h
  split at h
  ·cases h
   cases C with
   |grow sz es=>exact⟨sz,es,rfl,hs.1⟩
   |_=>simp at hs
  ·exact QI hs.2 b B h
theorem Aco {w:World} {g g':G} (hβ:g'.β=g.β) {v:Value} {x:AV} (h:Rel w g v x):Iq x=true->Rel w g' v x:=by
 induction h with
 |t v x h=>intro hs;exact .t v x (SY h hs)
 |agg vs xs h _ ih=>intro hs;simp only[Iq]at hs;exact .agg vs xs h (fun i v x a b=>ih i v x a b (LN hs i x b))
 |tuple vs xs h _ ih=>intro hs;simp only[Iq]at hs;exact .tuple vs xs h (fun i v x a b=>ih i v x a b (LN hs i x b))
 |row c s lo len blk o cap e0 n h hs' ho hl hn=>intro _;exact .row c s lo len blk o cap e0 n (by rw[hβ];exact h) hs' ho hl hn
 |rowNil c s a ha h=>intro _;exact .rowNil c s a ha (by rw[hβ];exact h)
 |top=>intro hs;simp[Iq]at hs
 |ref=>intro hs;simp[Iq]at hs
 |eref=>intro hs;simp[Iq]at hs
 |mref=>intro hs;simp[Iq]at hs
 |iface=>intro hs;simp[Iq]at hs
 |func=>intro hs;simp[Iq]at hs
mutual
def MV (σ:St):AV->Option AV
 |.agg cs=>match Jo σ cs with
  |some ys=>some (.agg ys)
  |none=>none
 |.t x=>some (.t x)
 |.row b sz lo n=>D3 σ (.row b sz lo n)
 |_=>none
def Jo (σ:St):List AV->Option (List AV)
 |[]=>some []
 |x::r=>match MV σ x with
  |some y=>match Jo σ r with
   |some s=>some (y::s)
   |none=>none
  |none=>none
end
theorem Kq (σ:St): ∀{xs ys:List AV},Jo σ xs=some ys->ys.length=xs.length/\ ∀(i:Nat) x,xs[i]?=some x-> ∃y,ys[i]?=some y/\MV σ x=some y
 |[],ys,h=>by simp[Jo]at h;subst h;exact⟨rfl,fun i x hx=>by simp at hx⟩
 |x::r,ys,h=>by
  simp only[Jo]at h
  cases hy:MV σ x with
  |none=>rw[hy]at h;simp at h
  |some y=>
   rw[hy]at h
   cases hs:Jo σ r with
   |none=>rw[hs]at h;simp at h
   |some s=>
    rw[hs]at h
    simp at h;subst h
    obtain⟨h1,h2⟩:=Kq σ hs
    refine⟨by simp[h1],fun i z hz=>?_⟩
    cases i with
    |zero=>simp at hz;subst hz;exact⟨y,rfl,hy⟩
    |succ i=>simp at hz;obtain⟨y2,q1,q2⟩:=h2 i z hz;exact⟨y2,by simpa using q1,q2⟩
def VC (g g2:G) (σ:St):Prop:=(∀blk o,g2.M blk o->g.M blk o)/\ ∀b sz es blk,look σ b=some (.grow sz es)->g.β b=some (some blk)-> ∀o,¬g2.M blk o
theorem Md {w:World} {g g2:G} {σ:St} (hi:Inv w g σ) (hM:VC g g2 σ) {v:Value} {x y:AV} (h:D3 σ x=some y) (hr:Rel w g v x):Rel w g2 v y:=by
 have hk:HC w g.M w g2.M:=fun b o u h1 h2=>⟨fun h=>h1 (hM.1 _ _ h),h2⟩
 cases x with
 |t x=>simp[D3]at h;subst h;exact .t _ _ ((Aw hr).mono hk)
 |row b sz lo n=>
  simp only[D3]at h
  cases hb:look σ b with
  |none=>rw[hb]at h;simp at h
  |some B=>
   rw[hb]at h
   cases B with
   |cells=>simp at h
   |loop=>simp at h
   |mp=>simp at h
   |rights=>simp at h
   |grow sz' es=>
    simp only at h
    cases hq:(Nat.beq sz sz'&&(Nat.beq lo 0&&Nat.ble n es.length))with
    |false=>rw[hq]at h;simp at h
    |true=>
     rw[hq]at h
     simp only[cond_true,Option.some.injEq]at h
     subst h
     simp only[Bool.and_eq_true]at hq
     obtain⟨h1,h2,h3⟩:=hq
     have h1:=Nat.eq_of_beq_eq_true h1
     have h2:=Nat.eq_of_beq_eq_true h2
     have h3:n<=es.length:=by simpa using h3
     subst h1;subst h2
     obtain⟨hsz,hor⟩:=hi.ok b _ hb
     cases hr with
     |rowNil _ _ a ha hβ=>
      refine .t _ _ ?_
      cases a with
      |none=>simpa using RelT.sliceNil (w:=w) (M:=g2.M) .any sz
      |some a=>simpa using RelT.sliceZ (w:=w) (M:=g2.M) a .any sz Ac
     |row _ _ _ _ blk o cap e m hβ hs ho hl hn=>
      rcases hor with⟨q1,q2⟩|⟨blk',u,e',k1,k2,k3,k4,k5⟩
      ·rw[q1]at hβ;cases hβ
      rw[k1]at hβ;cases hβ
      refine .t _ _ (DN (by simp;omega) hl (fun h=>by cases h) Ac (fun e he=>hsz e (List.mem_of_mem_take he)) (fun i x hx=>?_))
      have hflat:es.flatten[i]?=some x:=by
       have:=C7 sz es hsz 0 n i x (by simpa using hx)
       simpa using this
      have hnn:n≠0:=fun e=>by subst e;simp at hx
      have ho':o=0:=by rcases ho with h|h<;>omega
      subst ho'
      have hlt:i<u.size:=Nat.lt_of_lt_of_le (AW hflat) k4
      have hv:u[i]?=some u[i]:=by simp[hlt]
      obtain⟨q1,q2⟩:=k5 i _ x hv hflat
      exact⟨hM.2 b sz es _ hb k1 _,q1,u[i],by simp[World.cell?,k3,hlt],q2.mono hk⟩
 |top=>simp[D3]at h
 |ref=>simp[D3]at h
 |eref=>simp[D3]at h
 |mref=>simp[D3]at h
 |iface=>simp[D3]at h
 |func=>simp[D3]at h
 |agg=>simp[D3]at h
 |tuple=>simp[D3]at h
theorem Ad0 {w:World} {g g2:G} {σ:St} (hi:Inv w g σ) (hM:VC g g2 σ) {v:Value} {x:AV} (hr:Rel w g v x): ∀{y:AV},MV σ x=some y->Rel w g2 v y:=by
 have hp:=hr
 induction hr with
 |t v x h=>intro y hy;simp only[MV]at hy;exact Md hi hM (x:=.t x) (by simpa[D3]using hy) (.t _ _ h)
 |row c s lo len blk o cap e0 n h hs' ho hl hn=>intro y hy;simp only[MV]at hy;exact Md hi hM hy hp
 |rowNil c s a ha h=>intro y hy;simp only[MV]at hy;exact Md hi hM hy hp
 |agg vs xs h hh ih=>
  intro y hy
  simp only[MV]at hy
  split at hy
  ·rename_i ys hys
   cases hy
   obtain⟨h1,h2⟩:=Kq σ hys
   refine .agg vs ys (by rw[h1];exact h) fun i v y hv hyi=>?_
   have hlt:i<xs.length:=by rw[<-h1];exact(List.getElem?_eq_some_iff.1 hyi).1
   obtain⟨y2,q1,q2⟩:=h2 i xs[i] (List.getElem?_eq_getElem hlt)
   rw[hyi]at q1;cases q1
   exact ih i v _ hv (List.getElem?_eq_getElem hlt) (hh i v _ hv (List.getElem?_eq_getElem hlt)) q2
  ·cases hy
 |_=>intro y hy;simp[MV]at hy
theorem Zi {w:World} {g g2:G} {σ:St} (hi:Inv w g σ) (hM:VC g g2 σ) {xs ys:List AV} {vs:List Value} (h:Jo σ xs=some ys) (hr:Bt w g vs xs):Bt w g2 vs ys:=by
 obtain⟨h1,h2⟩:=Kq σ h
 refine⟨by rw[h1];exact hr.1,fun i v y hv hy=>?_⟩
 have hlt:i<xs.length:=by rw[<-h1];exact(List.getElem?_eq_some_iff.1 hy).1
 obtain⟨y2,q1,q2⟩:=h2 i xs[i] (List.getElem?_eq_getElem hlt)
 rw[hy]at q1;cases q1
 exact Ad0 hi hM (hr.2 i v _ hv (List.getElem?_eq_getElem hlt)) q2
def Ayq (g:G) (σ:St) (blk:Nat):Prop:= ∃b sz es,look σ b=some (.grow sz es)/\g.β b=some (some blk)
def G.lendW (g:G) (ω:List (Nat×Nat)) (σ:St):G:={g.sub [] ω []with oth:=fun blk o=>(g.sub [] ω []).oth blk o/\ ¬Ayq g σ blk}
theorem Mw {g:G} {ω:List (Nat×Nat)} {blk:Nat}: ¬(g.sub [] ω []).own blk:=by
 rintro(⟨b,c,h,_⟩|⟨c,L,e,h,_⟩)<;>simp[look]at h
theorem VK {P:Program} {c:Conf} {n:Nat} {ops:Array Oper} {rest:List Oper} {env:Env} {σ:St} {o:Oper} {k:Env->St->Prop} (hp0:ProgOk P c) {cl:Call} {f:Nat} {as ys:List AV} {e2:Env} {r:AV} {σ2:St} {ω:List (Nat×Nat)} (hg:o.guard=none) (ho:o.op=.call cl) (hc:C6 c env cl=some (f,as))
  (hl:Jo σ as=some ys) (hct:Ct P f ys [] r σ2) (hs:Iq r=true) (hS:We σ2=true) (hR:SF [] ω σ σ2=true) (hp:B4 n o.dst (CV (look ω) r) env=some e2) (h:A2 P n ops rest e2 (Iv ω σ2++σ) k):A2 P n ops (o::rest) env σ k:=by
 simp only[A2,AL,hg]
 intro w g a hi hee
 have hR:=NA hR
 obtain⟨fn,hf,hb⟩:=hct.1
 obtain⟨vs,hrun,hrel⟩:=C5 hp0 hee hc ho hf hb
 obtain⟨i1,i2⟩:=PF hi hR
 have hpk:CI [] σ []=[]:=rfl
 rw[hpk]at i1 i2
 have hMs: ∀blk o,(g.lendW ω σ).M blk o->(g.sub [] ω []).M blk o:=fun blk o h=>by
  rcases h with h|h
  ·exact absurd h.1 (Mw (ω:=ω))
  ·exact .inr h.1
 have hM:VC g (g.lendW ω σ) σ:=⟨fun blk o h=>(Aq0 hi hR blk o).1 (hMs _ _ h),fun b sz es blk h1 h2 o h=>by
  rcases h with h|h
  ·exact absurd h.1 (Mw (ω:=ω))
  ·exact h.2 ⟨b,sz,es,h1,h2⟩⟩
 have i3:Inv w (g.lendW ω σ) []:=⟨fun b B h=>by simp[look]at h,i1.dom,i1.inj,fun blk h=>i1.lt blk (by
   rcases h with h|⟨o,h⟩
   ·exact .inl h
   ·exact .inr ⟨o,h.1⟩),i1.bx,fun blk o h=>absurd h (Mw (ω:=ω)),fun p hp=>⟨fun h=>(i1.im p hp).1 (hMs _ _ h),(i1.im p hp).2⟩,i1.lo,⟨i1.sx.lt,i1.sx.bs,fun b b' L L' blk e e' h=>by simp[look]at h,fun b L h=>by simp[look]at h⟩⟩
 refine BJ.enter hrun ((hct.2 vs w _ (Zi hi hM hl hrel) i3).mono ?_)
 rintro ed w' ⟨v,g1,rfl,q1,q2,q3⟩
 have hx:Ext w (g.sub [] ω []) w' {g1 with oth:=(g.sub [] ω []).oth}:=⟨q1.size,q1.keep,q1.own,fun _ _=>Iff.rfl,q1.shape,q1.bx,q1.lo,q1.sp⟩
 have hno: ∀blk o,g1.own blk-> ¬(g.sub [] ω []).oth blk o:=fun blk o h1 h2=>by
  have hlt:blk<w.heap.size:=i1.lt blk (.inr ⟨o,h2⟩)
  exact Mw (ω:=ω) (q1.own blk hlt h1)
 have hi2:Inv w' {g1 with oth:=(g.sub [] ω []).oth} σ2:=by
  refine⟨fun b B hB=>?_,q3.dom,q3.inj,fun blk h=>?_,q3.bx,hno,fun p hp=>⟨fun h=>?_,(q3.im p hp).2⟩,q3.lo,⟨q3.sx.lt,q3.sx.bs,q3.sx.one,q3.sx.ok⟩⟩
  ·obtain⟨sz,es,rfl,hes⟩:=QI hS b B hB
   obtain⟨h0,h⟩:=q3.ok b _ hB
   refine⟨h0,?_⟩
   rcases h with h|⟨blk,vs,e,h1,h2,h3,h4,h5⟩
   ·exact .inl h
   ·exact .inr ⟨blk,vs,e,h1,h2,h3,h4,fun i v x hv hx=>⟨(h5 i v x hv hx).1,SY (h5 i v x hv hx).2 (QF hes x (List.mem_of_getElem? hx))⟩⟩
  ·rcases h with h|⟨o,h⟩
   ·exact q3.lt blk (.inl h)
   ·exact Nat.lt_of_lt_of_le (i1.lt blk (.inr ⟨o,h⟩)) q1.size
  ·rcases h with h|h
   ·exact(q3.im p hp).1 (.inl h)
   ·exact(i1.im p hp).1 (.inr h)
 obtain⟨g',k1,k2,k3,k4⟩:=J2 hi hR hx hi2
 rw[NV]at k2
 have hk: ∀b,Ft [] σ b=some b:=fun b=>by simp[Ft,look]
 refine⟨v,rfl,CV (look ω) r,env,_,⟨g',k1,k3 v r (Aco (g:=g1) (g':={g1 with oth:=(g.sub [] ω []).oth}) rfl q2 hs),k2,fun t x hx=>?_⟩,e2,hp,h⟩
 have:=k4 _ _ (hee t x hx)
 rwa[MS hk]at this
def Akb (c:Nat) (l:List Nat):List Nat:=bif FC c l then l else c::l
mutual
def Anl:AV->List Nat->List Nat
 |.t _,l=>l
 |.top,l=>l
 |.ref c _,l=>Akb c l
 |.eref c _ _ _,l=>Akb c l
 |.mref c,l=>Akb c l
 |.row c _ _ _,l=>Akb c l
 |.iface _ x,l=>Anl x l
 |.func _ f c,l=>Yd f (Yd c l)
 |.agg cs,l=>Yd cs l
 |.tuple cs,l=>Yd cs l
def Yd:List AV->List Nat->List Nat
 |[],l=>l
 |x::r,l=>Yd r (Anl x l)
end
def Akc:Env->List Nat->List Nat
 |[],l=>l
 |(_,x)::r,l=>Akc r (Anl x l)
def A1s (B:Blk) (l:List Nat):List Nat:=
 match B with
 |.cells cs=>Yd cs l
 |.loop _ _ _ _ _ _ _ e=>Akc e l
 |.mp _ xs=>Yd xs l
 |_=>l
def Aq1 (σ:St):List Nat->List Nat->List Nat
 |[],l=>l
 |b::r,l=>Aq1 σ r (match look σ b with
  |some B=>A1s B l
  |none=>l)
def YH (σ:St):Nat->List Nat->List Nat
 |0,l=>l
 |m+1,l=>(fun l'=>bif Nat.beq l'.length l.length then l' else YH σ m l') (Aq1 σ l l)
def Abg:St->List Nat->List Nat
 |[],l=>l
 |(b,_)::r,l=>Abg r (Akb b l)
def WB (c:Nat):Bool:=Nat.beq (c % 2) 1
def Za:List Nat->List Nat
 |[]=>[]
 |b::r=>bif WB b then b::Za r else Za r
def ZB (live:List Nat):List Nat->List Nat
 |[]=>[]
 |b::r=>bif WB b||FC b live then ZB live r else b::ZB live r
def MZ (r:AV):List Nat->St->Option St
 |[],σ=>some σ
 |b::l,σ=>match r.has b with
  |true=>none
  |false=>MZ r l (CP b σ)
def Abn:List Nat->Bool
 |[]=>true
 |b::r=>Nat.beq (b % 2) 0&&Abn r
def gcS (r:AV) (σ2:St):Option St:=
 (fun ks=>(fun dead=>match Abn dead with
  |true=>MZ r dead σ2
  |false=>none) (ZB (YH σ2 (ks.length+1) (Anl r (Za ks))) ks)) (Abg σ2 [])
def Zn (σ:St):List Nat->List (Nat×Nat)
 |[]=>[]
 |b::r=>match look σ b with
  |some _=>(b,2*b+1)::Zn σ r
  |none=>Zn σ r
def Aqy:List (Nat×Nat)->List (Nat×Nat)
 |[]=>[]
 |(a,b)::r=>(b,a)::Aqy r
def Ask:St->Nat->Nat
 |[],m=>m
 |(b,_)::r,m=>Ask r (bif Nat.ble m b then b else m)
def Vp (M:Nat):List Nat->List (Nat×Nat)
 |[]=>[]
 |b::r=>bif WB b then Vp M r else(b,b+2*M)::Vp M r
def Aa1 (n:Nat) (ι:List (Nat×Nat)) (σ σ3:St):List (Nat×Nat):=Aqy ι++Vp (Ask σ n+1) (Abg σ3 [])
def V3 (c:Conf) (cf:Nat->List AV->St->Option (AV×St)) (n:Nat) (cl:Call) (env:Env) (σ:St):Option (AV×Env×St):=
 match C6 c env cl with
 |some (f,as)=>(fun ι=>match cf f (HY (look ι) as) (CI ι σ ι)with
  |some (r,σ2)=>(match gcS r σ2 with
   |some σ3=>(fun ω=>match SF ι ω σ σ3 with
    |true=>some (CV (look ω) r,S7 (Ft ι σ) env,Iv ω σ3++J9 ι σ σ)
    |false=>none) (Aa1 n ι σ σ3)
   |none=>none)
  |none=>none) (Zn σ (YH σ (σ.length+1) (Yd as [])))
 |none=>none
def Zj (c:Conf) (cf:Nat->List AV->St->Option (AV×St)) (n:Nat) (cl:Call) (env:Env) (σ:St):Option (AV×Env×St):=
 match C6 c env cl with
 |some (f,as)=>(match Jo σ as with
  |some ys=>(match cf f ys []with
   |some (r,σ2)=>(match gcS r σ2 with
    |some σ3=>(fun ω=>match Iq r&&(We σ3&&SF [] ω σ σ3)with
     |true=>some (CV (look ω) r,env,Iv ω σ3++σ)
     |false=>none) (Aa1 n [] σ σ3)
    |none=>none)
   |none=>none)
  |none=>none)
 |none=>none
def Agd (c:Conf) (cf:Nat->List AV->St->Option (AV×St)) (n:Nat) (o:Oper) (env:Env) (σ:St):Option (AV×Env×St):=
 match o.op with
 |.call cl=>(match isB cl.callee with
  |true=>Dx c cf o env σ
  |false=>(match C6 c env cl with
   |some (f,as)=>(match D7 as with
    |true=>V3 c cf n cl env σ
    |false=>(match FC f c.own with
     |true=>Zj c cf n cl env σ
     |false=>(match D7 (DQ σ as env σ).1 with
      |true=>Dx c cf o env σ
      |false=>V3 c cf n cl env σ)))
   |none=>none))
 |.buildSlice t m parts=>(match Dx c cf o env σ with
  |some q=>some q
  |none=>(match o.dst with
   |some d=>(match look σ (2*d)with
    |none=>(match Qk c.te t m env parts.toList with
     |some cs=>some (.row (2*d) 1 0 m,env,(2*d,.cells cs)::σ)
     |none=>none)
    |some _=>none)
   |none=>none))
 |.load t xo=>(match Dx c cf o env σ with
  |some q=>some q
  |none=>(match ev env xo with
   |some (.eref b sz kc 0)=>(match sz with
    |1=>(match look c.te t with
     |some ti=>(match look σ b with
      |some (.cells cs)=>(match cs[kc]? with
       |some y=>(match ti.kind.agg with
         |false=>some (y,env,σ)
         |true=>none)
       |none=>none)
      |_=>none)
     |none=>none)
    |_=>none)
   |_=>none))
 |.slice t xo lo hi mx=>(match Dx c cf o env σ with
  |some q=>some q
  |none=>(match ev env xo with
   |some (.t (.ptr cs))=>(match lo,mx with
    |none,none=>(match look c.te t with
     |some ti=>(match ti.kind with
      |.array m e=>(match look c.te e with
       |some ei=>(match BA env hi m with
        |some h=>(match Nat.ble (m*ei.size) cs.length&&(!(Nat.beq m 0)&&Nat.ble h m)with
         |true=>some (.t (.slice .any ei.size ((Bq ei.size m (cs.take (m*ei.size))).take h)),env,σ)
         |false=>none)
        |none=>none)
       |none=>none)
      |_=>none)
     |none=>none)
    |_,_=>none)
   |_=>none))
 |_=>Dx c cf o env σ
def Ag6 (c:Conf) (o:Oper) (env:Env) (σ:St):Env×St:=
 match o.op with
 |.makeInterface ty (.tmp t)=>(match FC (1000000+ty) c.ownR with
  |true=>(match look env t with
   |some (.ref b 0)=>(match Nat.beq (b % 2) 0 with
    |true=>(match look σ b with
     |some (.cells cs)=>(match allT cs with
      |some ts=>(match ts.all CK with
       |true=>((t,.t (.ptr ts))::I9 b ts.length [ts] env,Gf b ts.length [ts] σ)
       |false=>(env,σ))
      |none=>(env,σ))
     |_=>(env,σ))
    |false=>(env,σ))
   |_=>(env,σ))
  |false=>(env,σ))
 |_=>(env,σ)
def HH {R:Type} (c:Conf) (cf:Nat->List AV->St->Option (AV×St)) (n:Nat) (ops:Array Oper):List Oper->Env->St->(Env->St->Option R)->Option R
 |[],env,σ,k=>k env σ
 |o::rest,env,σ,k=>IM ops o env (fun env=>match Agd c cf n {o with guard:=none} (Ag6 c o env σ).1 (Ag6 c o env σ).2 with
   |some (x,env1,σ1)=>match B4 n o.dst x env1 with
    |some env2=>HH c cf n ops rest env2 σ1 k
    |none=>none
   |none=>none) (fun env=>match B4 n o.dst (.t .undef) env with
   |some env2=>HH c cf n ops rest env2 σ k
   |none=>none)
section
variable {P:Program} {c:Conf} {cf:Nat->List AV->St->Option (AV×St)} {R:Type}
theorem Ct.kills {f:Nat} {as:List AV} {σ:St} {r:AV}: ∀(l:List Nat) {σ2 σ3:St},Abn l=true->Ct P f as σ r σ2->MZ r l σ2=some σ3->Ct P f as σ r σ3
 |[],σ2,σ3,_,h,hk=>by simp only[MZ,Option.some.injEq]at hk;subst hk;exact h
 |b::l,σ2,σ3,he,h,hk=>by
  simp only[MZ]at hk
  simp only[Abn,Bool.and_eq_true]at he
  split at hk
  ·cases hk
  ·rename_i hr
   refine Ct.kills l he.2 ?_ hk
   refine⟨h.1,fun vs w g hrl hi=>(h.2 vs w g hrl hi).mono ?_⟩
   rintro e w' ⟨v,g1,rfl,h1,h2,h3⟩
   have hb:=Nat.eq_of_beq_eq_true he.1
   obtain⟨k1,k2,_⟩:=Ad2 h3 b (fun hb'=>by have:=(h3.bx _ hb').1;omega)
   exact⟨v,g1.without b,rfl,h1.trans k1,h2.without hr,k2⟩
theorem Zy {f:Nat} {as:List AV} {σ σ2 σ3:St} {r:AV} (h:Ct P f as σ r σ2) (hg:gcS r σ2=some σ3):Ct P f as σ r σ3:=by
 unfold gcS at hg
 simp only at hg
 split at hg
 ·rename_i he;exact Ct.kills _ he h hg
 ·cases hg
theorem XO (hp:ProgOk P c) (hcf:EB P cf) {n:Nat} {ops:Array Oper} {rest:List Oper} {o:Oper} {cl:Call} {env e e2:Env} {σ s:St} {x:AV} {k:Env->St->Prop} (hg:o.guard=none) (ho:o.op=.call cl) (h:V3 c cf n cl env σ=some (x,e,s)) (hput:B4 n o.dst x e=some e2) (hk:A2 P n ops rest e2 s k):
  A2 P n ops (o::rest) env σ k:=by
 unfold V3 at h
 split at h
 ·rename_i f as hc
  simp only at h
  split at h
  ·rename_i r σ2 hr
   split at h
   ·rename_i σ3 h3
    split at h
    ·rename_i hchk
     cases h
     exact A0 hp _ _ hg ho hc rfl rfl (Zy (hcf _ _ _ _ _ hr) h3) hchk rfl rfl rfl hput hk
    ·cases h
   ·cases h
  ·cases h
 ·cases h
theorem Ah1 (hp:ProgOk P c) (hcf:EB P cf) {n:Nat} {ops:Array Oper} {rest:List Oper} {o:Oper} {cl:Call} {env e e2:Env} {σ s:St} {x:AV} {k:Env->St->Prop} (hg:o.guard=none) (ho:o.op=.call cl) (h:Zj c cf n cl env σ=some (x,e,s)) (hput:B4 n o.dst x e=some e2) (hk:A2 P n ops rest e2 s k):
  A2 P n ops (o::rest) env σ k:=by
 unfold Zj at h
 split at h
 ·rename_i f as hc
  split at h
  ·rename_i ys hy
   split at h
   ·rename_i r σ2 hr
    split at h
    ·rename_i σ3 h3
     simp only at h
     split at h
     ·rename_i hchk
      simp only[Bool.and_eq_true]at hchk
      cases h
      exact VK hp hg ho hc hy (Zy (hcf _ _ _ _ _ hr) h3) hchk.1 hchk.2.1 hchk.2.2 hput hk
     ·cases h
    ·cases h
   ·cases h
  ·cases h
 ·cases h
theorem Ak6 (hp:ProgOk P c) (hcf:EB P cf) {n:Nat} {ops:Array Oper} {rest:List Oper} {o:Oper} {env e e2:Env} {σ s:St} {x:AV} {k:Env->St->Prop} (hg:o.guard=none) (h:Agd c cf n o env σ=some (x,e,s)) (hput:B4 n o.dst x e=some e2) (hk:A2 P n ops rest e2 s k):
  A2 P n ops (o::rest) env σ k:=by
 have old:Dx c cf o env σ=some (x,e,s)->A2 P n ops (o::rest) env σ k:=fun hs=>by
  simp only[A2,AL,hg]
  exact A1w hp hcf hs ⟨e2,hput,hk⟩
 unfold Agd at h
 split at h
 ·rename_i cl ho
  split at h
  ·exact old h
  ·split at h
   ·split at h
    ·exact XO hp hcf hg ho h hput hk
    ·split at h
     ·exact Ah1 hp hcf hg ho h hput hk
     ·split at h
      ·exact old h
      ·exact XO hp hcf hg ho h hput hk
   ·cases h
 ·rename_i t m parts ho
  split at h
  ·rename_i q hq;exact old (hq.trans h)
  ·split at h
   ·rename_i d hd
    split at h
    ·rename_i hl
     split at h
     ·rename_i cs hcs
      simp only[Option.some.injEq,Prod.mk.injEq]at h
      obtain⟨rfl,rfl,rfl⟩:=h
      exact NL hp hg ho hd hl hcs hput hk
     ·cases h
    ·cases h
   ·cases h
 ·rename_i t xo ho
  split at h
  ·rename_i q hq;exact old (hq.trans h)
  ·split at h
   ·rename_i b sz kc hx
    split at h
    ·split at h
     ·rename_i ti hti
      split at h
      ·rename_i cs hb
       split at h
       ·rename_i y hy
        split at h
        ·rename_i ha
         simp only[Option.some.injEq,Prod.mk.injEq]at h
         obtain⟨rfl,rfl,rfl⟩:=h
         exact JI hp hg ho hx hti hb hy ha hput hk
        ·cases h
       ·cases h
      ·cases h
     ·cases h
    ·cases h
   ·cases h
 ·rename_i t xo lo hi mx ho
  split at h
  ·rename_i q hq;exact old (hq.trans h)
  ·split at h
   ·rename_i cs hx
    split at h
    ·split at h
     ·rename_i ti hti
      split at h
      ·rename_i m e hk'
       split at h
       ·rename_i ei hei
        split at h
        ·rename_i hb hh
         split at h
         ·rename_i hchk
          simp only[Bool.and_eq_true,Bool.not_eq_true']at hchk
          simp only[Option.some.injEq,Prod.mk.injEq]at h
          obtain⟨rfl,rfl,rfl⟩:=h
          exact Mq hp hg ho hx hti hk' hei (Nat.le_of_ble_eq_true hchk.1) (fun e=>by rw[e]at hchk;simp at hchk) hh (Nat.le_of_ble_eq_true hchk.2.2) hput hk
         ·cases h
        ·cases h
       ·cases h
      ·cases h
     ·cases h
    ·cases h
   ·cases h
 ·exact old h
theorem Zu {n:Nat} {ops:Array Oper} {rest:List Oper} {o:Oper} {env:Env} {σ:St} {k:Env->St->Prop} (h:A2 P n ops ({o with guard:=none}::rest) env σ k):Hm P o env σ (fun x e s=>FX n o.dst x e fun e2=>A2 P n ops rest e2 s k):=by
 simp only[A2,AL]at h
 exact Pt h
theorem Ar8 {n:Nat} {ops:Array Oper} {rest:List Oper} {o:Oper} {env:Env} {σ:St} {k:Env->St->Prop} (hg:o.guard=none) (h:A2 P n ops (o::rest) (Ag6 c o env σ).1 (Ag6 c o env σ).2 k):A2 P n ops (o::rest) env σ k:=by
 unfold Ag6 at h
 split at h
 ·rename_i ty t ho
  split at h
  ·split at h
   ·rename_i b hl
    split at h
    ·rename_i hev
     split at h
     ·rename_i cs hb
      split at h
      ·rename_i ts hts
       split at h
       ·rename_i hone
        have hcs:=IJ hts
        subst hcs
        exact CO t b hg (Nat.eq_of_beq_eq_true hev) hl hb hone h
       ·exact h
      ·exact h
     ·exact h
    ·exact h
   ·exact h
  ·exact h
 ·exact h
theorem GM (hp:ProgOk P c) (hcf:EB P cf) {n:Nat} {ops:Array Oper} {k:Env->St->Option R} {r:R}: ∀(l:List Oper) {env:Env} {σ:St},HH c cf n ops l env σ k=some r->A2 P n ops l env σ (fun e s=>k e s=some r)
 |[],env,σ,h=>h
 |o::rest,env,σ,h=>by
  simp only[HH]at h
  refine KE h (fun e h=>?_) (fun e h=>?_)
  ·split at h
   ·rename_i x e1 s1 hs
    split at h
    ·rename_i e2 hput
     exact Zu (Ar8 (o:={o with guard:=none}) rfl (Ak6 hp hcf rfl hs hput (GM hp hcf rest h)))
    ·cases h
   ·cases h
  ·split at h
   ·rename_i e2 hput
    exact⟨e2,hput,GM hp hcf rest h⟩
   ·cases h
end
section
variable {P:Program} {c:Conf} {n m:Nat} {ops:Array Oper} {news:List Nat} {ex:Nat->List Nat} {sl:List (Nat×Nat)}
theorem OZ {F:Fence} (hF:IsW F) (hp:ProgOk P c) (hedge: ∀(i:Nat) o,ops[i]?=some o-> ∀e∈o.after,Region.binds .any e=true->e.on<i) (hle:m<=ops.size) (hcr: ∀i,m<=i->i<ops.size-> ∀j,j<m->Pre ops j i) (hI: ∀i oi,i<m->ops[i]?=some oi-> ∀j oj,j<i->ops[j]?=some oj->Pre ops j i\/Indep ops news ex sl i j oi oj) {K:Exit->Env->St->Prop} {w0:World} {g0:G} {e:Env} {s:St}
  (htl: ∀(fuel:Nat) {listed:Array Bool} {w:World} {g:G} {a:Act},listed.size=ops.size->(∀i,i<ops.size->(Li listed i↔i<m))->ops.size-m<=fuel->Good n w g a e s->Ext w0 g0 w g->wpAnyIn F 0 P .any ops (BS n w0 g0 K) fuel listed a w):
  ∀(fuel:Nat) {listed:Array Bool} {rem:List Nat} {w:World} {g:G} {a:Act} {env:Env} {σ:St},listed.size=ops.size->DC ops listed->(∀i,m<=i->i<ops.size-> ¬Li listed i)->
  (∀i,i∈rem↔i<m/\ ¬Li listed i)->rem.Pairwise (· < ·)->rem.length+(ops.size-m)<=fuel->KD P c n ops news ex sl rem env σ e s->Good n w g a env σ->Ext w0 g0 w g->
  wpAnyIn F 0 P .any ops (BS n w0 g0 K) fuel listed a w:=by
 intro fuel
 induction fuel with
 |zero=>
  intro listed rem w g a env σ hs hdc hhi hrem hsort hf hruns hg hx
  have hnil:rem=[]:=List.eq_nil_of_length_eq_zero Aa
  subst hnil
  refine htl 0 hs (fun i hi=>⟨fun h=>?_,fun h=>?_⟩) Aa (hg.eqv hruns.1 hruns.2) hx
  ·exact Classical.byContradiction fun hc=>hhi i Aa hi h
  ·exact Classical.byContradiction fun hc=>by have:=(hrem i).2 ⟨h,hc⟩;simp at this
 |succ fuel ih=>
  intro listed rem w g a env σ hs hdc hhi hrem hsort hf hruns hg hx
  by_cases hnil:rem=[]
  ·subst hnil
   refine htl (fuel+1) hs (fun i hi=>⟨fun h=>?_,fun h=>?_⟩) (by simp at hf;omega) (hg.eqv hruns.1 hruns.2) hx
   ·exact Classical.byContradiction fun hc=>hhi i Aa hi h
   ·exact Classical.byContradiction fun hc=>by have:=(hrem i).2 ⟨h,hc⟩;simp at this
  ·obtain⟨i0,rest,rfl⟩: ∃i0 rest,rem=i0::rest:=List.exists_cons_of_ne_nil hnil
   have hm:=hle
   obtain⟨hi0,hn0⟩:=(hrem i0).1 Ac
   have hmin: ∀j,j<i0->Li listed j:=fun j hj=>Classical.byContradiction fun hc=>by
    have:=(hrem j).2 ⟨by omega,hc⟩
    simp at this
    rcases this with h'|h'
    ·omega
    ·have:=(List.pairwise_cons.1 hsort).1 j h';omega
   have ho0:ops[i0]?=some ops[i0]:=Array.getElem?_eq_getElem Aa
   have hin:i0∈Region.ready .any ops listed:=by
    rw[Bv hs]
    exact⟨hn0,ops[i0],ho0,fun e he hb=>hmin _ (hedge i0 _ ho0 e he hb)⟩
   refine⟨fun hnil=>by rw[hnil]at hin;simp at hin,fun i hi=>?_⟩
   rw[Bv hs]at hi
   obtain⟨hn,o,ho,hr⟩:=hi
   have hisz:i<ops.size:=by
    rcases Nat.lt_or_ge i ops.size with h|h
    ·exact h
    ·rw[Array.getElem?_eq_none h]at ho;cases ho
   have hr': ∀o2,ops[i]?=some o2-> ∀e∈o2.after,Region.binds .any e=true->Li listed e.on:=fun o2 ho2=>by rw[ho]at ho2;cases ho2;exact hr
   have him:i<m:=Classical.byContradiction fun hc=>hn0 (CA hdc (hcr i Aa hisz i0 hi0) hr')
   have himem:i∈i0::rest:=(hrem i).2 ⟨him,hn⟩
   obtain⟨l1,l2,hsplit⟩:=List.append_of_mem himem
   rw[hsplit]at hruns hsort hrem hf
   have hlt: ∀j∈l1,j<i:=fun j hj=>(List.pairwise_append.1 hsort).2.2 j hj i Ac
   have hgt: ∀j∈l2,i<j:=fun j hj=>(List.pairwise_cons.1 (List.pairwise_append.1 hsort).2.1).1 j hj
   have hb:=V5 ho (l1:=l1) (l2:=l2) (fun j hj=>by
    obtain⟨hjm,hjn⟩:=(hrem j).1 (by simp[hj])
    have hoj:ops[j]?=some ops[j]:=Array.getElem?_eq_getElem Aa
    refine⟨ops[j],hoj,?_⟩
    rcases hI i o him ho j ops[j] (hlt j hj) hoj with h'|h'
    ·exact absurd (CA hdc h' hr') hjn
    ·exact h') hruns
   obtain⟨o2,y,nb,e1,s1,q1,q3,q4,q5⟩:=hb
   rw[ho]at q1;cases q1
   have hrem': ∀j,j∈l1++l2↔j<m/\ ¬Li (listed.setIfInBounds i true) j:=by
    intro j
    rw[DL Aa]
    have hj:=hrem j
    constructor
    ·intro hmem
     have hne:j≠i:=by
      rcases List.mem_append.1 hmem with h'|h'
      ·have:=hlt j h';omega
      ·have:=hgt j h';omega
     have:=hj.1 (by rcases List.mem_append.1 hmem with h'|h'<;>simp[h'])
     exact⟨this.1,fun hc=>by rcases hc with h'|h';exact hne h';exact this.2 h'⟩
    ·rintro⟨h1,h2⟩
     have hne:j≠i:=fun e=>h2 (.inl e)
     have:=hj.2 ⟨h1,fun hc=>h2 (.inr hc)⟩
     simp at this⊢
     rcases this with h'|h'|h'
     ·exact .inl h'
     ·exact absurd h' hne
     ·exact .inr h'
   have hsort':(l1++l2).Pairwise (· < ·):=by
    refine List.pairwise_append.2 ⟨(List.pairwise_append.1 hsort).1,(List.pairwise_cons.1 (List.pairwise_append.1 hsort).2.1).2,fun x hx y hy=>?_⟩
    have:=hlt x hx;have:=hgt y hy;omega
   have hhi': ∀j,m<=j->j<ops.size-> ¬Li (listed.setIfInBounds i true) j:=fun j hj hjs hc=>by
    rw[DL Aa]at hc
    rcases hc with h'|h'
    ·omega
    ·exact hhi j hj hjs h'
   have hcont: ∀{w':World} {g':G} {a':Act} {env':Env} {σ':St},(∀t,look env' t=look e1 t)->(∀b,look σ' b=look s1 b)->Good n w' g' a' env' σ'->Ext w0 g0 w' g'->
     wpAnyIn F 0 P .any ops (BS n w0 g0 K) fuel (listed.setIfInBounds i true) a' w':=by
    intro w' g' a' env' σ' he1 hs1 hg1 hx1
    exact ih (by simp[hs]) (hdc.set Aa hr') hhi' hrem' hsort' (by simp at hf⊢;omega) (q5.congr (fun t=>(he1 t).symm) (fun b=>(hs1 b).symm)) hg1 hx1
   have hputg: ∀{w':World} {g':G} {v:Value} {σ':St},Good n w' g' a env σ'->Rel w' g' v y->(∀b,look σ' b=look s1 b)->Ext w0 g0 w' g'->
     wpAnyIn F 0 P .any ops (BS n w0 g0 K) fuel (listed.setIfInBounds i true) (a.put o.dst v) w':=by
    intro w' g' v σ' hg1 hrel hs1 hx1
    cases hd:o.dst with
    |none=>
     refine hcont (env':=env) (fun t=>?_) hs1 hg1 hx1
     rw[q4.1 t,hd];simp
    |some d=>
     have hlt:=q3.1 d hd
     have hput:B4 n (some d) y env=some ((d,y)::env):=by
      simp only[B4]
      have:Nat.blt d n=true:=by simpa[Nat.blt_eq]using hlt
      rw[this]
     refine hcont (env':=(d,y)::env) (fun t=>?_) hs1 (Cm hput hg1 hrel) hx1
     rw[q4.1 t,hd,Ao];simp
   refine FM hF ho ?_
   rcases q3.2 with⟨hw,t,so,xo,p,x0,lab,B0,B1,r1,r2,r3,r4,r5,r6,r7,r8,r9⟩|⟨hw,cf,hcf,hst⟩|⟨hw,hy,hnb⟩|⟨hw,hwide⟩
   ·refine .inl ⟨Dc hg hw,?_⟩
    refine OJ hp r1 hg.inv hg.env r3 r4 (r7 σ r6) F hF _ _ ?_
    rintro v w' ⟨g',k1,k2,k3,k4⟩
    subst r8
    refine hputg (σ':=upd σ lab B1) ⟨k3,k4,hg.defers.ext k1,hg.size⟩ k2 (fun b=>?_) (hx.trans k1)
    rw[q4.2 b,Om r9,B3]
   ·refine .inl ⟨Dc hg hw,?_⟩
    refine FU hp hcf hg.inv hg.env hst F hF _ _ ?_
    rintro v w' ⟨g',k1,k2,k3,k4⟩
    exact hputg (σ':=nb++σ) ⟨k4,k3,hg.defers.ext k1,hg.size⟩ k2 (fun b=>(q4.2 b).symm) (hx.trans k1)
   ·refine .inr ⟨Dc hg hw,?_⟩
    subst hy;subst hnb
    exact hputg (σ':=σ) hg (.t _ _ .undef) (fun b=>(q4.2 b).symm) hx
   ·refine .inl ⟨Dc hg hw,?_⟩
    refine SQ hp hg.inv hg.env hwide F hF _ _ ?_
    rintro v w' ⟨g',k1,k2,k3,k4⟩
    exact hputg (σ':=nb++σ) ⟨k3,k4,hg.defers.ext k1,hg.size⟩ k2 (fun b=>(q4.2 b).symm) (hx.trans k1)
theorem Ae1 {F:Fence} (hF:IsW F) (hedge: ∀(i:Nat) o,ops[i]?=some o-> ∀e∈o.after,Region.binds .any e=true->e.on<i) {k:Nat} (hk:k<ops.size) (hcr: ∀i,k<i->i<ops.size->Pre ops k i) {K:Exit->Env->St->Prop} {w0:World} {g0:G} {o:Oper} (ho:ops[k]?=some o) {env:Env} {σ:St} {Q:Env->St->Prop} (h:A2 P n ops [o] env σ Q)
  (cont: ∀(fuel:Nat) {listed:Array Bool} {w:World} {g:G} {a:Act} {e:Env} {s:St},Q e s->listed.size=ops.size->(∀i,i<ops.size->(Li listed i↔i<k+1))->ops.size-(k+1)<=fuel->Good n w g a e s->Ext w0 g0 w g->wpAnyIn F 0 P .any ops (BS n w0 g0 K) fuel listed a w):
  ∀(fuel:Nat) {listed:Array Bool} {w:World} {g:G} {a:Act},listed.size=ops.size->(∀i,i<ops.size->(Li listed i↔i<k))->ops.size-k<=fuel->Good n w g a env σ->Ext w0 g0 w g->wpAnyIn F 0 P .any ops (BS n w0 g0 K) fuel listed a w:=by
 intro fuel listed w g a hs hl hf hg hx
 cases fuel with
 |zero=>omega
 |succ fuel=>
  have hrdy: ∀o,ops[k]?=some o-> ∀e∈o.after,Region.binds .any e=true->Li listed e.on:=fun o ho' e he hb=>by
   have:=hedge k o ho' e he hb
   exact(hl _ Aa).2 this
  have hin:k∈Region.ready .any ops listed:=by
   rw[Bv hs]
   exact⟨fun hc=>by have:=(hl k hk).1 hc;omega,o,ho,hrdy _ ho⟩
  refine⟨fun hnil=>by rw[hnil]at hin;simp at hin,fun i hi=>?_⟩
  rw[Bv hs]at hi
  obtain⟨hn,o',ho',hr'⟩:=hi
  have hisz:i<ops.size:=by
   rcases Nat.lt_or_ge i ops.size with h|h
   ·exact h
   ·rw[Array.getElem?_eq_none h]at ho';cases ho'
  have hdc:DC ops listed:=by
   intro j oj hoj hlj e he hb
   have hj:j<ops.size:=by
    rcases Nat.lt_or_ge j ops.size with h|h
    ·exact h
    ·rw[Array.getElem?_eq_none h]at hoj;cases hoj
   have h1:=(hl j hj).1 hlj
   have h2:=hedge j oj hoj e he hb
   exact(hl _ Aa).2 Aa
  have hieq:i=k:=by
   rcases Nat.lt_trichotomy i k with h'|h'|h'
   ·exact absurd ((hl i hisz).2 h') hn
   ·exact h'
   ·have hpre:=hcr i h' hisz
    have:=CA hdc hpre (fun o2 ho2=>by rw[ho']at ho2;cases ho2;exact hr')
    have:=(hl k hk).1 this
    omega
  subst hieq
  rw[ho']at ho;cases ho
  simp only[A2]at h
  have hl': ∀j,j<ops.size->(Li (listed.setIfInBounds i true) j↔j<i+1):=by
   intro j hj
   rw[DL Aa,hl j hj];omega
  refine FM hF ho' ?_
  rcases F6 hg h with⟨hw,env0,h,hg⟩|⟨hw,env0,h,hg⟩
  ·refine .inl ⟨hw,?_⟩
   refine h w g a hg.inv hg.env F hF _ _ ?_
   rintro v w' ⟨x,e1,s1,⟨g',k1,k2,k3,k4⟩,e2,hput,h⟩
   exact cont fuel h (by simp[hs]) hl' Aa (Cm hput ⟨k4,k3,hg.defers.ext k1,hg.size⟩ k2) (hx.trans k1)
  ·refine .inr ⟨hw,?_⟩
   obtain⟨e2,hput,h⟩:=h
   exact cont fuel h (by simp[hs]) hl' Aa (Cm hput hg (.t _ _ .undef)) hx
def Ab1 (ms:List Nat) (k sz:Nat):Bool:=(List.range sz).all fun i=>Nat.blt i k||((List.range k).all (fun j=>(ms.getD i 0).testBit j)&&(Nat.beq i k||(ms.getD i 0).testBit k))
theorem Ajz {k:Nat} (h:Ab1 (Eh ops.toList []) k ops.size=true):(∀i,k<=i->i<ops.size-> ∀j,j<k->Pre ops j i)/\(∀i,k<i->i<ops.size->Pre ops k i):=by
 have key: ∀i,k<=i->i<ops.size->(∀j,j<k->((Eh ops.toList []).getD i 0).testBit j=true)/\(i=k\/((Eh ops.toList []).getD i 0).testBit k=true):=by
  intro i h1 h2
  have:=List.all_eq_true.1 h i (List.mem_range.2 h2)
  simp only[Bool.or_eq_true,Bool.and_eq_true,List.all_eq_true,List.mem_range]at this
  rcases this with h3|⟨h3,h4⟩
  ·have h3:i<k:=by simpa[Nat.blt_eq]using h3
   omega
  ·refine⟨h3,?_⟩
   rcases h4 with h4|h4
   ·exact .inl (Nat.eq_of_beq_eq_true h4)
   ·exact .inr h4
 refine⟨fun i h1 h2 j hj=>Er _ _ ((key i h1 h2).1 j hj),fun i h1 h2=>?_⟩
 rcases(key i Aa h2).2 with h3|h3
 ·omega
 ·exact Er _ _ h3
theorem NK (hp:ProgOk P c) (sl:List (Nat×Nat)) (k:Nat) {id:Nat} {env env':Env} {σ σ':St} {K:Exit->Env->St->Prop} {l1 l2 la lb:List Oper} {o:Oper} {nw:List Nat} {ms:List Nat} (hm:ID ops=some m) (hz:regFrz ops env σ=(env',σ'))
  (h1:ops.toList.take m=l1) (h2:ops.toList.drop m=l2) (h3:D1 l1=nw) (h4:Eh ops.toList []=ms) (hchk:HO ms nw sl l1 0 l1=true) (hbar:Ab1 ms k ops.size=true) (hkm:Nat.blt k m=true) (ho:ops[k]?=some o) (h5:l1.take k=la) (h6:l1.drop (k+1)=lb)
  (h:hSW P c n ops nw (fun i=>RV ms i sl) sl 0 la env' σ' (fun e s=>A2 P n ops [o] e s (fun e s=>hSW P c n ops nw (fun i=>RV ms i sl) sl (k+1) lb e s (fun e s=>A2 P n ops l2 e s (K .normal))))):Tr P n (.region id ops true) env σ K:=by
 subst h4;subst h3;subst h5;subst h6;subst h1;subst h2
 have hD:=Sc hm
 have hkm:k<m:=by simpa[Nat.blt_eq]using hkm
 have hle:=hD.le
 obtain⟨hb1,hb2⟩:=Ajz hbar
 have hI:=WR hD hchk
 have hlen:(ops.toList.take m).length=m:=by simp;omega
 intro F hF hrf w g0 a hg0
 obtain⟨g,hx,hg⟩:=Fo hz hg0
 refine wpIn_mono ?_ fun ex a2 w2 (hq:BS n w g K ex a2 w2)=>hq.lift hx
 have hla:((ops.toList.take m).take k).length=k:=by simp;omega
 obtain⟨e,s,q1,q2⟩:=Hn ((ops.toList.take m).take k) 0 (fun j hj=>by rw[hla]at hj;rw[List.getElem?_take,if_pos hj,List.getElem?_take,if_pos Aa,Array.getElem?_toList,Nat.zero_add]) h
 rw[hla]at q1
 refine wpIn_region_any hp.mix ?_
 refine OZ (m:=k) hF hp hD.edge Aa hb1 (fun i oi hi hoi j oj hj hoj=>hI i oi Aa hoi j oj hj hoj) ?_ ops.size Ac (fun i o ho hl=>?_) (fun i h1 h2 hl=>?_) (rem:=List.range' 0 k) (fun i=>?_) List.pairwise_lt_range' (by simp;omega) q1 (hg.drew) (Ext.drew w g)
 ·intro fuel listed w1 g1 a1 hs hl hf hg1 hx1
  refine Ae1 hF hD.edge Aa hb2 ho q2 ?_ fuel hs hl hf hg1 hx1
  intro fuel listed w2 g2 a2 e2 s2 hq hs hl hf hg2 hx2
  have hlb:((ops.toList.take m).drop (k+1)).length=m-(k+1):=by simp;omega
  obtain⟨e3,s3,q3,q4⟩:=Hn ((ops.toList.take m).drop (k+1)) (k+1) (fun j hj=>by rw[hlb]at hj;rw[List.getElem?_drop,List.getElem?_take,if_pos Aa,Array.getElem?_toList]) hq
  rw[hlb]at q3
  refine OZ (m:=m) hF hp hD.edge hle (fun i h1 h2 j hj=>hD.tail i h1 h2 j Aa) hI ?_ fuel hs ?_ (fun i h1 h2 hc=>?_) (rem:=List.range' (k+1) (m-(k+1))) (fun i=>?_) List.pairwise_lt_range' (by simp;omega) q3 hg2 hx2
  ·intro fuel listed w3 g3 a3 hs hl hf hg3 hx3
   exact Ha hF hD fuel m (Nat.le_refl _) hle hs hl hf q4 hg3 hx3
  ·intro j oj hoj hlj e he hb
   have hj:j<ops.size:=by
    rcases Nat.lt_or_ge j ops.size with h|h
    ·exact h
    ·rw[Array.getElem?_eq_none h]at hoj;cases hoj
   have h1:=(hl j hj).1 hlj
   have h2:=hD.edge j oj hoj e he hb
   exact(hl _ Aa).2 Aa
  ·have:=(hl i h2).1 hc;omega
  ·rw[List.mem_range'_1]
   constructor
   ·intro h;exact⟨by omega,fun hc=>by have:=(hl i Aa).1 hc;omega⟩
   ·intro h
    refine⟨Nat.le_of_not_lt fun hc=>h.2 ((hl i Aa).2 hc),by omega⟩
 ·simp[Li,Array.getElem?_replicate]at hl
 ·simp[Li,Array.getElem?_replicate]at hl
 ·simp[Li,Array.getElem?_replicate,List.mem_range'_1]
end
def PG (te:TE) (o:Oper) (env:Env) (σ:St):Option (Option (Nat×Blk)):=
 match o.op with
 |.store t so xo=>(match o.dst with
  |none=>(match ev env so with
   |some p=>(match ev env xo with
    |some x0=>(match T9 p with
     |some lab=>(match look σ lab with
      |some B0=>(match U3 te t p x0 lab B0 with
       |some B1=>some (some (lab,B1))
       |none=>none)
      |none=>none)
     |none=>none)
    |none=>none)
   |none=>none)
  |some _=>none)
 |_=>some none
def Ann (n:Nat) (r:AV) (σ2 σ:St):Option (AV×St×List Nat):=
 match gcS r σ2 with
 |some σ3=>(fun ω=>match Yn ω σ3&&V2 [] σ ω with
  |true=>some (CV (look ω) r,Iv ω σ3,GY ω)
  |false=>none) (Vp (Ask σ n+1) (Abg σ3 []))
 |none=>none
def U4 (c:Conf) (cf:Nat->List AV->St->Option (AV×St)) (n:Nat) (news:List Nat) (o:Oper) (env:Env) (σ:St):Option (AV×St×List Nat):=
 match o.op with
 |.call cl=>(match isB cl.callee with
  |true=>(match BW c cf news o env σ with
   |some (x,nb)=>some (x,nb,[])
   |none=>none)
  |false=>(match C6 c env cl with
   |some (f,as)=>(match D7 as with
    |true=>(match cf f as []with
     |some (r,σ2)=>(match r.free with
      |true=>some (r,[],[])
      |false=>(match GC o.dst r σ2 σ with
       |some (x,nb)=>some (x,nb,[])
       |none=>Ann n r σ2 σ))
     |none=>none)
    |false=>none)
   |none=>none))
 |_=>(match BW c cf news o env σ with
  |some (x,nb)=>some (x,nb,[])
  |none=>none)
def Aq4 (i:Nat):List Nat->List (Nat×Nat)->List (Nat×Nat)
 |[],acc=>acc
 |b::r,acc=>(i,b)::Aq4 i r acc
def Aj8 (i:Nat) (sl:List (Nat×Nat)):List Nat->Bool
 |[]=>true
 |b::r=>Zd i b sl&&Aj8 i sl r
def Abv (c:Conf) (cf:Nat->List AV->St->Option (AV×St)) (n:Nat) (ops:Array Oper) (news:List Nat):Nat->List Oper->Env->St->List (Nat×Nat)->Option (List (Nat×Nat))
 |_,[],_,_,acc=>some acc
 |i,o::rest,env,σ,acc=>IM ops o env (fun env=>match PG c.te o env σ with
   |some (some (lab,B1))=>Abv c cf n ops news (i+1) rest env (upd σ lab B1) ((i,lab)::acc)
   |some none=>(match U4 c cf n news o env σ with
    |some (x,nb,ls)=>match B4 n o.dst x env with
     |some env2=>Abv c cf n ops news (i+1) rest env2 (nb++σ) (Aq4 i ls acc)
     |none=>none
    |none=>none)
   |none=>none) (fun env=>match B4 n o.dst (.t .undef) env with
   |some env2=>Abv c cf n ops news (i+1) rest env2 σ acc
   |none=>none)
def OL {R:Type} (c:Conf) (cf:Nat->List AV->St->Option (AV×St)) (n:Nat) (ops:Array Oper) (news:List Nat) (ex:Nat->List Nat) (sl:List (Nat×Nat)):Nat->List Oper->Env->St->(Env->St->Option R)->Option R
 |_,[],env,σ,k=>k env σ
 |i,o::rest,env,σ,k=>IM ops o env (fun env=>match PG c.te o env σ with
   |some (some (lab,B1))=>(match Zd i lab sl with
    |true=>OL c cf n ops news ex sl (i+1) rest env (upd σ lab B1) k
    |false=>none)
   |some none=>(match U4 c cf n (ex i++news) o env σ with
    |some (x,nb,ls)=>(match Aj8 i sl ls with
     |true=>(match B4 n o.dst x env with
      |some env2=>OL c cf n ops news ex sl (i+1) rest env2 (nb++σ) k
      |none=>none)
     |false=>none)
    |none=>none)
   |none=>none) (fun env=>match B4 n o.dst (.t .undef) env with
   |some env2=>OL c cf n ops news ex sl (i+1) rest env2 σ k
   |none=>none)
section
variable {P:Program} {c:Conf} {cf:Nat->List AV->St->Option (AV×St)} {R:Type}
theorem U2 {te:TE} {o:Oper} {env:Env} {σ:St} {lab:Nat} {B1:Blk} (h:PG te o env σ=some (some (lab,B1))):
  ∃t so xo p x0 B0,o.op=.store t so xo/\o.dst=none/\ev env so=some p/\ev env xo=some x0/\look σ lab=some B0/\(∀σ,look σ lab=some B0->EK te t p x0 σ=some (upd σ lab B1)):=by
 unfold PG at h
 split at h
 ·rename_i t so xo ho
  split at h
  ·rename_i hd
   split at h
   ·rename_i p hp
    split at h
    ·rename_i x0 hx
     split at h
     ·rename_i lab' hlab
      split at h
      ·rename_i B0 hB
       split at h
       ·rename_i B1' hs
        simp only[Option.some.injEq,Prod.mk.injEq]at h
        obtain⟨rfl,rfl⟩:=h
        exact⟨t,so,xo,p,x0,B0,ho,hd,hp,hx,hB,ST hlab hs⟩
       ·cases h
      ·cases h
     ·cases h
    ·cases h
   ·cases h
  ·cases h
 ·simp at h
theorem Ab3 {i:Nat} {sl:List (Nat×Nat)}: ∀{l:List Nat},Aj8 i sl l=true-> ∀b∈l,(i,b)∈sl
 |[],_,b,h=>by simp at h
 |x::r,h,b,hb=>by
  simp only[Aj8,Bool.and_eq_true]at h
  rcases List.mem_cons.1 hb with e|e
  ·subst e;exact PN h.1
  ·exact Ab3 h.2 b e
theorem Ug {σ:St}: ∀{ω:List (Nat×Nat)},V2 [] σ ω=true-> ∀b∈GY ω,look σ b=none
 |[],_,b,h=>by simp[GY]at h
 |(c',b')::r,h,b,hb=>by
  simp only[V2,look,Bool.and_eq_true,Bool.or_eq_true]at h
  simp only[GY,List.mem_cons]at hb
  rcases hb with e|e
  ·subst e
   rcases h.1 with h'|h'
   ·simp[Tx]at h'
   ·simpa using h'.2
  ·exact Ug h.2 b e
theorem Agc (hcf:EB P cf) {n i:Nat} {sl:List (Nat×Nat)} {news:List Nat} {o:Oper} {env:Env} {σ nb:St} {x:AV} {ls:List Nat} (h:U4 c cf n news o env σ=some (x,nb,ls)) (hl:Aj8 i sl ls=true):
  BW c cf news o env σ=some (x,nb)\/ZP P c sl i o env σ x nb:=by
 have plain:(match BW c cf news o env σ with
   |some (x,nb)=>some (x,nb,([]:List Nat))
   |none=>none)=some (x,nb,ls)->BW c cf news o env σ=some (x,nb):=fun h=>by
  split at h
  ·rename_i x' nb' hs;simp only[Option.some.injEq,Prod.mk.injEq]at h;obtain⟨rfl,rfl,_⟩:=h;exact hs
  ·cases h
 unfold U4 at h
 split at h
 ·rename_i cl ho
  split at h
  ·exact .inl (plain h)
  ·rename_i hb
   split at h
   ·rename_i f as hc
    split at h
    ·rename_i hfr
     split at h
     ·rename_i r σ2 hr
      have hst: ∀q,(if r.free=true then some (r,([]:St))else GC o.dst r σ2 σ)=some q->BW c cf news o env σ=some q:=fun q hq=>by
       unfold BW
       rw[ho]
       simp only
       cases hcl:cl.callee with
       |builtin bb=>rw[hcl]at hb;simp[isB]at hb
       |value v=>simp only[hc,hfr,hr];rw[<-hq];cases r.free<;>simp
       |invoke a b=>simp only[hc,hfr,hr];rw[<-hq];cases r.free<;>simp
      split at h
      ·rename_i hf
       simp only[Option.some.injEq,Prod.mk.injEq]at h
       obtain⟨rfl,rfl,_⟩:=h
       exact .inl (hst _ (by rw[if_pos hf]))
      ·rename_i hf
       split at h
       ·rename_i x' nb' hh
        simp only[Option.some.injEq,Prod.mk.injEq]at h
        obtain⟨rfl,rfl,_⟩:=h
        exact .inl (hst _ (by rw[if_neg (by rw[hf];exact fun e=>by cases e)];exact hh))
       ·unfold Ann at h
        split at h
        ·rename_i σ3 hg
         simp only at h
         split at h
         ·rename_i hw
          simp only[Bool.and_eq_true]at hw
          simp only[Option.some.injEq,Prod.mk.injEq]at h
          obtain⟨rfl,rfl,rfl⟩:=h
          exact .inr ⟨OS f as [] r σ3,cl,f,as,r,σ3,_,MO (Zy (hcf _ _ _ _ _ hr) hg),ho,hc,hfr,MP,hw.1,fun b hb=>⟨Ab3 hl b hb,Ug hw.2 b hb⟩,rfl,rfl⟩
         ·cases h
        ·cases h
     ·cases h
    ·cases h
   ·cases h
 ·exact .inl (plain h)
theorem Jb (hcf:EB P cf) {n:Nat} {ops:Array Oper} {news:List Nat} {ex:Nat->List Nat} {sl:List (Nat×Nat)} {k:Env->St->Option R} {r:R}: ∀(i:Nat) (l:List Oper) {env:Env} {σ:St},OL c cf n ops news ex sl i l env σ k=some r->hSW P c n ops news ex sl i l env σ (fun e s=>k e s=some r)
 |i,[],env,σ,h=>h
 |i,o::rest,env,σ,h=>by
  simp only[OL]at h
  refine KE h (fun e h=>?_) (fun e h=>?_)
  ·split at h
   ·rename_i lab B1 hs
    split at h
    ·rename_i hm
     obtain⟨t,so,xo,p,x0,B0,h1,h2,h3,h4,h5,h6⟩:=U2 hs
     exact .inr (.inl ⟨t,so,xo,p,x0,lab,B0,B1,h1,h2,h3,h4,PN hm,h5,h6,Jb hcf (i+1) rest h⟩)
    ·cases h
   ·split at h
    ·rename_i x nb ls hs
     split at h
     ·rename_i hl
      split at h
      ·rename_i e2 hput
       rcases Agc hcf hs hl with h1|h1
       ·exact .inl ⟨cf,x,nb,hcf,h1,e2,hput,Jb hcf (i+1) rest h⟩
       ·exact .inr (.inr ⟨x,nb,h1,e2,hput,Jb hcf (i+1) rest h⟩)
      ·cases h
     ·cases h
    ·cases h
   ·cases h
  ·split at h
   ·rename_i e2 hput
    exact⟨e2,hput,Jb hcf (i+1) rest h⟩
   ·cases h
theorem Ho {n:Nat} {ops:Array Oper} {news:List Nat} {ex:Nat->List Nat} {sl:List (Nat×Nat)} {K K':Env->St->Prop} (hK: ∀e s,K e s->K' e s): ∀(i:Nat) (l:List Oper) {env:Env} {σ:St},hSW P c n ops news ex sl i l env σ K->hSW P c n ops news ex sl i l env σ K'
 |i,[],env,σ,h=>hK _ _ h
 |i,o::rest,env,σ,h=>by
  simp only[hSW]at h⊢
  unfold AL at h⊢
  have a1: ∀e,((∃cf x nb,EB P cf/\BW c cf (ex i++news) o e σ=some (x,nb)/\FX n o.dst x e fun e2=>hSW P c n ops news ex sl (i+1) rest e2 (nb++σ) K)
    \/(∃t so xo p x0 lab B0 B1,o.op=.store t so xo/\o.dst=none/\ev e so=some p/\ev e xo=some x0/\(i,lab)∈sl/\look σ lab=some B0/\(∀σ,look σ lab=some B0->EK c.te t p x0 σ=some (upd σ lab B1))/\hSW P c n ops news ex sl (i+1) rest e (upd σ lab B1) K)
    \/(∃y nb,ZP P c sl i o e σ y nb/\FX n o.dst y e fun e2=>hSW P c n ops news ex sl (i+1) rest e2 (nb++σ) K))->
    ((∃cf x nb,EB P cf/\BW c cf (ex i++news) o e σ=some (x,nb)/\FX n o.dst x e fun e2=>hSW P c n ops news ex sl (i+1) rest e2 (nb++σ) K')
    \/(∃t so xo p x0 lab B0 B1,o.op=.store t so xo/\o.dst=none/\ev e so=some p/\ev e xo=some x0/\(i,lab)∈sl/\look σ lab=some B0/\(∀σ,look σ lab=some B0->EK c.te t p x0 σ=some (upd σ lab B1))/\hSW P c n ops news ex sl (i+1) rest e (upd σ lab B1) K')
    \/(∃y nb,ZP P c sl i o e σ y nb/\FX n o.dst y e fun e2=>hSW P c n ops news ex sl (i+1) rest e2 (nb++σ) K')):=by
   rintro e (⟨cf,x,nb,hcf,hs,e2,hput,h⟩|⟨t,so,xo,p,x0,lab,B0,B1,h1,h2,h3,h4,h5,h6,h7,h⟩|⟨y,nb,h1,e2,hput,h⟩)
   ·exact .inl ⟨cf,x,nb,hcf,hs,e2,hput,Ho hK (i+1) rest h⟩
   ·exact .inr (.inl ⟨t,so,xo,p,x0,lab,B0,B1,h1,h2,h3,h4,h5,h6,h7,Ho hK (i+1) rest h⟩)
   ·exact .inr (.inr ⟨y,nb,h1,e2,hput,Ho hK (i+1) rest h⟩)
  have a2: ∀e,FX n o.dst (.t .undef) e (fun e2=>hSW P c n ops news ex sl (i+1) rest e2 σ K)->FX n o.dst (.t .undef) e (fun e2=>hSW P c n ops news ex sl (i+1) rest e2 σ K'):=by
   rintro e ⟨e2,hput,h⟩
   exact⟨e2,hput,Ho hK (i+1) rest h⟩
  split at h
  ·exact a1 _ h
  ·split at h
   ·split at h
    ·split at h
     ·exact⟨fun e=>a1 _ (h.1 e),fun e=>a2 _ (h.2 e)⟩
     ·exact a2 _ h
     ·exact h
    ·exact h
   ·exact h
def UH {R:Type} (c:Conf) (cf:Nat->List AV->St->Option (AV×St)) (n:Nat) (ops:Array Oper) (env:Env) (σ:St) (k:Exit->Env->St->Option R):Option R:=
 match ID ops with
 |some m=>(match Abv c cf n ops (D1 (ops.toList.take m)) 0 (ops.toList.take m) env σ []with
  |some sl=>(match HO (Eh ops.toList []) (D1 (ops.toList.take m)) sl (ops.toList.take m) 0 (ops.toList.take m)with
   |true=>OL c cf n ops (D1 (ops.toList.take m)) (fun i=>RV (Eh ops.toList []) i sl) sl 0 (ops.toList.take m) env σ (fun env σ=>HH c cf n ops (ops.toList.drop m) env σ (k .normal))
   |false=>none)
  |none=>none)
 |none=>none
def Al2 (o:Oper):Bool:=match o.op with
 |.call cl=> !(isB cl.callee)
 |_=>false
def Azg (ops:Array Oper) (m:Nat):Option Nat:=(List.range m).find? fun b=>match ops[b]? with
 |some o=>Al2 o&&Ab1 (Eh ops.toList []) b ops.size
 |none=>false
def Agh (env:Env):Nat->List Oper->List (Nat×Nat)
 |_,[]=>[]
 |i,o::r=>match o.op with
  |.store _ so _=>(match so with
   |.tmp d=>(match look env d with
    |some (.ref b _)=>(i,b)::Agh env (i+1) r
    |_=>(i,2*d)::Agh env (i+1) r)
   |_=>Agh env (i+1) r)
  |_=>Agh env (i+1) r
def UI {R:Type} (c:Conf) (cf:Nat->List AV->St->Option (AV×St)) (n:Nat) (ops:Array Oper) (env:Env) (σ:St) (k:Exit->Env->St->Option R):Option R:=
 match ID ops with
 |some m=>(match Azg ops m with
  |some b=>(match ops[b]? with
   |some o=>(fun sl=>match HO (Eh ops.toList []) (D1 (ops.toList.take m)) sl (ops.toList.take m) 0 (ops.toList.take m)&&(Ab1 (Eh ops.toList []) b ops.size&&Nat.blt b m)with
    |true=>OL c cf n ops (D1 (ops.toList.take m)) (fun i=>RV (Eh ops.toList []) i sl) sl 0 ((ops.toList.take m).take b) env σ (fun e s=>HH c cf n ops [o] e s (fun e s=>OL c cf n ops (D1 (ops.toList.take m)) (fun i=>RV (Eh ops.toList []) i sl) sl (b+1) ((ops.toList.take m).drop (b+1)) e s (fun e s=>HH c cf n ops (ops.toList.drop m) e s (k .normal))))
    |false=>none) (Agh env (b+1) ((ops.toList.take m).drop (b+1)))
   |none=>none)
  |none=>none)
 |none=>none
def orE {R:Type} (a b:Option R):Option R:=match a with
 |some r=>some r
 |none=>b
theorem Acv (hp:ProgOk P c) (hcf:EB P cf) {n id:Nat} {ops:Array Oper} {r:R} {k:Exit->Env->St->Option R} {env0:Env} {σ0:St} (h:UI c cf n ops (regFrz ops env0 σ0).1 (regFrz ops env0 σ0).2 k=some r):Tr P n (.region id ops true) env0 σ0 (fun ex e s=>k ex e s=some r):=by
 unfold UI at h
 cases hm:ID ops with
 |none=>rw[hm]at h;cases h
 |some m=>
  rw[hm]at h
  simp only at h
  split at h
  ·rename_i b hb
   split at h
   ·rename_i o ho
    split at h
    ·rename_i hchk
     simp only[Bool.and_eq_true]at hchk
     exact NK hp _ b hm rfl rfl rfl rfl rfl hchk.1 hchk.2.1 hchk.2.2 ho rfl rfl (Ho (fun e s hh=>Oz (fun e s hh=>Ho (fun e s hh=>GM hp hcf _ hh) _ _ (Jb hcf _ _ hh)) _ (GM hp hcf _ hh)) _ _ (Jb hcf _ _ h))
    ·cases h
   ·cases h
  ·cases h
def Ah5 (ops:Array Oper):Bool:=match Nz ops with
 |some _=>false
 |none=>true
theorem Acu (hp:ProgOk P c) (hcf:EB P cf) {n id:Nat} {ops:Array Oper} {r:R} {k:Exit->Env->St->Option R} {env0:Env} {σ0:St} (h:UH c cf n ops (regFrz ops env0 σ0).1 (regFrz ops env0 σ0).2 k=some r):Tr P n (.region id ops true) env0 σ0 (fun ex e s=>k ex e s=some r):=by
 unfold UH at h
 cases hm:ID ops with
 |none=>rw[hm]at h;cases h
 |some m=>
  rw[hm]at h
  simp only at h
  split at h
  ·rename_i sl hsl
   split at h
   ·rename_i hchk
    exact BC hp sl hm rfl rfl rfl rfl rfl hchk (Ho (fun e s hh=>GM hp hcf _ hh) _ _ (Jb hcf _ _ h))
   ·cases h
  ·cases h
end
section
variable {P:Program}
def VD (P:Program) (gf:Nat) (caps:List T):Prop:= ∀{n:Nat} {env:Env} {σ:St} {gop:Operand} {ps:Array Tmp} {asg bd:Code} {K:Exit->Env->St->Prop},ev env gop=some (.t (.func (.func gf) [] caps))->K .normal (PC σ env) (CC (upS σ))->Tr P n (.rangeFunc gop ps asg bd) env σ K
def Nl:List Oper->Bool
 |[]=>false
 |o::r=>match o.op with
  |.call cl=> !(isB cl.callee)||Nl r
  |_=>Nl r
def Xn:St->Env->St->Env×St
 |[],env,σ=>(env,σ)
 |(b,_)::r,env,σ=>(match WB b with
  |true=>Xn r env σ
  |false=>(match look σ b with
   |some (.grow s es)=>(match Nat.beq s 1 with
    |true=>Xn r (I9 b s es env) (Gf b s es σ)
    |false=>Xn r env σ)
   |_=>Xn r env σ))
theorem Tr.frzOne {n:Nat} {code:Code} {env:Env} {σ:St} {K:Exit->Env->St->Prop} (b:Nat) {sz:Nat} {es:List (List T)} (hb:look σ b=some (.grow sz es)) (h:Tr P n code (I9 b sz es env) (Gf b sz es σ) K):Tr P n code env σ K:=by
 intro F hF hrf w g a hg
 obtain⟨k1,k2,k3⟩:=freeze hg.inv hb
 refine wpIn_mono (h F hF hrf w _ a ⟨fun t x hx=>?_,k2,hg.defers.ext k1,hg.size⟩) fun ex a2 w2 hq=>hq.lift k1
 rw[Fu]at hx
 cases hl:look env t with
 |none=>simp[hl]at hx
 |some z=>simp[hl]at hx;subst hx;exact k3 _ _ (hg.env t z hl)
theorem Ny {n:Nat} {code:Code} {K:Exit->Env->St->Prop}: ∀(l:St) {env:Env} {σ:St},Tr P n code (Xn l env σ).1 (Xn l env σ).2 K->Tr P n code env σ K
 |[],env,σ,h=>h
 |(b,_)::r,env,σ,h=>by
  simp only[Xn]at h
  split at h
  ·exact Ny r h
  ·split at h
   ·rename_i s es hb
    split at h
    ·exact Tr.frzOne b hb (Ny r h)
    ·exact Ny r h
   ·exact Ny r h
def RB:List Nat->Env->St->Env×St
 |[],env,σ=>(env,σ)
 |b::r,env,σ=>(match WB b with
  |true=>RB r env σ
  |false=>(match look σ b with
   |some _=>RB r (Fs b env) (CP b σ)
   |none=>RB r env σ))
theorem Tr.killOne {n:Nat} {code:Code} {env:Env} {σ:St} {K:Exit->Env->St->Prop} (b:Nat) (hb:WB b=false) (h:Tr P n code (Fs b env) (CP b σ) K):Tr P n code env σ K:=by
 intro F hF hrf w g a hg
 have hb2: ¬b % 2=1:=fun e=>by simp[WB,e]at hb
 obtain⟨k1,k2,k3⟩:=Ad2 hg.inv b (fun hb'=>by have:=(hg.inv.bx _ hb').1;omega)
 exact wpIn_mono (h F hF hrf w _ a ⟨k3 a env hg.env,k2,hg.defers.ext k1,hg.size⟩) fun ex a2 w2 hq=>hq.lift k1
theorem MY {n:Nat} {code:Code} {K:Exit->Env->St->Prop}: ∀(l:List Nat) {env:Env} {σ:St},Tr P n code (RB l env σ).1 (RB l env σ).2 K->Tr P n code env σ K
 |[],env,σ,h=>h
 |b::r,env,σ,h=>by
  simp only[RB]at h
  split at h
  ·exact MY r h
  ·rename_i hb
   split at h
   ·exact Tr.killOne b hb (MY r h)
   ·exact MY r h
def HW {R:Type} (c:Conf) (cf:Nat->List AV->St->Option (AV×St)) (eg:Nat->List T->Bool) (n:Nat):Code->Env->St->(Exit->Env->St->Option R)->Option R
 |.skip,env,σ,k=>k .normal env σ
 |.region id ops draw,env,σ,k=>(match draw with
  |false=>(fun q=>HH c cf n ops ops.toList (regFrz ops q.1 q.2).1 (regFrz ops q.1 q.2).2 (k .normal)) (K0 (bif Vj c.te ops.toList then ops.toList else[]) env σ)
  |true=>(fun q=>orE (match Ah5 ops with
   |true=>UH c cf n ops (regFrz ops q.1 q.2).1 (regFrz ops q.1 q.2).2 k
   |false=>Cv c cf n (.region id ops true) q.1 q.2 k) (UI c cf n ops (regFrz ops q.1 q.2).1 (regFrz ops q.1 q.2).2 k)) ((fun q=>RB (D1 ops.toList) q.1 q.2) (Xn (bif Nl ops.toList then σ else[]) env σ)))
 |.seq a b,env,σ,k=>HW c cf eg n a env σ (fun ex env σ=>match ex with
  |.normal=>HW c cf eg n b env σ k
  |ex=>k ex env σ)
 |.cond x a b,env,σ,k=>(match ev env x with
  |some (.t (.bool p))=>(match p with
   |true=>HW c cf eg n a env σ k
   |false=>HW c cf eg n b env σ k)
  |_=>none)
 |.block id b,env,σ,k=>HW c cf eg n b env σ (fun ex env σ=>match ex with
  |.exit i=>(match Nat.beq i id with
   |true=>k .normal env σ
   |false=>k (.exit i) env σ)
  |ex=>k ex env σ)
 |.loop b,env,σ,k=>Zl (fun env σ k=>HW c cf eg n b env σ k) LF env σ k
 |.exit id,env,σ,k=>k (.exit id) env σ
 |.ret,env,σ,k=>k .ret env σ
 |.rangeFunc gop _ _ _,env,σ,k=>(match ev env gop with
  |some (.t (.func (.func gf) [] caps))=>(match eg gf caps with
   |true=>k .normal (PC σ env) (CC (upS σ))
   |false=>none)
  |_=>none)
 |_,_,_,_=>none
theorem LQ {c:Conf} {cf:Nat->List AV->St->Option (AV×St)} {R:Type} {eg:Nat->List T->Bool} (hp:ProgOk P c) (hcf:EB P cf) (heg: ∀gf caps,eg gf caps=true->VD P gf caps) {n:Nat} {r:R}: ∀(code:Code) {k:Exit->Env->St->Option R} {env:Env} {σ:St},(∀ch e s,k (.panic ch) e s≠some r)->HW c cf eg n code env σ k=some r->Tr P n code env σ (fun ex e s=>k ex e s=some r)
 |.skip,k,env,σ,_,h=>by
  simp only[HW]at h
  exact Yp h
 |.region id ops draw,k,env0,σ0,hk,h=>by
  simp only[HW]at h
  cases draw with
  |false=>exact Gi (bif Vj c.te ops.toList then ops.toList else[]) (L4 hp rfl rfl (GM hp hcf _ h))
  |true=>
   simp only at h
   refine Ny (bif Nl ops.toList then σ0 else[]) ?_
   refine MY (D1 ops.toList) ?_
   unfold orE at h
   split at h
   ·rename_i r0 h0
    cases h
    split at h0
    ·exact Acu hp hcf h0
    ·exact ET hp hcf _ hk h0
   ·exact Acv hp hcf h
 |.seq x y,k,env,σ,hk,h=>by
  simp only[HW]at h
  refine Ik ((LQ hp hcf heg x (by intro ch e s;exact hk ch e s) h).mono fun ex e s h3=>?_)
  cases ex with
  |normal=>exact LQ hp hcf heg y hk h3
  |exit id=>exact h3
  |goto l=>exact h3
  |ret=>exact h3
  |panic ch=>exact h3
  |outgrown=>exact h3
 |.cond x y z,k,env,σ,hk,h=>by
  simp only[HW]at h
  split at h
  ·rename_i p hb
   cases p with
   |true=>exact Aag hb (LQ hp hcf heg y hk h)
   |false=>exact Aah hb (LQ hp hcf heg z hk h)
  ·cases h
 |.block id b,k,env,σ,hk,h=>by
  simp only[HW]at h
  refine Ms ((LQ hp hcf heg b (by intro ch e s;exact hk ch e s) h).mono fun ex e s h3=>?_)
  cases ex with
  |exit i=>
   simp only at h3⊢
   cases hi:Nat.beq i id<;>simp only[hi]at h3⊢ <;>exact h3
  |normal=>exact h3
  |goto l=>exact h3
  |ret=>exact h3
  |panic ch=>exact h3
  |outgrown=>exact h3
 |.loop b,k,env,σ,hk,h=>by
  simp only[HW]at h
  exact Abh hk (fun hk' hh=>LQ hp hcf heg b hk' hh) LF h
 |.exit id,k,env,σ,_,h=>by
  simp only[HW]at h
  exact Yq h
 |.ret,k,env,σ,_,h=>by
  simp only[HW]at h
  exact Ca h
 |.rangeFunc gop ps asg bd,k,env,σ,_,h=>by
  simp only[HW]at h
  split at h
  ·rename_i gf caps hg
   cases he:eg gf caps with
   |false=>rw[he]at h;cases h
   |true=>rw[he]at h;exact heg gf caps he hg h
  ·cases h
 |.scope _,k,env,σ,_,h=>by simp[HW]at h
 |.label _,k,env,σ,_,h=>by simp[HW]at h
 |.goto _,k,env,σ,_,h=>by simp[HW]at h
 |.refuse _,k,env,σ,_,h=>by simp[HW]at h
def Uj (P:Program) (c:Conf) (eg:Nat->List T->Bool):Nat->Nat->List AV->St->Option (AV×St)
 |0,_,_,_=>none
 |d+1,f,xs,σ=>match c.sp f xs σ with
  |some r=>some r
  |none=>match P.funcs[f]? with
   |some fn=>(match fn.body with
    |some code=>bif Nat.ble xs.length fn.ntmps then HW c (Uj P c eg d) eg fn.ntmps code (FG 0 xs) σ (fun ex env σ=>match ex with
     |.normal=>JY c.te (!(FC f c.ownR)) fn.results.toList env σ
     |.ret=>JY c.te (!(FC f c.ownR)) fn.results.toList env σ
     |_=>none)else none
    |none=>none)
   |none=>none
theorem Py {c:Conf} {eg:Nat->List T->Bool} (hp:ProgOk P c) (heg: ∀gf caps,eg gf caps=true->VD P gf caps): ∀d,EB P (Uj P c eg d)
 |0=>by intro f as σ r σ' h;simp[Uj]at h
 |d+1=>by
  intro f as σ r σ' h
  simp only[Uj]at h
  split at h
  ·rename_i q hq
   simp at h;subst h
   exact hp.sp _ _ _ _ _ hq
  split at h
  ·rename_i fn hf
   split at h
   ·rename_i code hb
    cases hle:Nat.ble as.length fn.ntmps with
    |false=>rw[hle]at h;simp at h
    |true=>
     rw[hle]at h
     simp only[cond_true]at h
     refine XD hp hf hb (!(FC f c.ownR)) hle ?_
     refine(LQ hp (Py hp heg d) heg code (fun ch e s=>by simp) h).mono fun ex e s h3=>?_
     cases ex with
     |normal=>exact⟨.inl rfl,r,h3,A1x r⟩
     |ret=>exact⟨.inr rfl,r,h3,A1x r⟩
     |exit id=>cases h3
     |goto l=>cases h3
     |panic ch=>cases h3
     |outgrown=>cases h3
   ·cases h
  ·cases h
end
end Go.Am
