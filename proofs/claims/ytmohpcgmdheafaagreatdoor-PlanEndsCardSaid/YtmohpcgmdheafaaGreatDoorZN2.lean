/- Contracts and laws, joined: M3, M5, M6. No condition beside those that each theorem names. -/
import Derived.Test.YtmohpcgmdheafaaGreatDoorZM4
import Derived.Lib.AppendStr
import Derived.Laws.BytesArg
import Derived.KernelRfl
import Derived.ChangeReads
import Derived.ReadAgain
set_option linter.unusedVariables false
set_option linter.unusedSimpArgs false
namespace Go.Am
def Adm:Nat->List AV->St->Option (AV×St):=fun _ _ _=>none
def isB:Callee->Bool
 |.builtin _=>true
 |_=>false
def HA:Env->Env->Prop
 |[],_=>True
 |(t,x)::r,e=>(∃v,look e t=some v/\Sub v x)/\HA r e
def K6:List Nat->Env->Env
 |[],e=>e
 |d::r,e=>K6 r (Fs (2*d) e)
def EY:List Nat->St->St
 |[],s=>s
 |d::r,s=>EY r (CP (2*d) s)
def At (E:Env) (S:St) (e:Env) (s:St):Prop:= ∃D,HA E (K6 D e)/\EY D s=S
section
variable {P:Program} {c:Conf} {n:Nat} {ops:Array Oper} {rest:List Oper} {env:Env} {σ:St} {o:Oper} {K:Exit->Env->St->Prop} {k:Env->St->Prop}
theorem PK:EB P Adm:=fun f as σ r σ' h=>by cases h
noncomputable def OS (f:Nat) (as:List AV) (σ:St) (r:AV) (σ':St):Nat->List AV->St->Option (AV×St):=
 fun f1 as1 σ1=>open Classical in if f1=f/\as1=as/\σ1=σ then some (r,σ')else none
theorem MO {f:Nat} {as:List AV} {σ σ':St} {r:AV} (h:Ct P f as σ r σ'):EB P (OS f as σ r σ'):=by
 intro f1 as1 σ1 r1 σ1' h1
 unfold OS at h1
 split at h1
 ·rename_i e;obtain⟨rfl,rfl,rfl⟩:=e;simp at h1;obtain⟨rfl,rfl⟩:=h1;exact h
 ·cases h1
theorem MP {f:Nat} {as:List AV} {σ σ':St} {r:AV}:OS f as σ r σ' f as σ=some (r,σ'):=by simp[OS]
theorem A1y {x y:AV} (h:x=y):Sub x y:=h▸A1x x
theorem HA.rel {w:World} {g:G} {a:Act} {e:Env} (he:AK w g a e): ∀{E:Env},HA E e->AK w g a E
 |[],_,t,x,h=>by simp[look]at h
 |(t',y)::r,⟨⟨v,h1,h2⟩,h3⟩,t,x,h=>by
  rw[Ao]at h
  split at h
  ·rename_i e;subst e;cases h;exact h2 _ _ _ (he _ _ h1)
  ·exact HA.rel he h3 t x h
theorem Lp {w:World} {a:Act}: ∀(D:List Nat) {g:G} {e:Env} {s:St},Good n w g a e s-> ∃g',Ext w g w g'/\Good n w g' a (K6 D e) (EY D s)
 |[],g,e,s,h=>⟨g,A1t _ _,h⟩
 |d::r,g,e,s,h=>by
  obtain⟨h1,h2,h3⟩:=Ad2 h.inv (2*d) (fun hb=>by have:=(h.inv.bx _ hb).1;omega)
  obtain⟨g',k1,k2⟩:=Lp r ⟨h3 a e h.env,h2,h.defers.ext h1,h.size⟩
  exact⟨g',h1.trans k1,k2⟩
theorem Tr.weak {code:Code} {E:Env} {S:St} (h:Tr P n code E S K) {e:Env} {s:St} (ha:At E S e s):Tr P n code e s K:=by
 obtain⟨D,h1,rfl⟩:=ha
 intro F hF hrf w g a hg
 obtain⟨g',k1,k2⟩:=Lp D hg
 exact wpIn_mono (h F hF hrf w g' a ⟨HA.rel k2.env h1,k2.inv,k2.defers,k2.size⟩) fun ex a2 w2 hq=>hq.lift k1
def BP (b:Bool) (p:Prop):Prop:=b=true↔p
theorem SI:BP true True:=by simp[BP]
theorem SJ:BP false False:=by simp[BP]
theorem SL {p:Prop} [Decidable p]:BP (decide p) p:=by simp[BP]
theorem SK {α:Type} [BEq α] [LawfulBEq α] {a b:α}:BP (a==b) (a=b):=by simp[BP]
theorem XQ {α:Type} [BEq α] [LawfulBEq α] {a b:α}:BP (a !=b) (a≠b):=by simp[BP]
theorem Gx {b:Bool} {p:Prop} (h:BP b p):BP (!b) (¬p):=by unfold BP at*;cases b<;>simp_all
theorem SN {b:Bool}:BP b (b=true):=Iff.rfl
theorem BP.no {b:Bool} {p:Prop} (h:BP b p) (hb:b=false): ¬p:=fun hp=>by have:=h.2 hp;rw[hb]at this;cases this
theorem nT {p:Prop} (h: ¬True):p:=(h trivial).elim
theorem ct0 (hp:ProgOk P c) {f:Nat} {fn:Func} (hf:P.funcs[f]?=some fn) {code:Code} (hb:fn.body=some code) {as:List AV} {r:AV} (own:Bool) (hle:Nat.ble as.length fn.ntmps=true) (hr:r.free=true)
  (h:Tr P fn.ntmps code (FG 0 as) [] (fun ex e s=>(ex=.normal\/ex=.ret)/\ ∃r0 s1,JY c.te own fn.results.toList e s=some (r0,s1)/\Sub r0 r)):Ct P f as [] r []:=by
 have key: ∀(vs:List Value) (w:World) (g:G),Bt w g vs as->Inv w g []->Calls P f vs.toArray w fun e w'=> ∃v g' s1,e=.returned v/\Ext w g w' g'/\Rel w' g' v r/\Inv w' g' s1:=by
  intro vs w g hrl hi
  refine Gl hf hb hle h hrl hi fun ex a' w' g' env' σ1 h1 h2 h3=>?_
  obtain⟨hex,r0,s1,h4,h5⟩:=h3
  obtain⟨v,g2,q1,q2,q3,q4⟩:=Is hp h2 h4
  exact⟨hex,v,q1,v,g2,s1,Y,h1.trans q2,h5 _ _ _ q3,q4⟩
 refine⟨⟨fn,hf,by simp[hb]⟩,fun vs w g hrl hi=>(key vs w g hrl hi).mono ?_⟩
 rintro e w' ⟨v,g1,s1,rfl,h1,h2,h3⟩
 have hbx: ∀b,¬g.bx b:=fun b hb=>by obtain⟨_,cs,hc⟩:=hi.bx b hb;simp[look]at hc
 refine⟨v,{β:=fun _=>none,own:=g1.own,oth:=g1.oth,sp:=g1.sp,bx:=fun _=>False,lo:=g.lo},Y,⟨h1.size,h1.keep,h1.own,h1.oth,h1.shape,fun b hb=>absurd hb (hbx b),⟨Y,h1.lo.2⟩,h1.sp⟩,?_,⟨fun b B hB=>?_,fun b=>?_,fun b b' blk hq=>?_,h3.lt,fun b hb=>hb.elim,h3.dis,h3.im,Nat.le_trans hi.lo h1.size,.empty h3.sx.lt (fun _=>rfl)⟩⟩
 ·exact Rel.free (g:=g1) (g':={β:=fun _=>none,own:=g1.own,oth:=g1.oth,sp:=g1.sp,bx:=fun _=>False,lo:=g.lo}) (fun b o v q1 q2=>⟨q1,q2⟩) h2 hr
 ·simp[look]at hB
 ·simp[look]
 ·simp at hq
theorem Ai {te:TE} {own:Bool} {rs:List ResultVar} {e:Env} {s s1:St} {r r0:AV} (h:JY te own rs e s=some (r0,s1)) (hs:Sub r0 r):(Exit.ret=.normal\/Exit.ret=.ret)/\ ∃r0 s1,JY te own rs e s=some (r0,s1)/\Sub r0 r:=⟨.inr Y,r0,s1,h,hs⟩
theorem Ay {ι:Type} {I:ι->Prop} {m:ι->Nat} {i:ι} {E:ι->Env} {S:ι->St} {e:Env} {s:St} (j:ι) (h1:I j) (h2:m j<m i) (D:List Nat) (h3:HA (E j) (K6 D e)) (h4:EY D s=S j): ∃j,I j/\m j<m i/\At (E j) (S j) e s:=⟨j,h1,h2,D,h3,h4⟩
theorem AE {E:Env} {S:St} {e:Env} {s:St} (D:List Nat) (h3:HA E (K6 D e)) (h4:EY D s=S):At E S e s:=⟨D,h3,h4⟩
theorem Aj {e:Env}:HA [] e:=trivial
theorem Af {t:Nat} {x v:AV} {r e:Env} (h:look e t=some v) (hs:v=x) (hr:HA r e):HA ((t,x)::r) e:=⟨⟨v,h,A1y hs⟩,hr⟩
theorem Yp (h:K .normal env σ):Tr P n .skip env σ K:=fun _ _ _ _ g _ hg=>wpIn_skip ⟨env,σ,g,A1t _ _,hg,h⟩
theorem Yq {id:Nat} (h:K (.exit id) env σ):Tr P n (.exit id) env σ K:=fun _ _ _ _ g _ hg=>wpIn_exit ⟨env,σ,g,A1t _ _,hg,h⟩
theorem Ca (h:K .ret env σ):Tr P n .ret env σ K:=fun _ _ _ _ g _ hg=>wpIn_ret ⟨env,σ,g,A1t _ _,hg,h⟩
theorem L4 (hp:ProgOk P c) {id:Nat} {env':Env} {σ':St} {l:List Oper} (hz:regFrz ops env σ=(env',σ')) (hl:ops.toList=l) (h:A2 P n ops l env' σ' (K .normal)):Tr P n (.region id ops false) env σ K:=by
 subst hl
 refine Df hp (.region id ops false) ?_
 simp only[E4,Aid,hz];exact h
theorem Arp (hp:ProgOk P c) {id m:Nat} {env':Env} {σ':St} {l1 l2:List Oper} {news:List Nat} (hm:ID ops=some m) (hz:regFrz ops env σ=(env',σ')) (h1:ops.toList.take m=l1) (h2:ops.toList.drop m=l2) (h3:D1 l1=news)
  (h:hSK P c n ops news l1 env' σ' (fun env σ=>A2 P n ops l2 env σ (K .normal))):Tr P n (.region id ops true) env σ K:=by
 subst h3;subst h1;subst h2
 refine Df hp (.region id ops true) ?_
 simp only[E4,Aid,hz,hm];exact h
theorem Ik {a b:Code} (h:Tr P n a env σ (fun ex env σ=>match ex with
  |.normal=>Tr P n b env σ K
  |ex=>K ex env σ)):Tr P n (.seq a b) env σ K:=by
 intro F hF hrf w g ac hg
 refine wpIn_seq (wpIn_mono (h F hF hrf.seq.1 w g ac hg) ?_)
 rintro ex a' w' ⟨env',σ',g',h1,h2,h3⟩
 cases ex with
 |normal=>exact wpIn_mono (h3 F hF hrf.seq.2 w' g' a' h2) fun ex a2 w2 hq=>hq.lift h1
 |exit id=>exact⟨env',σ',g',h1,h2,h3⟩
 |goto l=>exact⟨env',σ',g',h1,h2,h3⟩
 |ret=>exact⟨env',σ',g',h1,h2,h3⟩
 |panic ch=>exact⟨env',σ',g',h1,h2,h3⟩
 |outgrown=>exact⟨env',σ',g',h1,h2,h3⟩
theorem Tr.mono {code:Code} {K':Exit->Env->St->Prop} (h:Tr P n code env σ K) (hk: ∀ex e s,K ex e s->K' ex e s):Tr P n code env σ K':=fun F hF hrf w g a hg=>
 wpIn_mono (h F hF hrf w g a hg) fun ex a' w' ⟨e,s,g',h1,h2,h3⟩=>⟨e,s,g',h1,h2,hk _ _ _ h3⟩
theorem Yr {x:Operand} {a b:Code} (p:Bool) (hp:ev env x=some (.t (.bool p))) (ht:p=true->Tr P n a env σ K) (hf:p=false->Tr P n b env σ K):Tr P n (.cond x a b) env σ K:=by
 intro F hF hrf w g ac hg
 have hv:=EE (AG hg.env hp)
 cases p with
 |true=>exact wpIn_cond_true hv (ht Y F hF hrf.cond.1 w g ac hg)
 |false=>exact wpIn_cond_false hv (hf Y F hF hrf.cond.2 w g ac hg)
theorem Aag {x:Operand} {a b:Code} (hp:ev env x=some (.t (.bool true))) (ht:Tr P n a env σ K):Tr P n (.cond x a b) env σ K:=Yr true hp (fun _=>ht) (fun h=>by cases h)
theorem Aah {x:Operand} {a b:Code} (hp:ev env x=some (.t (.bool false))) (hf:Tr P n b env σ K):Tr P n (.cond x a b) env σ K:=Yr false hp (fun h=>by cases h) (fun _=>hf)
theorem Akx {x:Operand} {a b:Code} {t:Bool} {p:Prop} (hp:ev env x=some (.t (.bool t))) (hb:BP t p:=by first|with_reducible exact SI|with_reducible exact SJ|with_reducible exact SL|with_reducible exact SK|with_reducible exact XQ|with_reducible exact Gx SI|with_reducible exact Gx SJ|with_reducible exact Gx SL|with_reducible exact Gx SK|with_reducible exact Gx SN|exact SN) (ht:p->Tr P n a env σ K) (hf: ¬p->Tr P n b env σ K):Tr P n (.cond x a b) env σ K:=
 Yr t hp (fun h=>ht (hb.1 h)) (fun h=>hf (hb.no h))
theorem Ms {id:Nat} {b:Code} (h:Tr P n b env σ (fun ex env σ=>match ex with
  |.exit i=>(match Nat.beq i id with
   |true=>K .normal env σ
   |false=>K (.exit i) env σ)
  |ex=>K ex env σ)):Tr P n (.block id b) env σ K:=by
 intro F hF hrf w g a hg
 refine wpIn_block (wpIn_mono (h F hF hrf.block w g a hg) ?_)
 rintro ex a' w' ⟨env',σ',g',h1,h2,h3⟩
 cases ex with
 |normal=>exact⟨env',σ',g',h1,h2,h3⟩
 |exit i=>
  simp only[Exit.inBlock]
  by_cases e:i=id
  ·subst e
   simp at h3⊢
   exact⟨env',σ',g',h1,h2,h3⟩
  ·simp only[Cr e]at h3
   simp only[if_neg e]
   exact⟨env',σ',g',h1,h2,h3⟩
 |goto l=>exact⟨env',σ',g',h1,h2,h3⟩
 |ret=>exact⟨env',σ',g',h1,h2,h3⟩
 |panic ch=>exact⟨env',σ',g',h1,h2,h3⟩
 |outgrown=>exact⟨env',σ',g',h1,h2,h3⟩
theorem A3 {ι:Type} (I:ι->Prop) (E:ι->Env) (S:ι->St) (m:ι->Nat) {b:Code} (i0:ι) (h0:I i0) (ha:At (E i0) (S i0) env σ)
  (step: ∀i,I i->Tr P n b (E i) (S i) (fun ex e s=>match ex with
   |.normal=> ∃j,I j/\m j<m i/\At (E j) (S j) e s
   |ex=>K ex e s)):Tr P n (.loop b) env σ K:=by
 refine Tr.loop (I:=fun k e s=> ∃i,I i/\m i=k/\At (E i) (S i) e s) (m i0) ⟨i0,h0,Y,ha⟩ ?_
 rintro k e s ⟨i,hi,rfl,hat⟩
 refine Tr.mono ((step i hi).weak hat) fun ex e s h=>?_
 cases ex with
 |normal=>obtain⟨j,h1,h2,h3⟩:=h;exact⟨m j,h2,j,h1,Y,h3⟩
 |exit id=>exact h
 |goto l=>exact h
 |ret=>exact h
 |panic ch=>exact h
 |outgrown=>exact h
theorem Pt {o:Oper} {env:Env} {σ:St} {K:AV->Env->St->Prop} (h:Hm P {o with guard:=none} env σ K):Hm P o env σ K:=fun w g a hi he next Q hn=>h w g a hi he next Q hn
theorem U5 (cf:Nat->List AV->St->Option (AV×St)) (news:List Nat) (env:Env):BW c cf news {o with guard:=none} env σ=BW c cf news o env σ:=rfl
theorem Ano (h:k env σ):A2 P n ops [] env σ k:=h
theorem E6 (hp0:ProgOk P c) {x:AV} {e e2:Env} {s:St} (hg:o.guard=none) (hs:Dx c Adm o env σ=some (x,e,s)) (hp:B4 n o.dst x e=some e2) (h:A2 P n ops rest e2 s k):
  A2 P n ops (o::rest) env σ k:=by
 simp only[A2,AL,hg]
 exact A1w hp0 PK hs ⟨e2,hp,h⟩
def Aq9:Op->Bool
 |.buildSlice _ _ _=>true
 |.store _ _ _=>true
 |_=>false
theorem Akv (hp0:ProgOk P c) {x:AV} {env' e e2:Env} {σ' s:St} (hg:o.guard=none) (hk:Aq9 o.op=true) (hz:Jj o env σ=(env',σ')) (hs:F1 c.toCfg o env' σ'=some (x,e,s)) (hp:B4 n o.dst x e=some e2) (h:A2 P n ops rest e2 s k):
  A2 P n ops (o::rest) env σ k:=by
 refine E6 hp0 (x:=x) (e:=e) (s:=s) hg ?_ hp h
 unfold Dx
 split<;>rename_i ho<;>simp only[ho,Aq9]at hk<;>first|(cases hk;done)|(rw[hz];exact hs)
theorem CL {α β:Type} {f:α->β} {l:List α} {i:Nat} {x:α} (h:l[i]?=some x):(l.map f)[i]?=some (f x):=by simp[h]
theorem FY (k:Nat):L8 (k:Int)=some k:=rfl
theorem G5 (hp0:ProgOk P c) {t s0 b0 e:Nat} {z0:List T} {esz ebb:Nat} {ez:List T} {ek:TK} {xo io:Operand} {m:SM} {sz:Nat} {es:List (List T)} {kk:IntKind} {kc:Nat} {cc:List T} {e2:Env} (hg:o.guard=none) (ho:o.op=.indexAddr t xo io) (hx:ev env xo=some (.t (.slice m sz es)))
  (hi:ev env io=some (.t (.int kk (Int.ofNat kc)))) (ht:look c.te t=some ⟨s0,b0,z0,.slice e⟩) (he:look c.te e=some ⟨esz,ebb,ez,ek⟩) (hsz:sz=esz) (hc:es[kc]?=some cc) (hp:B4 n o.dst (.t (.ptr cc)) env=some e2)
  (h:A2 P n ops rest e2 σ k):A2 P n ops (o::rest) env σ k:=by
 refine E6 hp0 (x:=.t (.ptr cc)) (e:=env) (s:=σ) hg ?_ hp h
 unfold Dx
 rw[ho]
 simp only[Ce,hx,hi,DE,L8,ht,he,hsz,hc,if_true]
theorem JJ (hp0:ProgOk P c) {t s0 b0 e:Nat} {z0:List T} {esz ebb:Nat} {ez:List T} {ek:TK} {xo io:Operand} {m:SM} {sz:Nat} {es:List (List T)} {kk:IntKind} {kc:Nat} {nn:Int} {cc:List T} {e2:Env} (hg:o.guard=none) (ho:o.op=.indexAddr t xo io) (hx:ev env xo=some (.t (.slice m sz es)))
  (hi:ev env io=some (.t (.int kk nn))) (ht:look c.te t=some ⟨s0,b0,z0,.slice e⟩) (he:look c.te e=some ⟨esz,ebb,ez,ek⟩) (hsz:sz=esz) (hn:nn=(kc:Int)) (hc:es[kc]?=some cc) (hp:B4 n o.dst (.t (.ptr cc)) env=some e2)
  (h:A2 P n ops rest e2 σ k):A2 P n ops (o::rest) env σ k:=by
 subst hn
 refine E6 hp0 (x:=.t (.ptr cc)) (e:=env) (s:=σ) hg ?_ hp h
 unfold Dx
 rw[ho]
 simp only[Ce,hx,hi,DE,FY,ht,he,hsz,hc,if_true]
theorem Alb {news:List Nat} {t s0 b0 e:Nat} {z0:List T} {esz ebb:Nat} {ez:List T} {ek:TK} {xo io:Operand} {m:SM} {sz:Nat} {es:List (List T)} {kk:IntKind} {kc:Nat} {cc:List T} {e2:Env} (hg:o.guard=none) (ho:o.op=.indexAddr t xo io) (hx:ev env xo=some (.t (.slice m sz es)))
  (hi:ev env io=some (.t (.int kk (Int.ofNat kc)))) (ht:look c.te t=some ⟨s0,b0,z0,.slice e⟩) (he:look c.te e=some ⟨esz,ebb,ez,ek⟩) (hsz:sz=esz) (hc:es[kc]?=some cc) (hp:B4 n o.dst (.t (.ptr cc)) env=some e2)
  (h:hSK P c n ops news rest e2 σ k):hSK P c n ops news (o::rest) env σ k:=by
 simp only[hSK,AL,hg]
 refine⟨Adm,.t (.ptr cc),[],PK,?_,e2,hp,h⟩
 unfold BW
 rw[ho]
 simp only[Ce,hx,hi,DE,L8,ht,he,hsz,hc,if_true]
theorem Aae {j d:Nat} {want b:Bool} {oj:Oper} {e2:Env} (hg:o.guard=some (j,want)) (hj:ops[j]?=some oj) (hd:oj.dst=some d) (hl:look env d=some (.t (.bool b))) (hp:B4 n o.dst (.t .undef) ((d,.t (.bool (!want)))::env)=some e2)
  (ht:b=want->A2 P n ops ({o with guard:=none}::rest) ((d,.t (.bool want))::env) σ k)
  (hf:b= !want->A2 P n ops rest e2 σ k):A2 P n ops (o::rest) env σ k:=by
 simp only[A2,AL,hg,hj,hd,hl]
 exact⟨fun h=>Pt (by simpa only[A2,AL]using ht h),fun h=>⟨e2,hp,hf h⟩⟩
theorem Azk {j d:Nat} {b:Bool} {oj:Oper} {e2:Env} (hg:o.guard=some (j,true)) (hj:ops[j]?=some oj) (hd:oj.dst=some d) (hl:look env d=some (.t (.bool b))) (hp:B4 n o.dst (.t .undef) ((d,.t (.bool false))::env)=some e2)
  (ht:b=true->A2 P n ops ({o with guard:=none}::rest) ((d,.t (.bool true))::env) σ k)
  (hf:b=false->A2 P n ops rest e2 σ k):A2 P n ops (o::rest) env σ k:=Aae hg hj hd hl hp ht hf
theorem Azl {j d:Nat} {b:Bool} {oj:Oper} {e2:Env} (hg:o.guard=some (j,false)) (hj:ops[j]?=some oj) (hd:oj.dst=some d) (hl:look env d=some (.t (.bool b))) (hp:B4 n o.dst (.t .undef) ((d,.t (.bool true))::env)=some e2)
  (ht:b=false->A2 P n ops ({o with guard:=none}::rest) ((d,.t (.bool false))::env) σ k)
  (hf:b=true->A2 P n ops rest e2 σ k):A2 P n ops (o::rest) env σ k:=Aae hg hj hd hl hp ht hf
theorem Atv {j d:Nat} {b:Bool} {p:Prop} {oj:Oper} {e2:Env} (hg:o.guard=some (j,true)) (hj:ops[j]?=some oj) (hd:oj.dst=some d) (hl:look env d=some (.t (.bool b))) (hp:B4 n o.dst (.t .undef) ((d,.t (.bool false))::env)=some e2) (hb:BP b p:=by first|with_reducible exact SI|with_reducible exact SJ|with_reducible exact SL|with_reducible exact SK|with_reducible exact XQ|with_reducible exact Gx SI|with_reducible exact Gx SJ|with_reducible exact Gx SL|with_reducible exact Gx SK|with_reducible exact Gx SN|exact SN)
  (ht:p->A2 P n ops ({o with guard:=none}::rest) ((d,.t (.bool true))::env) σ k)
  (hf: ¬p->A2 P n ops rest e2 σ k):A2 P n ops (o::rest) env σ k:=Azk hg hj hd hl hp (fun h=>ht (hb.1 h)) (fun h=>hf (hb.no h))
theorem Atw {j d:Nat} {b:Bool} {p:Prop} {oj:Oper} {e2:Env} (hg:o.guard=some (j,false)) (hj:ops[j]?=some oj) (hd:oj.dst=some d) (hl:look env d=some (.t (.bool b))) (hp:B4 n o.dst (.t .undef) ((d,.t (.bool true))::env)=some e2) (hb:BP b p:=by first|with_reducible exact SI|with_reducible exact SJ|with_reducible exact SL|with_reducible exact SK|with_reducible exact XQ|with_reducible exact Gx SI|with_reducible exact Gx SJ|with_reducible exact Gx SL|with_reducible exact Gx SK|with_reducible exact Gx SN|exact SN)
  (ht: ¬p->A2 P n ops ({o with guard:=none}::rest) ((d,.t (.bool false))::env) σ k)
  (hf:p->A2 P n ops rest e2 σ k):A2 P n ops (o::rest) env σ k:=Azl hg hj hd hl hp (fun h=>ht (hb.no h)) (fun h=>hf (hb.1 h))
theorem Afz {j d:Nat} {want:Bool} {oj:Oper} {e2:Env} (hg:o.guard=some (j,want)) (hj:ops[j]?=some oj) (hd:oj.dst=some d) (hl:look env d=some (.t .undef)) (hp:B4 n o.dst (.t .undef) env=some e2)
  (h:A2 P n ops rest e2 σ k):A2 P n ops (o::rest) env σ k:=by
 simp only[A2,AL,hg,hj,hd,hl]
 exact⟨e2,hp,h⟩
theorem Qt (hp0:ProgOk P c) {cl:Call} {f:Nat} {as as':List AV} {env' e e2:Env} {σ' σ2 s:St} {r x:AV} (hg:o.guard=none) (ho:o.op=.call cl) (hb:isB cl.callee=false) (hc:C6 c env cl=some (f,as)) (hm:FC f c.own=false)
  (hz:DQ σ as env σ=(as',env',σ')) (hfr:D7 as'=true) (hct:Ct P f as' [] r σ2) (hh:Kz o.dst r σ2 env' σ'=some (x,e,s)) (hp:B4 n o.dst x e=some e2) (h:A2 P n ops rest e2 s k):
  A2 P n ops (o::rest) env σ k:=by
 simp only[A2,AL,hg]
 refine A1w hp0 (MO hct) (x:=x) (e:=e) (s:=s) ?_ ⟨e2,hp,h⟩
 have hs:Lt c (OS f as' [] r σ2) o.dst cl env σ=some (x,e,s):=by
  simp only[Lt,hc,hm,hz,hfr,MP]
  exact hh
 unfold Dx
 rw[ho]
 simp only
 split
 ·rename_i hq;rw[hq]at hb;simp[isB]at hb
 ·rename_i hq;rw[hq]at hb;simp[isB]at hb
 ·rename_i hq;rw[hq]at hb;simp[isB]at hb
 ·rename_i hq;rw[hq]at hb;simp[isB]at hb
 ·exact hs
 ·exact hs
theorem Ayb {news:List Nat} (h:k env σ):hSK P c n ops news [] env σ k:=h
theorem Arz {news:List Nat} {x:AV} {e2:Env} {nb s:St} (hg:o.guard=none) (hs:BW c Adm news o env σ=some (x,nb)) (hn:nb++σ=s) (hp:B4 n o.dst x env=some e2) (h:hSK P c n ops news rest e2 s k):
  hSK P c n ops news (o::rest) env σ k:=by
 subst hn
 simp only[hSK,AL,hg]
 exact⟨Adm,x,nb,PK,hs,e2,hp,h⟩
theorem Aar {news:List Nat} {j d:Nat} {want b:Bool} {oj:Oper} {e2:Env} (hg:o.guard=some (j,want)) (hj:ops[j]?=some oj) (hd:oj.dst=some d) (hl:look env d=some (.t (.bool b))) (hp:B4 n o.dst (.t .undef) ((d,.t (.bool (!want)))::env)=some e2)
  (ht:b=want->hSK P c n ops news ({o with guard:=none}::rest) ((d,.t (.bool want))::env) σ k)
  (hf:b= !want->hSK P c n ops news rest e2 σ k):hSK P c n ops news (o::rest) env σ k:=by
 simp only[hSK,AL,hg,hj,hd,hl]
 exact⟨fun h=>by simpa only[hSK,AL,U5]using ht h,fun h=>⟨e2,hp,hf h⟩⟩
theorem A0u {news:List Nat} {j d:Nat} {b:Bool} {oj:Oper} {e2:Env} (hg:o.guard=some (j,true)) (hj:ops[j]?=some oj) (hd:oj.dst=some d) (hl:look env d=some (.t (.bool b))) (hp:B4 n o.dst (.t .undef) ((d,.t (.bool false))::env)=some e2)
  (ht:b=true->hSK P c n ops news ({o with guard:=none}::rest) ((d,.t (.bool true))::env) σ k)
  (hf:b=false->hSK P c n ops news rest e2 σ k):hSK P c n ops news (o::rest) env σ k:=Aar hg hj hd hl hp ht hf
theorem A0v {news:List Nat} {j d:Nat} {b:Bool} {oj:Oper} {e2:Env} (hg:o.guard=some (j,false)) (hj:ops[j]?=some oj) (hd:oj.dst=some d) (hl:look env d=some (.t (.bool b))) (hp:B4 n o.dst (.t .undef) ((d,.t (.bool true))::env)=some e2)
  (ht:b=false->hSK P c n ops news ({o with guard:=none}::rest) ((d,.t (.bool false))::env) σ k)
  (hf:b=true->hSK P c n ops news rest e2 σ k):hSK P c n ops news (o::rest) env σ k:=Aar hg hj hd hl hp ht hf
theorem Ayc {news:List Nat} {j d:Nat} {b:Bool} {p:Prop} {oj:Oper} {e2:Env} (hg:o.guard=some (j,true)) (hj:ops[j]?=some oj) (hd:oj.dst=some d) (hl:look env d=some (.t (.bool b))) (hp:B4 n o.dst (.t .undef) ((d,.t (.bool false))::env)=some e2) (hb:BP b p:=by first|with_reducible exact SI|with_reducible exact SJ|with_reducible exact SL|with_reducible exact SK|with_reducible exact XQ|with_reducible exact Gx SI|with_reducible exact Gx SJ|with_reducible exact Gx SL|with_reducible exact Gx SK|with_reducible exact Gx SN|exact SN)
  (ht:p->hSK P c n ops news ({o with guard:=none}::rest) ((d,.t (.bool true))::env) σ k)
  (hf: ¬p->hSK P c n ops news rest e2 σ k):hSK P c n ops news (o::rest) env σ k:=A0u hg hj hd hl hp (fun h=>ht (hb.1 h)) (fun h=>hf (hb.no h))
theorem Ayd {news:List Nat} {j d:Nat} {b:Bool} {p:Prop} {oj:Oper} {e2:Env} (hg:o.guard=some (j,false)) (hj:ops[j]?=some oj) (hd:oj.dst=some d) (hl:look env d=some (.t (.bool b))) (hp:B4 n o.dst (.t .undef) ((d,.t (.bool true))::env)=some e2) (hb:BP b p:=by first|with_reducible exact SI|with_reducible exact SJ|with_reducible exact SL|with_reducible exact SK|with_reducible exact XQ|with_reducible exact Gx SI|with_reducible exact Gx SJ|with_reducible exact Gx SL|with_reducible exact Gx SK|with_reducible exact Gx SN|exact SN)
  (ht: ¬p->hSK P c n ops news ({o with guard:=none}::rest) ((d,.t (.bool false))::env) σ k)
  (hf:p->hSK P c n ops news rest e2 σ k):hSK P c n ops news (o::rest) env σ k:=A0v hg hj hd hl hp (fun h=>ht (hb.no h)) (fun h=>hf (hb.1 h))
theorem Agr {news:List Nat} {j d:Nat} {want:Bool} {oj:Oper} {e2:Env} (hg:o.guard=some (j,want)) (hj:ops[j]?=some oj) (hd:oj.dst=some d) (hl:look env d=some (.t .undef)) (hp:B4 n o.dst (.t .undef) env=some e2)
  (h:hSK P c n ops news rest e2 σ k):hSK P c n ops news (o::rest) env σ k:=by
 simp only[hSK,AL,hg,hj,hd,hl]
 exact⟨e2,hp,h⟩
theorem Ags {news:List Nat} {cl:Call} {f:Nat} {as:List AV} {e2:Env} {σ2:St} {r:AV} (hg:o.guard=none) (ho:o.op=.call cl) (hb:isB cl.callee=false) (hc:C6 c env cl=some (f,as))
  (hfr:D7 as=true) (hct:Ct P f as [] r σ2) (hr:r.free=true) (hp:B4 n o.dst r env=some e2) (h:hSK P c n ops news rest e2 σ k):
  hSK P c n ops news (o::rest) env σ k:=by
 simp only[hSK,AL,hg]
 refine⟨OS f as [] r σ2,r,[],MO hct,?_,e2,hp,h⟩
 unfold BW
 rw[ho]
 simp only
 split
 ·rename_i hq;rw[hq]at hb;simp[isB]at hb
 ·rename_i hq;rw[hq]at hb;simp[isB]at hb
 ·simp only[hc,hfr,MP,hr]
end
end Go.Am
namespace Go.Am
mutual
def CV (f:Nat->Option Nat):AV->AV
 |.t x=>.t x
 |.top=>.top
 |.ref c o=>match f c with
  |some b=>.ref b o
  |none=>.top
 |.eref c s k o=>match f c with
  |some b=>.eref b s k o
  |none=>.top
 |.mref c=>match f c with
  |some b=>.mref b
  |none=>.top
 |.row c s lo len=>match f c with
  |some b=>.row b s lo len
  |none=>.top
 |.iface t x=>.iface t (CV f x)
 |.func fn x y=>.func fn (HY f x) (HY f y)
 |.agg cs=>.agg (HY f cs)
 |.tuple cs=>.tuple (HY f cs)
def HY (f:Nat->Option Nat):List AV->List AV
 |[]=>[]
 |x::r=>CV f x::HY f r
end
def S7 (f:Nat->Option Nat):Env->Env
 |[]=>[]
 |(t,x)::r=>(t,CV f x)::S7 f r
def Ly (f:Nat->Option Nat) (B:Blk):Blk:=match B with
 |.cells cs=>.cells (HY f cs)
 |.grow sz es=>.grow sz es
 |.rights L=>.rights L
 |.loop l st pe ps asg bd n env=>.loop l st pe ps asg bd n (S7 f env)
 |.mp ks xs=>.mp ks (HY f xs)
theorem FZ (f:Nat->Option Nat): ∀l,(HY f l).length=l.length
 |[]=>rfl
 |x::r=>by simp[HY,FZ f r]
theorem Ga (f:Nat->Option Nat): ∀(l:List AV) (i:Nat),(HY f l)[i]?=(l[i]?).map (CV f)
 |[],i=>by simp[HY]
 |x::r,0=>by simp[HY]
 |x::r,i+1=>by simp[HY,Ga f r i]
theorem MR (f:Nat->Option Nat): ∀(l:Env) (t:Nat),look (S7 f l) t=(look l t).map (CV f)
 |[],t=>by simp[S7,look]
 |(k,x)::r,t=>by
  simp only[S7]
  rw[Ao,Ao,MR f r t]
  split<;>rfl
theorem Rel.ren {w w':World} {g g':G} (f:Nat->Option Nat) (hk:HC w g.M w' g'.M) (hs: ∀b p,w.shape? b=some p->w'.shape? b=some p) (hβ: ∀c b p,f c=some b->g.β c=some p->g'.β b=some p)
  {v:Value} {x:AV} (h:Rel w g v x):Rel w' g' v (CV f x):=by
 induction h with
 |t v x h=>simp only[CV];exact .t _ _ (h.mono hk)
 |top v=>simp only[CV];exact .top v
 |ref c o blk h=>
  simp only[CV]
  split
  ·rename_i b hb;exact .ref _ _ _ (hβ _ _ _ hb h)
  ·exact .top _
 |eref c s k o blk h=>
  simp only[CV]
  split
  ·rename_i b hb;exact .eref _ _ _ _ _ (hβ _ _ _ hb h)
  ·exact .top _
 |mref c blk h=>
  simp only[CV]
  split
  ·rename_i b hb;exact .mref _ _ (hβ _ _ _ hb h)
  ·exact .top _
 |rowNil c s a ha h=>
  simp only[CV]
  split
  ·rename_i b hb;exact .rowNil _ _ _ ha (hβ _ _ _ hb h)
  ·exact .top _
 |row c s lo len blk o cap e0 n h hs' ho hl hn=>
  simp only[CV]
  split
  ·rename_i b hb;exact .row _ _ _ _ blk o cap e0 n (hβ _ _ _ hb h) (hs _ _ hs') ho hl hn
  ·exact .top _
 |iface t v x _ ih=>simp only[CV];exact .iface _ _ _ ih
 |func fn v1 v2 x1 x2 h1 h2 _ _ i1 i2=>
  simp only[CV]
  refine .func fn v1 v2 _ _ (by rw[FZ];exact h1) (by rw[FZ];exact h2) (fun i v x hv hx=>?_) (fun i v x hv hx=>?_)
  ·rw[Ga]at hx
   cases hg:x1[i]? with
   |none=>simp[hg]at hx
   |some y=>simp[hg]at hx;subst hx;exact i1 i v y hv hg
  ·rw[Ga]at hx
   cases hg:x2[i]? with
   |none=>simp[hg]at hx
   |some y=>simp[hg]at hx;subst hx;exact i2 i v y hv hg
 |agg vs xs h _ ih=>
  simp only[CV]
  refine .agg vs _ (by rw[FZ];exact h) fun i v x hv hx=>?_
  rw[Ga]at hx
  cases hg:xs[i]? with
  |none=>simp[hg]at hx
  |some y=>simp[hg]at hx;subst hx;exact ih i v y hv hg
 |tuple vs xs h _ ih=>
  simp only[CV]
  refine .tuple vs _ (by rw[FZ];exact h) fun i v x hv hx=>?_
  rw[Ga]at hx
  cases hg:xs[i]? with
  |none=>simp[hg]at hx
  |some y=>simp[hg]at hx;subst hx;exact ih i v y hv hg
theorem Bt.ren {w w':World} {g g':G} (f:Nat->Option Nat) (hr: ∀v x,Rel w g v x->Rel w' g' v (CV f x)) {vs:List Value} {xs:List AV} (h:Bt w g vs xs):Bt w' g' vs (HY f xs):=
 ⟨by rw[FZ];exact h.1,fun i v x hv hx=>by
  rw[Ga]at hx
  cases hg:xs[i]? with
  |none=>simp[hg]at hx
  |some y=>simp[hg]at hx;subst hx;exact hr _ _ (h.2 i v y hv hg)⟩
theorem Fc.ren {w w':World} {g g':G} (f:Nat->Option Nat) (hk:HC w g.M w' g'.M) (hr: ∀v x,Rel w g v x->Rel w' g' v (CV f x)) {b c:Nat} (hβ: ∀p,g.β b=some p->g'.β c=some p)
  (hown: ∀blk,g.β b=some (some blk)->g.own blk->g'.own blk/\w'.heap[blk]?=w.heap[blk]?) {B:Blk} (h:Fc w g b B):Fc w' g' c (Ly f B):=by
 cases B with
 |cells cs=>
  obtain⟨blk,vs,e,h1,h2,h3,h4,h5⟩:=h
  obtain⟨k1,k2⟩:=hown blk h1 h2
  refine⟨blk,vs,e,hβ _ h1,k1,by rw[k2];exact h3,by rw[FZ];exact h4,fun i v x hv hx=>?_⟩
  rw[Ga]at hx
  cases hg:cs[i]? with
  |none=>simp[hg]at hx
  |some y=>simp[hg]at hx;subst hx;exact hr _ _ (h5 i v y hv hg)
 |grow sz es=>
  obtain⟨h0,h⟩:=h
  refine⟨h0,?_⟩
  rcases h with⟨h1,h2⟩|⟨blk,vs,e,h1,h2,h3,h4,h5⟩
  ·exact .inl ⟨hβ _ h1,h2⟩
  ·obtain⟨k1,k2⟩:=hown blk h1 h2
   exact .inr ⟨blk,vs,e,hβ _ h1,k1,by rw[k2];exact h3,h4,fun i v x hv hx=>⟨(h5 i v x hv hx).1,(h5 i v x hv hx).2.mono hk⟩⟩
 |rights L=>exact hβ _ h
 |loop l st pe ps asg bd n env=>
  obtain⟨r,h1,h2,h3,h4,h5,h6⟩:=h
  obtain⟨k1,k2⟩:=hown l h1 h2
  refine⟨r,hβ _ h1,k1,by rw[k2];exact h3,h4,h5,fun t x ht=>?_⟩
  rw[MR]at ht
  cases hg:look env t with
  |none=>simp[hg]at ht
  |some y=>simp[hg]at ht;subst ht;exact hr _ _ (h6 t y hg)
 |mp ks ys=>
  obtain⟨blk,fs,clk,h1,h2,h3,h4,h5,h6,h7⟩:=h
  refine⟨blk,fs,clk,hβ _ h1,(hown blk h1 h2).1,by rw[(hown blk h1 h2).2];exact h3,h4,by rw[FZ];exact h5,fun i e x he hx=>(h6 i e x he hx).mono hk,fun i e x he hx=>?_⟩
  rw[Ga]at hx
  cases hg:ys[i]? with
  |none=>simp[hg]at hx
  |some y=>simp[hg]at hx;subst hx;exact hr _ _ (h7 i e y he hg)
def CI (ι:List (Nat×Nat)) (σ:St):List (Nat×Nat)->St
 |[]=>[]
 |(b,c)::r=>match look σ b with
  |some B=>(c,Ly (look ι) B)::CI ι σ r
  |none=>CI ι σ r
def Iv (ω:List (Nat×Nat)):St->St
 |[]=>[]
 |(c,B)::r=>match look ω c with
  |some b=>(b,Ly (look ω) B)::Iv ω r
  |none=>Iv ω r
def Ft (ι:List (Nat×Nat)) (σ:St) (b:Nat):Option Nat:=
 match look ι b with
 |none=>some b
 |some _=>match look σ b with
  |some (.cells _)=>some b
  |_=>none
def J9 (ι:List (Nat×Nat)) (σ:St):St->St
 |[]=>[]
 |(b,B)::r=>match look ι b with
  |none=>(b,Ly (Ft ι σ) B)::J9 ι σ r
  |some _=>J9 ι σ r
def Aa3 (n:Nat):List Nat->Bool
 |[]=>true
 |k::r=> !(Nat.beq k n)&&Aa3 n r
def FB:List Nat->Bool
 |[]=>true
 |k::r=>Aa3 k r&&FB r
def Tx (o:Option Nat) (n:Nat):Bool:=match o with
 |some k=>Nat.beq k n
 |none=>false
def Ajk (ω:List (Nat×Nat)) (σ:St):List (Nat×Nat)->Bool
 |[]=>true
 |(b,c)::r=>(Tx (look ω c) b&&((look σ b).isSome&&Nat.beq (c % 2) 1))&&Ajk ω σ r
def V2 (ι:List (Nat×Nat)) (σ:St):List (Nat×Nat)->Bool
 |[]=>true
 |(c,b)::r=>(Tx (look ι b) c||((look ι b).isNone&&(look σ b).isNone))&&V2 ι σ r
def Ajj (ω:List (Nat×Nat)):St->Bool
 |[]=>true
 |(c,_)::r=>(look ω c).isSome&&Ajj ω r
def Ks:List (Nat×Nat)->List Nat
 |[]=>[]
 |(k,_)::r=>k::Ks r
def GY:List (Nat×Nat)->List Nat
 |[]=>[]
 |(_,v)::r=>v::GY r
def SF (ι ω:List (Nat×Nat)) (σ σ2:St):Bool:=
 (FB (Ks ι)&&(FB (Ks ω)&&FB (GY ω)))&&(Ajk ω σ ι&&(V2 ι σ ω&&Ajj ω σ2))
theorem KV {n:Nat}: ∀{l:List Nat},Aa3 n l=true->n∉l
 |[],_=>by simp
 |k::r,h=>by
  simp only[Aa3,Bool.and_eq_true]at h
  intro hm
  rcases List.mem_cons.1 hm with e|e
  ·subst e;simp at h
  ·exact KV h.2 e
theorem Gb {α:Type}: ∀{l:List (Nat×α)} {k:Nat} {v:α},look l k=some v->(k,v)∈l
 |[],k,v,h=>by simp[look]at h
 |(k',v')::r,k,v,h=>by
  rw[Ao]at h
  split at h
  ·rename_i e;subst e;cases h;simp
  ·exact List.mem_cons_of_mem _ (Gb h)
theorem WF: ∀{l:List (Nat×Nat)} {k v:Nat},(k,v)∈l->k∈Ks l
 |(k',v')::r,k,v,h=>by
  rcases List.mem_cons.1 h with e|e
  ·cases e;simp[Ks]
  ·exact List.mem_cons_of_mem _ (WF e)
theorem MQ: ∀{l:List (Nat×Nat)} {k v:Nat},(k,v)∈l->v∈GY l
 |(k',v')::r,k,v,h=>by
  rcases List.mem_cons.1 h with e|e
  ·cases e;simp[GY]
  ·exact List.mem_cons_of_mem _ (MQ e)
theorem VO: ∀{l:List (Nat×Nat)} {k k' v:Nat},FB (GY l)=true->(k,v)∈l->(k',v)∈l->FB (Ks l)=true->k=k'
 |(a,b)::r,k,k',v,hn,h1,h2,hk=>by
  simp only[GY,FB,Bool.and_eq_true]at hn
  simp only[Ks,FB,Bool.and_eq_true]at hk
  rcases List.mem_cons.1 h1 with e1|e1<;>rcases List.mem_cons.1 h2 with e2|e2
  ·cases e1;cases e2;rfl
  ·cases e1;exact absurd (MQ e2) (KV hn.1)
  ·cases e2;exact absurd (MQ e1) (KV hn.1)
  ·exact VO hn.2 e1 e2 hk.2
theorem W7 {o:Option Nat} {n:Nat} (h:Tx o n=true):o=some n:=by
 cases o with
 |none=>simp[Tx]at h
 |some k=>simp only[Tx]at h;rw[Nat.eq_of_beq_eq_true h]
theorem XL {ω:List (Nat×Nat)} {σ:St}: ∀{l:List (Nat×Nat)},Ajk ω σ l=true-> ∀b c,(b,c)∈l->look ω c=some b/\(look σ b).isSome=true/\c % 2=1
 |(b',c')::r,h,b,c,hm=>by
  simp only[Ajk,Bool.and_eq_true]at h
  rcases List.mem_cons.1 hm with e|e
  ·cases e;exact⟨W7 h.1.1,h.1.2.1,Nat.eq_of_beq_eq_true h.1.2.2⟩
  ·exact XL h.2 b c e
theorem XK {ι:List (Nat×Nat)} {σ:St}: ∀{l:List (Nat×Nat)},V2 ι σ l=true-> ∀c b,(c,b)∈l->look ι b=some c\/(look ι b=none/\look σ b=none)
 |(c',b')::r,h,c,b,hm=>by
  simp only[V2,Bool.and_eq_true,Bool.or_eq_true]at h
  rcases List.mem_cons.1 hm with e|e
  ·cases e
   rcases h.1 with h'|h'
   ·exact .inl (W7 h')
   ·exact .inr ⟨by simpa using h'.1,by simpa using h'.2⟩
  ·exact XK h.2 c b e
theorem XI {ω:List (Nat×Nat)}: ∀{l:St},Ajj ω l=true-> ∀c B,look l c=some B->(look ω c).isSome=true
 |[],_,c,B,h=>by simp[look]at h
 |(c',B')::r,hc,c,B,h=>by
  simp only[Ajj,Bool.and_eq_true]at hc
  rw[Ao]at h
  split at h
  ·rename_i e;subst e;exact hc.1
  ·exact XI hc.2 c B h
structure RenOk (ι ω:List (Nat×Nat)) (σ σ2:St):Prop where
 io: ∀b c,look ι b=some c->look ω c=some b/\(look σ b).isSome=true/\c % 2=1
 oi: ∀c b,look ω c=some b->look ι b=some c\/(look ι b=none/\look σ b=none)
 inj: ∀c c' b,look ω c=some b->look ω c'=some b->c=c'
 dom: ∀c B,look σ2 c=some B->(look ω c).isSome=true
 mem: ∀b c,(b,c)∈ι->look ι b=some c
theorem WE: ∀{l:List (Nat×Nat)},FB (Ks l)=true-> ∀b c,(b,c)∈l->look l b=some c
 |(b',c')::r,hn,b,c,h=>by
  simp only[Ks,FB,Bool.and_eq_true]at hn
  rw[Ao]
  rcases List.mem_cons.1 h with e|e
  ·cases e;simp
  ·have: ¬b'=b:=fun e2=>by subst e2;exact KV hn.1 (WF e)
   simp only[this,if_false];exact WE hn.2 b c e
theorem NA {ι ω:List (Nat×Nat)} {σ σ2:St} (h:SF ι ω σ σ2=true):RenOk ι ω σ σ2:=by
 simp only[SF,Bool.and_eq_true]at h
 obtain⟨⟨h1,h2,h3⟩,h4,h5,h6⟩:=h
 exact⟨fun b c hb=>XL h4 b c (Gb hb),fun c b hc=>XK h5 c b (Gb hc),fun c c' b h7 h8=>VO h3 (Gb h7) (Gb h8) h2,XI h6,WE h1⟩
theorem EQ {ι:List (Nat×Nat)} {σ:St} {c:Nat} {B:Blk}: ∀{l:List (Nat×Nat)},look (CI ι σ l) c=some B-> ∃b B0,(b,c)∈l/\look σ b=some B0/\B=Ly (look ι) B0
 |[],h=>by simp[CI,look]at h
 |(b',c')::r,h=>by
  simp only[CI]at h
  split at h
  ·rename_i B0 hB
   rw[Ao]at h
   split at h
   ·rename_i e;subst e;cases h;exact⟨b',B0,by simp,hB,Y⟩
   ·obtain⟨b,B1,h1,h2⟩:=EQ h;exact⟨b,B1,by simp[h1],h2⟩
  ·obtain⟨b,B1,h1,h2⟩:=EQ h;exact⟨b,B1,by simp[h1],h2⟩
theorem LZ {ι:List (Nat×Nat)} {σ:St} {b c:Nat} (hs:(look σ b).isSome=true): ∀{l:List (Nat×Nat)},(b,c)∈l->(look (CI ι σ l) c).isSome=true
 |(b',c')::r,h=>by
  simp only[CI]
  rcases List.mem_cons.1 h with e|e
  ·cases e
   obtain⟨B,hB⟩:=Option.isSome_iff_exists.1 hs
   rw[hB];simp[Ao]
  ·have ih:=LZ hs e (ι:=ι)
   split
   ·rw[Ao];split
    ·rfl
    ·exact ih
   ·exact ih
theorem Ev {ω:List (Nat×Nat)} (hinj: ∀c c' b,look ω c=some b->look ω c'=some b->c=c') {b:Nat}: ∀{s:St},(∀c,look ω c=some b->look (Iv ω s) b=(look s c).map (Ly (look ω)))/\((∀c,look ω c≠some b)->look (Iv ω s) b=none)
 |[]=>⟨fun c hc=>by simp[Iv,look],fun _=>by simp[Iv,look]⟩
 |(c',B)::r=>by
  obtain⟨ih1,ih2⟩:=Ev hinj (b:=b) (s:=r)
  constructor
  ·intro c hc
   simp only[Iv]
   split
   ·rename_i b' hb'
    rw[Ao,Ao]
    by_cases e:b'=b
    ·subst e
     have:c'=c:=hinj _ _ _ hb' hc
     subst this;simp
    ·have: ¬c'=c:=fun e2=>e (by subst e2;rw[hc]at hb';cases hb';rfl)
     simp only[e,this,if_false];exact ih1 c hc
   ·rename_i hb'
    have: ¬c'=c:=fun e2=>by subst e2;rw[hc]at hb';cases hb'
    rw[Ao];simp only[this,if_false];exact ih1 c hc
  ·intro hn
   simp only[Iv]
   split
   ·rename_i b' hb'
    rw[Ao]
    have: ¬b'=b:=fun e=>hn c' (by rw[hb',e])
    simp only[this,if_false];exact ih2 hn
   ·exact ih2 hn
theorem Ei {ι:List (Nat×Nat)} {σ:St} {b:Nat}: ∀{s:St},look (J9 ι σ s) b=if look ι b=none then(look s b).map (Ly (Ft ι σ))else none
 |[]=>by simp[J9,look]
 |(b',B)::r=>by
  have ih:=Ei (ι:=ι) (σ:=σ) (b:=b) (s:=r)
  simp only[J9]
  split
  ·rename_i hb'
   rw[Ao,Ao]
   by_cases e:b'=b
   ·subst e;simp[hb']
   ·simp only[e,if_false];exact ih
  ·rename_i c hb'
   rw[Ao]
   by_cases e:b'=b
   ·subst e;rw[ih];simp[hb']
   ·simp only[e,if_false];exact ih
end Go.Am
namespace Go.Am
section
variable {w w':World} {g g1:G} {σ σ2:St} {ι ω:List (Nat×Nat)}
def G.sub (g:G) (ι ω:List (Nat×Nat)) (σ0:St):G where
 β:=fun c=>match look ω c with
  |some b=>if look ι b=some c then g.β b else none
  |none=>none
 own:=fun blk=>(∃b c,look ι b=some c/\g.β b=some (some blk))\/ ∃c L e,look σ0 c=some (.rights L)/\(blk,e)∈L
 oth:=fun blk o=>g.M blk o/\ ¬((∃b c,look ι b=some c/\g.β b=some (some blk))\/ ∃c L e,look σ0 c=some (.rights L)/\(blk,e)∈L)
 sp:=g.sp
 bx:=fun c=>c % 2=1/\ ∃cs,look σ0 c=some (.cells cs)
open Classical in
noncomputable def G.back (g g0 g1:G) (ω:List (Nat×Nat)):G where
 β:=fun b=>if h: ∃c,look ω c=some b then g1.β h.choose else g.β b
 own:=fun blk=>g1.own blk\/(g.own blk/\ ¬g0.own blk)
 oth:=g.oth
 sp:=fun blk=>if g1.own blk then g1.sp blk else g.sp blk
 bx:=g.bx
 lo:=g.lo
theorem MX (hi:Inv w g σ) {b blk:Nat} (h:g.β b=some (some blk)):g.own blk:=by
 have hd:=hi.dom b
 rw[h]at hd
 obtain⟨B,hB⟩:=Option.isSome_iff_exists.1 (by simpa using hd)
 have hok:=hi.ok b B hB
 cases B with
 |cells cs=>obtain⟨blk',vs,e,h1,h2,_⟩:=hok;rw[h]at h1;cases h1;exact h2
 |grow sz es=>
  obtain⟨_,hh⟩:=hok
  rcases hh with⟨h1,_⟩|⟨blk',vs,e,h1,h2,_⟩
  ·rw[h]at h1;cases h1
  ·rw[h]at h1;cases h1;exact h2
 |rights L=>have h1:g.β b=some none:=hok;rw[h1]at h;cases h
 |loop l st pe ps asg bd n env=>obtain⟨r,h1,h2,_⟩:=hok;rw[h]at h1;cases h1;exact h2
 |mp ks xs=>obtain⟨blk',es,clk,h1,h2,_⟩:=hok;rw[h]at h1;cases h1;exact h2
theorem Aqz (hR:RenOk ι ω σ σ2) {σ0:St} {b c:Nat} {p:Option Nat} (h1:look ι b=some c) (h2:g.β b=some p):(g.sub ι ω σ0).β c=some p:=by
 simp only[G.sub,(hR.io b c h1).1,h1,if_true,h2]
theorem D6 (hR:RenOk ι ω σ σ2) {c:Nat} {L:List (Nat×Nat×Nat)} (h:look (CI ι σ ι) c=some (.rights L)): ∃b,look ι b=some c/\look σ b=some (.rights L):=by
 obtain⟨b,B0,h1,h2,h3⟩:=EQ h
 refine⟨b,hR.mem _ _ h1,?_⟩
 rw[h2]
 cases B0<;>simp[Ly]at h3
 rw[h3]
theorem IU (hi:Inv w g σ) (hR:RenOk ι ω σ σ2) {blk:Nat} (h:(g.sub ι ω (CI ι σ ι)).own blk):g.own blk:=by
 rcases h with⟨b,c,_,h2⟩|⟨c,L,e,h1,h2⟩
 ·exact MX hi h2
 ·obtain⟨b,_,h3⟩:=D6 hR h1
  exact((hi.sx.ok b L h3).2 _ h2).1
theorem Aq0 (hi:Inv w g σ) (hR:RenOk ι ω σ σ2) (blk o:Nat):(g.sub ι ω (CI ι σ ι)).M blk o↔g.M blk o:=by
 constructor
 ·rintro(h|h)
  ·exact .inl ⟨IU hi hR h.1,h.2⟩
  ·exact h.1
 ·intro h
  by_cases ho:(g.sub ι ω (CI ι σ ι)).own blk
  ·rcases h with h|h
   ·exact .inl ⟨ho,h.2⟩
   ·exact absurd h (hi.dis _ _ (IU hi hR ho))
  ·exact .inr ⟨h,ho⟩
theorem Ady (hR:RenOk ι ω σ σ2) {b c:Nat} {B:Blk} (h1:look ι b=some c) (h2:look σ b=some B):look (CI ι σ ι) c=some (Ly (look ι) B):=by
 obtain⟨B1,hB1⟩:=Option.isSome_iff_exists.1 (LZ (ι:=ι) (by rw[h2];rfl) (Gb h1))
 obtain⟨b',B0,k1,k2,k3⟩:=EQ hB1
 have h3:=(hR.io b c h1).1
 have h4:=(hR.io b' c (hR.mem _ _ k1)).1
 rw[h3]at h4;cases h4
 rw[h2]at k2;cases k2
 rw[hB1,k3]
theorem PF (hi:Inv w g σ) (hR:RenOk ι ω σ σ2):Inv w (g.sub ι ω (CI ι σ ι)) (CI ι σ ι)/\ ∀v x,Rel w g v x->Rel w (g.sub ι ω (CI ι σ ι)) v (CV (look ι) x):=by
 have hk:HC w g.M w (g.sub ι ω (CI ι σ ι)).M:=fun b o v h1 h2=>⟨fun h=>h1 ((Aq0 hi hR b o).1 h),h2⟩
 have hr: ∀v x,Rel w g v x->Rel w (g.sub ι ω (CI ι σ ι)) v (CV (look ι) x):=fun v x h=>h.ren (look ι) hk (fun _ _ h=>h) (fun c b p h1 h2=>Aqz hR h1 h2)
 refine⟨⟨fun c B hB=>?_,fun c=>?_,fun c c' blk h1 h2=>?_,fun blk h=>(by
   rcases h with h|⟨o,h⟩
   ·exact hi.lt blk (.inl (IU hi hR h))
   ·rcases h.1 with h|h
    ·exact hi.lt blk (.inl h.1)
    ·exact hi.lt blk (.inr ⟨o,h⟩)),fun c h=>h,fun blk o h1 h2=>h2.2 h1,hi.im_of hk,Nat.zero_le _,⟨hi.sx.lt,fun c blk h=>?_,fun c c' L L' blk e e' h1 h2 h3 h4=>?_,fun c L hL=>?_⟩⟩,hr⟩
 ·obtain⟨b,B0,h1,h2,rfl⟩:=EQ hB
  have h1:=hR.mem _ _ h1
  exact Fc.ren (look ι) hk hr (fun p hp=>Aqz hR h1 hp) (fun blk hb ho=>⟨.inl ⟨b,c,h1,hb⟩,Y⟩) (hi.ok b B0 h2)
 ·simp only[G.sub]
  cases ho:look ω c with
  |none=>
   cases hl:look (CI ι σ ι) c with
   |none=>simp
   |some B=>
    obtain⟨b,B0,h1,_⟩:=EQ hl
    rw[(hR.io b c (hR.mem _ _ h1)).1]at ho;cases ho
  |some b=>
   by_cases hb:look ι b=some c
   ·simp only[hb,if_true]
    obtain⟨_,h2,_⟩:=hR.io b c hb
    rw[LZ h2 (Gb hb),<-hi.dom b,h2]
   ·simp only[hb,if_false]
    cases hl:look (CI ι σ ι) c with
    |none=>simp
    |some B=>
     obtain⟨b',B0,h1,_⟩:=EQ hl
     have h1:=hR.mem _ _ h1
     have:=(hR.io b' c h1).1
     rw[ho]at this;cases this;exact absurd h1 hb
 ·simp only[G.sub]at h1 h2
  split at h1
  ·rename_i b hb
   split at h1
   ·rename_i e1
    split at h2
    ·rename_i b' hb'
     split at h2
     ·rename_i e2
      have:=hi.inj _ _ _ h1 h2;subst this
      rw[e1]at e2;cases e2;rfl
     ·cases h2
    ·cases h2
   ·cases h1
  ·cases h1
 ·simp only[G.sub]at h
  split at h
  ·split at h
   ·exact hi.sx.bs _ _ h
   ·cases h
  ·cases h
 ·obtain⟨b,k1,k2⟩:=D6 hR h1
  obtain⟨b',k3,k4⟩:=D6 hR h2
  have:=hi.sx.one _ _ _ _ _ _ _ k2 k4 h3 h4;subst this
  rw[k1]at k3;cases k3;rfl
 ·obtain⟨b,k1,k2⟩:=D6 hR hL
  obtain⟨q1,q2⟩:=hi.sx.ok b L k2
  exact⟨q1,fun p hp=>⟨.inr ⟨c,L,p.2,hL,hp⟩,(q2 p hp).2⟩⟩
theorem FR {g0:G} (hR:RenOk ι ω σ σ2) {b c:Nat} (h:look ω c=some b):(g.back g0 g1 ω).β b=g1.β c:=by
 have hex: ∃c,look ω c=some b:=⟨c,h⟩
 simp only[G.back,hex,dite_true]
 rw[hR.inj _ _ _ hex.choose_spec h]
theorem Fz {g0:G} {b:Nat} (h: ∀c,look ω c≠some b):(g.back g0 g1 ω).β b=g.β b:=by
 have hex: ¬ ∃c,look ω c=some b:=fun⟨c,hc⟩=>h c hc
 simp only[G.back,hex,dite_false]
theorem J2 (hi:Inv w g σ) (hR:RenOk ι ω σ σ2) (hx:Ext w (g.sub ι ω (CI ι σ ι)) w' g1) (hi2:Inv w' g1 σ2):
  ∃g',Ext w g w' g'/\Inv w' g' (Iv ω σ2++J9 ι σ σ)/\(∀v x,Rel w' g1 v x->Rel w' g' v (CV (look ω) x))/\(∀v x,Rel w g v x->Rel w' g' v (CV (Ft ι σ) x)):=by
 have hnow: ∀blk,g.own blk-> ¬(g.sub ι ω (CI ι σ ι)).own blk-> ¬g1.own blk:=fun blk h1 h2 h3=>h2 (hx.own blk (hi.lt blk (.inl h1)) h3)
 have hM: ∀blk o,(g.back (g.sub ι ω (CI ι σ ι)) g1 ω).M blk o↔g1.M blk o:=by
  intro blk o
  have ho:=hx.oth blk o
  constructor
  ·rintro(⟨h|⟨h1,h2⟩,hs⟩|h)
   ·refine .inl ⟨h,fun e he=>hs e ?_⟩
    simp only[G.back,h,if_true];exact he
   ·refine .inr (ho.2 ⟨.inl ⟨h1,fun e he=>hs e ?_⟩,h2⟩)
    simp only[G.back,hnow blk h1 h2,if_false];exact he
   ·exact .inr (ho.2 ⟨.inr h,fun hc=>hi.dis _ _ (IU hi hR hc) h⟩)
  ·rintro(⟨h,hs⟩|h)
   ·refine .inl ⟨.inl h,fun e he=>hs e ?_⟩
    simp only[G.back,h,if_true]at he;exact he
   ·obtain⟨h1,h2⟩:=ho.1 h
    rcases h1 with⟨h1,hs⟩|h1
    ·refine .inl ⟨.inr ⟨h1,h2⟩,fun e he=>hs e ?_⟩
     simp only[G.back,hnow blk h1 h2,if_false]at he;exact he
    ·exact .inr h1
 have hstab: ∀b c cs,look ι b=some c->look σ b=some (.cells cs)->g1.bx c/\g1.β c=g.β b:=by
  intro b c cs h1 h2
  obtain⟨k1,_,k3⟩:=hR.io b c h1
  obtain⟨q1,q2⟩:=hx.bx c ⟨k3,_,Ady hR h1 h2⟩
  refine⟨q1,?_⟩
  rw[q2];simp only[G.sub,k1,h1,if_true]
 have hext:Ext w g w' (g.back (g.sub ι ω (CI ι σ ι)) g1 ω):=by
  refine⟨hx.size,fun blk hb ho=>hx.keep blk hb (fun hc=>ho (IU hi hR hc)),fun blk hb ho=>?_,fun _ _=>Iff.rfl,hx.shape,fun b hb=>⟨hb,?_⟩,⟨Y,hx.lo.2⟩,fun blk e hb ho he=>?_⟩
  ·rcases ho with ho|ho
   ·exact IU hi hR (hx.own blk hb ho)
   ·exact ho.1
  ·obtain⟨_,cs,h2⟩:=hi.bx b hb
   by_cases hex: ∃c,look ω c=some b
   ·obtain⟨c,hc⟩:=hex
    rw[FR hR hc]
    rcases hR.oi c b hc with h|⟨_,h⟩
    ·exact(hstab b c cs h h2).2
    ·rw[h2]at h;cases h
   ·exact Fz fun c hc=>hex ⟨c,hc⟩
  ·by_cases h0:(g.sub ι ω (CI ι σ ι)).own blk
   ·obtain⟨a1,a2⟩:=hx.sp blk e hb h0 he
    refine⟨a1,fun h=>?_⟩
    rcases h with h|h
    ·obtain⟨e',k1,k2⟩:=a2 h
     exact⟨e',by simp only[G.back,h,if_true];exact k1,k2⟩
    ·exact absurd h0 h.2
   ·refine⟨fun o _=>BX (hx.keep blk hb h0) o none,fun _=>⟨e,?_,Nat.le_refl _⟩⟩
    simp only[G.back,hnow blk ho h0,if_false];exact he
 have hkin:HC w' g1.M w' (g.back (g.sub ι ω (CI ι σ ι)) g1 ω).M:=fun b o v h1 h2=>⟨fun h=>h1 ((hM b o).1 h),h2⟩
 have hrin: ∀v x,Rel w' g1 v x->Rel w' (g.back (g.sub ι ω (CI ι σ ι)) g1 ω) v (CV (look ω) x):=fun v x h=>
  h.ren (look ω) hkin (fun _ _ h=>h) (fun c b p h1 h2=>by rw[FR hR h1];exact h2)
 have hrout: ∀v x,Rel w g v x->Rel w' (g.back (g.sub ι ω (CI ι σ ι)) g1 ω) v (CV (Ft ι σ) x):=fun v x h=>
  h.ren (Ft ι σ) hext.keeps hx.shape (fun b1 b2 p h1 h2=>by
   unfold Ft at h1
   split at h1
   ·rename_i hn
    cases h1
    rw[Fz]
    ·exact h2
    ·intro c hc
     rcases hR.oi c b1 hc with h|⟨_,h⟩
     ·rw[hn]at h;cases h
     ·have:=hi.dom b1;rw[h,h2]at this;cases this
   ·rename_i c hc
    split at h1
    ·rename_i cs hcs
     cases h1
     rw[FR hR (hR.io b1 c hc).1,(hstab b1 c cs hc hcs).2];exact h2
    ·cases h1)
 refine⟨_,hext,⟨fun b B hB=>?_,fun b=>?_,fun b b' blk h1 h2=>?_,fun blk h=>?_,fun b hb=>?_,fun blk o h1 h2=>?_,hi.im_of hext.keeps,(Nat.le_trans hi.lo hext.size),?_⟩,hrin,hrout⟩
 ·rw[De]at hB
  by_cases hex: ∃c,look ω c=some b
  ·obtain⟨c,hc⟩:=hex
   rw[(Ev hR.inj).1 c hc,Ei]at hB
   have hno:(if look ι b=none then(look σ b).map (Ly (Ft ι σ))else none)=none:=by
    rcases hR.oi c b hc with h|⟨h1,h2⟩
    ·simp[h]
    ·simp[h1,h2]
   rw[hno,Option.or_none]at hB
   cases hl:look σ2 c with
   |none=>simp[hl]at hB
   |some B2=>
    simp[hl]at hB;subst hB
    exact Fc.ren (look ω) hkin hrin (fun p hp=>by rw[FR hR hc];exact hp) (fun blk _ ho=>⟨.inl ho,Y⟩) (hi2.ok c B2 hl)
  ·have hn: ∀c,look ω c≠some b:=fun c hc=>hex ⟨c,hc⟩
   rw[(Ev hR.inj).2 hn,Ei,Option.none_or]at hB
   split at hB
   ·rename_i hnι
    cases hl:look σ b with
    |none=>simp[hl]at hB
    |some B0=>
     simp[hl]at hB;subst hB
     refine Fc.ren (Ft ι σ) hext.keeps hrout (fun p hp=>by rw[Fz hn];exact hp) (fun blk hb ho=>?_) (hi.ok b B0 hl)
     have hno: ¬(g.sub ι ω (CI ι σ ι)).own blk:=by
      rintro(⟨b2,c2,q1,q2⟩|⟨c2,L,e,q1,q2⟩)
      ·have:=hi.inj _ _ _ hb q2;subst this
       rw[hnι]at q1;cases q1
      ·obtain⟨b2,_,k2⟩:=D6 hR q1
       have h1:=((hi.sx.ok b2 L k2).2 _ q2).2.1
       rw[hi.sx.bs _ _ hb]at h1;cases h1
     exact⟨.inr ⟨ho,hno⟩,hx.keep blk (hi.lt blk (.inl ho)) hno⟩
   ·cases hB
 ·rw[De]
  by_cases hex: ∃c,look ω c=some b
  ·obtain⟨c,hc⟩:=hex
   rw[(Ev hR.inj).1 c hc,Ei,FR hR hc,<-hi2.dom c]
   have hno:(if look ι b=none then(look σ b).map (Ly (Ft ι σ))else none)=none:=by
    rcases hR.oi c b hc with h|⟨h1,h2⟩
    ·simp[h]
    ·simp[h1,h2]
   rw[hno];cases look σ2 c<;>rfl
  ·have hn: ∀c,look ω c≠some b:=fun c hc=>hex ⟨c,hc⟩
   rw[(Ev hR.inj).2 hn,Ei,Fz hn,<-hi.dom b]
   have:look ι b=none:=by
    cases hl:look ι b with
    |none=>rfl
    |some c=>exact absurd (hR.io b c hl).1 (hn c)
   simp only[this,if_true];cases look σ b<;>rfl
 ·have mixed: ∀b b' c,look ω c=some b->(∀c,look ω c≠some b')->g1.β c=some (some blk)->g.β b'=some (some blk)->False:=by
   intro b b' c q1 q2 q3 q4
   have ho:=MX hi q4
   rcases hx.own blk (hi.lt blk (.inl ho)) (MX hi2 q3)with⟨b2,c2,k1,k2⟩|⟨c2,L,e,k1,k2⟩
   ·have:=hi.inj _ _ _ q4 k2;subst this
    exact q2 c2 (hR.io _ _ k1).1
   ·obtain⟨b2,_,k3⟩:=D6 hR k1
    have h1:=((hi.sx.ok b2 L k3).2 _ k2).2.1
    rw[hi.sx.bs _ _ q4]at h1;cases h1
  by_cases hb: ∃c,look ω c=some b<;>by_cases hb': ∃c,look ω c=some b'
  ·obtain⟨c,hc⟩:=hb;obtain⟨c',hc'⟩:=hb'
   rw[FR hR hc]at h1;rw[FR hR hc']at h2
   have:=hi2.inj _ _ _ h1 h2;subst this
   rw[hc]at hc';cases hc';rfl
  ·obtain⟨c,hc⟩:=hb
   rw[FR hR hc]at h1;rw[Fz fun c hc=>hb' ⟨c,hc⟩]at h2
   exact(mixed b b' c hc (fun c hc=>hb' ⟨c,hc⟩) h1 h2).elim
  ·obtain⟨c,hc⟩:=hb'
   rw[FR hR hc]at h2;rw[Fz fun c hc=>hb ⟨c,hc⟩]at h1
   exact(mixed b' b c hc (fun c hc=>hb ⟨c,hc⟩) h2 h1).elim
  ·rw[Fz fun c hc=>hb ⟨c,hc⟩]at h1;rw[Fz fun c hc=>hb' ⟨c,hc⟩]at h2
   exact hi.inj _ _ _ h1 h2
 ·rcases h with(h|h)|⟨o,h⟩
  ·exact hi2.lt blk (.inl h)
  ·exact Nat.lt_of_lt_of_le (hi.lt blk (.inl h.1)) hext.size
  ·exact Nat.lt_of_lt_of_le (hi.lt blk (.inr ⟨o,h⟩)) hext.size
 ·obtain⟨h1,cs,h2⟩:=hi.bx b hb
  refine⟨h1,?_⟩
  rw[De]
  by_cases hex: ∃c,look ω c=some b
  ·obtain⟨c,hc⟩:=hex
   rcases hR.oi c b hc with h|⟨_,h⟩
   ·obtain⟨_,cs2,q⟩:=hi2.bx c (hstab b c cs h h2).1
    rw[(Ev hR.inj).1 c hc,q]
    exact⟨_,Y⟩
   ·rw[h2]at h;cases h
  ·have hn: ∀c,look ω c≠some b:=fun c hc=>hex ⟨c,hc⟩
   have:look ι b=none:=by
    cases hl:look ι b with
    |none=>rfl
    |some c=>exact absurd (hR.io b c hl).1 (hn c)
   rw[(Ev hR.inj).2 hn,Ei,h2]
   simp only[this,if_true]
   exact⟨_,Y⟩
 ·rcases h1 with h1|h1
  ·refine hi2.dis blk o h1 ((hx.oth blk o).2 ⟨.inr h2,fun hc=>hi.dis _ _ (IU hi hR hc) h2⟩)
  ·exact hi.dis blk o h1.1 h2
 ·have old: ∀b L,(∀c,look ω c≠some b)->look σ b=some (.rights L)-> ∀p∈L,¬(g.sub ι ω (CI ι σ ι)).own p.1:=by
   rintro b L hn hL p hp (⟨b2,c2,k1,k2⟩|⟨c2,L2,e,k1,k2⟩)
   ·have h1:=((hi.sx.ok b L hL).2 _ hp).2.1
    rw[hi.sx.bs _ _ k2]at h1;cases h1
   ·obtain⟨b2,k3,k4⟩:=D6 hR k1
    have:=hi.sx.one _ _ _ _ _ _ _ hL k4 (show(p.1,p.2)∈L from hp) k2
    subst this
    exact hn c2 (hR.io _ _ k3).1
  have cases2: ∀b L,look (Iv ω σ2++J9 ι σ σ) b=some (.rights L)->(∃c,look ω c=some b/\look σ2 c=some (.rights L))\/((∀c,look ω c≠some b)/\look σ b=some (.rights L)):=by
   intro b L hL
   rw[De]at hL
   by_cases hex: ∃c,look ω c=some b
   ·obtain⟨c,hc⟩:=hex
    refine .inl ⟨c,hc,?_⟩
    rw[(Ev hR.inj).1 c hc,Ei]at hL
    have hno:(if look ι b=none then(look σ b).map (Ly (Ft ι σ))else none)=none:=by
     rcases hR.oi c b hc with h|⟨h1,h2⟩
     ·simp[h]
     ·simp[h1,h2]
    rw[hno,Option.or_none]at hL
    cases hl:look σ2 c with
    |none=>simp[hl]at hL
    |some B2=>
     simp[hl]at hL
     cases B2<;>simp[Ly]at hL
     rw[hL]
   ·have hn: ∀c,look ω c≠some b:=fun c hc=>hex ⟨c,hc⟩
    refine .inr ⟨hn,?_⟩
    rw[(Ev hR.inj).2 hn,Ei,Option.none_or]at hL
    split at hL
    ·cases hl:look σ b with
     |none=>simp[hl]at hL
     |some B0=>
      simp[hl]at hL
      cases B0<;>simp[Ly]at hL
      rw[hL]
    ·cases hL
  refine⟨fun blk e h=>?_,fun b blk h=>?_,fun b b' L L' blk e e' h1 h2 h3 h4=>?_,fun b L hL=>?_⟩
  ·simp only[G.back]at h
   split at h
   ·exact hi2.sx.lt blk e h
   ·exact Nat.lt_of_lt_of_le (hi.sx.lt blk e h) hext.size
  ·by_cases hex: ∃c,look ω c=some b
   ·obtain⟨c,hc⟩:=hex
    rw[FR hR hc]at h
    simp only[G.back,MX hi2 h,if_true]
    exact hi2.sx.bs c blk h
   ·have hn: ∀c,look ω c≠some b:=fun c hc=>hex ⟨c,hc⟩
    rw[Fz hn]at h
    have hno: ¬g1.own blk:=by
     intro h3
     rcases hx.own blk (hi.lt blk (.inl (MX hi h))) h3 with⟨b2,c2,k1,k2⟩|⟨c2,L,e,k1,k2⟩
     ·have:=hi.inj _ _ _ h k2;subst this
      exact hn c2 (hR.io _ _ k1).1
     ·obtain⟨b2,_,k3⟩:=D6 hR k1
      have h1:=((hi.sx.ok b2 L k3).2 _ k2).2.1
      rw[hi.sx.bs _ _ h]at h1;cases h1
    simp only[G.back,hno,if_false]
    exact hi.sx.bs b blk h
  ·have apart: ∀b b' c L L' e e',look ω c=some b->look σ2 c=some (.rights L)->(∀c,look ω c≠some b')->look σ b'=some (.rights L')->(blk,e)∈L->(blk,e')∈L'->False:=by
    intro b b' c L L' e e' q1 q2 q3 q4 q5 q6
    have h1:=((hi2.sx.ok c L q2).2 _ q5).1
    have h2:=((hi.sx.ok b' L' q4).2 _ q6)
    exact hnow blk h2.1 (old b' L' q3 q4 _ q6) h1
   rcases cases2 b L h1 with⟨c,k1,k2⟩|⟨k1,k2⟩<;>rcases cases2 b' L' h2 with⟨c',k3,k4⟩|⟨k3,k4⟩
   ·have:=hi2.sx.one _ _ _ _ _ _ _ k2 k4 h3 h4;subst this
    rw[k1]at k3;cases k3;rfl
   ·exact(apart b b' c L L' _ _ k1 k2 k3 k4 h3 h4).elim
   ·exact(apart b' b c' L' L _ _ k3 k4 k1 k2 h4 h3).elim
   ·exact hi.sx.one _ _ _ _ _ _ _ k2 k4 h3 h4
  ·rcases cases2 b L hL with⟨c,k1,k2⟩|⟨k1,k2⟩
   ·obtain⟨q1,q2⟩:=hi2.sx.ok c L k2
    refine⟨q1,fun p hp=>?_⟩
    obtain⟨r1,r2,r3⟩:=q2 p hp
    exact⟨.inl r1,by simp only[G.back,r1,if_true];exact r2,r3⟩
   ·obtain⟨q1,q2⟩:=hi.sx.ok b L k2
    refine⟨q1,fun p hp=>?_⟩
    obtain⟨r1,r2,vs,ty,r3,r4⟩:=q2 p hp
    have hno:=old b L k1 k2 p hp
    have hn1:=hnow p.1 r1 hno
    exact⟨.inr ⟨r1,hno⟩,by simp only[G.back,hn1,if_false];exact r2,vs,ty,by rw[hx.keep p.1 (hi.lt p.1 (.inl r1)) hno];exact r3,r4⟩
end
section
variable {P:Program} {c:Conf} {n:Nat} {ops:Array Oper} {rest:List Oper} {env:Env} {σ:St} {o:Oper} {k:Env->St->Prop}
theorem A0 (hp0:ProgOk P c) (ι ω:List (Nat×Nat)) {cl:Call} {f:Nat} {as as0:List AV} {e e2:Env} {σ0 σ2 s:St} {r x:AV} (hg:o.guard=none) (ho:o.op=.call cl) (hc:C6 c env cl=some (f,as)) (ha:HY (look ι) as=as0) (hs0:CI ι σ ι=σ0)
  (hct:Ct P f as0 σ0 r σ2) (hR:SF ι ω σ σ2=true) (hx:CV (look ω) r=x) (he:S7 (Ft ι σ) env=e) (hs:Iv ω σ2++J9 ι σ σ=s) (hp:B4 n o.dst x e=some e2) (h:A2 P n ops rest e2 s k):
  A2 P n ops (o::rest) env σ k:=by
 subst ha;subst hs0;subst hx;subst he;subst hs
 simp only[A2,AL,hg]
 intro w g a hi hee
 obtain⟨⟨fn,hf,hb⟩,hca⟩:=hct
 obtain⟨vs,hrun,hrel⟩:=C5 hp0 hee hc ho hf hb
 have hR:=NA hR
 obtain⟨i1,i2⟩:=PF hi hR
 refine BJ.enter hrun ((hca vs w _ (hrel.ren (look ι) i2) i1).mono ?_)
 rintro ed w' ⟨v,g1,rfl,q1,q2,q3⟩
 obtain⟨g',k1,k2,k3,k4⟩:=J2 hi hR q1 q3
 refine⟨v,Y,_,_,_,⟨g',k1,k3 v r q2,k2,fun t x hx=>?_⟩,e2,hp,h⟩
 rw[MR]at hx
 cases hl:look env t with
 |none=>simp[hl]at hx
 |some y=>simp[hl]at hx;subst hx;exact k4 _ _ (hee t y hl)
end
end Go.Am
namespace Go.Am
section
variable {P:Program} {c:Conf} {n:Nat} {ops:Array Oper} {rest:List Oper} {env:Env} {σ:St} {o:Oper} {k:Env->St->Prop}
theorem Af1 (hp0:ProgOk P c) {cl:Call} {so xo:Operand} {t e d s0 b0 sz0 sz:Nat} {z0:List T} {esz ebb:Nat} {ez:List T} {ek:TK} {es0 news:List (List T)} {m:SM} {x:AV} {e1 e2:Env} {s:St} (hg:o.guard=none) (ho:o.op=.call cl) (hcl:cl.callee=.builtin .append) (ha:cl.args.toList=[so,xo])
  (hty:cl.argTypes.toList=[t,t]) (hd:o.dst=some d) (hs:ev env so=some (.t (.slice .nil sz0 es0))) (hx:ev env xo=some (.t (.slice m sz news))) (ht:look c.te t=some ⟨s0,b0,z0,.slice e⟩) (he:look c.te e=some ⟨esz,ebb,ez,ek⟩) (hsz:esz=sz)
  (hf:DF (2*d) env σ (fun env σ=>some (AV.row (2*d) esz 0 news.length,env,(2*d,Blk.grow esz news)::σ))=some (x,e1,s)) (hp:B4 n o.dst x e1=some e2)
  (hlim:news.length*(ebb+1)<=140737488355328) (h:A2 P n ops rest e2 s k):A2 P n ops (o::rest) env σ k:=by
 refine E6 hp0 (x:=x) (e:=e1) (s:=s) hg ?_ hp h
 unfold Dx
 rw[ho]
 simp only[hcl,F1,ho,ha,hty,hs,hx,hd,GI,ht,he,L7,hsz,if_true,hlim]
 rw[<-hsz];exact hf
theorem VM (hp0:ProgOk P c) {cl:Call} {so xo:Operand} {t e d s0 b0 b len sz:Nat} {z0:List T} {esz ebb:Nat} {ez:List T} {ek:TK} {es news:List (List T)} {m:SM} {e2:Env} (hg:o.guard=none) (ho:o.op=.call cl) (hcl:cl.callee=.builtin .append) (ha:cl.args.toList=[so,xo])
  (hty:cl.argTypes.toList=[t,t]) (hd:o.dst=some d) (hs:ev env so=some (.row b sz 0 len)) (hx:ev env xo=some (.t (.slice m sz news))) (ht:look c.te t=some ⟨s0,b0,z0,.slice e⟩) (he:look c.te e=some ⟨esz,ebb,ez,ek⟩) (hsz:esz=sz)
  (hb:look σ b=some (.grow sz es)) (hlen:len=es.length) (hp:B4 n o.dst (.row b sz 0 (es++news).length) (Fs b env)=some e2)
  (hlim:(es++news).length*(ebb+1)<=140737488355328) (h:A2 P n ops rest e2 ((b,.grow sz (es++news))::CP b σ) k):A2 P n ops (o::rest) env σ k:=by
 refine E6 hp0 (x:=.row b sz 0 (es++news).length) (e:=Fs b env) (s:=(b,.grow sz (es++news))::CP b σ) hg ?_ hp h
 have hlim':(es.length+news.length)*(ebb+1)<=140737488355328:=by simpa using hlim
 subst hlen
 unfold Dx
 rw[ho]
 simp only[hcl,F1,ho,ha,hty,hs,hx,hd,GI,ht,he,L7,hsz,if_true,hb,Nat.le_refl,hlim',List.take_length,List.length_append]
theorem Acb (hp0:ProgOk P c) {cl:Call} {so xo:Operand} {t e d s0 b0 sz:Nat} {z0:List T} {esz ebb:Nat} {ez:List T} {ek:TK} {es news:List (List T)} {m:SM} {e2:Env} (hg:o.guard=none) (ho:o.op=.call cl) (hcl:cl.callee=.builtin .append) (ha:cl.args.toList=[so,xo])
  (hty:cl.argTypes.toList=[t,t]) (hd:o.dst=some d) (hs:ev env so=some (.t (.slice .full (sz+1) es))) (hx:ev env xo=some (.t (.slice m (sz+1) news))) (ht:look c.te t=some ⟨s0,b0,z0,.slice e⟩) (he:look c.te e=some ⟨esz,ebb,ez,ek⟩) (hsz:esz=sz+1)
  (hp:B4 n o.dst (.t (.slice .any (sz+1) (es++news))) env=some e2)
  (hlim:(es++news).length*(ebb+1)<=140737488355328) (h:A2 P n ops rest e2 σ k):A2 P n ops (o::rest) env σ k:=by
 refine E6 hp0 (x:=.t (.slice .any (sz+1) (es++news))) (e:=env) (s:=σ) hg ?_ hp h
 have hlim':(es.length+news.length)*(ebb+1)<=140737488355328:=by simpa using hlim
 unfold Dx
 rw[ho]
 simp only[hcl,F1,ho,ha,hty,hs,hx,hd,GI,ht,he,L7,hsz,if_true,hlim']
theorem Qu (hp0:ProgOk P c) {t yt:Nat} {xo yo:Operand} {a b:List UInt8} {e2:Env} (hg:o.guard=none) (ho:o.op=.binOp .add t xo yo yt) (hx:ev env xo=some (.t (.str a))) (hy:ev env yo=some (.t (.str b)))
  (hp:B4 n o.dst (.t (.str (a++b))) env=some e2) (hl:a.length+b.length<9223372036854775808) (h:A2 P n ops rest e2 σ k):A2 P n ops (o::rest) env σ k:=by
 refine E6 hp0 (x:=.t (.str (a++b))) (e:=env) (s:=σ) hg ?_ hp h
 unfold Dx
 rw[ho]
 simp only[Ce,hx,hy,XS,Ajv,Su,hl,if_true]
end
theorem A1z {P:Program} {n:Nat} {env:Env} {σ:St} {K:Exit->Env->St->Prop} {code:Code} (t lab sz:Nat) {sz0:Nat} {es0:List (List T)} (hl:look env t=some (.t (.slice .nil sz0 es0))) (hlab:look σ (2*lab)=none) (h:Tr P n code ((t,.row (2*lab) sz 0 0)::env) ((2*lab,.grow sz [])::σ) K):Tr P n code env σ K:=by
 intro F hF hrf w g a hg
 obtain⟨k1,k2,k3⟩:=PM (sz:=sz) hg.inv hlab
 have hv:a.tmps.getD t undef=.slice none 0 0:=by
  rcases Cq (Aw (hg.env t _ hl))with⟨h1,_⟩|⟨_,_,_,_,_,_,h1,_⟩|⟨_,_,_,h1⟩
  ·exact h1
  ·exact absurd Y h1
  ·exact absurd Y h1
 refine wpIn_mono (h F hF hrf w _ a ⟨fun t' x hx=>?_,k2,hg.defers.ext k1,hg.size⟩) fun ex a2 w2 hq=>hq.lift k1
 rw[Ao]at hx
 split at hx
 ·rename_i e;subst e;cases hx;rw[hv];exact .rowNil _ _ none Ac (by simp[G.with])
 ·exact k3 _ _ (hg.env t' x hx)
def DU:List AV->List AV->Prop
 |[],[]=>True
 |x::r,y::s=>Sub x y/\DU r s
 |_,_=>False
theorem DU.len: ∀{l m:List AV},DU l m->l.length=m.length
 |[],[],_=>rfl
 |x::r,y::s,h=>by simp[DU.len h.2]
 |[],y::s,h=>h.elim
 |x::r,[],h=>h.elim
theorem DU.get: ∀{l m:List AV},DU l m-> ∀(i:Nat) y,m[i]?=some y-> ∃x,l[i]?=some x/\Sub x y
 |[],[],_,i,y,h=>by simp at h
 |x::r,z::s,h,0,y,hy=>by simp at hy;subst hy;exact⟨x,by simp,h.1⟩
 |x::r,z::s,h,i+1,y,hy=>by simp at hy;simpa using DU.get h.2 i y hy
 |[],y::s,h,_,_,_=>h.elim
 |x::r,[],h,_,_,_=>h.elim
theorem A10: ∀l:List AV,DU l l
 |[]=>trivial
 |x::r=>⟨A1x x,A10 r⟩
theorem DU.rel {w:World} {g:G} {vs:List Value} {l m:List AV} (h:DU l m) (hr:Bt w g vs l):Bt w g vs m:=
 ⟨by rw[hr.1,h.len],fun i v y hv hy=>by obtain⟨x,h1,h2⟩:=h.get i y hy;exact h2 _ _ _ (hr.2 i v x hv h1)⟩
theorem Ct.args {P:Program} {f:Nat} {as as0:List AV} {σ σ':St} {r:AV} (h:Ct P f as0 σ r σ') (hs:DU as as0):Ct P f as σ r σ':=
 ⟨h.1,fun vs w g hr hi=>h.2 vs w g (hs.rel hr) hi⟩
def Anm:Blk->Blk->Prop
 |.cells a,.cells b=>DU a b
 |B,C=>B=C
theorem LI {B C:Blk} (h:Anm B C):(∃a b,B=.cells a/\C=.cells b/\DU a b)\/B=C:=by
 cases B<;>cases C<;>simp only[Anm]at h<;>first|exact .inr h|exact .inl ⟨_,_,Y,Y,h⟩
def SP:St->St->Prop
 |[],[]=>True
 |(b,B)::r,(c,C)::s=>(b=c/\Anm B C)/\SP r s
 |_,_=>False
theorem SP.inv {w:World} {g:G} {σ σ':St} (h:SP σ σ') (hi:Inv w g σ):Inv w g σ':=by
 have key: ∀{σ σ':St},SP σ σ'-> ∀b,(look σ' b=none/\look σ b=none)\/ ∃B C,look σ b=some B/\look σ' b=some C/\Anm B C:=by
  intro σ
  induction σ with
  |nil=>intro σ' h b;cases σ' with
   |nil=>exact .inl ⟨Y,Y⟩
   |cons p r=>exact h.elim
  |cons p r ih=>
   intro σ' h b
   cases σ' with
   |nil=>exact h.elim
   |cons q s=>
    obtain⟨⟨h1,h2⟩,h3⟩:=h
    obtain⟨b1,B⟩:=p;obtain⟨c1,C⟩:=q
    subst h1
    rw[Ao,Ao]
    by_cases e:b1=b
    ·simp only[e,if_true];exact .inr ⟨B,C,Y,Y,h2⟩
    ·simp only[e,if_false];exact ih h3 b
 refine⟨fun b C hC=>?_,fun b=>?_,hi.inj,hi.lt,fun b hb=>⟨(hi.bx b hb).1,?_⟩,hi.dis,hi.im,hi.lo,hi.sx.mono (Nat.le_refl _) Y (fun _ _ _ h=>h) (fun _ _ _ _ _=>rfl) (fun c blk h=>.inl ⟨c,h⟩) (fun b L hL=>?_)⟩
 ·rcases key h b with⟨h1,_⟩|⟨B,C',h1,h2,h3⟩
  ·rw[h1]at hC;cases hC
  ·rw[h2]at hC;cases hC
   have hok:=hi.ok b B h1
   rcases LI h3 with⟨cs,ds,rfl,rfl,h3'⟩|rfl
   ·obtain⟨blk,vs,e,q1,q2,q3,q4,q5⟩:=hok
    refine⟨blk,vs,e,q1,q2,q3,by rw[q4,h3'.len],fun i v x hv hx=>?_⟩
    obtain⟨y,k1,k2⟩:=h3'.get i x hx
    exact k2 _ _ _ (q5 i v y hv k1)
   ·exact hok
 ·rw[<-hi.dom b]
  rcases key h b with⟨h1,h2⟩|⟨B,C',h1,h2,h3⟩
  ·rw[h1,h2]
  ·rw[h1,h2];rfl
 ·obtain⟨_,cs,hcs⟩:=hi.bx b hb
  rcases key h b with⟨h1,h2⟩|⟨B,C',h1,h2,h3⟩
  ·rw[h2]at hcs;cases hcs
  ·rw[h1]at hcs;cases hcs
   rcases LI h3 with⟨_,ds,_,rfl,_⟩|rfl
   ·exact⟨ds,h2⟩
   ·exact⟨cs,h2⟩
 ·rcases key h b with⟨h1,h2⟩|⟨B,C',h1,h2,h3⟩
  ·rw[h1]at hL;cases hL
  ·rw[h2]at hL;cases hL
   rcases LI h3 with⟨_,ds,_,h4,_⟩|rfl
   ·cases h4
   ·exact h1
theorem Ct.weak {P:Program} {f:Nat} {as as0:List AV} {σ σ0 σ':St} {r:AV} (h:Ct P f as0 σ0 r σ') (hs:DU as as0) (hσ:SP σ σ0):Ct P f as σ r σ':=
 ⟨h.1,fun vs w g hr hi=>h.2 vs w g (hs.rel hr) (hσ.inv hi)⟩
theorem BG {P:Program} {c:Conf} {n:Nat} {ops:Array Oper} {rest:List Oper} {env:Env} {σ:St} {o:Oper} {k:Env->St->Prop} (hp0:ProgOk P c) {cl:Call} {f:Nat} {as as1 as':List AV} {env1 e2:Env} {σ1:St} {r:AV} (hg:o.guard=none) (ho:o.op=.call cl) (hc:C6 c env cl=some (f,as))
  (hz:DQ σ as env σ=(as1,env1,σ1)) (hct:Ct P f as' [] r []) (hr:r.free=true) (hfr:D7 as'=true) (hp:B4 n o.dst r env1=some e2) (hsub:DU as1 as') (h:A2 P n ops rest e2 σ1 k):
  A2 P n ops (o::rest) env σ k:=by
 simp only[A2,AL,hg]
 intro w g a hi hee
 obtain⟨⟨fn,hf,hb⟩,hca⟩:=hct
 obtain⟨vs,hrun,hrel⟩:=C5 hp0 hee hc ho hf hb
 obtain⟨g1,f1,f2,f3,f4⟩:=CQ (w:=w) σ hz hi hrel hee
 have f3':=hsub.rel f3
 refine BJ.enter hrun ((hca vs w g1.pureIn ⟨f3'.1,fun i v x hv hx=>?_⟩ (Jf f2)).mono ?_)
 ·exact(f3'.2 i v x hv hx).free (fun b o v h1 h2=>⟨fun h=>h1 ((NJ b o).1 h),h2⟩) (E0 hfr i x hx)
 ·rintro ed w' ⟨v,g',rfl,h1,h2,h3⟩
  refine⟨v,Y,r,env1,σ1,?_,e2,hp,h⟩
  have:=Ky (dst:=none) f2 f4 h3 h1 h2 (x:=r) (env':=env1) (σ':=σ1) (by simp[Kz,hr])
  exact this.lift f1
theorem Ct.freeze {P:Program} {f:Nat} {as:List AV} {r r':AV} {σ2 s:St} {e:Env} (h:Ct P f as [] r σ2) (hz:DQ σ2 [r] [] σ2=([r'],e,s)) (hr:r'.free=true):Ct P f as [] r' []:=by
 refine⟨h.1,fun vs w g hrl hi=>(h.2 vs w g hrl hi).mono ?_⟩
 rintro ed w' ⟨v,g1,rfl,h1,h2,h3⟩
 obtain⟨g2,k1,k2,k3,_⟩:=CQ (w:=w') σ2 (a:=⟨#[],[]⟩) hz h3 (vs:=[v]) (A1v h2 Bt.nil) (fun t x hx=>by simp[look]at hx)
 have h4:Rel w' g2 v r':=k3.2 0 v r' Y Y
 have hx:=h1.trans k1
 have hbx: ∀b,¬g.bx b:=fun b hb=>by obtain⟨_,cs,hc⟩:=hi.bx b hb;simp[look]at hc
 refine⟨v,{β:=fun _=>none,own:=g2.own,oth:=g2.oth,sp:=g2.sp,bx:=fun _=>False,lo:=g.lo},Y,⟨hx.size,hx.keep,hx.own,hx.oth,hx.shape,fun b hb=>absurd hb (hbx b),⟨Y,hx.lo.2⟩,hx.sp⟩,?_,⟨fun b B hB=>?_,fun b=>?_,fun b b' blk hq=>?_,k2.lt,fun b hb=>hb.elim,k2.dis,k2.im,Nat.le_trans hi.lo hx.size,.empty k2.sx.lt (fun _=>rfl)⟩⟩
 ·exact Rel.free (g:=g2) (g':={β:=fun _=>none,own:=g2.own,oth:=g2.oth,sp:=g2.sp,bx:=fun _=>False,lo:=g.lo}) (fun b o v q1 q2=>⟨q1,q2⟩) h4 hr
 ·simp[look]at hB
 ·simp[look]
 ·simp at hq
theorem T5 {α:Type} (b:Nat) (x:α) (r:List (Nat×α)):look ((b,x)::r) b=some x:=by rw[Ao];simp
theorem Aij (b sz:Nat) (es:List (List T)):B5 b sz es (.row b sz 0 es.length)=.t (.slice .any sz es):=by simp[B5]
theorem Ct.freeze2 {P:Program} {f:Nat} {as:List AV} {b sz:Nat} {es:List (List T)} {x:T} (h:Ct P f as [] (.tuple [.row b sz 0 es.length,.t x]) [(b,.grow sz es)]):Ct P f as [] (.tuple [.t (.slice .any sz es),.t x]) []:=by
 refine h.freeze (e:=[]) (s:=[]) ?_ Y
 simp only[DQ,T5,Ox,AV.has,Nat.beq_refl,Bool.true_or,Bool.or_true,FF,I9]
 simp[B5,FF,Gf]
theorem A11 {P:Program} {f:Nat} {as:List AV} {b sz:Nat} {es:List (List T)} (h:Ct P f as [] (.row b sz 0 es.length) [(b,.grow sz es)]):Ct P f as [] (.t (.slice .any sz es)) []:=by
 refine h.freeze (e:=[]) (s:=[]) ?_ Y
 simp only[DQ,T5,Ox,AV.has,Nat.beq_refl,Bool.true_or,Bool.or_true,FF,I9]
 simp[B5,Gf]
def Atq (te:TE) (rs:List ResultVar) (r:AV) (σ':St) (ex:Exit) (e:Env) (s:St):Prop:=
 (ex=.normal\/ex=.ret)/\ ∃r0 s1 D r1,JY te true rs e s=some (r0,s1)/\K6 D [(0,r0)]=[(0,r1)]/\EY D s1=σ'/\Sub r1 r
theorem ct1 {P:Program} {c:Conf} (hp:ProgOk P c) {f:Nat} {fn:Func} (hf:P.funcs[f]?=some fn) {code:Code} (hb:fn.body=some code) {as:List AV} {r:AV} {σ σ':St} (hle:Nat.ble as.length fn.ntmps=true)
  (h:Tr P fn.ntmps code (FG 0 as) σ (Atq c.te fn.results.toList r σ')):Ct P f as σ r σ':=by
 refine⟨⟨fn,hf,by simp[hb]⟩,?_⟩
 intro vs w g hrl hi
 refine Gl hf hb hle h hrl hi fun ex a' w' g' env' σ1 h1 h2 h3=>?_
 obtain⟨hex,r0,s1,D,r1,h4,h5,rfl,h6⟩:=h3
 obtain⟨v,g2,q1,q2,q3,q4⟩:=Is hp h2 h4
 have hg2:Good 0 w' g2 ⟨#[v],[]⟩ [(0,r0)] s1:=⟨fun t x hx=>by
  rw[Ao]at hx
  split at hx
  ·rename_i e;subst e;cases hx;exact q3
  ·simp[look]at hx,q4,G3.nil,by simp⟩
 obtain⟨g3,k1,k2⟩:=Lp D hg2
 rw[h5]at k2
 have hv:Rel w' g3 v r1:=k2.env 0 r1 Y
 exact⟨hex,v,q1,v,g3,Y,(h1.trans q2).trans k1,h6 _ _ _ hv,k2.inv⟩
theorem Ba {te:TE} {rs:List ResultVar} {e:Env} {s s1 σ':St} {r r0 r1:AV} (D:List Nat) (h:JY te true rs e s=some (r0,s1)) (h1:K6 D [(0,r0)]=[(0,r1)]) (h2:EY D s1=σ') (hs:Sub r1 r):Atq te rs r σ' .ret e s:=⟨.inr Y,r0,s1,D,r1,h,h1,h2,hs⟩
theorem AZ {te:TE} {rs:List ResultVar} {e:Env} {s s1 σ':St} {r r0 r1:AV} (D:List Nat) (h:JY te true rs e s=some (r0,s1)) (h1:K6 D [(0,r0)]=[(0,r1)]) (h2:EY D s1=σ') (hs:Sub r1 r):Atq te rs r σ' .normal e s:=⟨.inl Y,r0,s1,D,r1,h,h1,h2,hs⟩
theorem Q2 {w:World} {M:Nat->Nat->Prop} {v:Value} {m:SM} {sz:Nat} {es:List (List T)} (h:RelT w M v (.slice m sz es)):RelT w M v (.slice .any sz es):=by
 cases h with
 |sliceNil=>exact .sliceNil _ _
 |sliceZ a _ _ _=>exact .sliceZ a _ _ Ac
 |slice b off len cap _ _ _ vs hl hc hf hm hp hsz hone hcell hrel=>exact .slice b off len cap _ _ _ vs hl hc (fun h=>by cases h) (fun h=>by cases h) (fun p N h=>by cases h) hsz hone hcell hrel
theorem VT {w:World} {M:Nat->Nat->Prop} {v:Value} {m:SM} {sz sz':Nat} (h:RelT w M v (.slice m sz [])):RelT w M v (.slice .any sz' []):=by
 cases h with
 |sliceNil=>exact .sliceNil _ _
 |sliceZ a _ _ _=>exact .sliceZ a _ _ Ac
 |slice b off len cap _ _ _ vs hl hc hf hm hp hsz hone hcell hrel=>exact .slice b off len cap _ _ _ vs hl hc (fun h=>by cases h) (fun h=>by cases h) (fun p N h=>by cases h) Ac Ac Ac Ac
theorem Ar {m:SM} {sz:Nat} {es:List (List T)}:Sub (.t (.slice m sz es)) (.t (.slice .any sz es)):=fun _ _ _ h=>.t _ _ (Q2 (Aw h))
theorem Ak {m:SM} {sz sz':Nat}:Sub (.t (.slice m sz [])) (.t (.slice .any sz' [])):=fun _ _ _ h=>.t _ _ (VT (Aw h))
theorem AP {x y:Bool} (h:x=y):Sub (.t (.bool x)) (.t (.bool y)):=h▸A1x _
theorem Ap {l m:List AV} (h:DU l m):Sub (.tuple l) (.tuple m):=fun w g v hr=>by
 cases hr with
 |tuple vs _ h1 h2=>have:=h.rel (⟨h1,h2⟩:Bt w g vs l);exact .tuple vs _ this.1 this.2
theorem AA {l m:List AV} (h:DU l m):Sub (.agg l) (.agg m):=fun w g v hr=>by
 cases hr with
 |agg vs _ h1 h2=>have:=h.rel (⟨h1,h2⟩:Bt w g vs l);exact .agg vs _ this.1 this.2
end Go.Am
namespace Go.Am
section
variable {P:Program} {te:TE} {w w':World} {g:G} {σ:St}
def Dt (s:List UInt8):List (List T):=s.map fun c=>[T.int .u8 (c.toNat:Int)]
theorem DI (s:List UInt8):(Dt s).length=s.length:=by simp[Dt]
theorem Sq (s:List UInt8): ∀e∈Dt s,e.length=1:=by simp[Dt]
theorem D9: ∀s:List UInt8,(Dt s).flatten=s.map fun c=>T.int .u8 (c.toNat:Int)
 |[]=>rfl
 |c::r=>by
  have:=D9 r
  simp only[Dt]at this⊢
  rw[List.map_cons,List.flatten_cons,this];rfl
theorem Aap {t u ty e:Nat} (ht:P.underlying t=some (.slice e)) (hu:P.underlying u=some .string) {inf:TypeInfo} (hinf:P.info? e=some inf) {ei:TI} (hs1:inf.size=ei.size) (hs2:inf.bytes=ei.bytes) (hs3:inf.zero=some (BZ ei)) (hsz:ei.size=1) (s:List UInt8):
  SrcOk P w t u ty e (.string ⟨s.toArray⟩) (Dt s).length (Lib.strCells ⟨s.toArray⟩) ei:=by
 have hsize:(⟨s.toArray⟩:ByteArray).size=s.length:=by simp[ByteArray.size]
 have hcl:(Lib.strCells ⟨s.toArray⟩).length=s.length:=by rw[Lib.strCells_length,hsize]
 rw[DI]
 refine⟨fun h0 b l cc hl=>?_,fun h0 blk sLen sCap et cur hg hroom hfit=>?_,fun h0 hby=>?_,fun h0 b sLen sCap olds hlo holds hlt hby=>?_⟩
 ·have hs:s=[]:=List.eq_nil_of_length_eq_zero h0
  subst hs
  cases b<;>simp[Builtin.append_,Go.run_underlying ht,Go.run_underlying hu,sizeOf,typeInfo,hinf,Builtin.lenOf,Builtin.firstCells,hl,storeCells,ByteArray.size]
 ·have hf:=Lib.run_firstCells_string (P:=P) w inf.size ⟨s.toArray⟩
  rw[hsz,Nat.mul_one]at hfit⊢
  have hst:=run_storeCells_at P blk sLen et (Lib.strCells ⟨s.toArray⟩) 0 cur w hg (by simpa using hfit) (Lib.strCells_oneCell _)
  simp only[Nat.add_zero]at hst
  simp only[hsize]at hf
  have hi1:inf.size=1:=by rw[hs1,hsz]
  simp only[hi1]at hf
  simp[Builtin.append_,Go.run_underlying ht,Go.run_underlying hu,sizeOf,typeInfo,hinf,hi1,Builtin.lenOf,hsize,hroom,hf,Addr.add_lit,hst]
 ·have hb:=D8 hby
  have:=run_append_nil_string (P:=P) w t u ty e inf (BZ ei) ht hu hinf hs3 ⟨s.toArray⟩ (by rw[hsize];omega) (by rw[hsize];omega) (by rw[hsize,hs2];omega)
  rw[this,hsize]
  simp[Lib.strCells]
 ·have hb:=D8 hby
  have:=Lib.run_append_grow_string (P:=P) w t u ty e inf (BZ ei) ht hu hinf hs3 b sLen sCap olds (by rw[hlo,hs1]) holds ⟨s.toArray⟩ (by rw[hsize];omega) (by rw[hsize];omega) (by rw[hsize];exact growslice_fits Aa (by rw[hs2];omega))
  rw[this,hsize]
end
section
variable {P:Program} {c:Conf} {n:Nat} {ops:Array Oper} {rest:List Oper} {env:Env} {σ:St} {o:Oper} {k:Env->St->Prop}
theorem VL (hp0:ProgOk P c) {cl:Call} {so xo:Operand} {t u e d s0 b0 b len ebb u1 u2:Nat} {z0 ez uz:List T} {ek:TK} {es:List (List T)} {s:List UInt8} {e2:Env} (hg:o.guard=none) (ho:o.op=.call cl) (hcl:cl.callee=.builtin .append) (ha:cl.args= #[so,xo])
  (hty:cl.argTypes= #[t,u]) (hd:o.dst=some d) (hs:ev env so=some (.row b 1 0 len)) (hx:ev env xo=some (.t (.str s))) (ht:look c.te t=some ⟨s0,b0,z0,.slice e⟩) (he:look c.te e=some ⟨1,ebb,ez,ek⟩) (hu:look c.te u=some ⟨u1,u2,uz,.string⟩)
  (hb:look σ b=some (.grow 1 es)) (hlen:len=es.length) (hp:B4 n o.dst (.row b 1 0 (es++Dt s).length) (Fs b env)=some e2)
  (hlim:(es++Dt s).length*(ebb+1)<=140737488355328) (h:A2 P n ops rest e2 ((b,.grow 1 (es++Dt s))::CP b σ) k):A2 P n ops (o::rest) env σ k:=by
 simp only[A2,AL,hg]
 intro w g a hi hee
 obtain⟨dd,hdd,hdk⟩:=(hp0.te _ _ ht).und'
 have hut:P.underlying t=some (.slice e):=by cases dd<;>simp[Dj]at hdk;subst hdk;exact hdd
 obtain⟨du,hdu,hduk⟩:=(hp0.te _ _ hu).und'
 have huu:P.underlying u=some .string:=by cases du<;>simp[Dj]at hduk;exact hdu
 obtain⟨inf,hinf,hs1,hs2,hs3⟩:=(hp0.te _ _ he).info'
 have hlim':(len+(Dt s).length)*(ebb+1)<=140737488355328:=by rw[hlen];simpa using hlim
 have hsr:=AG hee hs
 have hxr:=AG hee hx
 have hxs:a.eval xo=.string ⟨s.toArray⟩:=Fm hxr
 have hsz:(⟨s.toArray⟩:ByteArray).size=s.length:=by simp[ByteArray.size]
 obtain⟨v,w',h1,h2⟩:=XW (P:=P) (ty:=o.type) (u:=u) hp0.te hi he hee hb Aa hsr hlim' (Aap (ty:=o.type) hut huu hinf hs1 hs2 hs3 Y s) (Sq s)
  (by rw[Lib.strCells_length,hsz,D9];simp)
  (fun i v y hv hy=>by
   rw[D9]at hy
   simp only[Lib.strCells,List.getElem?_map]at hv hy
   cases hc:s[i]? with
   |none=>simp[hc]at hy
   |some ch=>
    simp[hc]at hv hy
    subst hv;subst hy;exact .int _ _)
  (fun i y hy=>by
   rw[D9,List.getElem?_map]at hy
   cases hc:s[i]? with
   |none=>simp[hc]at hy
   |some ch=>simp[hc]at hy;subst hy;rfl)
 refine BJ.value (v:=v) (w':=w') ?_ ⟨_,_,_,h2,e2,?_,?_⟩
 ·simp[execOp,ho,resolve,hcl,invoke,builtin,ha,hty,hxs,h1]
 ·subst hlen;simpa using hp
 ·subst hlen;simpa using h
theorem IQ (hp0:ProgOk P c) {cl:Call} {so xo:Operand} {t u e d s0 b0 ebb u1 u2:Nat} {z0 ez uz:List T} {ek:TK} {es:List (List T)} {s:List UInt8} {e2:Env} (hg:o.guard=none) (ho:o.op=.call cl) (hcl:cl.callee=.builtin .append) (ha:cl.args= #[so,xo])
  (hty:cl.argTypes= #[t,u]) (hd:o.dst=some d) (hs:ev env so=some (.t (.slice .full 1 es))) (hx:ev env xo=some (.t (.str s))) (ht:look c.te t=some ⟨s0,b0,z0,.slice e⟩) (he:look c.te e=some ⟨1,ebb,ez,ek⟩) (hu:look c.te u=some ⟨u1,u2,uz,.string⟩)
  (hp:B4 n o.dst (.t (.slice .any 1 (es++Dt s))) env=some e2)
  (hlim:(es++Dt s).length*(ebb+1)<=140737488355328) (h:A2 P n ops rest e2 σ k):A2 P n ops (o::rest) env σ k:=by
 simp only[A2,AL,hg]
 intro w g a hi hee
 obtain⟨dd,hdd,hdk⟩:=(hp0.te _ _ ht).und'
 have hut:P.underlying t=some (.slice e):=by cases dd<;>simp[Dj]at hdk;subst hdk;exact hdd
 obtain⟨du,hdu,hduk⟩:=(hp0.te _ _ hu).und'
 have huu:P.underlying u=some .string:=by cases du<;>simp[Dj]at hduk;exact hdu
 obtain⟨inf,hinf,hs1,hs2,hs3⟩:=(hp0.te _ _ he).info'
 have hlim':(es.length+(Dt s).length)*(ebb+1)<=140737488355328:=by simpa using hlim
 have hsr:=AG hee hs
 have hxr:=AG hee hx
 have hxs:a.eval xo=.string ⟨s.toArray⟩:=Fm hxr
 have hsz:(⟨s.toArray⟩:ByteArray).size=s.length:=by simp[ByteArray.size]
 obtain⟨v,w',h1,h2⟩:=Ur (P:=P) (ty:=o.type) (u:=u) hp0.te hi he hee hsr hlim' (Aap (ty:=o.type) hut huu hinf hs1 hs2 hs3 Y s) (Sq s)
  (by rw[Lib.strCells_length,hsz,D9];simp)
  (fun i v y hv hy=>by
   rw[D9]at hy
   simp only[Lib.strCells,List.getElem?_map]at hv hy
   cases hc:s[i]? with
   |none=>simp[hc]at hy
   |some ch=>
    simp[hc]at hv hy
    subst hv;subst hy;exact .int _ _)
  (fun i y hy=>by
   rw[D9,List.getElem?_map]at hy
   cases hc:s[i]? with
   |none=>simp[hc]at hy
   |some ch=>simp[hc]at hy;subst hy;rfl)
 refine BJ.value (v:=v) (w':=w') ?_ ⟨_,_,_,h2,e2,?_,?_⟩
 ·simp[execOp,ho,resolve,hcl,invoke,builtin,ha,hty,hxs,h1]
 ·exact hp
 ·exact h
end
end Go.Am
namespace Go.Am
section
variable {P:Program} {c:Conf} {n:Nat} {ops:Array Oper} {rest:List Oper} {env:Env} {σ:St} {o:Oper} {k:Env->St->Prop}
theorem So (s:List UInt8) {i:Nat} (h:i<s.length):(Dt s).flatten[i]?=some (T.int .u8 (s[i].toNat:Int)):=by
 rw[D9];simp[h]
theorem UY (hp0:ProgOk P c) {t s0 b0 e:Nat} {z0:List T} (ht:look c.te t=some ⟨s0,b0,z0,.slice e⟩):P.underlying t=some (.slice e):=by
 obtain⟨dd,hdd,hdk⟩:=(hp0.te _ _ ht).und'
 cases dd<;>simp[Dj]at hdk;subst hdk;exact hdd
theorem A00 (hp0:ProgOk P c) {t s0 b0:Nat} {z0:List T} (ht:look c.te t=some ⟨s0,b0,z0,.string⟩):P.underlying t=some .string:=by
 obtain⟨dd,hdd,hdk⟩:=(hp0.te _ _ ht).und'
 cases dd<;>simp[Dj]at hdk;exact hdd
theorem Ayl (hp0:ProgOk P c) {t s0 b0:Nat} {z0:List T} {kk:IntKind} (ht:look c.te t=some ⟨s0,b0,z0,.int kk⟩):P.underlying t=some (.int kk):=by
 obtain⟨dd,hdd,hdk⟩:=(hp0.te _ _ ht).und'
 cases dd<;>simp[Dj]at hdk;subst hdk;exact hdd
theorem Ci (hp0:ProgOk P c) {t u e s0 b0 u1 u2 e1 e2':Nat} {z0 ez uz:List T} {xo:Operand} {m:SM} {es:List (List T)} {s:List UInt8} {e2:Env} (hg:o.guard=none) (ho:o.op=.convert t u xo) (hx:ev env xo=some (.t (.slice m 1 es)))
  (ht:look c.te t=some ⟨s0,b0,z0,.slice e⟩) (he:look c.te e=some ⟨e1,e2',ez,.int .u8⟩) (hu:look c.te u=some ⟨u1,u2,uz,.string⟩) (hes:es=Dt s) (hp:B4 n o.dst (.t (.str s)) env=some e2)
  (h:A2 P n ops rest e2 σ k):A2 P n ops (o::rest) env σ k:=by
 simp only[A2,AL,hg]
 intro w g a hi hee
 have h1:=UY hp0 ht
 have h2:=Ayl hp0 he
 have h3:=A00 hp0 hu
 subst hes
 have hr:=Aw (AG hee hx)
 have hrun:(convert t u (a.eval xo)).run P w=.ok (.string ⟨s.toArray⟩) w:=by
  generalize a.eval xo=v at hr
  generalize hes':Dt s=es at hr
  cases hr with
  |sliceNil=>
   have:s=[]:=by
    have:=congrArg List.length hes'
    rw[DI]at this;simpa using this
   subst this
   have:=run_convert_bytes_nil (P:=P) w t e h1 h2 0 0 u h3
   rw[this];rfl
  |sliceZ a _ _ _=>
   have:s=[]:=by
    have:=congrArg List.length hes'
    rw[DI]at this;simpa using this
   subst this
   exact run_convert_bytes_back w t u e a 0 [] h1 h2 h3 (fun j hj=>by simp at hj)
  |slice b off len cap _ _ _ vs hl hc hf hm hp hsz hone hcell hrel=>
   subst hes'
   have hl':len=s.length:=by rw[<-hl,DI]
   subst hl'
   refine run_convert_bytes_back w t u e ⟨b,off,none⟩ cap s h1 h2 h3 (fun j hj=>?_)
   rw[BO,(hcell j _ (So s hj)).2]
   have:=hrel j _ (So s hj)
   generalize vs j=y at this
   cases this;rfl
 refine BJ.value (v:=.string ⟨s.toArray⟩) (w':=w) (by simp[execOp,ho,hrun]) ⟨_,env,σ,⟨g,A1t _ _,.t _ _ (.str s),hi,hee⟩,e2,hp,h⟩
end
end Go.Am
namespace Go.Am
section
variable {P:Program} {c:Conf} {n:Nat} {ops:Array Oper} {rest:List Oper} {env:Env} {σ:St} {o:Oper} {k:Env->St->Prop}
theorem Dn (hp0:ProgOk P c) {t e d s0 b0 esz ebb l cc:Nat} {z0 ez:List T} {ek:TK} {lo co:Operand} {k1 k2:IntKind} {ln cn:Int} {x:AV} {e1 e2:Env} {s:St} (hg:o.guard=none) (ho:o.op=.makeSlice t lo co) (hd:o.dst=some d) (hl:ev env lo=some (.t (.int k1 ln))) (hc:ev env co=some (.t (.int k2 cn)))
  (ht:look c.te t=some ⟨s0,b0,z0,.slice e⟩) (he:look c.te e=some ⟨esz,ebb,ez,ek⟩) (hln:ln=(l:Int)) (hcn:cn=(cc:Int))
  (hf:DF (2*d) env σ (fun env σ=>some (AV.row (2*d) esz 0 l,env,(2*d,Blk.grow esz (List.replicate l ez))::σ))=some (x,e1,s)) (hp:B4 n o.dst x e1=some e2)
  (hle:l<=cc) (hlim:cc*(ebb+1)<=140737488355328) (h:A2 P n ops rest e2 s k):A2 P n ops (o::rest) env σ k:=by
 subst hln;subst hcn
 refine E6 hp0 (x:=x) (e:=e1) (s:=s) hg ?_ hp h
 unfold Dx
 rw[ho]
 simp only[F1,ho,hd,hl,hc,R6,ht,he,FY,hle,hlim,if_true]
 exact hf
theorem Art (hp0:ProgOk P c) {cl:Call} {so xo:Operand} {t u e s0 b0 b len sz ebb:Nat} {z0 ez:List T} {ek:TK} {es es':List (List T)} {m:SM} {e2:Env} (hg:o.guard=none) (ho:o.op=.call cl) (hcl:cl.callee=.builtin .copy) (ha:cl.args= #[so,xo])
  (hty:cl.argTypes= #[t,u]) (hs:ev env so=some (.row b sz 0 len)) (hx:ev env xo=some (.t (.slice m sz es'))) (ht:look c.te t=some ⟨s0,b0,z0,.slice e⟩) (he:look c.te e=some ⟨sz,ebb,ez,ek⟩)
  (hb:look σ b=some (.grow sz es)) (hlen:len=es.length) (hl':es'.length=es.length) (hp:B4 n o.dst (.t (.int .i64 (es.length:Int))) env=some e2)
  (h:A2 P n ops rest e2 ((b,.grow sz es')::CP b σ) k):A2 P n ops (o::rest) env σ k:=by
 simp only[A2,AL,hg]
 intro w g a hi hee
 have hut:=UY hp0 ht
 obtain⟨inf,hinf,hs1,hs2,hs3⟩:=(hp0.te _ _ he).info'
 have hs1:inf.size=sz:=hs1
 have hsr:=AG hee hs
 have hxr:=Aw (AG hee hx)
 subst hlen
 obtain⟨hext,hi1,hk⟩:=Ad2 hi b (fun hb'=>by obtain⟨cs,h⟩:=(hi.bx _ hb').2;rw[hb]at h;cases h)
 have hlk:look (CP b σ) b=none:=by rw[DD];simp
 obtain⟨hall0,hok⟩:=hi.ok b _ hb
 suffices hrun: ∃w',(Builtin.copy_ #[t,u] o.type #[a.eval so,a.eval xo]).run P w=.ok (.int .i64 (es.length:Int)) w'/\ ∃g',Ext w g w' g'/\Inv w' g' ((b,.grow sz es')::CP b σ)/\AK w' g' a env by
  obtain⟨w',h1,g',h2,h3,h4⟩:=hrun
  exact BJ.value (v:=.int .i64 (es.length:Int)) (w':=w') (by simp[execOp,ho,resolve,hcl,invoke,builtin,ha,hty,h1]) ⟨_,_,_,⟨g',h2,.t _ _ (.int _ _),h3,h4⟩,e2,hp,h⟩
 generalize a.eval so=us at hsr⊢
 generalize a.eval xo=ux at hxr⊢
 have envOf: ∀{w':World} {g':G},Ext w g w' g'->(∀q p,g.β q=some p->g'.β q=some p)->AK w' g' a env:=fun hx hβ t x ht'=>(hee t x ht').mono hx.keeps hβ hx.shape
 have h0:es.length=0-> ∀a0 cap0,(Builtin.copy_ #[t,u] o.type #[.slice a0 0 cap0,ux]).run P w=.ok (.int .i64 0) w:=by
  intro he0 a0 cap0
  have he':es'.length=0:=by omega
  rcases Cq hxr with⟨h1,_⟩|⟨bb,off,capx,h1,_⟩|⟨az,h1,_⟩
  ·subst h1;cases a0<;>simp[Builtin.copy_,Go.run_underlying hut,sizeOf,typeInfo,hinf,Builtin.lenOf,Builtin.firstCells,storeCells,goInt]
  ·subst h1;rw[he'];cases a0<;>simp[Builtin.copy_,Go.run_underlying hut,sizeOf,typeInfo,hinf,Builtin.lenOf,Builtin.firstCells,storeCells,goInt,loadCells,loadCellsFrom]
  ·subst h1;cases a0<;>simp[Builtin.copy_,Go.run_underlying hut,sizeOf,typeInfo,hinf,Builtin.lenOf,Builtin.firstCells,storeCells,goInt,loadCells,loadCellsFrom]
 have hnil':es.length=0->es'=[]:=fun he0=>List.eq_nil_of_length_eq_zero Aa
 generalize hel:es.length=len at hsr
 cases hsr with
 |rowNil _ _ a0 ha0 hβ=>
  have he':=hnil' hel
  subst he'
  obtain⟨k1,k2,k3⟩:=PM (sz:=sz) hi1 hlk
  refine⟨w,h0 hel a0 0,_,hext.trans k1,k2,envOf (hext.trans k1) fun q p hq=>?_⟩
  by_cases e':q=b
  ·subst e';rw[hβ]at hq;cases hq;simp[G.with]
  ·simp[G.with,G.without,e',hq]
 |row _ _ _ _ blk off0 cap e0 n0 hβ hsh ho' hlc hn0=>
  rcases hok with⟨h1,_⟩|⟨blk',vs,et,h1,h2,h3,h4,h5⟩
  ·rw[hβ]at h1;cases h1
  ·rw[hβ]at h1;cases h1
   have hno: ∀q,(g.without b).β q≠some (some blk):=by
    intro q hq
    simp only[G.without]at hq
    split at hq
    ·cases hq
    ·rename_i hne;exact hne (hi.inj _ _ _ hq hβ)
   have hgβ: ∀q p,g.β q=some p->((g.without b).with b (some blk)).β q=some p:=by
    intro q p hq
    by_cases e':q=b
    ·subst e';rw[hβ]at hq;cases hq;simp[G.with]
    ·simp[G.with,G.without,e',hq]
   by_cases hz:len=0
   ·subst hz
    have he':=hnil' hel
    subst he'
    obtain⟨k1,k2,k3⟩:=PI hi1 hlk h2 (hi.sx.bs _ _ hβ) hno h3 Y (Sets.refl h3) (B:=.grow sz []) (fun hr=>⟨by simp,.inr ⟨blk,vs,et,by simp[G.with],.inr Y,h3,by simp,by simp⟩⟩)
    exact⟨w,h0 hel _ _,_,hext.trans k1,k2,envOf (hext.trans k1) hgβ⟩
   ·have ho0:off0=0:=by
     rcases ho' with h'|h'
     ·simpa using h'
     ·omega
    subst ho0
    rcases Cq hxr with⟨_,h1⟩|⟨bb,off,capx,h1,_,_,_,hsz',hcell⟩|⟨_,_,h1,_⟩
    ·subst h1;simp at hl';omega
    rotate_left
    ·subst h1;simp at hl';omega
    ·subst h1
     obtain⟨ns,n1,n2,n3⟩:=Il (w:=w) (ts:=es'.flatten) (b:=bb) (off:=off) (M:=g.M) (fun i y hy=>(hcell i y hy).2.2)
     have hnf:=Dg sz es' hsz'
     have hef:=Dg sz es hall0
     have hones: ∀u∈ns,u.oneCell'=true:=by
      intro u hu'
      obtain⟨i,hi',rfl⟩:=List.getElem_of_mem hu'
      have hlt:i<es'.flatten.length:=by rw[<-n1];exact hi'
      exact(MN (n3 i _ _ (List.getElem?_eq_getElem hi') (List.getElem?_eq_getElem hlt)) (hcell i _ (List.getElem?_eq_getElem hlt)).2.1).1
     have hfit:ns.length<=vs.size:=by rw[n1,hnf,hl',<-hef];exact h4
     have hf:=run_firstCells_some (P:=P) w inf.size len ⟨bb,off,none⟩ es'.length capx ns (by rw[n1,hnf,hl',hel,hs1]) (fun j v hv=>by rw[BO];exact n2 j v hv)
     have hst:=run_storeCells_at P blk 0 et ns 0 vs w h3 (by simpa using hfit) hones
     have hmin:Nat.min es'.length len=len:=by rw[hl',hel];exact Nat.min_self _
     have hrun:(Builtin.copy_ #[t,u] o.type #[.slice (some ⟨blk,0,none⟩) len cap,.slice (some ⟨bb,off,none⟩) es'.length capx]).run P w=.ok (.int .i64 (len:Int)) (w.setRow blk (vs.toList.take (0+0)++ns++vs.toList.drop (0+0+ns.length)).toArray):=by
      simp only[Builtin.copy_]
      simp[Go.run_underlying hut,sizeOf,typeInfo,hinf,Builtin.lenOf,hmin,hf,hst,goInt]
     have hsets:=Sets.setRow h3 (vs.toList.take (0+0)++ns++vs.toList.drop (0+0+ns.length)).toArray
     have hvsz:(vs.toList.take (0+0)++ns++vs.toList.drop (0+0+ns.length)).toArray.size=vs.size:=by
      simp;omega
     obtain⟨k1,k2,k3⟩:=PI hi1 hlk h2 (hi.sx.bs _ _ hβ) hno h3 hvsz hsets (B:=.grow sz es') (fun hr=>⟨hsz',.inr ⟨blk,_,et,by simp[G.with],.inr Y,hsets.new,by rw[hvsz,<-n1];exact hfit,fun i v y hv hy=>by
      have hlt:=AW hy
      have hv':ns[i]?=some v:=by
       have:(vs.toList.take (0+0)++ns++vs.toList.drop (0+0+ns.length))[i]?=some v:=by simpa using hv
       simp only[Nat.add_zero,List.take_zero,List.nil_append]at this
       rw[List.getElem?_append_left (by rw[n1];exact hlt)]at this;exact this
      exact⟨(hcell i y hy).2.1,Aw (hr _ _ (.t _ _ (hext.same_world (n3 i v y hv' hy))))⟩⟩⟩)
     exact⟨_,hrun,_,hext.trans k1,k2,envOf (hext.trans k1) hgβ⟩
end
end Go.Am
namespace Go.Am
section
variable {P:Program} {c:Conf} {n:Nat} {ops:Array Oper} {rest:List Oper} {env:Env} {σ:St} {o:Oper} {k:Env->St->Prop}
theorem Aky (hp0:ProgOk P c) {t m d sz:Nat} {mm:SM} {parts:Array (Nat×Operand)} {es:List (List T)} {env' e e2:Env} {σ' s:St} {x:AV} (hg:o.guard=none) (ho:o.op=.buildSlice t m parts) (hd:o.dst=some d) (hz:Jj o env σ=(env',σ')) (hs:DA c.te t m env' parts.toList=some (.t (.slice mm sz es)))
  (hm:Nat.blt 0 m=true) (hf:DF (2*d) env' σ' (fun env σ=>some (AV.row (2*d) sz 0 es.length,env,(2*d,Blk.grow sz es)::σ))=some (x,e,s)) (hp:B4 n o.dst x e=some e2) (h:A2 P n ops rest e2 s k):A2 P n ops (o::rest) env σ k:=by
 simp only[A2,AL,hg]
 intro w g a hi hee
 obtain⟨g0,x0,i0,e0⟩:=MJ hi hee hz
 obtain⟨v,w',h1,h2,h3,h4,h5,hfr⟩:=IF (P:=P) hp0.te i0 e0 hs
 obtain⟨f1,f2,f3,cells',et,f4,f5,f6⟩:=hfr mm sz es Y (by simpa[Nat.blt_eq]using hm)
 obtain⟨env1,σ1,g1,hk,hlk,hext,hi1,he1⟩:=Gj hf i0 e0
 simp at hk
 obtain⟨rfl,rfl,rfl⟩:=hk
 subst f1
 have hfl:=Dg sz es f3
 have hpost:=Nw (w':=w') (cap:=m) (es':=es) (sz:=sz) hi1 hlk he1 f4 f3 (by rw[hfl,f5,f2];exact Nat.le_refl _) Aa (by rw[f5];exact Nat.le_refl _) (fun i v y hv hy=>⟨(f6 i v y hv hy).1,hext.same_world (f6 i v y hv hy).2⟩)
 rw[f2]at hpost hp
 refine BJ.value (v:=_) (w':=w') ?_ ⟨_,_,_,(hpost.lift hext).lift x0,e2,hp,by rw[f2]at*;exact h⟩
 simp only[execOp,ho,Sem.run_bind]
 simp[h1]
theorem Yl {t:Nat} {ti:TI} (h:TeOk1 P t ti):(BZ ti).cells.size=ti.size:=by
 have hzr:=DM (w:=default) (g:=⟨fun _=>none,fun _=>False,fun _ _=>False,fun _=>False,fun _=>none,0⟩) h
 rw[<-h.len,<-AU,<-hzr.1];simp
theorem Atu {m:Nat} (h:m<9223372036854775808):IntKind.i64.wrap (m:Int)=(m:Int):=by
 simp[IntKind.wrap,IntKind.bits,IntKind.signed];omega
theorem Ux (hp0:ProgOk P c) {cl:Call} {so xo:Operand} {t u e d s0 b0 sz0 esz ebb u1 u2 m:Nat} {z0 ez uz:List T} {ek:TK} {es0:List (List T)} {mn:Int} {x:AV} {e1 e2:Env} {s:St} (hg:o.guard=none) (ho:o.op=.call cl) (hcl:cl.callee=.builtin .append) (ha:cl.args= #[so,xo])
  (hty:cl.argTypes= #[t,u]) (hd:o.dst=some d) (hs:ev env so=some (.t (.slice .nil sz0 es0))) (hx:ev env xo=some (.t (.int .i64 mn))) (ht:look c.te t=some ⟨s0,b0,z0,.slice e⟩) (he:look c.te e=some ⟨esz,ebb,ez,ek⟩) (hu:look c.te u=some ⟨u1,u2,uz,.int .i64⟩) (hmn:mn=(m:Int))
  (hf:DF (2*d) env σ (fun env σ=>some (AV.row (2*d) esz 0 m,env,(2*d,Blk.grow esz [])::σ))=some (x,e1,s)) (hp:B4 n o.dst x e1=some e2)
  (hpos:0<m) (hlim:m*(ebb+1)<=140737488355328) (h:A2 P n ops rest e2 s k):A2 P n ops (o::rest) env σ k:=by
 subst hmn
 simp only[A2,AL,hg]
 intro w g a hi hee
 have hut:=UY hp0 ht
 have huu:=Ayl hp0 hu
 obtain⟨inf,hinf,hs1,hs2,hs3⟩:=(hp0.te _ _ he).info'
 have hzs:(BZ ⟨esz,ebb,ez,ek⟩).cells.size=esz:=Yl (hp0.te _ _ he)
 have hb:=D8 hlim
 have hus:a.eval so=.slice none 0 0:=by
  rcases Cq (Aw (AG hee hs))with⟨h1,_⟩|⟨_,_,_,_,_,_,h1,_⟩|⟨_,_,_,h1⟩
  ·exact h1
  ·exact absurd Y h1
  ·exact absurd Y h1
 have hxs:a.eval xo=.int .i64 (m:Int):=C3 (AG hee hx)
 obtain⟨env1,σ1,g1,hk,hlk,hext,hi1,he1⟩:=Gj hf hi hee
 simp at hk
 obtain⟨rfl,rfl,rfl⟩:=hk
 have hw:IntKind.i64.wrap (m:Int)=(m:Int):=Atu Aa
 have hby:m*inf.bytes<=140737488355328:=by rw[hs2];exact hb.1
 have hbig: ¬(281474976710656<(m:Int)*(inf.bytes:Int)):=by
  rw[<-Int.natCast_mul];omega
 have h63': ¬(9223372036854775807<(m:Int)):=by omega
 have h48': ¬(281474976710656<Builtin.nextslicecap m 0*inf.bytes):=by rw[nextslicecap_zero hpos];omega
 have hn0:m≠0:=by omega
 obtain⟨arr,hrun,harr⟩: ∃arr:Array Value,(Builtin.append_ #[t,u] o.type #[.slice none 0 0,.int .i64 (m:Int)]).run P w=.ok (.slice (some ⟨w.heap.size,0,none⟩) m (grownCap w m 0 e)) (w.drew.alloc (.cells arr e))/\arr.size=grownCap w m 0 e*esz:=by
  have hge:=grownCap_ge w m 0 e
  refine⟨(if m*esz=0 then #[]else Builtin.zeroCells (BZ ⟨esz,ebb,ez,ek⟩).cells m)++Builtin.zeroCells (BZ ⟨esz,ebb,ez,ek⟩).cells (grownCap w m 0 e-m),?_,?_⟩
  ·have hneg: ¬((m:Int)<0):=by omega
   simp[Builtin.append_,Go.run_underlying hut,Go.run_underlying huu,sizeOf,typeInfo,zeroValue,hinf,hs1,hs3,asInt,asIntOf,hw,hneg,hbig,hn0,h63',h48',Question.forced,run_firstCells_none,newRow,grownCap]
   by_cases hz:m*esz=0<;>simp[hz]
  ·by_cases hz:m*esz=0
   ·have:esz=0:=by
     rcases Nat.mul_eq_zero.1 hz with h'|h'
     ·omega
     ·exact h'
    simp only[hz,if_true,Array.size_append,size_zeroCells,hzs]
    rw[this];simp
   ·simp only[hz,if_false,Array.size_append,size_zeroCells,hzs,<-Nat.add_mul]
    congr 1;omega
 have hm:=A1u w (.cells arr e)
 have hge:=grownCap_ge w m 0 e
 obtain⟨k1,k2,k3⟩:=KS hi1 hlk hm (B:=.grow esz []) (fun hr=>⟨by simp,.inr ⟨w.heap.size,arr,e,by simp[G.with],.inr Y,hm.new,by simp,by simp⟩⟩)
 refine BJ.value (v:=.slice (some ⟨w.heap.size,0,none⟩) m (grownCap w m 0 e)) (w':=w.drew.alloc (.cells arr e)) (by simp[execOp,ho,resolve,hcl,invoke,builtin,ha,hty,hus,hxs,hrun]) ⟨_,_,_,⟨_,hext.trans k1,?_,k2,he1.mono k3⟩,e2,hp,h⟩
 exact .row (2*d) esz 0 m w.heap.size 0 _ e arr.size (by simp[G.with]) (by simp only[World.shape?,hm.new]) (.inl Ac) hge (by simp[harr])
theorem Af0 (hp0:ProgOk P c) {cl:Call} {so:Operand} {t s0 b0 e sz0:Nat} {z0:List T} {es0:List (List T)} {e2:Env} (hg:o.guard=none) (ho:o.op=.call cl) (hcl:cl.callee=.builtin .cap) (ha:cl.args= #[so]) (hty:cl.argTypes= #[t]) (hs:ev env so=some (.t (.slice .nil sz0 es0)))
  (ht:look c.te t=some ⟨s0,b0,z0,.slice e⟩) (hp:B4 n o.dst (.t (.int .i64 0)) env=some e2) (h:A2 P n ops rest e2 σ k):A2 P n ops (o::rest) env σ k:=by
 simp only[A2,AL,hg]
 intro w g a hi hee
 have hut:=UY hp0 ht
 have hus:a.eval so=.slice none 0 0:=by
  rcases Cq (Aw (AG hee hs))with⟨h1,_⟩|⟨_,_,_,_,_,_,h1,_⟩|⟨_,_,_,h1⟩
  ·exact h1
  ·exact absurd Y h1
  ·exact absurd Y h1
 have hrun:(Builtin.cap_ #[t] o.type #[.slice none 0 0]).run P w=.ok (.int .i64 0) w:=by
  simp[Builtin.cap_,Go.run_underlying hut,goInt]
 exact BJ.value (v:=.int .i64 0) (w':=w) (by simp[execOp,ho,resolve,hcl,invoke,builtin,ha,hty,hus,hrun]) ⟨_,env,σ,⟨g,A1t _ _,.t _ _ (.int _ _),hi,hee⟩,e2,hp,h⟩
end
end Go.Am
namespace Go.Am
section
variable {w:World} {g:G} {σ:St} {D:Nat} {o0:Obj}
theorem MT (hi:Inv w g σ) {b l:Nat} {st st':LoopState} {pe pe':Option Code} {ps:Array Tmp} {asg bd:Code} {n:Nat} {env:Env} (hb:look σ b=some (.loop l st pe ps asg bd n env)):
  ∃r:Loop,w.heap[l]?=some (.loop r)/\r.state=st/\r.pending=pe/\r.params=ps/\r.assign=asg/\r.body=bd/\n<=r.tmps.size/\g.own l/\(∀t x,look env t=some x->Rel w g (r.tmps.getD t undef) x)/\
   Inv (w.putObj l (.loop {r with state:=st',pending:=pe'})) g (upd σ b (.loop l st' pe' ps asg bd n env)):=by
 obtain⟨r,h1,h2,h3,⟨h4,h5,h6,h7,h8⟩,h9,h10⟩:=hi.ok b _ hb
 refine⟨r,h3,h4,h5,h6,h7,h8,h9,h2,h10,?_⟩
 have hr: ∀v x,Rel w g v x->Rel (w.putObj l (.loop {r with state:=st',pending:=pe'})) g v x:=fun v x h=>Zb h3 Y _ h
 refine⟨fun c C hC=>?_,fun c=>?_,hi.inj,fun blk h=>by rw[World.putObj_size];exact hi.lt blk h,fun c hc=>⟨(hi.bx c hc).1,?_⟩,hi.dis,fun p hp=>⟨(hi.im p hp).1,?_⟩,by rw[World.putObj_size];exact hi.lo,hi.sx.mono (by rw[World.putObj_size];exact Nat.le_refl _) Y (fun _ _ _ h=>h) (fun blk e _ _ hn=>World.putObj_heap_other fun e=>hn b (e▸h1)) (fun c blk h=>.inl ⟨c,h⟩) (fun c L hL=>?_)⟩
 ·rw[B3]at hC
  split at hC
  ·rename_i e;subst e;cases hC
   exact⟨{r with state:=st',pending:=pe'},h1,h2,World.putObj_heap_same (Cw h3),⟨Y,Y,h6,h7,h8⟩,h9,fun t x ht=>hr _ _ (h10 t x ht)⟩
  ·rename_i hne
   refine(hi.ok c C hC).mono Y (fun _ _ h=>h) (fun blk hb'=>World.putObj_heap_other fun e=>?_) hr
   subst e;exact hne (hi.inj _ _ _ h1 hb')
 ·rw[B3]
  by_cases e:b=c
  ·subst e;simp[h1]
  ·simp only[if_neg e];exact hi.dom c
 ·rw[B3]
  by_cases e:b=c
  ·subst e
   obtain⟨_,cs,h⟩:=hi.bx b hc
   rw[hb]at h;cases h
  ·simp only[if_neg e];exact(hi.bx c hc).2
 ·have hq:=(hi.im p hp).2
  have hne:p.1≠l:=fun e=>by rw[e]at hq;simp[World.cell?,h3]at hq
  rw[BX (World.putObj_heap_other hne)];exact hq
 ·rw[B3]at hL
  split at hL
  ·cases hL
  ·exact hL
theorem G3.put {ds:List Deferred} {r:Loop} (hD:w.heap[D]?=some (.loop r)) (o:Obj) (h:G3 w g ds):G3 (w.putObj D o) g ds:=by
 obtain⟨Ds,h1,h2,h3⟩:=h
 refine⟨Ds,h1,h2,fun E hE=>?_⟩
 obtain⟨k1,k2⟩:=h3 E hE
 have hne:E≠D:=fun e=>by subst e;rw[hD]at k1;cases k1
 exact⟨by rw[World.putObj_heap_other hne];exact k1,k2⟩
end
def QX:List Nat->List AV->Env->Env
 |t::ts,x::xs,e=>QX ts xs ((t,x)::e)
 |_,_,e=>e
theorem Ts {w:World} {g:G}: ∀(ps:List Nat) (vs:List Value) (xs:List AV) (tmps:Array Value) (e:Env),vs.length=xs.length->(∀(i:Nat) v x,vs[i]?=some v->xs[i]?=some x->Rel w g v x)->(∀t∈ps,t<tmps.size)->AK w g ⟨tmps,[]⟩ e->
  AK w g ⟨(ps.zip vs).foldl (fun tmps p=>tmps.setIfInBounds p.1 p.2) tmps,[]⟩ (QX ps xs e)
 |[],vs,xs,tmps,e,_,_,_,he=>by simpa[QX]using he
 |t::ts,[],[],tmps,e,_,_,_,he=>by simpa[QX]using he
 |t::ts,v::vs,x::xs,tmps,e,hl,hr,hlt,he=>by
  simp only[List.zip_cons_cons,List.foldl_cons,QX]
  refine Ts ts vs xs _ _ (by simpa using hl) (fun i v x a b=>hr (i+1) v x (by simpa using a) (by simpa using b)) (fun u hu=>by simp;exact hlt u (by simp[hu])) ?_
  intro u y hy
  rw[Ao]at hy
  have ht:=hlt t Ac
  split at hy
  ·rename_i e';subst e';cases hy
   have:(tmps.setIfInBounds t v).getD t undef=v:=by simp[Array.getD,ht]
   rw[this];exact hr 0 v x Y Y
  ·rename_i e'
   have e2:(tmps.setIfInBounds t v).getD u undef=tmps.getD u undef:=by
    simp only[Array.getD_eq_getD_getElem?]
    rw[Array.getElem?_setIfInBounds_ne e']
   simp only[e2];exact he u y hy
 |t::ts,[],x::xs,_,_,hl,_,_,_=>by simp at hl
 |t::ts,v::vs,[],_,_,hl,_,_,_=>by simp at hl
theorem TF: ∀(l:List (Nat×Value)) (tmps:Array Value),(l.foldl (fun tmps p=>tmps.setIfInBounds p.1 p.2) tmps).size=tmps.size
 |[],tmps=>rfl
 |p::r,tmps=>by simp only[List.foldl_cons];rw[TF r];simp
def Pu:Env->Env
 |[]=>[]
 |(t,x)::r=>(t,bif x.free then x else .top)::Pu r
theorem Aea {w w':World} {g g':G} (hk:HC w g.M w' g'.M) {a:Act}: ∀{env:Env},AK w g a env->AK w' g' a (Pu env):=by
 intro env he t x h
 have key: ∀(env:Env),look (Pu env) t=some x-> ∃y,look env t=some y/\((y.free=true/\x=y)\/x=.top):=by
  intro env
  induction env with
  |nil=>intro h;simp[Pu,look]at h
  |cons p r ih=>
   intro h
   obtain⟨k,y⟩:=p
   simp only[Pu]at h
   rw[Ao]at h⊢
   split at h
   ·rename_i e
    simp only[e,if_true]
    cases hy:y.free with
    |true=>rw[hy]at h;cases h;exact⟨_,Y,.inl ⟨hy,Y⟩⟩
    |false=>rw[hy]at h;cases h;exact⟨_,Y,.inr Y⟩
   ·rename_i e;simp only[if_neg e];exact ih h
 obtain⟨y,h1,h2|h2⟩:=key env h
 ·obtain⟨hf,rfl⟩:=h2
  exact(he t _ h1).free hk hf
 ·subst h2;exact .top _
def Asr:Exit->Option (Option Code×Bool×LoopState)
 |.normal=>some (none,true,.ready)
 |.ret=>some (some .ret,false,.done)
 |.exit id=>some (some (.exit id),false,.done)
 |_=>none
theorem IsW.inRound {F:Fence} (h:IsW F) (l:Nat):IsW (F.inRound l):=by
 rcases h with rfl|⟨l',rfl⟩
 ·exact .inr ⟨l,Y⟩
 ·exact .inr ⟨l,Y⟩
section
variable {P:Program} {c:Conf} {n:Nat} {ops:Array Oper} {rest:List Oper} {env:Env} {σ:St} {o:Oper} {k:Env->St->Prop} {K:Exit->Env->St->Prop}
theorem WZ {w:World} {g:G} {v:Value} {fn:Fn} {xs:List T} (h:Rel w g v (.t (.func fn [] xs))): ∃vs:List Value,v=.func fn #[] vs.toArray/\vs.length=xs.length/\ ∀(i:Nat) v x,vs[i]?=some v->xs[i]?=some x->RelT w g.M v x:=by
 have h:=Aw h
 cases h with
 |func _ v1 v2 _ _ h1 h2 r1 r2=>
  have:v1=[]:=List.eq_nil_of_length_eq_zero (by simpa using h1)
  subst this
  exact⟨v2,Y,h2,r2⟩
theorem Aku {cl:Call} {fo:Operand} {l b n':Nat} {ps:Array Tmp} {asg bd:Code} {envL:Env} {xs:List AV} (hg:o.guard=none) (ho:o.op=.call cl) (hcl:cl.callee=.value fo) (hfo:ev env fo=some (.t (.func (.yield l) [] []))) (has:evL env cl.args.toList=some xs)
  (hb:look σ b=some (.loop l .ready none ps asg bd n' envL)) (hlen:Nat.beq xs.length ps.size=true) (hps:(ps.toList.all fun t=>Nat.blt t n')=true) (hr1:Lx asg=true) (hr2:Lx bd=true)
  (h:Tr P n' asg (QX ps.toList xs envL) σ (fun ex e s=>ex=.normal/\ ∃envL1,look s b=some (.loop l .ready none ps asg bd n' envL1)/\
   Tr P n' bd e (upd s b (.loop l .busy none ps asg bd n' envL1)) (fun ex _ s=> ∃jump jb st envL2,Asr ex=some (jump,jb,st)/\look s b=some (.loop l .busy none ps asg bd n' envL2)/\
    ∃e3,B4 n o.dst (.t (.bool jb)) (Pu env)=some e3/\A2 P n ops rest e3 (upd s b (.loop l st jump ps asg bd n' envL2)) k))):
  A2 P n ops (o::rest) env σ k:=by
 simp only[A2,AL,hg]
 intro w g a hi he F hF next Q hn
 have hlen':xs.length=ps.size:=Nat.eq_of_beq_eq_true hlen
 obtain⟨r,q1,q2,q3,q4,q5,q6,q7,q8,q9,_⟩:=MT (st':=.ready) (pe':=none) hi hb
 obtain⟨vs0,hv,hv0,_⟩:=WZ (AG he hfo)
 have:vs0=[]:=List.eq_nil_of_length_eq_zero (by simpa using hv0)
 subst this
 obtain⟨hl1,hrel⟩:=N2 he has
 have hrun:(o.semAt F.round a.eval).run P w=.ok (.round l r.fn ((r.params.zip (cl.args.map a.eval)).foldl (fun tmps (t,a)=>tmps.setIfInBounds t a) r.tmps) r.assign r.body) w:=by
  rw[Oper.semAt_eq _ _ _ (fun c hc=>by rw[ho]at hc;cases hc)]
  have hy:=run_yield (P:=P) (args:=cl.args.map a.eval) q1 (by rw[q4,<-hlen',<-hl1];simp)
  simp only[execOp,ho,Sem.run_bind,resolve,hcl,hv,Deferred.ofValue,Sem.run_pure,Result.andThen_ok,invoke]
  have e:(([]:List Value).toArray++(cl.args.map a.eval++([]:List Value).toArray))=cl.args.map a.eval:=by apply Array.ext';simp
  first
   |rw[e];exact hy
   |(simp only[List.toArray_nil,Array.empty_append,Array.append_empty];exact hy)
   |simpa using hy
 refine⟨fun f _=>hF.fn f,?_⟩
 rw[q5,q6]at hrun
 rw[hrun]
 refine⟨hF.depth,roundIn_of_wpIn (hF.fn _) ?_⟩
 have hgood:Good n' w g {tmps:=(r.params.zip (cl.args.map a.eval)).foldl (fun tmps (t,a)=>tmps.setIfInBounds t a) r.tmps,defers:=[]} (QX ps.toList xs envL) σ:=by
  have e1:(r.params.zip (cl.args.map a.eval)).foldl (fun tmps (t,a)=>tmps.setIfInBounds t a) r.tmps=(ps.toList.zip (cl.args.toList.map a.eval)).foldl (fun tmps p=>tmps.setIfInBounds p.1 p.2) r.tmps:=by
   rw[<-Array.foldl_toList,Array.toList_zip,q4];simp
  rw[e1]
  refine⟨Ts _ _ _ _ _ (by simpa using hl1) hrel (fun t ht=>?_) q9,hi,G3.nil,?_⟩
  ·have:=List.all_eq_true.1 hps t ht
   have:t<n':=by simpa[Nat.blt_eq]using this
   omega
  ·simp only[TF];exact q7
 refine wpIn_mono (h (F.inRound l) (hF.inRound l) (.inr hr1) w g _ hgood) ?_
 rintro ex a1 w1 ⟨e1,s1,g1,x1,k1,rfl,envL1,hl1',hb1⟩
 obtain⟨r1,p1,p2,p3,p4,p5,p6,p7,p8,p9,p10⟩:=MT (st':=.busy) (pe':=none) k1.inv hl1'
 refine⟨_,run_beginRound p1 p2,?_⟩
 have hx2:Ext w g (w1.putObj l (.loop {r1 with state:=.busy})) g1:=Rv p1 Y _ x1 (.inl q8)
 have p10':Inv (w1.putObj l (.loop {r1 with state:=.busy})) g1 (upd s1 b (.loop l .busy none ps asg bd n' envL1)):=by
  have e:({r1 with state:=.busy,pending:=none}:Loop)={r1 with state:=.busy}:=by cases r1;simp at p3;simp[p3]
  rw[<-e];exact p10
 have hgood2:Good n' (w1.putObj l (.loop {r1 with state:=.busy})) g1 a1 e1 (upd s1 b (.loop l .busy none ps asg bd n' envL1)):=
  ⟨fun t x ht=>Zb p1 Y _ (k1.env t x ht),p10',k1.defers.put p1 _,k1.size⟩
 refine wpIn_mono (hb1 (F.inRound l) (hF.inRound l) (.inr hr2) _ g1 _ hgood2) ?_
 have fin: ∀(ex:Exit) (a3:Act) (w3:World) (e4:Env) (s3:St) (g3:G) (jump:Option Code) (envL2:Env) (e3:Env),Ext (w1.putObj l (.loop {r1 with state:=.busy})) g1 w3 g3->Good n' w3 g3 a3 e4 s3->
   look s3 b=some (.loop l .busy none ps asg bd n' envL2)->B4 n o.dst (.t (.bool jump.isNone)) (Pu env)=some e3->A2 P n ops rest e3 (upd s3 b (.loop l (if jump.isNone then .ready else .done) jump ps asg bd n' envL2)) k->
   ∃v w4,(Instr.endRound l jump).run P w3=.ok v w4/\next (a.put o.dst v) w4:=by
  intro ex a3 w3 e4 s3 g3 jump envL2 e3 hx3 hg3 hl3 hput hops
  obtain⟨r3,t1,t2,t3,t4,t5,t6,t7,t8,t9,t10⟩:=MT (st':=if jump.isNone then .ready else .done) (pe':=jump) hg3.inv hl3
  refine⟨_,_,run_endRound jump t1,hn _ _ ⟨.t (.bool jump.isNone),Pu env,_,⟨g3,?_,.t _ _ (.bool _),t10,?_⟩,e3,hput,hops⟩⟩
  ·exact Rv t1 Y _ (hx2.trans hx3) (.inl q8)
  ·exact Aea (Rv t1 Y _ (hx2.trans hx3) (.inl q8)).keeps he
 rintro ex a3 w3 ⟨e4,s3,g3,hx3,hg3,jump,jb,st,envL2,hj,hl3,e3,hput,hops⟩
 cases ex with
 |normal=>cases hj;exact fin .normal a3 w3 e4 s3 g3 none envL2 e3 hx3 hg3 hl3 hput hops
 |ret=>cases hj;exact fin .ret a3 w3 e4 s3 g3 (some .ret) envL2 e3 hx3 hg3 hl3 hput hops
 |exit id=>cases hj;exact fin (.exit id) a3 w3 e4 s3 g3 (some (.exit id)) envL2 e3 hx3 hg3 hl3 hput hops
 |goto t=>cases hj
 |panic ch=>cases hj
 |outgrown=>cases hj
theorem Sd {b:Nat} {l:Nat} {st:LoopState} {pe:Option Code} {ps:Array Tmp} {asg bd:Code} {n:Nat} {envL:Env} (hb:b % 2=0): ∀{σ:St},CC (upd σ b (.loop l st pe ps asg bd n envL))=CC σ:=by
 have hz: ∀k,Nat.beq k b=true->Nat.beq (k % 2) 1=false:=fun k hk=>by
  have:=Nat.eq_of_beq_eq_true hk;subst this;rw[hb];rfl
 intro σ
 induction σ with
 |nil=>simp only[upd,CC,hb];rfl
 |cons p r ih=>
  obtain⟨k,B⟩:=p
  simp only[upd]
  cases hk:Nat.beq k b with
  |true=>cases B<;>simp[CC,hz k hk]
  |false=>cases B<;>simp[CC,ih]
def NI:Nat:=200000
def Ass:Option Code->Option Exit
 |none=>some .normal
 |some .ret=>some .ret
 |some (.exit id)=>some (.exit id)
 |_=>none
theorem IsW.wide_of {F:Fence} (h:IsW F) (hr:F.round=none):F=Fence.wide:=by
 rcases h with rfl|⟨l,rfl⟩
 ·rfl
 ·simp[Fence.inRound]at hr
theorem Akw {gop:Operand} {gf:Nat} {caps:List T} {ps:Array Tmp} {asg bd:Code} {fn:Func} {code:Code} (hp:ProgOk P c) (hg:ev env gop=some (.t (.func (.func gf) [] caps))) (hf:P.funcs[gf]?=some fn) (hbody:fn.body=some code)
  (hle:Nat.ble (caps.length+1) fn.ntmps=true)
  (h: ∀l:Nat,Tr P fn.ntmps code (FG 0 (.t (.func (.yield l) [] [])::Ah caps)) ((NI,.loop l .ready none ps asg bd n (upE env))::upS σ)
   (fun ex e s=>(ex=.normal\/ex=.ret)/\JY c.te true fn.results.toList e s=some (.tuple [],s)/\ ∃st pe envL ex',look s NI=some (.loop l st pe ps asg bd n envL)/\st≠ .busy/\Ass pe=some ex'/\
    K ex' (PC σ env) (CC s))):
  Tr P n (.rangeFunc gop ps asg bd) env σ K:=by
 intro F hF hrf w g a hgd
 have hro:F.round=none:=by rcases hrf with h|h;exact h;simp[Lx]at h
 have hFw:=hF.wide_of hro
 subst hFw
 refine wpIn_rangeFunc ?_
 intro fn0 hfn0
 rw[hro]
 obtain⟨vs,hv,hvl,hvr⟩:=WZ (AG hgd.env hg)
 obtain⟨rec,hrec⟩: ∃rec:Loop,rec={state:=.ready,pending:=none,fn:=fn0,tmps:=a.tmps,params:=ps,assign:=asg,body:=bd,defers:=w.heap.size}:=⟨_,Y⟩
 obtain⟨W0,hW0⟩: ∃W0,w.alloc (.deferred (some []))=W0:=⟨_,Y⟩
 obtain⟨W1,hW1⟩: ∃W1,W0.alloc (.loop rec)=W1:=⟨_,Y⟩
 have hm0:More w W0 (.deferred (some [])):=hW0▸More.alloc w _
 have hm1:More W0 W1 (.loop rec):=hW1▸More.alloc W0 _
 obtain⟨x0,i0,r0⟩:=Ez (Yt hgd.inv) hm0
 have hl0:look (upS σ) NI=none:=by
  have:=(Yt hgd.inv).dom NI
  simp[G.up,NI]at this
  exact this
 have hB:(∀v x,Rel W0 (g.up σ) v x->Rel W1 ((g.up σ).with NI (some W0.heap.size)) v x)->Fc W1 ((g.up σ).with NI (some W0.heap.size)) NI (.loop W0.heap.size .ready none ps asg bd n (upE env)):=by
  intro hr
  refine⟨rec,by simp[G.with],by simp[G.with],hm1.new,by subst hrec;exact⟨Y,Y,Y,Y,Y⟩,by subst hrec;exact hgd.size,fun t x ht=>?_⟩
  rw[Uy]at ht
  cases hl:look env t with
  |none=>simp[hl]at ht
  |some y=>
   simp[hl]at ht;subst ht;subst hrec
   exact hr _ _ (r0 _ _ (Qv (hgd.env t y hl)))
 obtain⟨x1,i1,r1⟩:=KS i0 hl0 hm1 hB
 have hsz0:W0.heap.size=w.heap.size+1:=hm0.size
 refine⟨W0.heap.size,[{target:=.collected w.heap.size,args:= #[]}],W1,{target:=.fn (.func gf) vs.toArray,args:= #[.func (.yield W0.heap.size) #[] #[]]},W1,gf,
  #[.func (.yield W0.heap.size) #[] #[]]++vs.toArray,W1,?_,?_,(fun f' _=>trivial),?_,(by intro h;cases h),?_⟩
 ·rw[<-hW1,<-hW0,hrec,World.size_alloc];exact run_enterLoop_outer _ _ _ _ _
 ·simp only[resolve,hv]
  simp[go_sem]
 ·simp only[invoke]
  rw[H7 hp hf (by simp[hbody])]
 ·have hrelL:Bt W1 ((g.up σ).with NI (some W0.heap.size)) (.func (.yield W0.heap.size) #[] #[]::vs) (.t (.func (.yield W0.heap.size) [] [])::Ah caps):=by
   refine A1v (.t _ _ ?_) (GR hvl fun i v x a b=>((hvr i v x a b).mono ?_))
   ·exact RelT.func _ [] [] [] [] Y Y (fun i v x a=>by simp at a) (fun i v x a=>by simp at a)
   ·have k:=(x0.trans x1).keeps
    intro b o v hb hc
    exact k b o v (fun hm=>hb hm) hc
  refine(callsIn_wide (n:=0-1)).2 ?_
  have e:(#[Value.func (.yield W0.heap.size) #[] #[]]++vs.toArray)=(Value.func (.yield W0.heap.size) #[] #[]::vs).toArray:=by apply Array.ext';simp
  rw[e]
  refine Gl hf hbody (by simpa[AU]using hle) (h W0.heap.size) hrelL i1 ?_
  rintro ex a' w' g' env' σ' hx hgd' ⟨hex,hret,st,pe,envL,ex',hlk,hst,hj,hK⟩
  obtain⟨v,g2,q1,q2,_,q4⟩:=Is hp hgd' hret
  refine⟨hex,v,q1,?_⟩
  obtain⟨r3,t1,t2,t3,t4,t5,t6,t7,t8,t9,t10⟩:=MT (st':=.exhausted) (pe':=pe) q4 hlk
  have hpe:({r3 with state:=.exhausted,pending:=pe}:Loop)={r3 with state:=.exhausted}:=by cases r3;simp at t3;simp[t3]
  rw[hpe]at t10
  have hxa:Ext w (g.up σ) w' g2:=((x0.trans x1).trans hx).trans q2
  have hxb:Ext w (g.up σ) (w'.putObj W0.heap.size (.loop {r3 with state:=.exhausted})) g2:=Rv t1 Y _ hxa (.inr Aa)
  have hdn:CC (upd σ' NI (.loop W0.heap.size .exhausted pe ps asg bd n envL))=CC σ':=Sd (by simp[NI])
  have hInv:=XB hgd.inv t10 hxb
  rw[hdn]at hInv
  have hExt:=XC hgd.inv hxb
  have hD1:W1.heap[w.heap.size]?=some (.deferred (some [])):=by rw[hm1.old _ Aa];exact hm0.new
  have hno1: ¬((g.up σ).with NI (some W0.heap.size)).own w.heap.size:=by
   rintro(h|h)
   ·have:=hgd.inv.lt _ (.inl h);omega
   ·simp at h;omega
  have hsz1:W1.heap.size=W0.heap.size+1:=hm1.size
  have hno2: ¬g2.own w.heap.size:=fun h=>hno1 ((hx.trans q2).own _ Aa h)
  have hD2:w'.heap[w.heap.size]?=some (.deferred (some [])):=by rw[hx.keep _ Aa hno1];exact hD1
  have hgood:Good n (w'.putObj W0.heap.size (.loop {r3 with state:=.exhausted})) (g2.down g) {a with defers:=[{target:=.collected w.heap.size,args:= #[]}]++a.defers} (PC σ env) (CC σ'):=by
   refine⟨fun t x ht=>Abz hxb hgd.env t x ht,hInv,?_,hgd.size⟩
   obtain⟨Ds,d1,d2,d3⟩:=hgd.defers.ext hExt
   obtain⟨Ds',d1',_,d3'⟩:=hgd.defers
   have hDs:Ds=Ds':=by
    have:Ds.map (fun D=>({target:=.collected D,args:= #[]}:Deferred))=Ds'.map (fun D=>({target:=.collected D,args:= #[]}:Deferred)):=by rw[<-d1,<-d1']
    exact List.map_inj_right (fun x y hxy=>by simpa using hxy)|>.1 this
   refine⟨w.heap.size::Ds,by simp[d1],?_,?_⟩
   ·refine List.nodup_cons.2 ⟨fun hm=>?_,d2⟩
    have:=Cw (d3' _ (hDs▸hm)).1
    omega
   ·intro D hD
    simp only[List.mem_cons]at hD
    rcases hD with rfl|hD
    ·exact⟨by rw[World.putObj_heap_other Aa];exact hD2,hno2,hgd.inv.lo⟩
    ·exact d3 D hD
  have hrunE:(Instr.endLoop W0.heap.size).run P w'=.ok pe (w'.putObj W0.heap.size (.loop {r3 with state:=.exhausted})):=by
   have:=run_endLoop (P:=P) t1 (by rw[t2];exact hst)
   rw[this,t3]
  refine⟨pe,_,hrunE,?_⟩
  cases pe with
  |none=>cases hj;exact⟨_,_,_,hExt,hgood,hK⟩
  |some cc=>
   cases cc with
   |ret=>cases hj;exact wpIn_ret ⟨_,_,_,hExt,hgood,hK⟩
   |exit id=>cases hj;exact wpIn_exit ⟨_,_,_,hExt,hgood,hK⟩
   |_=>cases hj
end
end Go.Am
namespace Go.Am
theorem RO {b sz:Nat} {es:List (List T)} {B:Blk}: ∀{σ:St},Gf b sz es (upd σ b B)=Gf b sz es σ
 |[]=>by simp[upd,Gf]
 |(k,C)::r=>by
  simp only[upd]
  by_cases h:k=b
  ·subst h;simp[Gf]
  ·simp[Gf,Cr h,RO (σ:=r)]
theorem SpOk.upd {w:World} {g:G} {σ:St} (h:SpOk w g σ) (b:Nat) {B:Blk} (hB: ∀L,B≠ .rights L):SpOk w g (Am.upd σ b B):=
 h.mono (Nat.le_refl _) Y (fun _ _ _ h=>h) (fun _ _ _ _ _=>rfl) (fun c blk h=>.inl ⟨c,h⟩) (fun c L hL=>by
  rw[B3]at hL
  split at hL
  ·exact absurd (Option.some.inj hL) (hB L)
  ·exact hL)
theorem A12 {P:Program} {n:Nat} {env:Env} {σ:St} {K:Exit->Env->St->Prop} {code:Code} (t b:Nat) {cs:List T} (hev:b % 2=0) (hl:look env t=some (.ref b 0)) (hb:look σ b=some (.cells (Ah cs))) (hone:cs.all CK=true)
  (h:Tr P n code ((t,.t (.ptr cs))::I9 b cs.length [cs] env) (Gf b cs.length [cs] σ) K):Tr P n code env σ K:=by
 intro F hF hrf w g a hg
 have hi:=hg.inv
 obtain⟨blk,vs,e,q1,q2,q3,q4,q5⟩:=hi.ok b _ hb
 have hone': ∀(i:Nat) x,cs[i]?=some x->CK x=true:=fun i x hx=>List.all_eq_true.1 hone x (List.mem_of_getElem? hx)
 have hrel: ∀(i:Nat) v x,vs[i]?=some v->cs[i]?=some x->RelT w g.M v x:=fun i v x hv hx=>Aw (q5 i v (.t x) hv (by rw[BV,hx];rfl))
 have hi1:Inv w g (upd σ b (.grow cs.length [cs])):=by
  refine⟨fun c C hC=>?_,fun c=>?_,hi.inj,hi.lt,fun c hc=>⟨(hi.bx c hc).1,?_⟩,hi.dis,hi.im,hi.lo,hi.sx.upd b (fun L h=>by cases h)⟩
  ·rw[B3]at hC
   split at hC
   ·rename_i e1;subst e1;cases hC
    refine⟨fun e he=>by simp at he;subst he;rfl,.inr ⟨blk,vs,e,q1,q2,q3,?_,fun i v x hv hx=>?_⟩⟩
    ·simp;rw[q4,AU];exact Nat.le_refl _
    ·simp at hx;exact⟨hone' i x hx,hrel i v x hv hx⟩
   ·exact hi.ok c C hC
  ·rw[B3]
   by_cases e1:b=c
   ·subst e1;simp[q1]
   ·simp only[if_neg e1];exact hi.dom c
  ·rw[B3]
   have hne:b≠c:=fun e1=>by subst e1;have:=(hi.bx _ hc).1;omega
   simp only[if_neg hne];exact(hi.bx c hc).2
 obtain⟨k1,k2,k3⟩:=freeze hi1 (b:=b) (sz:=cs.length) (es:=[cs]) (by rw[B3];simp)
 rw[RO]at k2
 refine wpIn_mono (h F hF hrf w _ a ⟨fun t' x hx=>?_,k2,hg.defers.ext k1,hg.size⟩) fun ex a2 w2 hq=>hq.lift k1
 rw[Ao]at hx
 split at hx
 ·rename_i e1;subst e1;cases hx
  have hr:=hg.env t _ hl
  generalize a.tmps.getD t undef=v at hr
  cases hr with
  |ref _ _ blk' hb'=>
   rw[q1]at hb';cases hb'
   refine .t _ _ (.ptr _ _ cs (fun i=>vs.getD i undef) hone' (fun i x hx=>⟨?_,?_⟩) (fun i x hx=>?_))
   ·rintro(ho|ho)
    ·exact ho.1.2 q1
    ·exact hi.dis _ _ q2 ho
   ·have hlt:i<vs.size:=by rw[q4,AU];exact AW hx
    simp[World.cell?,q3,hlt]
   ·have hlt:i<vs.size:=by rw[q4,AU];exact AW hx
    have hv:vs[i]?=some (vs.getD i undef):=by simp[hlt]
    exact(hrel i _ x hv hx).mono k1.keeps
 ·rw[Fu]at hx
  cases hl':look env t' with
  |none=>simp[hl']at hx
  |some y=>simp[hl']at hx;subst hx;exact k3 _ _ (hg.env t' y hl')
end Go.Am
namespace Go.Am
end Go.Am
namespace Go.Am
section
variable {P:Program} {c:Conf} {n:Nat} {ops:Array Oper} {rest:List Oper} {env:Env} {σ:St} {o:Oper} {k:Env->St->Prop}
theorem GX (hp0:ProgOk P c) {t m e:Nat} {parts:Array (Nat×Operand)} {ti ei:TI} {ps:List (Nat×AV)} {cs:List AV} {e2:Env} (hg:o.guard=none) (ho:o.op=.build t parts) (ht:look c.te t=some ti) (hk:ti.kind=.array m e) (he:look c.te e=some ei)
  (hps:evP env parts.toList=some ps) (hf:F3 (fun i=>some (i*ei.size,ei.size)) ps (Ah ti.zero)=some cs) (hp:B4 n o.dst (.agg cs) env=some e2) (h:A2 P n ops rest e2 σ k):A2 P n ops (o::rest) env σ k:=by
 simp only[A2,AL,hg]
 intro w g a hi hee
 have hte:=hp0.te
 have hz:=Do (hte _ _ ht) w
 have hd:=F8 (hte _ _ ht) w hk
 have hsz:=BT (hte _ _ he) w
 obtain⟨cells',f1,f2⟩:=IC (w:=w) (g:=g) (fun i=>some (i*ei.size,ei.size)) hf (DM (hte _ _ ht)) (Jt hee hps)
 have f1':Instr.fill (fun i=>some (i*ei.size,ei.size)) (BZ ti).cells (parts.map fun p=>(p.1,a.eval p.2)).toList=some cells':=by rw[<-f1];simp
 have hrun:(Instr.build t (parts.map fun p=>(p.1,a.eval p.2))).run P w=.ok (.agg cells') w:=by
  simp only[Instr.build,Sem.run_bind,hz,Result.andThen_ok,hd,hsz,f1',Sem.run_pure]
 refine BJ.value (v:=.agg cells') (w':=w) ?_ ⟨.agg cs,env,σ,⟨g,A1t _ _,?_,hi,hee⟩,e2,hp,h⟩
 ·simp[execOp,ho,hrun]
 ·have:cells'=cells'.toList.toArray:=by simp
  rw[this];exact .agg _ _ f2.1 f2.2
def LoopN (P:Program) (n:Nat) (b:Code) (K:Exit->Env->St->Prop):Nat->Env->St->Prop
 |0,_,_=>False
 |m+1,e,s=>Tr P n b e s (fun ex e s=>match ex with
  |.normal=>LoopN P n b K m e s
  |ex=>K ex e s)
theorem LoopN.rounds {F:Fence} (hF:IsW F) {b:Code} (hrf:RF F b) {K:Exit->Env->St->Prop}: ∀(m:Nat) {env:Env} {σ:St} {w:World} {g:G} {a:Act} {w0:World} {g0:G},LoopN P n b K m env σ->Good n w g a env σ->Ext w0 g0 w g->Code.roundsIn F 0 P b (BS n w0 g0 K) m a w
 |0,_,_,_,_,_,_,_,h,_,_=>h.elim
 |m+1,env,σ,w,g,a,w0,g0,h,hg,hx=>by
  rw[roundsIn_succ]
  refine wpIn_mono (h F hF hrf w g a hg) ?_
  rintro ex a' w' ⟨env',σ',g',h1,h2,h3⟩
  cases ex with
  |normal=>exact LoopN.rounds hF hrf m h3 h2 (hx.trans h1)
  |exit id=>exact⟨env',σ',g',hx.trans h1,h2,h3⟩
  |goto l=>exact⟨env',σ',g',hx.trans h1,h2,h3⟩
  |ret=>exact⟨env',σ',g',hx.trans h1,h2,h3⟩
  |panic ch=>exact⟨env',σ',g',hx.trans h1,h2,h3⟩
  |outgrown=>exact⟨env',σ',g',hx.trans h1,h2,h3⟩
theorem AN {b:Code} {K:Exit->Env->St->Prop} (m:Nat) (h:LoopN P n b K m env σ):Tr P n (.loop b) env σ K:=
 fun F hF hrf w g a hg=>wpIn_loop_rounds m (LoopN.rounds hF hrf.loop m h hg (A1t _ _))
theorem AQ {b:Code} {K:Exit->Env->St->Prop} {m:Nat} (h:Tr P n b env σ (fun ex e s=>match ex with
  |.normal=>LoopN P n b K m e s
  |ex=>K ex e s)):LoopN P n b K (m+1) env σ:=h
end
end Go.Am
namespace Go.Am
section
variable {P:Program} {c:Conf} {n:Nat} {ops:Array Oper} {rest:List Oper} {env:Env} {σ:St} {o:Oper} {k:Env->St->Prop}
theorem Aad (hp0:ProgOk P c) {t yt:Nat} {xo yo:Operand} {kk k':IntKind} {a b:Int} (m:Nat) {e2:Env} (hg:o.guard=none) (ho:o.op=.binOp .shr t xo yo yt) (hx:ev env xo=some (.t (.int kk a))) (hy:ev env yo=some (.t (.int k' b))) (hb:b=(m:Int))
  (hp:B4 n o.dst (.t (.int kk (a.fdiv (2^(min m kk.bits))))) env=some e2) (h:A2 P n ops rest e2 σ k):A2 P n ops (o::rest) env σ k:=by
 subst hb
 refine E6 hp0 (x:=.t (.int kk (a.fdiv (2^(min m kk.bits))))) (e:=env) (s:=σ) hg ?_ hp h
 have h1: ¬((m:Int)<0):=by omega
 unfold Dx
 rw[ho]
 simp only[Ce,hx,hy,XS,Ajv,Lj,UA,if_neg h1,Int.toNat_natCast]
theorem Afx (hp0:ProgOk P c) {t m e:Nat} {xo:Operand} {cs:List T} {ti ei:TI} {e2:Env} (hg:o.guard=none) (ho:o.op=.slice t xo none none none) (hx:ev env xo=some (.t (.ptr cs))) (ht:look c.te t=some ti) (hk:ti.kind=.array m e) (he:look c.te e=some ei)
  (hl:cs.length=m*ei.size) (hm:m≠0) (hp:B4 n o.dst (.t (.slice .full ei.size (Bq ei.size m cs))) env=some e2) (h:A2 P n ops rest e2 σ k):A2 P n ops (o::rest) env σ k:=by
 simp only[A2,AL,hg]
 intro w g a hi hee
 have hte:=hp0.te
 have hd:=F8 (hte _ _ ht) w hk
 have hsz:=BT (hte _ _ he) w
 obtain⟨b,off,hv,hc⟩:=FO (Aw (AG hee hx))
 have hb:=DJ (P:=P) (w:=w) hee (s:=false) (len:=m) (cap:=m) (lo:=none) (hi:=none) (l:=0) (h:=m) Y Y (Nat.le_refl _) (Nat.zero_le _)
 simp only[Option.map_none]at hb
 have hrun:(Instr.sliceAt t (a.eval xo) none none none).run P w=.ok (.slice (some ⟨b,off,none⟩) m m) w:=by
  rw[hv]
  simp[Instr.sliceAt,hd,hb,hsz,Instr.sureAddr,asAddr,Addr.add,hm]
 obtain⟨q1,q2,q3⟩:=Jw ei.size m cs hl
 refine BJ.value (v:=.slice (some ⟨b,off,none⟩) m m) (w':=w) ?_ ⟨_,env,σ,⟨g,A1t _ _,.t _ _ (DN (m:=.full) q3 (Nat.le_refl _) (fun _=>rfl) Ac q2 (fun i x hx=>?_)),hi,hee⟩,e2,hp,h⟩
 ·simp[execOp,ho,hrun]
 ·rw[q1]at hx;exact hc i x hx
theorem Anf {w:World} {g:G} {a:Act} (t b:Nat) {cs:List T} (hev:b % 2=0) (hl:look env t=some (.ref b 0)) (hb:look σ b=some (.cells (Ah cs))) (hone:cs.all CK=true) (hi:Inv w g σ) (hge:AK w g a env):
  ∃g',Ext w g w g'/\Inv w g' (Gf b cs.length [cs] σ)/\AK w g' a ((t,.t (.ptr cs))::I9 b cs.length [cs] env):=by
 obtain⟨blk,vs,e,q1,q2,q3,q4,q5⟩:=hi.ok b _ hb
 have hone': ∀(i:Nat) x,cs[i]?=some x->CK x=true:=fun i x hx=>List.all_eq_true.1 hone x (List.mem_of_getElem? hx)
 have hrel: ∀(i:Nat) v x,vs[i]?=some v->cs[i]?=some x->RelT w g.M v x:=fun i v x hv hx=>Aw (q5 i v (.t x) hv (by rw[BV,hx];rfl))
 have hi1:Inv w g (upd σ b (.grow cs.length [cs])):=by
  refine⟨fun c C hC=>?_,fun c=>?_,hi.inj,hi.lt,fun c hc=>⟨(hi.bx c hc).1,?_⟩,hi.dis,hi.im,hi.lo,hi.sx.upd b (fun L h=>by cases h)⟩
  ·rw[B3]at hC
   split at hC
   ·rename_i e1;subst e1;cases hC
    refine⟨fun e he=>by simp at he;subst he;rfl,.inr ⟨blk,vs,e,q1,q2,q3,?_,fun i v x hv hx=>?_⟩⟩
    ·simp;rw[q4,AU];exact Nat.le_refl _
    ·simp at hx;exact⟨hone' i x hx,hrel i v x hv hx⟩
   ·exact hi.ok c C hC
  ·rw[B3]
   by_cases e1:b=c
   ·subst e1;simp[q1]
   ·simp only[if_neg e1];exact hi.dom c
  ·rw[B3]
   have hne:b≠c:=fun e1=>by subst e1;have:=(hi.bx _ hc).1;omega
   simp only[if_neg hne];exact(hi.bx c hc).2
 obtain⟨k1,k2,k3⟩:=freeze hi1 (b:=b) (sz:=cs.length) (es:=[cs]) (by rw[B3];simp)
 rw[RO]at k2
 refine⟨_,k1,k2,fun t' x hx=>?_⟩
 rw[Ao]at hx
 split at hx
 ·rename_i e1;subst e1;cases hx
  have hr:=hge t _ hl
  generalize a.tmps.getD t undef=v at hr
  cases hr with
  |ref _ _ blk' hb'=>
   rw[q1]at hb';cases hb'
   refine .t _ _ (.ptr _ _ cs (fun i=>vs.getD i undef) hone' (fun i x hx=>⟨?_,?_⟩) (fun i x hx=>?_))
   ·rintro(ho|ho)
    ·exact ho.1.2 q1
    ·exact hi.dis _ _ q2 ho
   ·have hlt:i<vs.size:=by rw[q4,AU];exact AW hx
    simp[World.cell?,q3,hlt]
   ·have hlt:i<vs.size:=by rw[q4,AU];exact AW hx
    have hv:vs[i]?=some (vs.getD i undef):=by simp[hlt]
    exact(hrel i _ x hv hx).mono k1.keeps
 ·rw[Fu]at hx
  cases hl':look env t' with
  |none=>simp[hl']at hx
  |some y=>simp[hl']at hx;subst hx;exact k3 _ _ (hge t' y hl')
theorem CO (t b:Nat) {cs:List T} (hg:o.guard=none) (hev:b % 2=0) (hl:look env t=some (.ref b 0)) (hb:look σ b=some (.cells (Ah cs))) (hone:cs.all CK=true)
  (h:A2 P n ops (o::rest) ((t,.t (.ptr cs))::I9 b cs.length [cs] env) (Gf b cs.length [cs] σ) k):A2 P n ops (o::rest) env σ k:=by
 simp only[A2,AL,hg]at h⊢
 intro w g a hi he
 obtain⟨g',k1,k2,k3⟩:=Anf t b hev hl hb hone hi he
 refine(h w g' a k2 k3).mono ?_
 rintro v w' ⟨x,e,s,hp,hk⟩
 exact⟨x,e,s,hp.lift k1,hk⟩
theorem LH (hp0:ProgOk P c) {cl:Call} {so xo:Operand} {t e d s0 b0 sz:Nat} {z0:List T} {esz ebb:Nat} {ez:List T} {ek:TK} {news:List (List T)} {m:SM} {x:AV} {e1 e2:Env} {s:St} (hg:o.guard=none) (ho:o.op=.call cl) (hcl:cl.callee=.builtin .append) (ha:cl.args.toList=[so,xo])
  (hty:cl.argTypes.toList=[t,t]) (hd:o.dst=some d) (hs:ev env so=some (.t (.slice .full 0 []))) (hx:ev env xo=some (.t (.slice m sz news))) (ht:look c.te t=some ⟨s0,b0,z0,.slice e⟩) (he:look c.te e=some ⟨esz,ebb,ez,ek⟩) (hsz:esz=sz)
  (hf:DF (2*d) env σ (fun env σ=>some (AV.row (2*d) esz 0 news.length,env,(2*d,Blk.grow esz news)::σ))=some (x,e1,s)) (hp:B4 n o.dst x e1=some e2)
  (hlim:news.length*(ebb+1)<=140737488355328) (h:A2 P n ops rest e2 s k):A2 P n ops (o::rest) env σ k:=by
 refine E6 hp0 (x:=x) (e:=e1) (s:=s) hg ?_ hp h
 unfold Dx
 rw[ho]
 simp only[hcl,F1,ho,ha,hty,hs,hx,hd,GI,ht,he,L7,hsz,if_true,hlim]
 rw[<-hsz];exact hf
end
end Go.Am
namespace Go.Am
structure DrawOkF (ops:Array Oper) (k m:Nat):Prop where
 edge: ∀(i:Nat) o,ops[i]?=some o-> ∀e∈o.after,Region.binds .any e=true->e.on<i
 head: ∀i oi,i<m->ops[i]?=some oi-> ∀j oj,j<i->ops[j]?=some oj->Pre ops j i\/oj.apart ops oi=true
 tail: ∀i,m<=i->i<ops.size-> ∀j,k<=j->j<i->Pre ops j i
 le:m<=ops.size
 km:k<=m
def IH (b k:Nat):Nat->Bool
 |0=>true
 |i+1=>(Nat.blt i k||Nat.testBit b i)&&IH b k i
theorem NE {b k:Nat}: ∀{i:Nat},IH b k i=true-> ∀j,k<=j->j<i->b.testBit j=true
 |0,_,j,_,h=>by omega
 |i+1,hb,j,hk,h=>by
  simp only[IH,Bool.and_eq_true,Bool.or_eq_true]at hb
  by_cases e:j=i
  ·subst e
   rcases hb.1 with h'|h'
   ·have:j<k:=by simpa[Nat.blt_eq]using h'
    omega
   ·exact h'
  ·exact NE hb.2 j hk Aa
def PE (ms:List Nat) (k:Nat):Nat->Nat->Bool
 |_,0=>true
 |i,l+1=>IH (ms.getD i 0) k i&&PE ms k (i+1) l
theorem OE {ms:List Nat} {k:Nat}: ∀{l i0:Nat},PE ms k i0 l=true-> ∀i,i<l->IH (ms.getD (i0+i) 0) k (i0+i)=true
 |0,i0,_,i,h=>by omega
 |l+1,i0,hb,i,h=>by
  simp only[PE,Bool.and_eq_true]at hb
  cases i with
  |zero=>exact hb.1
  |succ i=>have:=OE hb.2 i Aa;rwa[show i0+1+i=i0+(i+1)by omega]at this
def Aal (ms:List Nat) (k:Nat):Nat->Nat
 |0=>0
 |i+1=>match IH (ms.getD i 0) k i&&Nat.ble k i with
  |true=>Aal ms k i
  |false=>i+1
def Kf:List Oper->Nat
 |[]=>0
 |o::r=>match o.guard with
  |none=>(match o.op with
   |.move _=>Kf r+1
   |_=>0)
  |some _=>0
def E8 (ops:Array Oper):List Nat->Array Bool->Bool
 |[],_=>true
 |i::r,l=>(Region.free .any ops l i&&(Region.ready .any ops l).contains i)&&E8 ops r (l.setIfInBounds i true)
def XA (ops:Array Oper) (k:Nat):Option Nat:=
 let ms:=Eh ops.toList []
 let m:=Aal ms k ops.size
 match Lo 0 ops.toList&&(RH ops ms (ops.toList.take m) 0 (ops.toList.take m)&&(PE ms k m (ops.size-m)&&(Nat.ble k m&&(Nat.ble m ops.size&&(Region.noSelect ops&&(E8 ops (List.range k) (Array.replicate ops.size false)&&Nat.ble k (Kf ops.toList)))))))with
 |true=>some m
 |false=>none
theorem Rx: ∀{l:List Oper} {i:Nat},i<Kf l-> ∃o x,l[i]?=some o/\o.guard=none/\o.op=.move x
 |[],i,h=>by simp[Kf]at h
 |o::r,i,h=>by
  unfold Kf at h
  split at h
  ·rename_i hg
   split at h
   ·rename_i x hx
    cases i with
    |zero=>exact⟨o,x,Y,hg,hx⟩
    |succ i=>simpa using Rx (l:=r) (i:=i) Aa
   ·omega
  ·omega
section
variable {P:Program} {c:Conf} {n k m:Nat} {ops:Array Oper} {news:List Nat}
theorem Ai9 (h:XA ops k=some m):DrawOkF ops k m/\Region.noSelect ops=true/\E8 ops (List.range k) (Array.replicate ops.size false)=true/\k<=Kf ops.toList:=by
 unfold XA at h
 simp only at h
 split at h
 ·rename_i hb
  simp at h
  simp only[Bool.and_eq_true]at hb
  obtain⟨h1,h2,h3,h4,h5,h6,h7,h8⟩:=hb
  rw[h]at h2 h3 h4 h5
  refine⟨⟨fun i o ho e he hbi=>?_,fun i oi hi hoi j oj hj hoj=>?_,fun i hi hsz j hk hj=>?_,by simpa using h5,by simpa using h4⟩,h6,h7,by simpa using h8⟩
  ·have:=HQ h1 i o (by rw[Array.getElem?_toList];exact ho) e he hbi;omega
  ·have:=Mg h2 i oi (by rw[List.getElem?_take,if_pos hi,Array.getElem?_toList];exact hoi)
   have:=Ig this j oj (by rw[List.getElem?_take,if_pos Aa,List.getElem?_take,if_pos Aa,Array.getElem?_toList];exact hoj)
   simp only[Nat.zero_add]at this
   rcases this with h'|h'
   ·exact .inl (Er _ _ h')
   ·exact .inr h'
  ·have:=OE h3 (i-m) Aa
   rw[show m+(i-m)=i by omega]at this
   exact Er _ _ (NE this j hk hj)
 ·simp at h
theorem OG {F:Fence} (hF:IsW F) (hD:DrawOkF ops k m) {K:Exit->Env->St->Prop} {w0:World} {g0:G}: ∀(fuel i0:Nat) {listed:Array Bool} {w:World} {g:G} {a:Act} {env:Env} {σ:St},
  m<=i0->i0<=ops.size->listed.size=ops.size->(∀i,i<ops.size->(Li listed i↔i<i0))->ops.size-i0<=fuel->A2 P n ops (ops.toList.drop i0) env σ (K .normal)->Good n w g a env σ->Ext w0 g0 w g->
  wpAnyIn F 0 P .any ops (BS n w0 g0 K) fuel listed a w:=by
 intro fuel
 induction fuel with
 |zero=>
  intro i0 listed w g a env σ h1 h2 hs hl hf h hg hx
  have:i0=ops.size:=by omega
  subst this
  have hready:Region.ready .any ops listed=[]:=by
   apply List.eq_nil_iff_forall_not_mem.2
   intro i hi
   rw[Bv hs]at hi
   obtain⟨hn,o,ho,_⟩:=hi
   have hi':i<ops.size:=by
    rcases Nat.lt_or_ge i ops.size with h|h
    ·exact h
    ·rw[Array.getElem?_eq_none h]at ho;cases ho
   exact hn ((hl i hi').2 hi')
  rw[List.drop_of_length_le Ac]at h
  exact⟨hready,env,σ,g,hx,hg,h⟩
 |succ fuel ih=>
  intro i0 listed w g a env σ h1 h2 hs hl hf h hg hx
  by_cases hend:i0=ops.size
  ·subst hend
   rw[List.drop_of_length_le Ac]at h
   refine⟨fun _=>⟨env,σ,g,hx,hg,h⟩,fun i hi=>?_⟩
   rw[Bv hs]at hi
   obtain⟨hn,o,ho,_⟩:=hi
   have hi':i<ops.size:=by
    rcases Nat.lt_or_ge i ops.size with h|h
    ·exact h
    ·rw[Array.getElem?_eq_none h]at ho;cases ho
   exact absurd ((hl i hi').2 hi') hn
  ·have hlt:i0<ops.size:=by omega
   have ho:ops[i0]?=some ops[i0]:=Array.getElem?_eq_getElem hlt
   have hrdy: ∀o,ops[i0]?=some o-> ∀e∈o.after,Region.binds .any e=true->Li listed e.on:=fun o ho' e he hb=>by
    have:=hD.edge i0 o ho' e he hb
    exact(hl _ Aa).2 this
   have hin:i0∈Region.ready .any ops listed:=by
    rw[Bv hs]
    exact⟨fun hc=>by have:=(hl i0 hlt).1 hc;omega,ops[i0],ho,hrdy _ ho⟩
   refine⟨fun hnil=>by rw[hnil]at hin;simp at hin,fun i hi=>?_⟩
   rw[Bv hs]at hi
   obtain⟨hn,o,ho',hr'⟩:=hi
   have hisz:i<ops.size:=by
    rcases Nat.lt_or_ge i ops.size with h|h
    ·exact h
    ·rw[Array.getElem?_eq_none h]at ho';cases ho'
   have hdc:DC ops listed:=by
    intro j oj hoj hlj e he hb
    have hj:j<ops.size:=by
     rcases Nat.lt_or_ge j ops.size with h|h
     ·exact h
     ·rw[Array.getElem?_eq_none h]at hoj;cases hoj
    have h1:=(hl j hj).1 hlj
    have h2:=hD.edge j oj hoj e he hb
    exact(hl _ Aa).2 Aa
   have hieq:i=i0:=by
    rcases Nat.lt_trichotomy i i0 with h'|h'|h'
    ·exact absurd ((hl i hisz).2 h') hn
    ·exact h'
    ·have hpre:=hD.tail i Aa hisz i0 (by have:=hD.km;omega) h'
     have:=CA hdc hpre (fun o2 ho2=>by rw[ho']at ho2;cases ho2;exact hr')
     have:=(hl i0 hlt).1 this
     omega
   subst hieq
   rw[ho']at ho;cases ho
   have hdrop:ops.toList.drop i=ops[i]::ops.toList.drop (i+1):=by
    rw[List.drop_eq_getElem_cons (by simpa using hlt)];simp
   rw[hdrop]at h
   simp only[A2]at h
   have hl': ∀j,j<ops.size->(Li (listed.setIfInBounds i true) j↔j<i+1):=by
    intro j hj
    rw[DL Aa,hl j hj];omega
   refine FM hF ho' ?_
   rcases F6 hg h with⟨hw,env0,h,hg⟩|⟨hw,env0,h,hg⟩
   ·refine .inl ⟨hw,?_⟩
    refine h w g a hg.inv hg.env F hF _ _ ?_
    rintro v w' ⟨x,e1,s1,⟨g',k1,k2,k3,k4⟩,e2,hput,h⟩
    exact ih (i+1) Aa Aa (by simp[hs]) hl' Aa h (Cm hput ⟨k4,k3,hg.defers.ext k1,hg.size⟩ k2) (hx.trans k1)
   ·refine .inr ⟨hw,?_⟩
    obtain⟨e2,hput,h⟩:=h
    exact ih (i+1) Aa Aa (by simp[hs]) hl' Aa h (Cm hput hg (.t _ _ .undef)) hx
theorem WX {F:Fence} (hF:IsW F) (hp:ProgOk P c) (hD:DrawOkF ops k m) {K:Exit->Env->St->Prop} {w0:World} {g0:G} {e:Env} {s:St} (htl:A2 P n ops (ops.toList.drop m) e s (K .normal)):
  ∀(fuel:Nat) {listed:Array Bool} {rem:List Nat} {w:World} {g:G} {a:Act} {env:Env} {σ:St},listed.size=ops.size->DC ops listed->(∀j,j<k->Li listed j)->(∀i,m<=i->i<ops.size-> ¬Li listed i)->
  (∀i,i∈rem↔i<m/\ ¬Li listed i)->rem.Pairwise (· < ·)->rem.length+(ops.size-m)<=fuel->JF P c WC n ops news rem env σ e s->Good n w g a env σ->Ext w0 g0 w g->
  wpAnyIn F 0 P .any ops (BS n w0 g0 K) fuel listed a w:=by
 intro fuel
 induction fuel with
 |zero=>
  intro listed rem w g a env σ hs hdc hkl hhi hrem hsort hf hruns hg hx
  have hnil:rem=[]:=List.eq_nil_of_length_eq_zero Aa
  subst hnil
  refine OG hF hD 0 m (Nat.le_refl _) hD.le hs (fun i hi=>⟨fun h=>?_,fun h=>?_⟩) Aa htl (hg.eqv hruns.1 hruns.2) hx
  ·exact Classical.byContradiction fun hc=>hhi i Aa hi h
  ·exact Classical.byContradiction fun hc=>by have:=(hrem i).2 ⟨h,hc⟩;simp at this
 |succ fuel ih=>
  intro listed rem w g a env σ hs hdc hkl hhi hrem hsort hf hruns hg hx
  by_cases hnil:rem=[]
  ·subst hnil
   refine OG hF hD (fuel+1) m (Nat.le_refl _) hD.le hs (fun i hi=>⟨fun h=>?_,fun h=>?_⟩) (by simp at hf;omega) htl (hg.eqv hruns.1 hruns.2) hx
   ·exact Classical.byContradiction fun hc=>hhi i Aa hi h
   ·exact Classical.byContradiction fun hc=>by have:=(hrem i).2 ⟨h,hc⟩;simp at this
  ·obtain⟨i0,rest,rfl⟩: ∃i0 rest,rem=i0::rest:=List.exists_cons_of_ne_nil hnil
   have hm:=hD.le
   obtain⟨hi0,hn0⟩:=(hrem i0).1 Ac
   have hmin: ∀j,j<i0->Li listed j:=fun j hj=>Classical.byContradiction fun hc=>by
    have:=(hrem j).2 ⟨by omega,hc⟩
    simp at this
    rcases this with h'|h'
    ·omega
    ·have:=(List.pairwise_cons.1 hsort).1 j h';omega
   have ho0:ops[i0]?=some ops[i0]:=Array.getElem?_eq_getElem Aa
   have hin:i0∈Region.ready .any ops listed:=by
    rw[Bv hs]
    exact⟨hn0,ops[i0],ho0,fun e he hb=>hmin _ (hD.edge i0 _ ho0 e he hb)⟩
   refine⟨fun hnil=>by rw[hnil]at hin;simp at hin,fun i hi=>?_⟩
   rw[Bv hs]at hi
   obtain⟨hn,o,ho,hr⟩:=hi
   have hisz:i<ops.size:=by
    rcases Nat.lt_or_ge i ops.size with h|h
    ·exact h
    ·rw[Array.getElem?_eq_none h]at ho;cases ho
   have hr': ∀o2,ops[i]?=some o2-> ∀e∈o2.after,Region.binds .any e=true->Li listed e.on:=fun o2 ho2=>by rw[ho]at ho2;cases ho2;exact hr
   have him:i<m:=Classical.byContradiction fun hc=>hn0 (CA hdc (hD.tail i Aa hisz i0 (Nat.le_of_not_lt fun h=>hn0 (hkl i0 h)) Aa) hr')
   have himem:i∈i0::rest:=(hrem i).2 ⟨him,hn⟩
   obtain⟨l1,l2,hsplit⟩:=List.append_of_mem himem
   rw[hsplit]at hruns hsort hrem hf
   have hlt: ∀j∈l1,j<i:=fun j hj=>(List.pairwise_append.1 hsort).2.2 j hj i Ac
   have hgt: ∀j∈l2,i<j:=fun j hj=>(List.pairwise_cons.1 (List.pairwise_append.1 hsort).2.1).1 j hj
   have hb:=V6 Iy ho (l1:=l1) (l2:=l2) (fun j hj=>by
    obtain⟨hjm,hjn⟩:=(hrem j).1 (by simp[hj])
    have hoj:ops[j]?=some ops[j]:=Array.getElem?_eq_getElem Aa
    refine⟨ops[j],hoj,?_⟩
    rcases hD.head i o him ho j ops[j] (hlt j hj) hoj with h'|h'
    ·exact absurd (CA hdc h' hr') hjn
    ·exact h') hruns
   obtain⟨o2,y,nb,e1,s1,q1,q2,q3,q4,q5⟩:=hb
   rw[ho]at q1;cases q1
   have hrem': ∀j,j∈l1++l2↔j<m/\ ¬Li (listed.setIfInBounds i true) j:=by
    intro j
    rw[DL Aa]
    have hj:=hrem j
    constructor
    ·intro hmem
     have hne:j≠i:=by
      rcases List.mem_append.1 hmem with h'|h'
      ·have:=hlt j h';omega
      ·have:=hgt j h';omega
     have:=hj.1 (by rcases List.mem_append.1 hmem with h'|h'<;>simp[h'])
     exact⟨this.1,fun hc=>by rcases hc with h'|h';exact hne h';exact this.2 h'⟩
    ·rintro⟨h1,h2⟩
     have hne:j≠i:=fun e=>h2 (.inl e)
     have:=hj.2 ⟨h1,fun hc=>h2 (.inr hc)⟩
     simp at this⊢
     rcases this with h'|h'|h'
     ·exact .inl h'
     ·exact absurd h' hne
     ·exact .inr h'
   have hsort':(l1++l2).Pairwise (· < ·):=by
    refine List.pairwise_append.2 ⟨(List.pairwise_append.1 hsort).1,(List.pairwise_cons.1 (List.pairwise_append.1 hsort).2.1).2,fun x hx y hy=>?_⟩
    have:=hlt x hx;have:=hgt y hy;omega
   have hhi': ∀j,m<=j->j<ops.size-> ¬Li (listed.setIfInBounds i true) j:=fun j hj hjs hc=>by
    rw[DL Aa]at hc
    rcases hc with h'|h'
    ·omega
    ·exact hhi j hj hjs h'
   have hcont: ∀{w':World} {g':G} {a':Act} {env':Env} {σ':St},(∀t,look env' t=look e1 t)->(∀b,look σ' b=look s1 b)->Good n w' g' a' env' σ'->Ext w0 g0 w' g'->
     wpAnyIn F 0 P .any ops (BS n w0 g0 K) fuel (listed.setIfInBounds i true) a' w':=by
    intro w' g' a' env' σ' he1 hs1 hg1 hx1
    exact ih (by simp[hs]) (hdc.set Aa hr') (fun j hj=>(DL Aa).2 (.inr (hkl j hj))) hhi' hrem' hsort' (by simp at hf⊢;omega) (q5.congr Iy (fun t=>(he1 t).symm) (fun b=>(hs1 b).symm)) hg1 hx1
   have hputg: ∀{w':World} {g':G} {v:Value} {σ':St},Good n w' g' a env σ'->Rel w' g' v y->(∀b,look σ' b=look s1 b)->Ext w0 g0 w' g'->
     wpAnyIn F 0 P .any ops (BS n w0 g0 K) fuel (listed.setIfInBounds i true) (a.put o.dst v) w':=by
    intro w' g' v σ' hg1 hrel hs1 hx1
    cases hd:o.dst with
    |none=>
     refine hcont (env':=env) (fun t=>?_) hs1 hg1 hx1
     rw[q4.1 t,hd];simp
    |some d=>
     have hlt:=q3.1 d hd
     have hput:B4 n (some d) y env=some ((d,y)::env):=by
      simp only[B4]
      have:Nat.blt d n=true:=by simpa[Nat.blt_eq]using hlt
      rw[this]
     refine hcont (env':=(d,y)::env) (fun t=>?_) hs1 (Cm hput hg1 hrel) hx1
     rw[q4.1 t,hd,Ao];simp
   refine FM hF ho ?_
   rcases q3.2 with⟨_,hal,_⟩|⟨hw,cf,hcf,hst⟩|⟨hw,hy,hnb⟩
   ·exact hal.elim
   ·refine .inl ⟨Dc hg hw,?_⟩
    refine FU hp hcf hg.inv hg.env hst F hF _ _ ?_
    rintro v w' ⟨g',k1,k2,k3,k4⟩
    exact hputg (σ':=nb++σ) ⟨k4,k3,hg.defers.ext k1,hg.size⟩ k2 (fun b=>(q4.2 b).symm) (hx.trans k1)
   ·refine .inr ⟨Dc hg hw,?_⟩
    subst hy;subst hnb
    exact hputg (σ':=σ) hg (.t _ _ .undef) (fun b=>(q4.2 b).symm) hx
def KJ (n:Nat) (ops:Array Oper):List Nat->Env->Option Env
 |[],e=>some e
 |i::r,e=>match ops[i]? with
  |some o=>(match o.op with
   |.move x=>(match ev e x with
    |some y=>(match B4 n o.dst y e with
     |some e2=>KJ n ops r e2
     |none=>none)
    |none=>none)
   |_=>none)
  |none=>none
def Gu:List Nat->Array Bool->Array Bool
 |[],l=>l
 |i::r,l=>Gu r (l.setIfInBounds i true)
theorem HG: ∀(fl:List Nat) (l:Array Bool),(Gu fl l).size=l.size
 |[],_=>rfl
 |i::r,l=>by simp[Gu,HG r]
theorem KL: ∀(fl:List Nat) (l:Array Bool) (j:Nat),(∀i∈fl,i<l.size)->(Li (Gu fl l) j↔j∈fl\/Li l j)
 |[],l,j,_=>by simp[Gu]
 |i::r,l,j,h=>by
  rw[Gu,KL r _ j (fun x hx=>by simp;exact h x (by simp[hx])),DL (h i Ac)]
  simp only[List.mem_cons]
  constructor
  ·rintro(h'|h'|h')
   ·exact .inl (.inr h')
   ·exact .inl (.inl h')
   ·exact .inr h'
  ·rintro((h'|h')|h')
   ·exact .inr (.inl h')
   ·exact .inl h'
   ·exact .inr (.inr h')
theorem NS: ∀(fl:List Nat) (l:Array Bool),l.size=ops.size->E8 ops fl l=true->DC ops l->DC ops (Gu fl l)
 |[],l,_,_,h=>h
 |i::r,l,hs,ht,h=>by
  simp only[E8,Bool.and_eq_true]at ht
  have hr:=(Bv hs).1 (List.contains_iff_mem.1 ht.1.2)
  obtain⟨_,o,ho,hr⟩:=hr
  have hi:i<ops.size:=by
   rcases Nat.lt_or_ge i ops.size with h|h
   ·exact h
   ·rw[Array.getElem?_eq_none h]at ho;cases ho
  exact NS r _ (by simp[hs]) ht.2 (h.set Aa (fun o2 ho2=>by rw[ho]at ho2;cases ho2;exact hr))
theorem Qy {F:Fence} (hro:F.round=none) (hs:Region.noSelect ops=true) {K:Exit->Env->St->Prop} (hK: ∀ch e s,¬K (.panic ch) e s) {w0:World} {g0:G} {fuel:Nat} {w:World} {g:G} {env':Env} {σ:St}: ∀(fl:List Nat) {listed:Array Bool} {a:Act} {env:Env},
  E8 ops fl listed=true->(∀i∈fl,∃o x,ops[i]?=some o/\o.guard=none/\o.op=.move x)->KJ n ops fl env=some env'->Good n w g a env σ->
  (∀a',Good n w g a' env' σ->wpAnyIn F 0 P .any ops (BS n w0 g0 K) fuel (Gu fl listed) a' w)->wpAnyIn F 0 P .any ops (BS n w0 g0 K) (fuel+fl.length) listed a w
 |[],listed,a,env,_,_,he,hg,h=>by simp[KJ]at he;subst he;exact h a hg
 |i::r,listed,a,env,ht,hm,he,hg,h=>by
  obtain⟨o,x,ho,hgd,hx⟩:=hm i Ac
  simp only[E8,Bool.and_eq_true]at ht
  simp only[KJ,ho,hx]at he
  cases hy:ev env x with
  |none=>rw[hy]at he;simp at he
  |some y=>
   rw[hy]at he
   simp only at he
   cases hp:B4 n o.dst y env with
   |none=>rw[hp]at he;simp at he
   |some e2=>
    rw[hp]at he
    simp only at he
    have hg2:=Cm hp hg (AG hg.env hy)
    refine wpAnyIn_take (fuel:=fuel+r.length) (v:=a.eval x) hro ho hs ht.1.1 ht.1.2 ?_ ⟨.inl ⟨by simp[Region.wanted,hgd],fun w=>by simp[execOp,hx]⟩,fun w=>by simp[Oper.about,hx]⟩ ?_
    ·rintro ch a1 w1 ⟨e1,s1,g1,_,_,hk⟩;exact absurd hk (hK _ _ _)
    ·exact Qy hro hs hK r ht.2 (fun j hj=>hm j (by simp[hj])) he hg2 h
theorem YE (hp:ProgOk P c) {id:Nat} {env env':Env} {σ:St} {K:Exit->Env->St->Prop} (hd:XA ops k=some m) (ha:Kx ops.toList=true) (hK: ∀ch e s,¬K (.panic ch) e s) (hte:KJ n ops (List.range k) env=some env')
  (h:hSK P c n ops (D1 ((ops.toList.take m).drop k)) ((ops.toList.take m).drop k) env' σ (fun env σ=>A2 P n ops (ops.toList.drop m) env σ (K .normal))):Tr P n (.region id ops true) env σ K:=by
 intro F hF hrf w g a hg
 obtain⟨hD,hns,htk,hmv⟩:=Ai9 hd
 have hro:F.round=none:=by
  rcases hrf with h|h
  ·exact h
  ·simp[Lx,ha]at h
 have hlen:ops.toList.length=ops.size:=by simp
 have hle:=hD.le
 have hkm:=hD.km
 obtain⟨e,s,h1,h2⟩:=Nt ((ops.toList.take m).drop k) k (fun j hj=>by
  rw[List.getElem?_drop,List.getElem?_take,if_pos (by simp at hj;omega),Array.getElem?_toList]) (fun o ho=>Jm ho) h
 refine wpIn_region_any hp.mix ?_
 have hsz:ops.size=(ops.size-k)+(List.range k).length:=by simp;omega
 rw[hsz,<-hsz]
 rw[show wpAnyIn F 0 P .any ops (BS n w g K) ops.size=wpAnyIn F 0 P .any ops (BS n w g K) ((ops.size-k)+(List.range k).length)by rw[<-hsz]]
 refine Qy hro hns hK (List.range k) htk (fun i hi=>?_) hte hg.drew (fun a' hg'=>?_)
 ·obtain⟨o,x,ho,q1,q2⟩:=Rx (l:=ops.toList) (i:=i) (by simp at hi;omega)
  exact⟨o,x,by rw[Array.getElem?_toList]at ho;exact ho,q1,q2⟩
 ·have hin: ∀i∈List.range k,i<(Array.replicate ops.size false).size:=fun i hi=>by simp at hi⊢;omega
  have hLi: ∀j,Li (Gu (List.range k) (Array.replicate ops.size false)) j↔j<k:=fun j=>by
   rw[KL _ _ _ hin];simp[Li,Array.getElem?_replicate]
  have hrl:(List.range' k ((ops.toList.take m).drop k).length)=List.range' k (m-k):=by congr 1;simp;omega
  rw[hrl]at h1
  refine WX hF hp hD h2 (ops.size-k) (by rw[HG];simp) (NS _ _ Ac htk (fun i o ho hl=>by simp[Li,Array.getElem?_replicate]at hl)) (fun j hj=>(hLi j).2 hj) (fun i hi _ hl=>by have:=(hLi i).1 hl;omega) (fun i=>?_) List.pairwise_lt_range' (by simp;omega) h1 hg' (Ext.drew w g)
  rw[hLi,List.mem_range'_1];omega
end
end Go.Am
namespace Go.Am
def Th {R:Type} (c:Conf) (cf:Nat->List AV->St->Option (AV×St)) (n:Nat) (ops:Array Oper) (news:List Nat):List Oper->Env->St->(Env->St->Option R)->Option R
 |[],env,σ,k=>k env σ
 |o::rest,env,σ,k=>IM ops o env (fun env=>match BW c cf news o env σ with
   |some (x,nb)=>match B4 n o.dst x env with
    |some env2=>Th c cf n ops news rest env2 (nb++σ) k
    |none=>none
   |none=>none) (fun env=>match B4 n o.dst (.t .undef) env with
   |some env2=>Th c cf n ops news rest env2 σ k
   |none=>none)
def Ays:AV->Bool
 |.row _ _ _ _=>true
 |_=>false
def Abl (cf:Nat->List AV->St->Option (AV×St)) (f:Nat) (xs:List AV) (σ:St):Option (AV×St):=
 match cf f xs σ with
 |some (r,σ2)=>(match σ with
  |[]=>(match Ays r||r.free with
   |true=>some (r,σ2)
   |false=>(match DQ σ2 [r] [] σ2 with
    |([r1],_,_)=>(match r1.free with
     |true=>some (r1,[])
     |false=>none)
    |_=>none))
  |_=>some (r,σ2))
 |none=>none
theorem Xe {P:Program} {cf:Nat->List AV->St->Option (AV×St)} (h:EB P cf):EB P (Abl cf):=by
 intro f xs σ r σ' hr
 unfold Abl at hr
 split at hr
 ·rename_i r0 σ2 hc
  have hct:=h _ _ _ _ _ hc
  split at hr
  ·split at hr
   ·simp at hr;obtain⟨rfl,rfl⟩:=hr;exact hct
   ·split at hr
    ·rename_i r1 e s hz
     split at hr
     ·rename_i hf
      simp at hr;obtain⟨rfl,rfl⟩:=hr
      exact Ct.freeze hct hz hf
     ·cases hr
    ·cases hr
  ·simp at hr;obtain⟨rfl,rfl⟩:=hr;exact hct
 ·cases hr
def Nz (ops:Array Oper):Option (Nat×Nat):=
 match Kx ops.toList with
 |true=>(match XA ops (Kf ops.toList)with
  |some m=>some (Kf ops.toList,m)
  |none=>none)
 |false=>none
theorem Vl {ops:Array Oper} {m0 m:Nat} (h:Nz ops=some (m0,m)):Kx ops.toList=true/\XA ops m0=some m:=by
 unfold Nz at h
 split at h
 ·rename_i ha
  split at h
  ·rename_i m' hm;simp at h;obtain⟨rfl,rfl⟩:=h;exact⟨ha,hm⟩
  ·cases h
 ·cases h
def Cv {R:Type} (c:Conf) (cf:Nat->List AV->St->Option (AV×St)) (n:Nat):Code->Env->St->(Exit->Env->St->Option R)->Option R
 |.skip,env,σ,k=>k .normal env σ
 |.region _ ops draw,env,σ,k=>match regFrz ops env σ with
  |(env,σ)=>match draw with
   |true=>(match Nz ops with
    |some (m0,m)=>(match KJ n ops (List.range m0) env with
     |some env1=>Th c (Abl cf) n ops (D1 ((ops.toList.take m).drop m0)) ((ops.toList.take m).drop m0) env1 σ (fun env σ=>LR c cf n ops (ops.toList.drop m) env σ (k .normal))
     |none=>none)
    |none=>(match ID ops with
     |some m=>Th c (Abl cf) n ops (D1 (ops.toList.take m)) (ops.toList.take m) env σ (fun env σ=>LR c cf n ops (ops.toList.drop m) env σ (k .normal))
     |none=>none))
   |false=>LR c cf n ops ops.toList env σ (k .normal)
 |.seq a b,env,σ,k=>Cv c cf n a env σ (fun ex env σ=>match ex with
  |.normal=>Cv c cf n b env σ k
  |ex=>k ex env σ)
 |.cond x a b,env,σ,k=>match ev env x with
  |some (.t (.bool p))=>(match p with
   |true=>Cv c cf n a env σ k
   |false=>Cv c cf n b env σ k)
  |_=>none
 |.block id b,env,σ,k=>Cv c cf n b env σ (fun ex env σ=>match ex with
  |.exit i=>(match Nat.beq i id with
   |true=>k .normal env σ
   |false=>k (.exit i) env σ)
  |ex=>k ex env σ)
 |.loop b,env,σ,k=>Zl (fun env σ k=>Cv c cf n b env σ k) LF env σ k
 |.exit id,env,σ,k=>k (.exit id) env σ
 |.ret,env,σ,k=>k .ret env σ
 |_,_,_,_=>none
def Aas (c:Conf) (cf:Nat->List AV->St->Option (AV×St)) (own:Bool) (fn:Func) (as:List AV) (σ:St):Option (AV×St):=
 match fn.body with
 |some code=>bif Nat.ble as.length fn.ntmps then Cv c cf fn.ntmps code (FG 0 as) σ (fun ex env σ=>match ex with
  |.normal=>JY c.te own fn.results.toList env σ
  |.ret=>JY c.te own fn.results.toList env σ
  |_=>none)else none
 |none=>none
def P3 (P:Program) (c:Conf):Nat->Nat->List AV->St->Option (AV×St)
 |0,_,_,_=>none
 |d+1,f,as,σ=>match c.sp f as σ with
  |some r=>some r
  |none=>match P.funcs[f]? with
   |some fn=>Aas c (P3 P c d) (FC f c.ownR) fn as σ
   |none=>none
section
variable {P:Program} {c:Conf} {cf:Nat->List AV->St->Option (AV×St)} {R:Type}
theorem KE {o:Oper} {ops:Array Oper} {env:Env} {kT kF:Env->Option R} {r:R} {hT hF:Env->Prop} (h:IM ops o env kT kF=some r) (h1: ∀e,kT e=some r->hT e) (h2: ∀e,kF e=some r->hF e):
  AL ops o env hT hF:=by
 unfold IM at h
 unfold AL
 split at h
 ·rename_i hg;(try rw[hg]);exact h1 _ h
 ·rename_i j want hg
  (try rw[hg])
  split at h
  ·rename_i oj hj
   (try simp only[hj])
   split at h
   ·rename_i d hd
    (try simp only[hd])
    split at h
    ·rename_i b hb
     (try rw[hb])
     cases b<;>cases want
     ·exact⟨fun _=>h1 _ h,fun e=>by cases e⟩
     ·exact⟨fun e=>(by cases e),fun _=>h2 _ h⟩
     ·exact⟨fun e=>(by cases e),fun _=>h2 _ h⟩
     ·exact⟨fun _=>h1 _ h,fun e=>by cases e⟩
    ·rename_i hb;(try rw[hb]);exact h2 _ h
    ·cases h
   ·cases h
  ·cases h
theorem JV (hp:ProgOk P c) (hcf:EB P cf) {n:Nat} {ops:Array Oper} {k:Env->St->Option R} {r:R}: ∀(l:List Oper) {env:Env} {σ:St},LR c cf n ops l env σ k=some r->A2 P n ops l env σ (fun e s=>k e s=some r)
 |[],env,σ,h=>h
 |o::rest,env,σ,h=>by
  simp only[LR]at h
  refine KE h (fun e h=>?_) (fun e h=>?_)
  ·split at h
   ·rename_i x e1 s1 hs
    split at h
    ·rename_i e2 hput
     exact A1w hp hcf hs ⟨e2,hput,JV hp hcf rest h⟩
    ·cases h
   ·cases h
  ·split at h
   ·rename_i e2 hput
    exact⟨e2,hput,JV hp hcf rest h⟩
   ·cases h
theorem PH (hcf:EB P cf) {n:Nat} {ops:Array Oper} {news:List Nat} {k:Env->St->Option R} {r:R}: ∀(l:List Oper) {env:Env} {σ:St},Th c cf n ops news l env σ k=some r->hSK P c n ops news l env σ (fun e s=>k e s=some r)
 |[],env,σ,h=>h
 |o::rest,env,σ,h=>by
  simp only[Th]at h
  refine KE h (fun e h=>?_) (fun e h=>?_)
  ·split at h
   ·rename_i x nb hs
    split at h
    ·rename_i e2 hput
     exact⟨cf,x,nb,hcf,hs,e2,hput,PH hcf rest h⟩
    ·cases h
   ·cases h
  ·split at h
   ·rename_i e2 hput
    exact⟨e2,hput,PH hcf rest h⟩
   ·cases h
theorem Oz {n:Nat} {ops:Array Oper} {K K':Env->St->Prop} (hK: ∀e s,K e s->K' e s): ∀(l:List Oper) {env:Env} {σ:St},A2 P n ops l env σ K->A2 P n ops l env σ K'
 |[],env,σ,h=>hK _ _ h
 |o::rest,env,σ,h=>by
  simp only[A2]at h⊢
  unfold AL at h⊢
  have a1: ∀e,Hm P o e σ (fun x e s=>FX n o.dst x e fun e2=>A2 P n ops rest e2 s K)->Hm P o e σ (fun x e s=>FX n o.dst x e fun e2=>A2 P n ops rest e2 s K'):=
   fun e h=>h.mono fun x e s ⟨e2,hput,h⟩=>⟨e2,hput,Oz hK rest h⟩
  have a2: ∀e,FX n o.dst (.t .undef) e (fun e2=>A2 P n ops rest e2 σ K)->FX n o.dst (.t .undef) e (fun e2=>A2 P n ops rest e2 σ K'):=by
   rintro e ⟨e2,hput,h⟩
   exact⟨e2,hput,Oz hK rest h⟩
  split at h
  ·exact a1 _ h
  ·split at h
   ·split at h
    ·split at h
     ·exact⟨fun e=>a1 _ (h.1 e),fun e=>a2 _ (h.2 e)⟩
     ·exact a2 _ h
     ·exact h
    ·exact h
   ·exact h
theorem Nu {n:Nat} {ops:Array Oper} {news:List Nat} {K K':Env->St->Prop} (hK: ∀e s,K e s->K' e s): ∀(l:List Oper) {env:Env} {σ:St},hSK P c n ops news l env σ K->hSK P c n ops news l env σ K'
 |[],env,σ,h=>hK _ _ h
 |o::rest,env,σ,h=>by
  simp only[hSK]at h⊢
  unfold AL at h⊢
  have a1: ∀e,(∃cf x nb,EB P cf/\BW c cf news o e σ=some (x,nb)/\FX n o.dst x e fun e2=>hSK P c n ops news rest e2 (nb++σ) K)->(∃cf x nb,EB P cf/\BW c cf news o e σ=some (x,nb)/\FX n o.dst x e fun e2=>hSK P c n ops news rest e2 (nb++σ) K'):=by
   rintro e ⟨cf,x,nb,hcf,hs,e2,hput,h⟩
   exact⟨cf,x,nb,hcf,hs,e2,hput,Nu hK rest h⟩
  have a2: ∀e,FX n o.dst (.t .undef) e (fun e2=>hSK P c n ops news rest e2 σ K)->FX n o.dst (.t .undef) e (fun e2=>hSK P c n ops news rest e2 σ K'):=by
   rintro e ⟨e2,hput,h⟩
   exact⟨e2,hput,Nu hK rest h⟩
  split at h
  ·exact a1 _ h
  ·split at h
   ·split at h
    ·split at h
     ·exact⟨fun e=>a1 _ (h.1 e),fun e=>a2 _ (h.2 e)⟩
     ·exact a2 _ h
     ·exact h
    ·exact h
   ·exact h
theorem Abh {n:Nat} {b:Code} {step:Env->St->(Exit->Env->St->Option R)->Option R} {k:Exit->Env->St->Option R} {r:R} (hk: ∀ch e s,k (.panic ch) e s≠some r)
  (hstep: ∀{k:Exit->Env->St->Option R} {env:Env} {σ:St},(∀ch e s,k (.panic ch) e s≠some r)->step env σ k=some r->Tr P n b env σ (fun ex e s=>k ex e s=some r)):
  ∀(m:Nat) {env:Env} {σ:St},Zl step m env σ k=some r->Tr P n (.loop b) env σ (fun ex e s=>k ex e s=some r):=fun m env σ h=>
 Tr.loop (I:=fun m e s=>Zl step m e s k=some r) m h fun m e s hI=>by
  cases m with
  |zero=>simp[Zl]at hI
  |succ m=>
   simp only[Zl]at hI
   refine(hstep (by intro ch e s;exact hk ch e s) hI).mono fun ex e s h3=>?_
   cases ex with
   |normal=>exact⟨m,by omega,h3⟩
   |exit id=>exact h3
   |goto l=>exact h3
   |ret=>exact h3
   |panic ch=>exact h3
   |outgrown=>exact h3
theorem Tr.regFrz {n:Nat} {code:Code} {ops:Array Oper} {env:Env} {σ:St} {K:Exit->Env->St->Prop} (env':Env) (σ':St) (hz:Am.regFrz ops env σ=(env',σ')) (h:Tr P n code env' σ' K):Tr P n code env σ K:=by
 intro F hF hrf w g a hg
 obtain⟨g',k1,k2⟩:=Fo hz hg
 exact wpIn_mono (h F hF hrf w g' a k2) fun ex a2 w2 hq=>hq.lift k1
theorem ET (hp:ProgOk P c) (hcf:EB P cf) {n:Nat} {r:R}: ∀(code:Code) {k:Exit->Env->St->Option R} {env:Env} {σ:St},(∀ch e s,k (.panic ch) e s≠some r)->Cv c cf n code env σ k=some r->Tr P n code env σ (fun ex e s=>k ex e s=some r)
 |.skip,k,env,σ,_,h=>by
  simp only[Cv]at h
  exact Yp h
 |.region id ops draw,k,env0,σ0,hk,h=>by
  simp only[Cv]at h
  cases draw with
  |false=>
   refine Df hp (.region id ops false) ?_
   simp only[E4]
   generalize(regFrz ops env0 σ0).1=env at h⊢
   generalize(regFrz ops env0 σ0).2=σ at h⊢
   exact JV hp hcf _ h
  |true=>
   simp only at h
   cases hfr:Nz ops with
   |none=>
    rw[hfr]at h
    refine Df hp (.region id ops true) ?_
    simp only[E4]
    generalize(regFrz ops env0 σ0).1=env at h⊢
    generalize(regFrz ops env0 σ0).2=σ at h⊢
    simp only at h
    unfold Aid
    cases hm:ID ops with
    |none=>rw[hm]at h;simp at h
    |some m=>
     rw[hm]at h
     simp only[hm]
     exact Nu (fun e s hh=>JV hp hcf _ hh) _ (PH (Xe hcf) _ h)
   |some q=>
    obtain⟨m0,m⟩:=q
    rw[hfr]at h
    simp only at h
    obtain⟨ha,hd⟩:=Vl hfr
    refine Tr.regFrz (regFrz ops env0 σ0).1 (regFrz ops env0 σ0).2 Y ?_
    generalize(regFrz ops env0 σ0).1=env at h⊢
    generalize(regFrz ops env0 σ0).2=σ at h⊢
    split at h
    ·rename_i env1 hte
     exact YE hp hd ha (fun ch e s hh=>hk ch e s hh) hte (Nu (fun e s hh=>JV hp hcf _ hh) _ (PH (Xe hcf) _ h))
    ·cases h
 |.seq x y,k,env,σ,hk,h=>by
  simp only[Cv]at h
  refine Ik ((ET hp hcf x (by intro ch e s;exact hk ch e s) h).mono fun ex e s h3=>?_)
  cases ex with
  |normal=>exact ET hp hcf y hk h3
  |exit id=>exact h3
  |goto l=>exact h3
  |ret=>exact h3
  |panic ch=>exact h3
  |outgrown=>exact h3
 |.cond x y z,k,env,σ,hk,h=>by
  simp only[Cv]at h
  split at h
  ·rename_i p hb
   cases p with
   |true=>exact Aag hb (ET hp hcf y hk h)
   |false=>exact Aah hb (ET hp hcf z hk h)
  ·cases h
 |.block id b,k,env,σ,hk,h=>by
  simp only[Cv]at h
  refine Ms ((ET hp hcf b (by intro ch e s;exact hk ch e s) h).mono fun ex e s h3=>?_)
  cases ex with
  |exit i=>
   simp only at h3⊢
   cases hi:Nat.beq i id<;>simp only[hi]at h3⊢ <;>exact h3
  |normal=>exact h3
  |goto l=>exact h3
  |ret=>exact h3
  |panic ch=>exact h3
  |outgrown=>exact h3
 |.loop b,k,env,σ,hk,h=>by
  simp only[Cv]at h
  exact Abh hk (fun hk' hh=>ET hp hcf b hk' hh) LF h
 |.exit id,k,env,σ,_,h=>by
  simp only[Cv]at h
  exact Yq h
 |.ret,k,env,σ,_,h=>by
  simp only[Cv]at h
  exact Ca h
 |.rangeFunc ..,k,env,σ,_,h=>by simp[Cv]at h
 |.scope _,k,env,σ,_,h=>by simp[Cv]at h
 |.label _,k,env,σ,_,h=>by simp[Cv]at h
 |.goto _,k,env,σ,_,h=>by simp[Cv]at h
 |.refuse _,k,env,σ,_,h=>by simp[Cv]at h
theorem Pz (hp:ProgOk P c): ∀d,EB P (P3 P c d)
 |0=>by intro f as σ r σ' h;simp[P3]at h
 |d+1=>by
  intro f as σ r σ' h
  simp only[P3]at h
  split at h
  ·rename_i q hq
   simp at h;subst h
   exact hp.sp _ _ _ _ _ hq
  split at h
  ·rename_i fn hf
   unfold Aas at h
   split at h
   ·rename_i code hb
    cases hle:Nat.ble as.length fn.ntmps with
    |false=>rw[hle]at h;simp at h
    |true=>
     rw[hle]at h
     simp only[cond_true]at h
     refine XD hp hf hb (FC f c.ownR) hle ?_
     refine(ET hp (Pz hp d) code (fun ch e s=>by simp) h).mono fun ex e s h3=>?_
     cases ex with
     |normal=>exact⟨.inl Y,r,h3,A1x r⟩
     |ret=>exact⟨.inr Y,r,h3,A1x r⟩
     |exit id=>simp at h3
     |goto l=>simp at h3
     |panic ch=>simp at h3
     |outgrown=>simp at h3
   ·cases h
  ·cases h
theorem ctV (hp:ProgOk P c) (d:Nat) {f:Nat} {as:List AV} {σ σ':St} {r:AV} (h:P3 P c d f as σ=some (r,σ')):Ct P f as σ r σ':=Pz hp d f as σ r σ' h
theorem Jr {r:AV} (hr: ∀b,r.has b=false): ∀(l:St) (env:Env) (σ:St),∃e s,DQ l [r] env σ=([r],e,s)
 |[],env,σ=>⟨env,σ,Y⟩
 |(b,B)::l,env,σ=>by
  have hb:Ox b [r]=false:=by simp[Ox,hr b]
  simp only[DQ]
  split
  ·rw[hb];exact Jr hr l env σ
  ·exact Jr hr l env σ
end
end Go.Am
namespace Go.Am
def WO:SM->Bool
 |.any=>true
 |_=>false
def Ln:List UInt8->List UInt8->Bool
 |[],[]=>true
 |a::r,b::s=>Nat.beq a.toNat b.toNat&&Ln r s
 |_,_=>false
theorem RW: ∀{a b:List UInt8},Ln a b=true->a=b
 |[],[],_=>rfl
 |a::r,b::s,h=>by
  simp only[Ln,Bool.and_eq_true]at h
  have h1:a=b:=UInt8.toNat_inj.1 (Nat.eq_of_beq_eq_true h.1)
  rw[h1,RW h.2]
 |[],_::_,h=>by simp[Ln]at h
 |_::_,[],h=>by simp[Ln]at h
def X0:Int->Int->Bool
 |.ofNat a,.ofNat b=>Nat.beq a b
 |.negSucc a,.negSucc b=>Nat.beq a b
 |_,_=>false
theorem Xz {a b:Int} (h:X0 a b=true):a=b:=by
 cases a<;>cases b<;>simp only[X0]at h
 ·rw[Nat.eq_of_beq_eq_true h]
 ·cases h
 ·cases h
 ·rw[Nat.eq_of_beq_eq_true h]
mutual
def JD:T->T->Bool
 |.bool a,.bool b=>a==b
 |.int k a,.int k' b=>decide (k=k')&&X0 a b
 |.str a,.str b=>Ln a b
 |.slice _ sz es,.slice m' sz' es'=>WO m'&&SS (Nat.beq sz sz') es es'
 |.nilIface,.nilIface=>true
 |_,_=>false
def J6:List T->List T->Bool
 |[],[]=>true
 |x::r,y::s=>JD x y&&J6 r s
 |_,_=>false
def SS:Bool->List (List T)->List (List T)->Bool
 |_,[],[]=>true
 |b,e::r,e'::r'=>b&&(J6 e e'&&JN r r')
 |_,_,_=>false
def JN:List (List T)->List (List T)->Bool
 |[],[]=>true
 |x::r,y::s=>J6 x y&&JN r s
 |_,_=>false
end
theorem Ahc {x y:T} (h:JD x y=true):CK y=true:=by
 cases x<;>cases y<;>first|rfl|(simp[JD]at h)
theorem NO: ∀{e e':List T},J6 e e'=true->e'.length=e.length
 |[],[],_=>rfl
 |x::r,y::s,h=>by
  simp only[J6,Bool.and_eq_true]at h
  simp[NO h.2]
 |[],_::_,h=>by simp[J6]at h
 |_::_,[],h=>by simp[J6]at h
theorem NP: ∀{e e':List T},J6 e e'=true-> ∀(i:Nat) y,e'[i]?=some y-> ∃x,e[i]?=some x/\JD x y=true
 |[],[],_,i,y,h=>by simp at h
 |x::r,y::s,h,i,z,hz=>by
  simp only[J6,Bool.and_eq_true]at h
  cases i with
  |zero=>simp at hz;subst hz;exact⟨x,Y,h.1⟩
  |succ i=>simp at hz;obtain⟨u,h1,h2⟩:=NP h.2 i z hz;exact⟨u,by simpa using h1,h2⟩
 |[],_::_,h,_,_,_=>by simp[J6]at h
 |_::_,[],h,_,_,_=>by simp[J6]at h
theorem OH: ∀{es es':List (List T)},JN es es'=true->es'.length=es.length/\(∀sz,(∀e∈es,e.length=sz)-> ∀e∈es',e.length=sz)/\(∀(i:Nat) y,es'.flatten[i]?=some y-> ∃x,es.flatten[i]?=some x/\JD x y=true)
 |[],[],_=>⟨Y,fun _ _ _ h=>by simp at h,fun i y h=>by simp at h⟩
 |e::r,e'::r',h=>by
  simp only[JN,Bool.and_eq_true]at h
  obtain⟨h1,h2,h3⟩:=OH h.2
  have hl:=NO h.1
  refine⟨by simp[h1],fun sz hs x hx=>?_,fun i y hy=>?_⟩
  ·simp only[List.mem_cons]at hx
   rcases hx with rfl|hx
   ·rw[hl];exact hs e Ac
   ·exact h2 sz (fun z hz=>hs z (by simp[hz])) x hx
  ·simp only[List.flatten_cons]at hy⊢
   by_cases c:i<e'.length
   ·rw[List.getElem?_append_left c]at hy
    rw[List.getElem?_append_left Aa]
    exact NP h.1 i y hy
   ·rw[List.getElem?_append_right Aa]at hy
    rw[List.getElem?_append_right Aa,<-hl]
    exact h3 _ y hy
 |[],_::_,h=>by simp[JN]at h
 |_::_,[],h=>by simp[JN]at h
theorem Aam {w:World} {M:Nat->Nat->Prop} {x y:T} {v:Value} (h:JD x y=true) (hr:RelT w M v x):RelT w M v y:=by
 induction hr generalizing y with
 |bool b=>
  cases y<;>simp[JD]at h
  subst h;exact .bool b
 |int k a=>
  cases y<;>simp[JD]at h
  obtain⟨rfl,h2⟩:=h
  rw[<-Xz h2];exact .int k a
 |str a=>
  cases y<;>simp[JD]at h
  rw[<-RW h];exact .str a
 |sliceNil m sz=>
  cases y with
  |slice m' sz' es'=>
   simp only[JD,Bool.and_eq_true]at h
   cases es' with
   |nil=>exact .sliceNil _ _
   |cons=>simp[SS]at h
  |_=>simp[JD]at h
 |sliceZ a m sz hm=>
  cases y with
  |slice m' sz' es'=>
   simp only[JD,Bool.and_eq_true]at h
   cases es' with
   |nil=>
    refine .sliceZ a _ _ ?_
    cases m' with
    |nil=>simp[WO]at h
    |any=>simp
    |full=>simp
    |phys _ _=>simp
   |cons=>simp[SS]at h
  |_=>simp[JD]at h
 |slice b off len cap m sz es vs hl hc hf hm hp hsz hone hcell hrel ih=>
  cases y with
  |slice m' sz' es'=>
   simp only[JD,Bool.and_eq_true]at h
   have hm':m'=.any:=by
    cases m' with
    |any=>rfl
    |full=>simp[WO]at h
    |phys _ _=>simp[WO]at h
    |nil=>simp[WO]at h
   subst hm'
   cases es with
   |nil=>
    cases es' with
    |nil=>exact .slice b off len cap .any sz' [] vs hl hc (fun h=>by cases h) Ac (fun p N hp=>by cases hp) (fun e he=>by simp at he) (fun i x hx=>by simp at hx) (fun i x hx=>by simp at hx) (fun i x hx=>by simp at hx)
    |cons=>simp[SS]at h
   |cons e r=>
    cases es' with
    |nil=>simp[SS]at h
    |cons e' r'=>
     simp only[SS,Bool.and_eq_true]at h
     obtain⟨_,h1,h2,h3⟩:=h
     have hsz':=Nat.eq_of_beq_eq_true h1
     subst hsz'
     have hall:JN (e::r) (e'::r')=true:=by simp[JN,h2,h3]
     have hfl:=OH hall
     refine .slice b off len cap .any sz (e'::r') vs (by rw[<-hl];exact hfl.1) hc (fun h=>by cases h) Ac (fun p N hp=>by cases hp) (fun x hx=>hfl.2.1 sz hsz x hx) (fun i y hy=>?_) (fun i y hy=>?_) (fun i y hy=>?_)
     ·obtain⟨x,hx,hs⟩:=hfl.2.2 i y hy;exact Ahc hs
     ·obtain⟨x,hx,hs⟩:=hfl.2.2 i y hy;exact hcell i x hx
     ·obtain⟨x,hx,hs⟩:=hfl.2.2 i y hy;exact ih i x hx hs
  |_=>simp[JD]at h
 |nilIface=>
  cases y<;>simp[JD]at h
  exact .nilIface
 |_=>cases y<;>simp[JD]at h
def Arw:AV->AV->Bool
 |.t x,.t y=>JD x y
 |.agg xs,.agg ys=>match allT xs,allT ys with
  |some a,some b=>J6 a b
  |_,_=>false
 |_,_=>false
def Mx:List AV->List AV->Bool
 |[],[]=>true
 |x::r,y::s=>Arw x y&&Mx r s
 |_,_=>false
theorem OC: ∀{l:List AV} {a:List T},allT l=some a->l=Ah a
 |[],a,h=>by simp[allT]at h;subst h;rfl
 |x::r,a,h=>by
  cases x with
  |t x0=>
   simp only[allT]at h
   cases hy:allT r with
   |none=>rw[hy]at h;cases h
   |some ys=>rw[hy]at h;cases h;simp[Ah,OC hy]
  |_=>simp[allT]at h
theorem Ak4 {x y:AV} (h:Arw x y=true):Sub x y:=by
 unfold Arw at h
 split at h
 ·exact fun w g v hr=>.t _ _ (Aam h (Aw hr))
 ·rename_i xs ys
  split at h
  ·rename_i a b ha hb
   rw[OC ha,OC hb]
   intro w g v hr
   cases hr with
   |agg vs _ hl hrel=>
    refine .agg vs _ (by rw[hl,AU,AU,NO h]) (fun i u z hu hz=>?_)
    rw[BV]at hz
    cases hb':b[i]? with
    |none=>rw[hb']at hz;cases hz
    |some z0=>
     rw[hb']at hz;cases hz
     obtain⟨x0,hx0,hs0⟩:=NP h i z0 hb'
     exact .t _ _ (Aam hs0 (Aw (hrel i u _ hu (by rw[BV,hx0];rfl))))
  ·cases h
 ·cases h
theorem Q3: ∀{l m:List AV},Mx l m=true->DU l m
 |[],[],_=>trivial
 |x::r,y::s,h=>by
  simp only[Mx,Bool.and_eq_true]at h
  exact⟨Ak4 h.1,Q3 h.2⟩
 |[],_::_,h=>by simp[Mx]at h
 |_::_,[],h=>by simp[Mx]at h
def Al4 {α:Type} (f0:Nat) (dec:List AV->Option α) (enc:α->List AV) (ok:α->Bool) (res:α->AV) (f:Nat) (xs:List AV) (σ:St):Option (AV×St):=
 bif Nat.beq f f0 then(match σ with
  |[]=>(match dec xs with
   |some a=>bif ok a&&Mx xs (enc a)then some (res a,[])else none
   |none=>none)
  |_=>none)else none
theorem Abj {P:Program} {α:Type} {f0:Nat} {dec:List AV->Option α} {enc:α->List AV} {ok:α->Bool} {res:α->AV} (hc: ∀a,ok a=true->Ct P f0 (enc a) [] (res a) []) {f:Nat} {xs:List AV} {σ σ':St} {r:AV}
  (h:Al4 f0 dec enc ok res f xs σ=some (r,σ')):Ct P f xs σ r σ':=by
 unfold Al4 at h
 cases hf:Nat.beq f f0 with
 |false=>rw[hf]at h;simp at h
 |true=>
  rw[hf]at h
  have:=Nat.eq_of_beq_eq_true hf
  subst this
  simp only[cond_true]at h
  split at h
  ·split at h
   ·rename_i a ha
    cases hb:ok a&&Mx xs (enc a)with
    |false=>rw[hb]at h;simp at h
    |true=>
     rw[hb]at h
     simp at h hb
     obtain⟨rfl,rfl⟩:=h
     exact(hc a hb.1).args (Q3 hb.2)
   ·cases h
  ·cases h
def KT (a b:Nat->List AV->St->Option (AV×St)) (f:Nat) (xs:List AV) (σ:St):Option (AV×St):=
 match a f xs σ with
 |some r=>some r
 |none=>b f xs σ
end Go.Am
namespace Go.Am
mutual
def J8:T->Bool
 |.undef=>true
 |.bool _=>true
 |.int _ _=>true
 |.str _=>true
 |.nilIface=>true
 |.nilPtr=>true
 |.nilFunc=>true
 |.nilMap=>true
 |.agg l=>QH l
 |.tuple l=>QH l
 |_=>false
def QH:List T->Bool
 |[]=>true
 |x::r=>J8 x&&QH r
end
mutual
def F2:AV->Bool
 |.t x=>J8 x
 |.agg l=>QK l
 |.tuple l=>QK l
 |_=>false
def QK:List AV->Bool
 |[]=>true
 |x::r=>F2 x&&QK r
end
theorem LM: ∀{l:List T},QH l=true-> ∀(i:Nat) x,l[i]?=some x->J8 x=true
 |[],_,i,x,h=>by simp at h
 |y::r,hs,i,x,h=>by
  simp only[QH,Bool.and_eq_true]at hs
  cases i with
  |zero=>simp at h;subst h;exact hs.1
  |succ i=>simp at h;exact LM hs.2 i x h
theorem LO: ∀{l:List AV},QK l=true-> ∀(i:Nat) x,l[i]?=some x->F2 x=true
 |[],_,i,x,h=>by simp at h
 |y::r,hs,i,x,h=>by
  simp only[QK,Bool.and_eq_true]at hs
  cases i with
  |zero=>simp at h;subst h;exact hs.1
  |succ i=>simp at h;exact LO hs.2 i x h
theorem Acn {w w':World} {M M':Nat->Nat->Prop} {v:Value} {x:T} (h:RelT w M v x):J8 x=true->RelT w' M' v x:=by
 induction h with
 |undef=>exact fun _=>.undef
 |bool b=>exact fun _=>.bool b
 |int k n=>exact fun _=>.int k n
 |str s=>exact fun _=>.str s
 |nilPtr=>exact fun _=>.nilPtr
 |nilIface=>exact fun _=>.nilIface
 |nilFunc=>exact fun _=>.nilFunc
 |nilMap=>exact fun _=>.nilMap
 |agg vs xs h _ ih=>intro hs;simp only[J8]at hs;exact .agg vs xs h (fun i v x a b=>ih i v x a b (LM hs i x b))
 |tuple vs xs h _ ih=>intro hs;simp only[J8]at hs;exact .tuple vs xs h (fun i v x a b=>ih i v x a b (LM hs i x b))
 |sliceNil=>intro hs;simp[J8]at hs
 |sliceZ=>intro hs;simp[J8]at hs
 |slice=>intro hs;simp[J8]at hs
 |ptr=>intro hs;simp[J8]at hs
 |iface=>intro hs;simp[J8]at hs
 |func=>intro hs;simp[J8]at hs
theorem SZ {w w':World} {g g':G} {v:Value} {x:AV} (h:Rel w g v x):F2 x=true->Rel w' g' v x:=by
 induction h with
 |t v x h=>intro hs;exact .t v x (Acn h hs)
 |agg vs xs h _ ih=>intro hs;simp only[F2]at hs;exact .agg vs xs h (fun i v x a b=>ih i v x a b (LO hs i x b))
 |tuple vs xs h _ ih=>intro hs;simp only[F2]at hs;exact .tuple vs xs h (fun i v x a b=>ih i v x a b (LO hs i x b))
 |top=>intro hs;simp[F2]at hs
 |ref=>intro hs;simp[F2]at hs
 |eref=>intro hs;simp[F2]at hs
 |mref=>intro hs;simp[F2]at hs
 |rowNil=>intro hs;simp[F2]at hs
 |row=>intro hs;simp[F2]at hs
 |iface=>intro hs;simp[F2]at hs
 |func=>intro hs;simp[F2]at hs
def D3 (σ:St):AV->Option AV
 |.t x=>some (.t x)
 |.row b sz lo n=>match look σ b with
  |some (.grow sz' es)=>bif Nat.beq sz sz'&&(Nat.beq lo 0&&Nat.ble n es.length)then some (.t (.slice .any sz (es.take n)))else none
  |_=>none
 |_=>none
def Kr (σ:St):List AV->Option (List AV)
 |[]=>some []
 |x::r=>match D3 σ x with
  |some y=>match Kr σ r with
   |some s=>some (y::s)
   |none=>none
  |none=>none
def G.lend (g:G) (σ:St):G:={β:=fun _=>none,own:=fun _=>False,oth:=fun blk o=>g.M blk o/\ ¬ ∃b sz es,look σ b=some (.grow sz es)/\g.β b=some (some blk),sp:=fun _=>none,bx:=fun _=>False,lo:=g.lo}
theorem Ah0 {g:G} {σ:St} {blk o:Nat} (h:(g.lend σ).M blk o):g.M blk o:=by
 rcases h with h|h
 ·exact h.1.elim
 ·exact h.1
theorem WJ {w:World} {g:G} {σ:St} (hi:Inv w g σ):Inv w (g.lend σ) []:=
 ⟨fun b B h=>by simp[look]at h,fun b=>by simp[look,G.lend],fun b b' blk h=>by simp[G.lend]at h,fun blk h=>(by
   rcases h with h|⟨o,h⟩
   ·exact h.elim
   ·rcases h.1 with h|h
    ·exact hi.lt blk (.inl h.1)
    ·exact hi.lt blk (.inr ⟨o,h⟩)),fun b h=>by simp[G.lend]at h,fun blk o h=>by simp[G.lend]at h,
  fun p hp=>⟨fun h=>(hi.im p hp).1 (Ah0 h),(hi.im p hp).2⟩,hi.lo,.empty (fun _ _ h=>by cases h) (fun _=>rfl)⟩
theorem Ad1 {w:World} {g:G} {σ:St} (hi:Inv w g σ) {v:Value} {x y:AV} (h:D3 σ x=some y) (hr:Rel w g v x):Rel w (g.lend σ) v y:=by
 have hk:HC w g.M w (g.lend σ).M:=fun b o u h1 h2=>⟨fun h=>h1 (Ah0 h),h2⟩
 cases x with
 |t x=>simp[D3]at h;subst h;exact .t _ _ ((Aw hr).mono hk)
 |row b sz lo n=>
  simp only[D3]at h
  cases hb:look σ b with
  |none=>rw[hb]at h;simp at h
  |some B=>
   rw[hb]at h
   cases B with
   |cells=>simp at h
   |loop=>simp at h
   |mp=>simp at h
   |rights=>simp at h
   |grow sz' es=>
    simp only at h
    cases hq:(Nat.beq sz sz'&&(Nat.beq lo 0&&Nat.ble n es.length))with
    |false=>rw[hq]at h;simp at h
    |true=>
     rw[hq]at h
     simp only[cond_true,Option.some.injEq]at h
     subst h
     simp only[Bool.and_eq_true]at hq
     obtain⟨h1,h2,h3⟩:=hq
     have h1:=Nat.eq_of_beq_eq_true h1
     have h2:=Nat.eq_of_beq_eq_true h2
     have h3:n<=es.length:=by simpa using h3
     subst h1;subst h2
     obtain⟨hsz,hor⟩:=hi.ok b _ hb
     cases hr with
     |rowNil _ _ a ha hβ=>
      refine .t _ _ ?_
      cases a with
      |none=>simpa using RelT.sliceNil (w:=w) (M:=(g.lend σ).M) .any sz
      |some a=>simpa using RelT.sliceZ (w:=w) (M:=(g.lend σ).M) a .any sz Ac
     |row _ _ _ _ blk o cap e m hβ hs ho hl hn=>
      rcases hor with⟨q1,q2⟩|⟨blk',u,e',k1,k2,k3,k4,k5⟩
      ·rw[q1]at hβ;cases hβ
      rw[k1]at hβ;cases hβ
      refine .t _ _ (DN (by simp;omega) hl (fun h=>by cases h) Ac (fun e he=>hsz e (List.mem_of_mem_take he)) (fun i x hx=>?_))
      have hflat:es.flatten[i]?=some x:=by
       have:=C7 sz es hsz 0 n i x (by simpa using hx)
       simpa using this
      have hnn:n≠0:=fun e=>by subst e;simp at hx
      have ho':o=0:=by rcases ho with h|h<;>omega
      subst ho'
      have hlt:i<u.size:=Nat.lt_of_lt_of_le (AW hflat) k4
      have hv:u[i]?=some u[i]:=by simp[hlt]
      obtain⟨q1,q2⟩:=k5 i _ x hv hflat
      refine⟨?_,q1,u[i],by simp[World.cell?,k3,hlt],q2.mono hk⟩
      rintro(h|h)
      ·exact h.1.elim
      ·exact h.2 ⟨b,sz,es,hb,k1⟩
 |top=>simp[D3]at h
 |ref=>simp[D3]at h
 |eref=>simp[D3]at h
 |mref=>simp[D3]at h
 |iface=>simp[D3]at h
 |func=>simp[D3]at h
 |agg=>simp[D3]at h
 |tuple=>simp[D3]at h
theorem On {w:World} {g:G} {σ:St} (hi:Inv w g σ): ∀{xs ys:List AV} {vs:List Value},Kr σ xs=some ys->Bt w g vs xs->Bt w (g.lend σ) vs ys
 |[],ys,vs,h,hr=>by
  simp[Kr]at h;subst h
  exact⟨hr.1,fun i v x hv hx=>by simp at hx⟩
 |x::r,ys,vs,h,hr=>by
  simp only[Kr]at h
  cases hy:D3 σ x with
  |none=>rw[hy]at h;simp at h
  |some y=>
   rw[hy]at h
   cases hs:Kr σ r with
   |none=>rw[hs]at h;simp at h
   |some s=>
    rw[hs]at h
    simp at h;subst h
    match vs,hr with
    |[],hr=>simp[Bt]at hr
    |v::vr,hr=>exact A1v (Ad1 hi hy (hr.2 0 v x Y Y)) (On hi hs ⟨by simpa using hr.1,fun i u z hu hz=>hr.2 (i+1) u z (by simpa using hu) (by simpa using hz)⟩)
theorem Ct.lend {P:Program} {f:Nat} {xs ys:List AV} {r:AV} {σ:St} (h:Ct P f ys [] r []) (hs:F2 r=true) (hl:Kr σ xs=some ys):Ct P f xs σ r σ:=by
 refine⟨h.1,fun vs w g hr hi=>(h.2 vs w (g.lend σ) (On hi hl hr) (WJ hi)).mono ?_⟩
 rintro e w' ⟨v,g',rfl,hx,hv,hi'⟩
 have hkeep: ∀blk,blk<w.heap.size->w'.heap[blk]?=w.heap[blk]?:=fun blk hb=>hx.keep blk hb (fun h=>h)
 have hext:Ext w g w' g:=⟨hx.size,fun blk hb _=>hkeep blk hb,fun _ _ h=>h,fun _ _=>Iff.rfl,hx.shape,fun _ h=>⟨h,Y⟩,⟨Y,hx.lo.2⟩,Gt (fun _ _ _ _ h=>h) (fun blk e hb _ _=>hkeep blk hb)⟩
 have hmono: ∀v x,Rel w g v x->Rel w' g v x:=fun v x hr=>hr.mono hext.keeps (fun _ _ h=>h) hx.shape
 refine⟨v,g,Y,hext,SZ hv hs,⟨fun b B hB=>?_,hi.dom,hi.inj,fun blk hb=>Nat.lt_of_lt_of_le (hi.lt blk hb) hx.size,hi.bx,hi.dis,hi.im_of hext.keeps,Nat.le_trans hi.lo hx.size,hi.sx.mono hx.size Y (fun _ _ _ h=>h) (fun blk e h _ _=>hkeep blk (hi.sx.lt _ _ h)) (fun c blk h=>.inl ⟨c,h⟩) (fun _ _ h=>h)⟩⟩
 have hok:=hi.ok b B hB
 refine hok.mono Y (fun _ _ h=>h) (fun blk hb=>hkeep _ ?_) hmono
 exact(E9 hi hb).1
def Aif (P:Program) (c:Conf) (fs:List Nat) (f:Nat) (xs:List AV) (σ:St):Option (AV×St):=
 match FC f fs with
 |true=>(match Kr σ xs with
  |some ys=>(match P3 P c 64 f ys []with
   |some (r,[])=>bif F2 r then some (r,σ)else none
   |_=>none)
  |none=>none)
 |false=>none
theorem Aie {P:Program} {c:Conf} (hp:ProgOk P c) {fs:List Nat} {f:Nat} {xs:List AV} {σ σ':St} {r:AV} (h:Aif P c fs f xs σ=some (r,σ')):Ct P f xs σ r σ':=by
 unfold Aif at h
 split at h
 ·split at h
  ·rename_i ys hy
   split at h
   ·rename_i r0 hc
    cases hs:F2 r0 with
    |false=>rw[hs]at h;simp at h
    |true=>
     rw[hs]at h
     simp at h
     obtain⟨rfl,rfl⟩:=h
     exact(ctV hp 64 hc).lend hs hy
   ·cases h
  ·cases h
 ·cases h
end Go.Am
namespace Go.Am
inductive Sh where
 |int (k:IntKind)
 |bool
 |str
 |slice (e:Sh)
 |struct (fs:List Sh)
 |intB (k:IntKind)
 |arr (n:Nat) (e:Sh)
mutual
def Sh.size:Sh->Nat
 |.struct fs=>M4 fs
 |.arr n e=>n*e.size
 |_=>1
def M4:List Sh->Nat
 |[]=>0
 |f::r=>f.size+M4 r
end
mutual
def Sh.Q:Sh->List T->Prop
 |.int k,xs=> ∃n,xs=[.int k n]
 |.bool,xs=> ∃b,xs=[.bool b]
 |.str,xs=> ∃s,xs=[.str s]
 |.slice e,xs=> ∃ess:List (List T),(∀y∈ess,e.Q y)/\xs=[.slice .any e.size ess]
 |.struct fs,xs=>QL fs xs
 |.intB k,xs=> ∃n,(Lit.int k n).wf=true/\xs=[.int k n]
 |.arr n e,xs=> ∃ess:List (List T),ess.length=n/\(∀y∈ess,e.Q y)/\xs=ess.flatten
def QL:List Sh->List T->Prop
 |[],xs=>xs=[]
 |f::r,xs=> ∃a b,f.Q a/\QL r b/\xs=a++b
end
theorem RR {sz:Nat}: ∀{ess:List (List T)},(∀y∈ess,y.length=sz)->ess.flatten.length=ess.length*sz
 |[],_=>by simp
 |y::r,h=>by
  rw[List.flatten_cons,List.length_append,RR (fun y hy=>h y (by simp[hy])),h y Ac,List.length_cons,Nat.succ_mul]
  omega
mutual
theorem Ab4: ∀(s:Sh) {xs:List T},s.Q xs->xs.length=s.size
 |.int k,xs,h=>by simp only[Sh.Q]at h;obtain⟨n,rfl⟩:=h;simp[Sh.size]
 |.bool,xs,h=>by simp only[Sh.Q]at h;obtain⟨n,rfl⟩:=h;simp[Sh.size]
 |.str,xs,h=>by simp only[Sh.Q]at h;obtain⟨n,rfl⟩:=h;simp[Sh.size]
 |.slice e,xs,h=>by simp only[Sh.Q]at h;obtain⟨n,_,rfl⟩:=h;simp[Sh.size]
 |.struct fs,xs,h=>by simp only[Sh.Q]at h;simp only[Sh.size];exact Akl fs h
 |.intB k,xs,h=>by simp only[Sh.Q]at h;obtain⟨n,_,rfl⟩:=h;simp[Sh.size]
 |.arr n e,xs,h=>by
  simp only[Sh.Q]at h;obtain⟨ess,h1,h2,rfl⟩:=h
  rw[RR (fun y hy=>Ab4 e (h2 y hy)),h1,Sh.size]
theorem Akl: ∀(l:List Sh) {xs:List T},QL l xs->xs.length=M4 l
 |[],xs,h=>by simp only[QL]at h;subst h;simp[M4]
 |f::r,xs,h=>by
  simp only[QL]at h
  obtain⟨a,b,h1,h2,rfl⟩:=h
  rw[List.length_append,Ab4 f h1,Akl r h2,M4]
end
mutual
theorem Akj: ∀(s:Sh) {xs:List T},s.Q xs-> ∀x∈xs,CK x=true
 |.int k,xs,h=>by simp only[Sh.Q]at h;obtain⟨n,rfl⟩:=h;simp[CK]
 |.bool,xs,h=>by simp only[Sh.Q]at h;obtain⟨n,rfl⟩:=h;simp[CK]
 |.str,xs,h=>by simp only[Sh.Q]at h;obtain⟨n,rfl⟩:=h;simp[CK]
 |.slice e,xs,h=>by simp only[Sh.Q]at h;obtain⟨n,_,rfl⟩:=h;simp[CK]
 |.struct fs,xs,h=>by simp only[Sh.Q]at h;exact Akk fs h
 |.intB k,xs,h=>by simp only[Sh.Q]at h;obtain⟨n,_,rfl⟩:=h;simp[CK]
 |.arr n e,xs,h=>by
  simp only[Sh.Q]at h;obtain⟨ess,_,h2,rfl⟩:=h
  intro x hx
  obtain⟨y,hy,hxy⟩:=List.mem_flatten.1 hx
  exact Akj e (h2 y hy) x hxy
theorem Akk: ∀(l:List Sh) {xs:List T},QL l xs-> ∀x∈xs,CK x=true
 |[],xs,h=>by simp only[QL]at h;subst h;simp
 |f::r,xs,h=>by
  simp only[QL]at h
  obtain⟨a,b,h1,h2,rfl⟩:=h
  intro x hx
  rcases List.mem_append.1 hx with h'|h'
  ·exact Akj f h1 x h'
  ·exact Akk r h2 x h'
end
mutual
def M8 (P:Program):TypeId->Sh->Bool
 |t,.int k=>(match P.underlying t with
  |some (.int k')=>decide (k=k')
  |_=>false)
 |t,.bool=>(match P.underlying t with
  |some .bool=>true
  |_=>false)
 |t,.str=>(match P.underlying t with
  |some .string=>true
  |_=>false)
 |t,.slice e=>(match P.underlying t with
  |some (.slice te)=>Nat.beq (P.cellsOf te) e.size&&(Nat.blt 0 e.size&&M8 P te e)
  |_=>false)
 |t,.struct fs=>(match P.underlying t with
  |some (.struct gs)=>Nat.beq (P.cellsOf t) (M4 fs)&&VY P 0 gs.toList fs
  |_=>false)
 |t,.intB k=>(match P.underlying t with
  |some (.int k')=>decide (k=k')
  |_=>false)
 |t,.arr n e=>(match P.underlying t with
  |some (.array m te)=>Nat.beq m n&&(Nat.beq (P.cellsOf te) e.size&&(Nat.blt 0 e.size&&(Nat.beq (P.cellsOf t) (n*e.size)&&M8 P te e)))
  |_=>false)
def VY (P:Program):Nat->List Field->List Sh->Bool
 |_,[],[]=>true
 |o,g::gs,f::fs=>Nat.beq g.offset o&&(Nat.beq (P.cellsOf g.type) f.size&&(M8 P g.type f&&VY P (o+f.size) gs fs))
 |_,_,_=>false
end
section
variable {H:Type} {enc:TypeId×Value->H} {P:Program} {w:World} {hd:Bool}
def JG (w:World) (cs:List Value) (xs:List T):Prop:=cs.length=xs.length/\ ∀(i:Nat) v x,cs[i]?=some v->xs[i]?=some x->RelT w (fun _ _=>False) v x
theorem JG.one {v:Value} {x:T} (h:RelT w (fun _ _=>False) v x):JG w [v] [x]:=⟨Y,fun i u y hu hy=>by
 cases i with
 |zero=>simp at hu hy;subst hu;subst hy;exact h
 |succ i=>simp at hu⟩
theorem JG.append {c1 c2:List Value} {x1 x2:List T} (h1:JG w c1 x1) (h2:JG w c2 x2):JG w (c1++c2) (x1++x2):=by
 refine⟨by simp[h1.1,h2.1],fun i v x hv hx=>?_⟩
 by_cases c:i<c1.length
 ·rw[List.getElem?_append_left c]at hv
  rw[List.getElem?_append_left (by rw[<-h1.1];exact c)]at hx
  exact h1.2 i v x hv hx
 ·rw[List.getElem?_append_right Aa]at hv
  rw[List.getElem?_append_right (by rw[<-h1.1];omega),<-h1.1]at hx
  exact h2.2 _ v x hv hx
theorem Ko {α β:Type} {f:α->Option β}: ∀{l:List α} {r:List β},l.mapM f=some r->r.length=l.length/\ ∀(i:Nat) a,l[i]?=some a-> ∃b,r[i]?=some b/\f a=some b
 |[],r,h=>by simp at h;subst h;simp
 |a::l,r,h=>by
  rw[List.mapM_cons]at h
  cases ha:f a with
  |none=>rw[ha]at h;simp at h
  |some b=>
   rw[ha]at h
   cases hl:l.mapM f with
   |none=>rw[hl]at h;simp at h
   |some s=>
    rw[hl]at h
    simp at h;subst h
    obtain⟨h1,h2⟩:=Ko hl
    refine⟨by simp[h1],fun i x hx=>?_⟩
    cases i with
    |zero=>simp at hx;subst hx;exact⟨b,Y,ha⟩
    |succ i=>simp at hx;simpa using h2 i x hx
theorem Ui {base:Nat} {a:Addr} {n:Nat} {cs:List Value} (h:w.cells? base a n=some cs):cs.length=n/\ ∀i,i<n->w.cell? (a.add i)=cs[i]?:=by
 unfold World.cells? at h
 split at h
 ·obtain⟨h1,h2⟩:=Ko h
  refine⟨by simpa using h1,fun i hi=>?_⟩
  obtain⟨b,hb,hc⟩:=h2 i i (by simp[hi])
  rw[hb,hc]
 ·cases h
theorem YW {e:Sh} {f:Nat->Option (List Value)}: ∀(n:Nat),(∀i,i<n-> ∃cs xs,f i=some cs/\e.Q xs/\JG w cs xs)-> ∃ess:List (List T),ess.length=n/\(∀y∈ess,e.Q y)/\ ∀i xs,ess[i]?=some xs-> ∃cs,f i=some cs/\JG w cs xs
 |0,_=>⟨[],Y,by simp,by simp⟩
 |n+1,h=>by
  obtain⟨ess,h1,h2,h3⟩:=YW n (fun i hi=>h i Aa)
  obtain⟨cs,xs,q1,q2,q3⟩:=h n Aa
  refine⟨ess++[xs],by simp[h1],?_,fun i ys hy=>?_⟩
  ·intro y hy
   rcases List.mem_append.1 hy with h'|h'
   ·exact h2 y h'
   ·simp at h';subst h';exact q2
  ·by_cases c:i<ess.length
   ·rw[List.getElem?_append_left c]at hy;exact h3 i ys hy
   ·rw[List.getElem?_append_right Aa]at hy
    have:i-ess.length=0:=by
     rcases Nat.eq_zero_or_pos (i-ess.length)with h'|h'
     ·exact h'
     ·rw[List.getElem?_eq_none (by simp;omega)]at hy;cases hy
    rw[this]at hy
    simp at hy;subst hy
    have hi:i=n:=by omega
    subst hi
    exact⟨cs,q1,q3⟩
theorem Ml {sz:Nat} (hsz:0<sz): ∀{ess:List (List T)},(∀y∈ess,y.length=sz)-> ∀(k:Nat) x,ess.flatten[k]?=some x-> ∃xs,ess[k/sz]?=some xs/\xs[k % sz]?=some x
 |[],_,k,x,h=>by simp at h
 |a::r,hl,k,x,h=>by
  have ha:=hl a Ac
  rw[List.flatten_cons]at h
  by_cases c:k<sz
  ·rw[List.getElem?_append_left Aa]at h
   rw[Nat.div_eq_of_lt c,Nat.mod_eq_of_lt c]
   exact⟨a,Y,h⟩
  ·rw[List.getElem?_append_right Aa,ha]at h
   obtain⟨xs,h1,h2⟩:=Ml hsz (fun y hy=>hl y (by simp[hy])) (k-sz) x h
   have e1:k/sz=(k-sz)/sz+1:=by rw[Nat.div_eq_sub_div hsz Aa]
   have e2:k % sz=(k-sz) % sz:=by rw[Nat.mod_eq_sub_mod Aa]
   exact⟨xs,by rw[e1];simpa using h1,by rw[e2];exact h2⟩
theorem KH: ∀(fuel:Nat) (t:TypeId) (s:Sh) (cs:List Value) (x:DataW H×List MemPlace),M8 P t s=true->DataW.trod enc P w 0 (fun _=>true) hd fuel t cs=some x-> ∃xs,s.Q xs/\JG w cs xs:=by
 intro fuel
 induction fuel with
 |zero=>intro t s cs x _ h;simp[DataW.trod]at h
 |succ fuel ih=>
  have fields: ∀(fs:List Sh) (gs:List Field) (o:Nat) (cs:List Value) (ys:List (DataW H×List MemPlace)),VY P o gs fs=true->(gs.mapM fun f=>DataW.trod enc P w 0 (fun _=>true) hd fuel f.type ((cs.drop f.offset).take (P.cellsOf f.type)))=some ys->cs.length=o+M4 fs->
    ∃xs,QL fs xs/\JG w (cs.drop o) xs:=by
   intro fs
   induction fs with
   |nil=>
    intro gs o cs ys hs _ hl
    refine⟨[],by simp[QL],?_⟩
    simp only[M4]at hl
    rw[List.drop_of_length_le Aa]
    exact⟨Y,fun i v x hv=>by simp at hv⟩
   |cons f fs ihf=>
    intro gs o cs ys hs hm hl
    cases gs with
    |nil=>simp[VY]at hs
    |cons g gs=>
     simp only[VY,Bool.and_eq_true]at hs
     obtain⟨h1,h2,h3,h4⟩:=hs
     have h1:=Nat.eq_of_beq_eq_true h1
     have h2:=Nat.eq_of_beq_eq_true h2
     rw[List.mapM_cons]at hm
     cases ha:DataW.trod enc P w 0 (fun _=>true) hd fuel g.type ((cs.drop g.offset).take (P.cellsOf g.type))with
     |none=>rw[ha]at hm;simp at hm
     |some y=>
      rw[ha]at hm
      cases hr:gs.mapM (fun f=>DataW.trod enc P w 0 (fun _=>true) hd fuel f.type ((cs.drop f.offset).take (P.cellsOf f.type)))with
      |none=>rw[hr]at hm;simp at hm
      |some yr=>
       obtain⟨xs,q1,q2⟩:=ih _ f _ _ h3 ha
       simp only[M4]at hl
       obtain⟨zs,r1,r2⟩:=ihf gs (o+f.size) cs yr h4 hr Aa
       refine⟨xs++zs,⟨xs,zs,q1,r1,Y⟩,?_⟩
       have:cs.drop o=(cs.drop g.offset).take (P.cellsOf g.type)++cs.drop (o+f.size):=by
        rw[h1,h2,<-List.drop_drop,List.take_append_drop]
       rw[this]
       exact q2.append r2
  intro t s cs x hs h
  cases s with
  |int k=>
   simp only[M8]at hs
   split at hs
   ·rename_i k' hu
    simp at hs;subst hs
    simp only[DataW.trod,hu]at h
    split at h
    all_goals first
     |(rename_i heq;cases heq;done)
     |(cases h;done)
     |(rename_i heq;cases heq;split at h
       ·rename_i hc;obtain⟨rfl,_⟩:=hc;exact⟨[.int _ _],⟨_,Y⟩,JG.one (.int _ _)⟩
       ·cases h)
   ·cases hs
  |bool=>
   simp only[M8]at hs
   split at hs
   ·rename_i hu
    simp only[DataW.trod,hu]at h
    split at h
    all_goals first
     |(rename_i heq;cases heq;done)
     |(cases h;done)
     |exact⟨[.bool _],⟨_,Y⟩,JG.one (.bool _)⟩
   ·cases hs
  |str=>
   simp only[M8]at hs
   split at hs
   ·rename_i hu
    simp only[DataW.trod,hu]at h
    split at h
    all_goals first
     |(rename_i heq;cases heq;done)
     |(cases h;done)
     |(rename_i s0 heq
       refine⟨[.str s0.data.toList],⟨_,Y⟩,JG.one ?_⟩
       have:=RelT.str (w:=w) (M:=fun _ _=>False) s0.data.toList
       simpa using this)
   ·cases hs
  |slice e=>
   simp only[M8]at hs
   split at hs
   ·rename_i te hu
    simp only[Bool.and_eq_true]at hs
    obtain⟨h1,h2,h3⟩:=hs
    have h1:=Nat.eq_of_beq_eq_true h1
    have h2:0<e.size:=by simpa[Nat.blt_eq]using h2
    simp only[DataW.trod,hu]at h
    split at h
    all_goals first
     |(rename_i heq;cases heq;done)
     |(cases h;done)
     |skip
    ·exact⟨[.slice .any e.size []],⟨[],by simp,Y⟩,JG.one (.sliceNil _ _)⟩
    ·rename_i e0 a len cap heq
     cases heq
     split at h
     ·rename_i hc
      obtain⟨_,hlc,_⟩:=hc
      cases hm:(List.range len).mapM (fun i=>(w.cells? 0 (a.add (i*P.cellsOf te)) (P.cellsOf te)).bind (DataW.trod enc P w 0 (fun _=>true) hd fuel te))with
      |none=>rw[hm]at h;simp at h
      |some elems=>
       obtain⟨m1,m2⟩:=Ko hm
       obtain⟨ess,p1,p2,p3⟩:=YW (w:=w) (e:=e) (f:=fun i=>w.cells? 0 (a.add (i*P.cellsOf te)) (P.cellsOf te)) len (fun i hi=>by
        obtain⟨b,hb,hc⟩:=m2 i i (by simp[hi])
        cases hq:w.cells? 0 (a.add (i*P.cellsOf te)) (P.cellsOf te)with
        |none=>rw[hq]at hc;simp at hc
        |some cs0=>
         rw[hq]at hc
         obtain⟨xs,q1,q2⟩:=ih te e cs0 b h3 hc
         exact⟨cs0,xs,Y,q1,q2⟩)
       refine⟨[.slice .any e.size ess],⟨ess,p2,Y⟩,JG.one ?_⟩
       have hsz: ∀y∈ess,y.length=e.size:=fun y hy=>Ab4 e (p2 y hy)
       have spotOf: ∀i,(∃y,(w.cells? 0 (a.add (i*P.cellsOf te)) (P.cellsOf te)).bind (DataW.trod enc P w 0 (fun _=>true) hd fuel te)=some y)->i=0->a.spot=none:=by
        rintro i ⟨y,hy⟩ rfl
        cases hq:w.cells? 0 (a.add (0*P.cellsOf te)) (P.cellsOf te)with
        |none=>rw[hq]at hy;simp at hy
        |some cs0=>
         obtain⟨c1,c2⟩:=Ui hq
         have c3:=c2 0 Aa
         rw[List.getElem?_eq_getElem Aa]at c3
         obtain⟨ab,ao,asp⟩:=a
         cases asp with
         |none=>rfl
         |some z=>
          simp only[Nat.zero_mul,Addr.add]at c3
          simp[World.cell?]at c3
          split at c3<;>simp at c3
       by_cases hl0:len=0
       ·subst hl0
        have:ess=[]:=List.eq_nil_of_length_eq_zero p1
        subst this
        by_cases hc0:cap=0
        ·subst hc0;exact .sliceZ a _ _ Ac
        ·have hs0:a.spot=none:=by
          rw[hm]at h
          simp only[Option.bind_some,if_true]at h
          cases hr:(List.range (cap-0)).mapM (fun j=>(w.cells? 0 (a.add ((0+j)*P.cellsOf te)) (P.cellsOf te)).bind (DataW.trod enc P w 0 (fun _=>true) hd fuel te))with
          |none=>rw[hr]at h;simp at h
          |some rest=>
           obtain⟨_,r2⟩:=Ko hr
           obtain⟨y,_,hy⟩:=r2 0 0 (by rw[List.getElem?_range Aa])
           exact spotOf 0 ⟨y,by simpa using hy⟩ Y
         obtain⟨ab,ao,asp⟩:=a
         simp only at hs0;subst hs0
         exact DN Y hlc (fun h=>by cases h) Ac Ac Ac
       ·have hs0:a.spot=none:=by
         obtain⟨y,_,hy⟩:=m2 0 0 (by rw[List.getElem?_range Aa])
         exact spotOf 0 ⟨y,hy⟩ Y
        obtain⟨ab,ao,asp⟩:=a
        simp only at hs0;subst hs0
        refine DN p1 hlc (fun h=>by cases h) Ac hsz (fun k x hx=>?_)
        obtain⟨xs,q1,q2⟩:=Ml h2 hsz k x hx
        obtain⟨cs0,q3,q4⟩:=p3 _ _ q1
        obtain⟨c1,c2⟩:=Ui q3
        have hlt:k % e.size<P.cellsOf te:=by rw[h1];exact Nat.mod_lt _ h2
        have c3:=c2 (k % e.size) hlt
        have hv:cs0[k % e.size]?=some (cs0[k % e.size]' Aa):=List.getElem?_eq_getElem _
        refine⟨fun h=>h,Akj e (p2 _ (List.mem_of_getElem? q1)) x (List.mem_of_getElem? q2),_,?_,q4.2 _ _ _ hv q2⟩
        rw[<-hv,<-c3,BO,BO,h1]
        congr 2
        have:=Nat.div_add_mod k e.size
        rw[Nat.mul_comm]at this
        omega
     ·cases h
   ·cases hs
  |struct fs=>
   simp only[M8]at hs
   split at hs
   ·rename_i gs hu
    simp only[Bool.and_eq_true]at hs
    obtain⟨h1,h2⟩:=hs
    have h1:=Nat.eq_of_beq_eq_true h1
    simp only[DataW.trod,hu]at h
    split at h
    ·rename_i hl
     cases hm:gs.toList.mapM (fun f=>DataW.trod enc P w 0 (fun _=>true) hd fuel f.type ((cs.drop f.offset).take (P.cellsOf f.type)))with
     |none=>rw[hm]at h;simp at h
     |some ys=>
      obtain⟨xs,q1,q2⟩:=fields fs gs.toList 0 cs ys h2 hm (by rw[hl,h1];simp)
      exact⟨xs,q1,by simpa using q2⟩
    ·cases h
   ·cases hs
  |intB k=>
   simp only[M8]at hs
   split at hs
   ·rename_i k' hu
    simp at hs;subst hs
    simp only[DataW.trod,hu]at h
    split at h
    all_goals first
     |(rename_i heq;cases heq;done)
     |(cases h;done)
     |(rename_i heq;cases heq;split at h
       ·rename_i hc;obtain⟨rfl,hw⟩:=hc;exact⟨[.int _ _],⟨_,hw,Y⟩,JG.one (.int _ _)⟩
       ·cases h)
   ·cases hs
  |arr n e=>
   simp only[M8]at hs
   split at hs
   ·rename_i m te hu
    simp only[Bool.and_eq_true]at hs
    obtain⟨h1,h2,h3,h4,h5⟩:=hs
    have h1:=Nat.eq_of_beq_eq_true h1
    subst h1
    have h2:=Nat.eq_of_beq_eq_true h2
    have h3:0<e.size:=by simpa[Nat.blt_eq]using h3
    have h4:=Nat.eq_of_beq_eq_true h4
    simp only[DataW.trod,hu]at h
    split at h
    ·rename_i hl
     cases hm:(List.range m).mapM (fun i=>DataW.trod enc P w 0 (fun _=>true) hd fuel te ((cs.drop (i*P.cellsOf te)).take (P.cellsOf te)))with
     |none=>rw[hm]at h;simp at h
     |some ys=>
      obtain⟨m1,m2⟩:=Ko hm
      obtain⟨ess,p1,p2,p3⟩:=YW (w:=w) (e:=e) (f:=fun i=>some ((cs.drop (i*P.cellsOf te)).take (P.cellsOf te))) m (fun i hi=>by
       obtain⟨b,hb,hc⟩:=m2 i i (by simp[hi])
       obtain⟨xs,q1,q2⟩:=ih te e _ b h5 hc
       exact⟨_,xs,Y,q1,q2⟩)
      have hsz: ∀y∈ess,y.length=e.size:=fun y hy=>Ab4 e (p2 y hy)
      refine⟨ess.flatten,⟨ess,p1,p2,Y⟩,?_,fun k v x hv hx=>?_⟩
      ·rw[RR hsz,hl,h4,p1]
      ·obtain⟨xs,q1,q2⟩:=Ml h3 hsz k x hx
       obtain⟨cs0,q3,q4⟩:=p3 _ _ q1
       obtain rfl:=Option.some.inj q3
       refine q4.2 (k % e.size) v x ?_ q2
       have hlt:k % e.size<e.size:=Nat.mod_lt _ h3
       rw[h2,List.getElem?_take_of_lt hlt,List.getElem?_drop]
       rw[show k/e.size*e.size+k % e.size=k from by have:=Nat.div_add_mod k e.size;rw[Nat.mul_comm]at this;omega]
       exact hv
    ·cases h
   ·cases hs
end
end Go.Am
