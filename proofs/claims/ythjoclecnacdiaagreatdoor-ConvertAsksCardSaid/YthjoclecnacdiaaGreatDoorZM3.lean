/- The general texts of the abstract machine, joined: Hw1, Hw2, Hw3, Hw4, Hw5, Hw6, Hw7, Hw8. -/
import Derived.Test.YthjoclecnacdiaaGreatDoorZM4
import Derived.Lib.AppendStr
import Derived.Laws.IdiomStrings
import Derived.Laws.BytesArg
set_option linter.unusedVariables false
set_option linter.unusedSimpArgs false
namespace Go.Am
def SF:Nat→List AV→St→Option (AV×St):=fun _ _ _=>none
def isB:Callee→Bool
 |.builtin _=>true
 |_=>false
def Fp:Env→Env→Prop
 |[],_=>True
 |(t,x)::r,e=>(∃v,look e t=some v∧Sub v x)∧Fp r e
def Hm:List Nat→Env→Env
 |[],e=>e
 |d::r,e=>Hm r (Ew (2*d) e)
def GE:List Nat→St→St
 |[],s=>s
 |d::r,s=>GE r (C0 (2*d) s)
def At (E:Env) (S:St) (e:Env) (s:St):Prop:= ∃D,Fp E (Hm D e)∧GE D s=S
section
variable {P:Program} {c:Conf} {n:Nat} {ops:Array Oper} {rest:List Oper} {env:Env} {σ:St} {o:Oper} {K:Exit→Env→St→Prop} {k:Env→St→Prop}
theorem KL:D7 P SF:=fun f as σ r σ' h=>by cases h
noncomputable def L6 (f:Nat) (as:List AV) (σ:St) (r:AV) (σ':St):Nat→List AV→St→Option (AV×St):=
 fun f1 as1 σ1=>open Classical in if f1=f∧as1=as∧σ1=σ then some (r,σ')else none
theorem L4 {f:Nat} {as:List AV} {σ σ':St} {r:AV} (h:Ct P f as σ r σ'):D7 P (L6 f as σ r σ'):=by
 intro f1 as1 σ1 r1 σ1' h1
 unfold L6 at h1
 split at h1
 ·rename_i e;obtain⟨rfl,rfl,rfl⟩:=e;simp at h1;obtain⟨rfl,rfl⟩:=h1;exact h
 ·cases h1
theorem L5 {f:Nat} {as:List AV} {σ σ':St} {r:AV}:L6 f as σ r σ' f as σ=some (r,σ'):=by simp[L6]
theorem Sub.of_eq {x y:AV} (h:x=y):Sub x y:=h▸Sub.refl x
theorem Fp.rel {w:World} {g:G} {a:Act} {e:Env} (he:AQ w g a e): ∀{E:Env},Fp E e→AQ w g a E
 |[],_,t,x,h=>by simp[look]at h
 |(t',y)::r,⟨⟨v,h1,h2⟩,h3⟩,t,x,h=>by
  rw[AB]at h
  split at h
  ·rename_i e;subst e;cases h;exact h2 _ _ _ (he _ _ h1)
  ·exact Fp.rel he h3 t x h
theorem HI {w:World} {a:Act}: ∀(D:List Nat) {g:G} {e:Env} {s:St},Good n w g a e s→ ∃g',Ext w g w g'∧Good n w g' a (Hm D e) (GE D s)
 |[],g,e,s,h=>⟨g,Ext.refl _ _,h⟩
 |d::r,g,e,s,h=>by
  obtain⟨h1,h2,h3⟩:=SQ h.inv (2*d) (fun hb=>by have:=(h.inv.bx _ hb).1;omega)
  obtain⟨g',k1,k2⟩:=HI r ⟨h3 a e h.env,h2,h.defers.ext h1,h.size⟩
  exact⟨g',h1.trans k1,k2⟩
theorem Tr.weak {code:Code} {E:Env} {S:St} (h:Tr P n code E S K) {e:Env} {s:St} (ha:At E S e s):Tr P n code e s K:=by
 obtain⟨D,h1,rfl⟩:=ha
 intro F hF hrf w g a hg
 obtain⟨g',k1,k2⟩:=HI D hg
 exact wpIn_mono (h F hF hrf w g' a ⟨Fp.rel k2.env h1,k2.inv,k2.defers,k2.size⟩) fun ex a2 w2 hq=>hq.lift k1
def BP (b:Bool) (p:Prop):Prop:=b=true↔p
theorem M1:BP true True:=by simp[BP]
theorem M2:BP false False:=by simp[BP]
theorem M4 {p:Prop} [Decidable p]:BP (decide p) p:=by simp[BP]
theorem M3 {α:Type} [BEq α] [LawfulBEq α] {a b:α}:BP (a==b) (a=b):=by simp[BP]
theorem PN {α:Type} [BEq α] [LawfulBEq α] {a b:α}:BP (a !=b) (a≠b):=by simp[BP]
theorem EA {b:Bool} {p:Prop} (h:BP b p):BP (!b) (¬p):=by unfold BP at*;cases b<;>simp_all
theorem M5 {b:Bool}:BP b (b=true):=Iff.rfl
theorem BP.no {b:Bool} {p:Prop} (h:BP b p) (hb:b=false): ¬p:=fun hp=>by have:=h.2 hp;rw[hb]at this;cases this
theorem nT {p:Prop} (h: ¬True):p:=(h trivial).elim
theorem prn {G:Prop} (hF:False:=by first|with_reducible exact h.elim|with_reducible exact nT h|with_reducible exact h.elim (fun x=>x)|(with_reducible contradiction)|omega|(simp only[List.length_map]at h;omega)):G:=hF.elim
theorem ct0 (hp:ProgOk P c) {f:Nat} {fn:Func} (hf:P.funcs[f]?=some fn) {code:Code} (hb:fn.body=some code) {as:List AV} {r:AV} (own:Bool) (hle:Nat.ble as.length fn.ntmps=true) (hr:r.free=true)
  (h:Tr P fn.ntmps code (E9 0 as) [] (fun ex e s=>(ex=.normal∨ex=.ret)∧ ∃r0 s1,Is c.te own fn.results.toList e s=some (r0,s1)∧Sub r0 r)):Ct P f as [] r []:=by
 have key: ∀(vs:List Value) (w:World) (g:G),B5 w g vs as→Inv w g []→Calls P f vs.toArray w fun e w'=> ∃v g' s1,e=.returned v∧Ext w g w' g'∧Rel w' g' v r∧Inv w' g' s1:=by
  intro vs w g hrl hi
  refine E2 hf hb hle h hrl hi fun ex a' w' g' env' σ1 h1 h2 h3=>?_
  obtain⟨hex,r0,s1,h4,h5⟩:=h3
  obtain⟨v,g2,q1,q2,q3,q4⟩:=FL hp h2 h4
  exact⟨hex,v,q1,v,g2,s1,rfl,h1.trans q2,h5 _ _ _ q3,q4⟩
 refine⟨⟨fn,hf,by simp[hb]⟩,fun vs w g hrl hi=>(key vs w g hrl hi).mono ?_⟩
 rintro e w' ⟨v,g1,s1,rfl,h1,h2,h3⟩
 have hbx: ∀b,¬g.bx b:=fun b hb=>by obtain⟨_,cs,hc⟩:=hi.bx b hb;simp[look]at hc
 refine⟨v,{β:=fun _=>none,own:=g1.own,oth:=g1.oth,sp:=g1.sp,bx:=fun _=>False,lo:=g.lo},rfl,⟨h1.size,h1.keep,h1.own,h1.oth,h1.shape,fun b hb=>absurd hb (hbx b),⟨rfl,h1.lo.2⟩,h1.sp⟩,?_,⟨fun b B hB=>?_,fun b=>?_,fun b b' blk hq=>?_,h3.lt,fun b hb=>hb.elim,h3.dis,h3.im,Nat.le_trans hi.lo h1.size,.empty h3.sx.lt (fun _=>rfl)⟩⟩
 ·exact Rel.free (g:=g1) (g':={β:=fun _=>none,own:=g1.own,oth:=g1.oth,sp:=g1.sp,bx:=fun _=>False,lo:=g.lo}) (fun b o v q1 q2=>⟨q1,q2⟩) h2 hr
 ·simp[look]at hB
 ·simp[look]
 ·simp at hq
theorem AC {te:TE} {own:Bool} {rs:List ResultVar} {e:Env} {s s1:St} {r r0:AV} (h:Is te own rs e s=some (r0,s1)) (hs:Sub r0 r):(Exit.ret=.normal∨Exit.ret=.ret)∧ ∃r0 s1,Is te own rs e s=some (r0,s1)∧Sub r0 r:=⟨.inr rfl,r0,s1,h,hs⟩
theorem BB {ι:Type} {I:ι→Prop} {m:ι→Nat} {i:ι} {E:ι→Env} {S:ι→St} {e:Env} {s:St} (j:ι) (h1:I j) (h2:m j<m i) (D:List Nat) (h3:Fp (E j) (Hm D e)) (h4:GE D s=S j): ∃j,I j∧m j<m i∧At (E j) (S j) e s:=⟨j,h1,h2,D,h3,h4⟩
theorem Ce {E:Env} {S:St} {e:Env} {s:St} (D:List Nat) (h3:Fp E (Hm D e)) (h4:GE D s=S):At E S e s:=⟨D,h3,h4⟩
theorem AJ {e:Env}:Fp [] e:=trivial
theorem Av {t:Nat} {x v:AV} {r e:Env} (h:look e t=some v) (hs:v=x) (hr:Fp r e):Fp ((t,x)::r) e:=⟨⟨v,h,Sub.of_eq hs⟩,hr⟩
theorem Aq (h:K .normal env σ):Tr P n .skip env σ K:=fun _ _ _ _ g _ hg=>wpIn_skip ⟨env,σ,g,Ext.refl _ _,hg,h⟩
theorem Ar {id:Nat} (h:K (.exit id) env σ):Tr P n (.exit id) env σ K:=fun _ _ _ _ g _ hg=>wpIn_exit ⟨env,σ,g,Ext.refl _ _,hg,h⟩
theorem A3 (h:K .ret env σ):Tr P n .ret env σ K:=fun _ _ _ _ g _ hg=>wpIn_ret ⟨env,σ,g,Ext.refl _ _,hg,h⟩
theorem Aw (hp:ProgOk P c) {id:Nat} {env':Env} {σ':St} {l:List Oper} (hz:regFrz ops env σ=(env',σ')) (hl:ops.toList=l) (h:AU P n ops l env' σ' (K .normal)):Tr P n (.region id ops false) env σ K:=by
 subst hl
 refine CC hp (.region id ops false) ?_
 simp only[Dx,Ut,hz];exact h
theorem AD (hp:ProgOk P c) {id m:Nat} {env':Env} {σ':St} {l1 l2:List Oper} {news:List Nat} (hm:Hn ops=some m) (hz:regFrz ops env σ=(env',σ')) (h1:ops.toList.take m=l1) (h2:ops.toList.drop m=l2) (h3:Dj l1=news)
  (h:hSK P c n ops news l1 env' σ' (fun env σ=>AU P n ops l2 env σ (K .normal))):Tr P n (.region id ops true) env σ K:=by
 subst h3;subst h1;subst h2
 refine CC hp (.region id ops true) ?_
 simp only[Dx,Ut,hz,hm];exact h
theorem A9 {a b:Code} (h:Tr P n a env σ (fun ex env σ=>match ex with
  |.normal=>Tr P n b env σ K
  |ex=>K ex env σ)):Tr P n (.seq a b) env σ K:=by
 intro F hF hrf w g ac hg
 refine wpIn_seq (wpIn_mono (h F hF hrf.seq.1 w g ac hg) ?_)
 rintro ex a' w' ⟨env',σ',g',h1,h2,h3⟩
 cases ex with
 |normal=>exact wpIn_mono (h3 F hF hrf.seq.2 w' g' a' h2) fun ex a2 w2 hq=>hq.lift h1
 |exit id=>exact⟨env',σ',g',h1,h2,h3⟩
 |goto l=>exact⟨env',σ',g',h1,h2,h3⟩
 |ret=>exact⟨env',σ',g',h1,h2,h3⟩
 |panic ch=>exact⟨env',σ',g',h1,h2,h3⟩
 |outgrown=>exact⟨env',σ',g',h1,h2,h3⟩
theorem Tr.mono {code:Code} {K':Exit→Env→St→Prop} (h:Tr P n code env σ K) (hk: ∀ex e s,K ex e s→K' ex e s):Tr P n code env σ K':=fun F hF hrf w g a hg=>
 wpIn_mono (h F hF hrf w g a hg) fun ex a' w' ⟨e,s,g',h1,h2,h3⟩=>⟨e,s,g',h1,h2,hk _ _ _ h3⟩
theorem Qg {x:Operand} {a b:Code} (p:Bool) (hp:ev env x=some (.t (.bool p))) (ht:p=true→Tr P n a env σ K) (hf:p=false→Tr P n b env σ K):Tr P n (.cond x a b) env σ K:=by
 intro F hF hrf w g ac hg
 have hv:=D4 (AO hg.env hp)
 cases p with
 |true=>exact wpIn_cond_true hv (ht rfl F hF hrf.cond.1 w g ac hg)
 |false=>exact wpIn_cond_false hv (hf rfl F hF hrf.cond.2 w g ac hg)
theorem R3 {x:Operand} {a b:Code} (hp:ev env x=some (.t (.bool true))) (ht:Tr P n a env σ K):Tr P n (.cond x a b) env σ K:=Qg true hp (fun _=>ht) (fun h=>by cases h)
theorem R4 {x:Operand} {a b:Code} (hp:ev env x=some (.t (.bool false))) (hf:Tr P n b env σ K):Tr P n (.cond x a b) env σ K:=Qg false hp (fun h=>by cases h) (fun _=>hf)
theorem Al {x:Operand} {a b:Code} {t:Bool} {p:Prop} (hp:ev env x=some (.t (.bool t))) (hb:BP t p:=by first|with_reducible exact M1|with_reducible exact M2|with_reducible exact M4|with_reducible exact M3|with_reducible exact PN|with_reducible exact EA M1|with_reducible exact EA M2|with_reducible exact EA M4|with_reducible exact EA M3|with_reducible exact EA M5|exact M5) (ht:p→Tr P n a env σ K) (hf: ¬p→Tr P n b env σ K):Tr P n (.cond x a b) env σ K:=
 Qg t hp (fun h=>ht (hb.1 h)) (fun h=>hf (hb.no h))
theorem Au {id:Nat} {b:Code} (h:Tr P n b env σ (fun ex env σ=>match ex with
  |.exit i=>(match Nat.beq i id with
   |true=>K .normal env σ
   |false=>K (.exit i) env σ)
  |ex=>K ex env σ)):Tr P n (.block id b) env σ K:=by
 intro F hF hrf w g a hg
 refine wpIn_block (wpIn_mono (h F hF hrf.block w g a hg) ?_)
 rintro ex a' w' ⟨env',σ',g',h1,h2,h3⟩
 cases ex with
 |normal=>exact⟨env',σ',g',h1,h2,h3⟩
 |exit i=>
  simp only[Exit.inBlock]
  by_cases e:i=id
  ·subst e
   simp at h3⊢
   exact⟨env',σ',g',h1,h2,h3⟩
  ·simp only[Cd e]at h3
   simp only[if_neg e]
   exact⟨env',σ',g',h1,h2,h3⟩
 |goto l=>exact⟨env',σ',g',h1,h2,h3⟩
 |ret=>exact⟨env',σ',g',h1,h2,h3⟩
 |panic ch=>exact⟨env',σ',g',h1,h2,h3⟩
 |outgrown=>exact⟨env',σ',g',h1,h2,h3⟩
theorem BC {ι:Type} (I:ι→Prop) (E:ι→Env) (S:ι→St) (m:ι→Nat) {b:Code} (i0:ι) (h0:I i0) (ha:At (E i0) (S i0) env σ)
  (step: ∀i,I i→Tr P n b (E i) (S i) (fun ex e s=>match ex with
   |.normal=> ∃j,I j∧m j<m i∧At (E j) (S j) e s
   |ex=>K ex e s)):Tr P n (.loop b) env σ K:=by
 refine Tr.loop (I:=fun k e s=> ∃i,I i∧m i=k∧At (E i) (S i) e s) (m i0) ⟨i0,h0,rfl,ha⟩ ?_
 rintro k e s ⟨i,hi,rfl,hat⟩
 refine Tr.mono ((step i hi).weak hat) fun ex e s h=>?_
 cases ex with
 |normal=>obtain⟨j,h1,h2,h3⟩:=h;exact⟨m j,h2,j,h1,rfl,h3⟩
 |exit id=>exact h
 |goto l=>exact h
 |ret=>exact h
 |panic ch=>exact h
 |outgrown=>exact h
theorem Kx {o:Oper} {env:Env} {σ:St} {K:AV→Env→St→Prop} (h:FW P {o with guard:=none} env σ K):FW P o env σ K:=fun w g a hi he next Q hn=>h w g a hi he next Q hn
theorem NB (cf:Nat→List AV→St→Option (AV×St)) (news:List Nat) (env:Env):B8 c cf news {o with guard:=none} env σ=B8 c cf news o env σ:=rfl
theorem A0 (h:k env σ):AU P n ops [] env σ k:=h
theorem Ap (hp0:ProgOk P c) {x:AV} {e e2:Env} {s:St} (hg:o.guard=none) (hs:DH c SF o env σ=some (x,e,s)) (hp:BD n o.dst x e=some e2) (h:AU P n ops rest e2 s k):
  AU P n ops (o::rest) env σ k:=by
 simp only[AU,AZ,hg]
 exact FW.of hp0 KL hs ⟨e2,hp,h⟩
def X9:Op→Bool
 |.buildSlice _ _ _=>true
 |.store _ _ _=>true
 |_=>false
theorem Ak (hp0:ProgOk P c) {x:AV} {env' e e2:Env} {σ' s:St} (hg:o.guard=none) (hk:X9 o.op=true) (hz:Gl o env σ=(env',σ')) (hs:Ej c.toCfg o env' σ'=some (x,e,s)) (hp:BD n o.dst x e=some e2) (h:AU P n ops rest e2 s k):
  AU P n ops (o::rest) env σ k:=by
 refine Ap hp0 (x:=x) (e:=e) (s:=s) hg ?_ hp h
 unfold DH
 split<;>rename_i ho<;>simp only[ho,X9]at hk<;>first|(cases hk;done)|(rw[hz];exact hs)
theorem Ac {α β:Type} {f:α→β} {l:List α} {i:Nat} {x:α} (h:l[i]?=some x):(l.map f)[i]?=some (f x):=by simp[h]
theorem Fy (k:Nat):HR (k:Int)=some k:=rfl
theorem Aj (hp0:ProgOk P c) {t s0 b0 e:Nat} {z0:List T} {esz ebb:Nat} {ez:List T} {ek:TK} {xo io:Operand} {m:SM} {sz:Nat} {es:List (List T)} {kk:IntKind} {kc:Nat} {cc:List T} {e2:Env} (hg:o.guard=none) (ho:o.op=.indexAddr t xo io) (hx:ev env xo=some (.t (.slice m sz es)))
  (hi:ev env io=some (.t (.int kk (Int.ofNat kc)))) (ht:look c.te t=some ⟨s0,b0,z0,.slice e⟩) (he:look c.te e=some ⟨esz,ebb,ez,ek⟩) (hsz:sz=esz) (hc:es[kc]?=some cc) (hp:BD n o.dst (.t (.ptr cc)) env=some e2)
  (h:AU P n ops rest e2 σ k):AU P n ops (o::rest) env σ k:=by
 refine Ap hp0 (x:=.t (.ptr cc)) (e:=env) (s:=σ) hg ?_ hp h
 unfold DH
 rw[ho]
 simp only[Cn,hx,hi,CU,HR,ht,he,hsz,hc,if_true]
theorem Ae (hp0:ProgOk P c) {t s0 b0 e:Nat} {z0:List T} {esz ebb:Nat} {ez:List T} {ek:TK} {xo io:Operand} {m:SM} {sz:Nat} {es:List (List T)} {kk:IntKind} {kc:Nat} {nn:Int} {cc:List T} {e2:Env} (hg:o.guard=none) (ho:o.op=.indexAddr t xo io) (hx:ev env xo=some (.t (.slice m sz es)))
  (hi:ev env io=some (.t (.int kk nn))) (ht:look c.te t=some ⟨s0,b0,z0,.slice e⟩) (he:look c.te e=some ⟨esz,ebb,ez,ek⟩) (hsz:sz=esz) (hn:nn=(kc:Int)) (hc:es[kc]?=some cc) (hp:BD n o.dst (.t (.ptr cc)) env=some e2)
  (h:AU P n ops rest e2 σ k):AU P n ops (o::rest) env σ k:=by
 subst hn
 refine Ap hp0 (x:=.t (.ptr cc)) (e:=env) (s:=σ) hg ?_ hp h
 unfold DH
 rw[ho]
 simp only[Cn,hx,hi,CU,Fy,ht,he,hsz,hc,if_true]
theorem An {news:List Nat} {t s0 b0 e:Nat} {z0:List T} {esz ebb:Nat} {ez:List T} {ek:TK} {xo io:Operand} {m:SM} {sz:Nat} {es:List (List T)} {kk:IntKind} {kc:Nat} {cc:List T} {e2:Env} (hg:o.guard=none) (ho:o.op=.indexAddr t xo io) (hx:ev env xo=some (.t (.slice m sz es)))
  (hi:ev env io=some (.t (.int kk (Int.ofNat kc)))) (ht:look c.te t=some ⟨s0,b0,z0,.slice e⟩) (he:look c.te e=some ⟨esz,ebb,ez,ek⟩) (hsz:sz=esz) (hc:es[kc]?=some cc) (hp:BD n o.dst (.t (.ptr cc)) env=some e2)
  (h:hSK P c n ops news rest e2 σ k):hSK P c n ops news (o::rest) env σ k:=by
 simp only[hSK,AZ,hg]
 refine⟨SF,.t (.ptr cc),[],KL,?_,e2,hp,h⟩
 unfold B8
 rw[ho]
 simp only[Cn,hx,hi,CU,HR,ht,he,hsz,hc,if_true]
theorem R2 {j d:Nat} {want b:Bool} {oj:Oper} {e2:Env} (hg:o.guard=some (j,want)) (hj:ops[j]?=some oj) (hd:oj.dst=some d) (hl:look env d=some (.t (.bool b))) (hp:BD n o.dst (.t .undef) ((d,.t (.bool (!want)))::env)=some e2)
  (ht:b=want→AU P n ops ({o with guard:=none}::rest) ((d,.t (.bool want))::env) σ k)
  (hf:b= !want→AU P n ops rest e2 σ k):AU P n ops (o::rest) env σ k:=by
 simp only[AU,AZ,hg,hj,hd,hl]
 exact⟨fun h=>Kx (by simpa only[AU,AZ]using ht h),fun h=>⟨e2,hp,hf h⟩⟩
theorem Abr {j d:Nat} {b:Bool} {oj:Oper} {e2:Env} (hg:o.guard=some (j,true)) (hj:ops[j]?=some oj) (hd:oj.dst=some d) (hl:look env d=some (.t (.bool b))) (hp:BD n o.dst (.t .undef) ((d,.t (.bool false))::env)=some e2)
  (ht:b=true→AU P n ops ({o with guard:=none}::rest) ((d,.t (.bool true))::env) σ k)
  (hf:b=false→AU P n ops rest e2 σ k):AU P n ops (o::rest) env σ k:=R2 hg hj hd hl hp ht hf
theorem Abs {j d:Nat} {b:Bool} {oj:Oper} {e2:Env} (hg:o.guard=some (j,false)) (hj:ops[j]?=some oj) (hd:oj.dst=some d) (hl:look env d=some (.t (.bool b))) (hp:BD n o.dst (.t .undef) ((d,.t (.bool true))::env)=some e2)
  (ht:b=false→AU P n ops ({o with guard:=none}::rest) ((d,.t (.bool false))::env) σ k)
  (hf:b=true→AU P n ops rest e2 σ k):AU P n ops (o::rest) env σ k:=R2 hg hj hd hl hp ht hf
theorem A1 {j d:Nat} {b:Bool} {p:Prop} {oj:Oper} {e2:Env} (hg:o.guard=some (j,true)) (hj:ops[j]?=some oj) (hd:oj.dst=some d) (hl:look env d=some (.t (.bool b))) (hp:BD n o.dst (.t .undef) ((d,.t (.bool false))::env)=some e2) (hb:BP b p:=by first|with_reducible exact M1|with_reducible exact M2|with_reducible exact M4|with_reducible exact M3|with_reducible exact PN|with_reducible exact EA M1|with_reducible exact EA M2|with_reducible exact EA M4|with_reducible exact EA M3|with_reducible exact EA M5|exact M5)
  (ht:p→AU P n ops ({o with guard:=none}::rest) ((d,.t (.bool true))::env) σ k)
  (hf: ¬p→AU P n ops rest e2 σ k):AU P n ops (o::rest) env σ k:=Abr hg hj hd hl hp (fun h=>ht (hb.1 h)) (fun h=>hf (hb.no h))
theorem A2 {j d:Nat} {b:Bool} {p:Prop} {oj:Oper} {e2:Env} (hg:o.guard=some (j,false)) (hj:ops[j]?=some oj) (hd:oj.dst=some d) (hl:look env d=some (.t (.bool b))) (hp:BD n o.dst (.t .undef) ((d,.t (.bool true))::env)=some e2) (hb:BP b p:=by first|with_reducible exact M1|with_reducible exact M2|with_reducible exact M4|with_reducible exact M3|with_reducible exact PN|with_reducible exact EA M1|with_reducible exact EA M2|with_reducible exact EA M4|with_reducible exact EA M3|with_reducible exact EA M5|exact M5)
  (ht: ¬p→AU P n ops ({o with guard:=none}::rest) ((d,.t (.bool false))::env) σ k)
  (hf:p→AU P n ops rest e2 σ k):AU P n ops (o::rest) env σ k:=Abs hg hj hd hl hp (fun h=>ht (hb.no h)) (fun h=>hf (hb.1 h))
theorem Ag {j d:Nat} {want:Bool} {oj:Oper} {e2:Env} (hg:o.guard=some (j,want)) (hj:ops[j]?=some oj) (hd:oj.dst=some d) (hl:look env d=some (.t .undef)) (hp:BD n o.dst (.t .undef) env=some e2)
  (h:AU P n ops rest e2 σ k):AU P n ops (o::rest) env σ k:=by
 simp only[AU,AZ,hg,hj,hd,hl]
 exact⟨e2,hp,h⟩
theorem A7 (hp0:ProgOk P c) {cl:Call} {f:Nat} {as as':List AV} {env' e e2:Env} {σ' σ2 s:St} {r x:AV} (hg:o.guard=none) (ho:o.op=.call cl) (hb:isB cl.callee=false) (hc:Cz c env cl=some (f,as)) (hm:FP f c.own=false)
  (hz:Dy σ as env σ=(as',env',σ')) (hfr:Dz as'=true) (hct:Ct P f as' [] r σ2) (hh:Hb o.dst r σ2 env' σ'=some (x,e,s)) (hp:BD n o.dst x e=some e2) (h:AU P n ops rest e2 s k):
  AU P n ops (o::rest) env σ k:=by
 simp only[AU,AZ,hg]
 refine FW.of hp0 (L4 hct) (x:=x) (e:=e) (s:=s) ?_ ⟨e2,hp,h⟩
 have hs:HJ c (L6 f as' [] r σ2) o.dst cl env σ=some (x,e,s):=by
  simp only[HJ,hc,hm,hz,hfr,L5]
  exact hh
 unfold DH
 rw[ho]
 simp only
 split
 ·rename_i hq;rw[hq]at hb;simp[isB]at hb
 ·rename_i hq;rw[hq]at hb;simp[isB]at hb
 ·rename_i hq;rw[hq]at hb;simp[isB]at hb
 ·rename_i hq;rw[hq]at hb;simp[isB]at hb
 ·exact hs
 ·exact hs
theorem A4 {news:List Nat} (h:k env σ):hSK P c n ops news [] env σ k:=h
theorem As {news:List Nat} {x:AV} {e2:Env} {nb s:St} (hg:o.guard=none) (hs:B8 c SF news o env σ=some (x,nb)) (hn:nb++σ=s) (hp:BD n o.dst x env=some e2) (h:hSK P c n ops news rest e2 s k):
  hSK P c n ops news (o::rest) env σ k:=by
 subst hn
 simp only[hSK,AZ,hg]
 exact⟨SF,x,nb,KL,hs,e2,hp,h⟩
theorem RB {news:List Nat} {j d:Nat} {want b:Bool} {oj:Oper} {e2:Env} (hg:o.guard=some (j,want)) (hj:ops[j]?=some oj) (hd:oj.dst=some d) (hl:look env d=some (.t (.bool b))) (hp:BD n o.dst (.t .undef) ((d,.t (.bool (!want)))::env)=some e2)
  (ht:b=want→hSK P c n ops news ({o with guard:=none}::rest) ((d,.t (.bool want))::env) σ k)
  (hf:b= !want→hSK P c n ops news rest e2 σ k):hSK P c n ops news (o::rest) env σ k:=by
 simp only[hSK,AZ,hg,hj,hd,hl]
 exact⟨fun h=>by simpa only[hSK,AZ,NB]using ht h,fun h=>⟨e2,hp,hf h⟩⟩
theorem Acw {news:List Nat} {j d:Nat} {b:Bool} {oj:Oper} {e2:Env} (hg:o.guard=some (j,true)) (hj:ops[j]?=some oj) (hd:oj.dst=some d) (hl:look env d=some (.t (.bool b))) (hp:BD n o.dst (.t .undef) ((d,.t (.bool false))::env)=some e2)
  (ht:b=true→hSK P c n ops news ({o with guard:=none}::rest) ((d,.t (.bool true))::env) σ k)
  (hf:b=false→hSK P c n ops news rest e2 σ k):hSK P c n ops news (o::rest) env σ k:=RB hg hj hd hl hp ht hf
theorem Acx {news:List Nat} {j d:Nat} {b:Bool} {oj:Oper} {e2:Env} (hg:o.guard=some (j,false)) (hj:ops[j]?=some oj) (hd:oj.dst=some d) (hl:look env d=some (.t (.bool b))) (hp:BD n o.dst (.t .undef) ((d,.t (.bool true))::env)=some e2)
  (ht:b=false→hSK P c n ops news ({o with guard:=none}::rest) ((d,.t (.bool false))::env) σ k)
  (hf:b=true→hSK P c n ops news rest e2 σ k):hSK P c n ops news (o::rest) env σ k:=RB hg hj hd hl hp ht hf
theorem A5 {news:List Nat} {j d:Nat} {b:Bool} {p:Prop} {oj:Oper} {e2:Env} (hg:o.guard=some (j,true)) (hj:ops[j]?=some oj) (hd:oj.dst=some d) (hl:look env d=some (.t (.bool b))) (hp:BD n o.dst (.t .undef) ((d,.t (.bool false))::env)=some e2) (hb:BP b p:=by first|with_reducible exact M1|with_reducible exact M2|with_reducible exact M4|with_reducible exact M3|with_reducible exact PN|with_reducible exact EA M1|with_reducible exact EA M2|with_reducible exact EA M4|with_reducible exact EA M3|with_reducible exact EA M5|exact M5)
  (ht:p→hSK P c n ops news ({o with guard:=none}::rest) ((d,.t (.bool true))::env) σ k)
  (hf: ¬p→hSK P c n ops news rest e2 σ k):hSK P c n ops news (o::rest) env σ k:=Acw hg hj hd hl hp (fun h=>ht (hb.1 h)) (fun h=>hf (hb.no h))
theorem A6 {news:List Nat} {j d:Nat} {b:Bool} {p:Prop} {oj:Oper} {e2:Env} (hg:o.guard=some (j,false)) (hj:ops[j]?=some oj) (hd:oj.dst=some d) (hl:look env d=some (.t (.bool b))) (hp:BD n o.dst (.t .undef) ((d,.t (.bool true))::env)=some e2) (hb:BP b p:=by first|with_reducible exact M1|with_reducible exact M2|with_reducible exact M4|with_reducible exact M3|with_reducible exact PN|with_reducible exact EA M1|with_reducible exact EA M2|with_reducible exact EA M4|with_reducible exact EA M3|with_reducible exact EA M5|exact M5)
  (ht: ¬p→hSK P c n ops news ({o with guard:=none}::rest) ((d,.t (.bool false))::env) σ k)
  (hf:p→hSK P c n ops news rest e2 σ k):hSK P c n ops news (o::rest) env σ k:=Acx hg hj hd hl hp (fun h=>ht (hb.no h)) (fun h=>hf (hb.1 h))
theorem Ai {news:List Nat} {j d:Nat} {want:Bool} {oj:Oper} {e2:Env} (hg:o.guard=some (j,want)) (hj:ops[j]?=some oj) (hd:oj.dst=some d) (hl:look env d=some (.t .undef)) (hp:BD n o.dst (.t .undef) env=some e2)
  (h:hSK P c n ops news rest e2 σ k):hSK P c n ops news (o::rest) env σ k:=by
 simp only[hSK,AZ,hg,hj,hd,hl]
 exact⟨e2,hp,h⟩
theorem Bv {news:List Nat} {cl:Call} {f:Nat} {as:List AV} {e2:Env} {σ2:St} {r:AV} (hg:o.guard=none) (ho:o.op=.call cl) (hb:isB cl.callee=false) (hc:Cz c env cl=some (f,as))
  (hfr:Dz as=true) (hct:Ct P f as [] r σ2) (hr:r.free=true) (hp:BD n o.dst r env=some e2) (h:hSK P c n ops news rest e2 σ k):
  hSK P c n ops news (o::rest) env σ k:=by
 simp only[hSK,AZ,hg]
 refine⟨L6 f as [] r σ2,r,[],L4 hct,?_,e2,hp,h⟩
 unfold B8
 rw[ho]
 simp only
 split
 ·rename_i hq;rw[hq]at hb;simp[isB]at hb
 ·rename_i hq;rw[hq]at hb;simp[isB]at hb
 ·simp only[hc,hfr,L5,hr]
end
end Go.Am
namespace Go.Am
mutual
def Cw (f:Nat→Option Nat):AV→AV
 |.t x=>.t x
 |.top=>.top
 |.ref c o=>match f c with
  |some b=>.ref b o
  |none=>.top
 |.eref c s k o=>match f c with
  |some b=>.eref b s k o
  |none=>.top
 |.mref c=>match f c with
  |some b=>.mref b
  |none=>.top
 |.row c s lo len=>match f c with
  |some b=>.row b s lo len
  |none=>.top
 |.iface t x=>.iface t (Cw f x)
 |.func fn x y=>.func fn (DN f x) (DN f y)
 |.agg cs=>.agg (DN f cs)
 |.tuple cs=>.tuple (DN f cs)
def DN (f:Nat→Option Nat):List AV→List AV
 |[]=>[]
 |x::r=>Cw f x::DN f r
end
def Mu (f:Nat→Option Nat):Env→Env
 |[]=>[]
 |(t,x)::r=>(t,Cw f x)::Mu f r
def HL (f:Nat→Option Nat) (B:Blk):Blk:=match B with
 |.cells cs=>.cells (DN f cs)
 |.grow sz es=>.grow sz es
 |.rights L=>.rights L
 |.loop l st pe ps asg bd n env=>.loop l st pe ps asg bd n (Mu f env)
 |.mp ks xs=>.mp ks (DN f xs)
theorem Et (f:Nat→Option Nat): ∀l,(DN f l).length=l.length
 |[]=>rfl
 |x::r=>by simp[DN,Et f r]
theorem Eu (f:Nat→Option Nat): ∀(l:List AV) (i:Nat),(DN f l)[i]?=(l[i]?).map (Cw f)
 |[],i=>by simp[DN]
 |x::r,0=>by simp[DN]
 |x::r,i+1=>by simp[DN,Eu f r i]
theorem Je (f:Nat→Option Nat): ∀(l:Env) (t:Nat),look (Mu f l) t=(look l t).map (Cw f)
 |[],t=>by simp[Mu,look]
 |(k,x)::r,t=>by
  simp only[Mu]
  rw[AB,AB,Je f r t]
  split<;>rfl
theorem Rel.ren {w w':World} {g g':G} (f:Nat→Option Nat) (hk:Fq w g.M w' g'.M) (hs: ∀b p,w.shape? b=some p→w'.shape? b=some p) (hβ: ∀c b p,f c=some b→g.β c=some p→g'.β b=some p)
  {v:Value} {x:AV} (h:Rel w g v x):Rel w' g' v (Cw f x):=by
 induction h with
 |t v x h=>simp only[Cw];exact .t _ _ (h.mono hk)
 |top v=>simp only[Cw];exact .top v
 |ref c o blk h=>
  simp only[Cw]
  split
  ·rename_i b hb;exact .ref _ _ _ (hβ _ _ _ hb h)
  ·exact .top _
 |eref c s k o blk h=>
  simp only[Cw]
  split
  ·rename_i b hb;exact .eref _ _ _ _ _ (hβ _ _ _ hb h)
  ·exact .top _
 |mref c blk h=>
  simp only[Cw]
  split
  ·rename_i b hb;exact .mref _ _ (hβ _ _ _ hb h)
  ·exact .top _
 |rowNil c s a ha h=>
  simp only[Cw]
  split
  ·rename_i b hb;exact .rowNil _ _ _ ha (hβ _ _ _ hb h)
  ·exact .top _
 |row c s lo len blk o cap e0 n h hs' ho hl hn=>
  simp only[Cw]
  split
  ·rename_i b hb;exact .row _ _ _ _ blk o cap e0 n (hβ _ _ _ hb h) (hs _ _ hs') ho hl hn
  ·exact .top _
 |iface t v x _ ih=>simp only[Cw];exact .iface _ _ _ ih
 |func fn v1 v2 x1 x2 h1 h2 _ _ i1 i2=>
  simp only[Cw]
  refine .func fn v1 v2 _ _ (by rw[Et];exact h1) (by rw[Et];exact h2) (fun i v x hv hx=>?_) (fun i v x hv hx=>?_)
  ·rw[Eu]at hx
   cases hg:x1[i]? with
   |none=>simp[hg]at hx
   |some y=>simp[hg]at hx;subst hx;exact i1 i v y hv hg
  ·rw[Eu]at hx
   cases hg:x2[i]? with
   |none=>simp[hg]at hx
   |some y=>simp[hg]at hx;subst hx;exact i2 i v y hv hg
 |agg vs xs h _ ih=>
  simp only[Cw]
  refine .agg vs _ (by rw[Et];exact h) fun i v x hv hx=>?_
  rw[Eu]at hx
  cases hg:xs[i]? with
  |none=>simp[hg]at hx
  |some y=>simp[hg]at hx;subst hx;exact ih i v y hv hg
 |tuple vs xs h _ ih=>
  simp only[Cw]
  refine .tuple vs _ (by rw[Et];exact h) fun i v x hv hx=>?_
  rw[Eu]at hx
  cases hg:xs[i]? with
  |none=>simp[hg]at hx
  |some y=>simp[hg]at hx;subst hx;exact ih i v y hv hg
theorem B5.ren {w w':World} {g g':G} (f:Nat→Option Nat) (hr: ∀v x,Rel w g v x→Rel w' g' v (Cw f x)) {vs:List Value} {xs:List AV} (h:B5 w g vs xs):B5 w' g' vs (DN f xs):=
 ⟨by rw[Et];exact h.1,fun i v x hv hx=>by
  rw[Eu]at hx
  cases hg:xs[i]? with
  |none=>simp[hg]at hx
  |some y=>simp[hg]at hx;subst hx;exact hr _ _ (h.2 i v y hv hg)⟩
theorem D0.ren {w w':World} {g g':G} (f:Nat→Option Nat) (hk:Fq w g.M w' g'.M) (hr: ∀v x,Rel w g v x→Rel w' g' v (Cw f x)) {b c:Nat} (hβ: ∀p,g.β b=some p→g'.β c=some p)
  (hown: ∀blk,g.β b=some (some blk)→g.own blk→g'.own blk∧w'.heap[blk]?=w.heap[blk]?) {B:Blk} (h:D0 w g b B):D0 w' g' c (HL f B):=by
 cases B with
 |cells cs=>
  obtain⟨blk,vs,e,h1,h2,h3,h4,h5⟩:=h
  obtain⟨k1,k2⟩:=hown blk h1 h2
  refine⟨blk,vs,e,hβ _ h1,k1,by rw[k2];exact h3,by rw[Et];exact h4,fun i v x hv hx=>?_⟩
  rw[Eu]at hx
  cases hg:cs[i]? with
  |none=>simp[hg]at hx
  |some y=>simp[hg]at hx;subst hx;exact hr _ _ (h5 i v y hv hg)
 |grow sz es=>
  obtain⟨h0,h⟩:=h
  refine⟨h0,?_⟩
  rcases h with⟨h1,h2⟩|⟨blk,vs,e,h1,h2,h3,h4,h5⟩
  ·exact .inl ⟨hβ _ h1,h2⟩
  ·obtain⟨k1,k2⟩:=hown blk h1 h2
   exact .inr ⟨blk,vs,e,hβ _ h1,k1,by rw[k2];exact h3,h4,fun i v x hv hx=>⟨(h5 i v x hv hx).1,(h5 i v x hv hx).2.mono hk⟩⟩
 |rights L=>exact hβ _ h
 |loop l st pe ps asg bd n env=>
  obtain⟨r,h1,h2,h3,h4,h5,h6⟩:=h
  obtain⟨k1,k2⟩:=hown l h1 h2
  refine⟨r,hβ _ h1,k1,by rw[k2];exact h3,h4,h5,fun t x ht=>?_⟩
  rw[Je]at ht
  cases hg:look env t with
  |none=>simp[hg]at ht
  |some y=>simp[hg]at ht;subst ht;exact hr _ _ (h6 t y hg)
 |mp ks ys=>
  obtain⟨blk,fs,clk,h1,h2,h3,h4,h5,h6,h7⟩:=h
  refine⟨blk,fs,clk,hβ _ h1,(hown blk h1 h2).1,by rw[(hown blk h1 h2).2];exact h3,h4,by rw[Et];exact h5,fun i e x he hx=>(h6 i e x he hx).mono hk,fun i e x he hx=>?_⟩
  rw[Eu]at hx
  cases hg:ys[i]? with
  |none=>simp[hg]at hx
  |some y=>simp[hg]at hx;subst hx;exact hr _ _ (h7 i e y he hg)
def Cu (ι:List (Nat×Nat)) (σ:St):List (Nat×Nat)→St
 |[]=>[]
 |(b,c)::r=>match look σ b with
  |some B=>(c,HL (look ι) B)::Cu ι σ r
  |none=>Cu ι σ r
def FN (ω:List (Nat×Nat)):St→St
 |[]=>[]
 |(c,B)::r=>match look ω c with
  |some b=>(b,HL (look ω) B)::FN ω r
  |none=>FN ω r
def Dw (ι:List (Nat×Nat)) (σ:St) (b:Nat):Option Nat:=
 match look ι b with
 |none=>some b
 |some _=>match look σ b with
  |some (.cells _)=>some b
  |_=>none
def GA (ι:List (Nat×Nat)) (σ:St):St→St
 |[]=>[]
 |(b,B)::r=>match look ι b with
  |none=>(b,HL (Dw ι σ) B)::GA ι σ r
  |some _=>GA ι σ r
def RE (n:Nat):List Nat→Bool
 |[]=>true
 |k::r=> !(Nat.beq k n)&&RE n r
def Ef:List Nat→Bool
 |[]=>true
 |k::r=>RE k r&&Ef r
def MW (o:Option Nat) (n:Nat):Bool:=match o with
 |some k=>Nat.beq k n
 |none=>false
def U3 (ω:List (Nat×Nat)) (σ:St):List (Nat×Nat)→Bool
 |[]=>true
 |(b,c)::r=>(MW (look ω c) b&&((look σ b).isSome&&Nat.beq (c % 2) 1))&&U3 ω σ r
def Ob (ι:List (Nat×Nat)) (σ:St):List (Nat×Nat)→Bool
 |[]=>true
 |(c,b)::r=>(MW (look ι b) c||((look ι b).isNone&&(look σ b).isNone))&&Ob ι σ r
def U2 (ω:List (Nat×Nat)):St→Bool
 |[]=>true
 |(c,_)::r=>(look ω c).isSome&&U2 ω r
def GZ:List (Nat×Nat)→List Nat
 |[]=>[]
 |(k,_)::r=>k::GZ r
def EX:List (Nat×Nat)→List Nat
 |[]=>[]
 |(_,v)::r=>v::EX r
def My (ι ω:List (Nat×Nat)) (σ σ2:St):Bool:=
 (Ef (GZ ι)&&(Ef (GZ ω)&&Ef (EX ω)))&&(U3 ω σ ι&&(Ob ι σ ω&&U2 ω σ2))
theorem H9 {n:Nat}: ∀{l:List Nat},RE n l=true→n∉l
 |[],_=>by simp
 |k::r,h=>by
  simp only[RE,Bool.and_eq_true]at h
  intro hm
  rcases List.mem_cons.1 hm with e|e
  ·subst e;simp at h
  ·exact H9 h.2 e
theorem Ev {α:Type}: ∀{l:List (Nat×α)} {k:Nat} {v:α},look l k=some v→(k,v)∈l
 |[],k,v,h=>by simp[look]at h
 |(k',v')::r,k,v,h=>by
  rw[AB]at h
  split at h
  ·rename_i e;subst e;cases h;simp
  ·exact List.mem_cons_of_mem _ (Ev h)
theorem OO: ∀{l:List (Nat×Nat)} {k v:Nat},(k,v)∈l→k∈GZ l
 |(k',v')::r,k,v,h=>by
  rcases List.mem_cons.1 h with e|e
  ·cases e;simp[GZ]
  ·exact List.mem_cons_of_mem _ (OO e)
theorem Jb: ∀{l:List (Nat×Nat)} {k v:Nat},(k,v)∈l→v∈EX l
 |(k',v')::r,k,v,h=>by
  rcases List.mem_cons.1 h with e|e
  ·cases e;simp[EX]
  ·exact List.mem_cons_of_mem _ (Jb e)
theorem Oq: ∀{l:List (Nat×Nat)} {k k' v:Nat},Ef (EX l)=true→(k,v)∈l→(k',v)∈l→Ef (GZ l)=true→k=k'
 |(a,b)::r,k,k',v,hn,h1,h2,hk=>by
  simp only[EX,Ef,Bool.and_eq_true]at hn
  simp only[GZ,Ef,Bool.and_eq_true]at hk
  rcases List.mem_cons.1 h1 with e1|e1<;>rcases List.mem_cons.1 h2 with e2|e2
  ·cases e1;cases e2;rfl
  ·cases e1;exact absurd (Jb e2) (H9 hn.1)
  ·cases e2;exact absurd (Jb e1) (H9 hn.1)
  ·exact Oq hn.2 e1 e2 hk.2
theorem OJ {o:Option Nat} {n:Nat} (h:MW o n=true):o=some n:=by
 cases o with
 |none=>simp[MW]at h
 |some k=>simp only[MW]at h;rw[Nat.eq_of_beq_eq_true h]
theorem PJ {ω:List (Nat×Nat)} {σ:St}: ∀{l:List (Nat×Nat)},U3 ω σ l=true→ ∀b c,(b,c)∈l→look ω c=some b∧(look σ b).isSome=true∧c % 2=1
 |(b',c')::r,h,b,c,hm=>by
  simp only[U3,Bool.and_eq_true]at h
  rcases List.mem_cons.1 hm with e|e
  ·cases e;exact⟨OJ h.1.1,h.1.2.1,Nat.eq_of_beq_eq_true h.1.2.2⟩
  ·exact PJ h.2 b c e
theorem PI {ι:List (Nat×Nat)} {σ:St}: ∀{l:List (Nat×Nat)},Ob ι σ l=true→ ∀c b,(c,b)∈l→look ι b=some c∨(look ι b=none∧look σ b=none)
 |(c',b')::r,h,c,b,hm=>by
  simp only[Ob,Bool.and_eq_true,Bool.or_eq_true]at h
  rcases List.mem_cons.1 hm with e|e
  ·cases e
   rcases h.1 with h'|h'
   ·exact .inl (OJ h')
   ·exact .inr ⟨by simpa using h'.1,by simpa using h'.2⟩
  ·exact PI h.2 c b e
theorem PG {ω:List (Nat×Nat)}: ∀{l:St},U2 ω l=true→ ∀c B,look l c=some B→(look ω c).isSome=true
 |[],_,c,B,h=>by simp[look]at h
 |(c',B')::r,hc,c,B,h=>by
  simp only[U2,Bool.and_eq_true]at hc
  rw[AB]at h
  split at h
  ·rename_i e;subst e;exact hc.1
  ·exact PG hc.2 c B h
structure RenOk (ι ω:List (Nat×Nat)) (σ σ2:St):Prop where
 io: ∀b c,look ι b=some c→look ω c=some b∧(look σ b).isSome=true∧c % 2=1
 oi: ∀c b,look ω c=some b→look ι b=some c∨(look ι b=none∧look σ b=none)
 inj: ∀c c' b,look ω c=some b→look ω c'=some b→c=c'
 dom: ∀c B,look σ2 c=some B→(look ω c).isSome=true
 mem: ∀b c,(b,c)∈ι→look ι b=some c
theorem ON: ∀{l:List (Nat×Nat)},Ef (GZ l)=true→ ∀b c,(b,c)∈l→look l b=some c
 |(b',c')::r,hn,b,c,h=>by
  simp only[GZ,Ef,Bool.and_eq_true]at hn
  rw[AB]
  rcases List.mem_cons.1 h with e|e
  ·cases e;simp
  ·have: ¬b'=b:=fun e2=>by subst e2;exact H9 hn.1 (OO e)
   simp only[this,if_false];exact ON hn.2 b c e
theorem J5 {ι ω:List (Nat×Nat)} {σ σ2:St} (h:My ι ω σ σ2=true):RenOk ι ω σ σ2:=by
 simp only[My,Bool.and_eq_true]at h
 obtain⟨⟨h1,h2,h3⟩,h4,h5,h6⟩:=h
 exact⟨fun b c hb=>PJ h4 b c (Ev hb),fun c b hc=>PI h5 c b (Ev hc),fun c c' b h7 h8=>Oq h3 (Ev h7) (Ev h8) h2,PG h6,ON h1⟩
theorem DB {ι:List (Nat×Nat)} {σ:St} {c:Nat} {B:Blk}: ∀{l:List (Nat×Nat)},look (Cu ι σ l) c=some B→ ∃b B0,(b,c)∈l∧look σ b=some B0∧B=HL (look ι) B0
 |[],h=>by simp[Cu,look]at h
 |(b',c')::r,h=>by
  simp only[Cu]at h
  split at h
  ·rename_i B0 hB
   rw[AB]at h
   split at h
   ·rename_i e;subst e;cases h;exact⟨b',B0,by simp,hB,rfl⟩
   ·obtain⟨b,B1,h1,h2⟩:=DB h;exact⟨b,B1,by simp[h1],h2⟩
  ·obtain⟨b,B1,h1,h2⟩:=DB h;exact⟨b,B1,by simp[h1],h2⟩
theorem Iv {ι:List (Nat×Nat)} {σ:St} {b c:Nat} (hs:(look σ b).isSome=true): ∀{l:List (Nat×Nat)},(b,c)∈l→(look (Cu ι σ l) c).isSome=true
 |(b',c')::r,h=>by
  simp only[Cu]
  rcases List.mem_cons.1 h with e|e
  ·cases e
   obtain⟨B,hB⟩:=Option.isSome_iff_exists.1 hs
   rw[hB];simp[AB]
  ·have ih:=Iv hs e (ι:=ι)
   split
   ·rw[AB];split
    ·rfl
    ·exact ih
   ·exact ih
theorem Dq {ω:List (Nat×Nat)} (hinj: ∀c c' b,look ω c=some b→look ω c'=some b→c=c') {b:Nat}: ∀{s:St},(∀c,look ω c=some b→look (FN ω s) b=(look s c).map (HL (look ω)))∧((∀c,look ω c≠some b)→look (FN ω s) b=none)
 |[]=>⟨fun c hc=>by simp[FN,look],fun _=>by simp[FN,look]⟩
 |(c',B)::r=>by
  obtain⟨ih1,ih2⟩:=Dq hinj (b:=b) (s:=r)
  constructor
  ·intro c hc
   simp only[FN]
   split
   ·rename_i b' hb'
    rw[AB,AB]
    by_cases e:b'=b
    ·subst e
     have:c'=c:=hinj _ _ _ hb' hc
     subst this;simp
    ·have: ¬c'=c:=fun e2=>e (by subst e2;rw[hc]at hb';cases hb';rfl)
     simp only[e,this,if_false];exact ih1 c hc
   ·rename_i hb'
    have: ¬c'=c:=fun e2=>by subst e2;rw[hc]at hb';cases hb'
    rw[AB];simp only[this,if_false];exact ih1 c hc
  ·intro hn
   simp only[FN]
   split
   ·rename_i b' hb'
    rw[AB]
    have: ¬b'=b:=fun e=>hn c' (by rw[hb',e])
    simp only[this,if_false];exact ih2 hn
   ·exact ih2 hn
theorem Dk {ι:List (Nat×Nat)} {σ:St} {b:Nat}: ∀{s:St},look (GA ι σ s) b=if look ι b=none then(look s b).map (HL (Dw ι σ))else none
 |[]=>by simp[GA,look]
 |(b',B)::r=>by
  have ih:=Dk (ι:=ι) (σ:=σ) (b:=b) (s:=r)
  simp only[GA]
  split
  ·rename_i hb'
   rw[AB,AB]
   by_cases e:b'=b
   ·subst e;simp[hb']
   ·simp only[e,if_false];exact ih
  ·rename_i c hb'
   rw[AB]
   by_cases e:b'=b
   ·subst e;rw[ih];simp[hb']
   ·simp only[e,if_false];exact ih
end Go.Am
namespace Go.Am
section
variable {w w':World} {g g1:G} {σ σ2:St} {ι ω:List (Nat×Nat)}
def G.sub (g:G) (ι ω:List (Nat×Nat)) (σ0:St):G where
 β:=fun c=>match look ω c with
  |some b=>if look ι b=some c then g.β b else none
  |none=>none
 own:=fun blk=>(∃b c,look ι b=some c∧g.β b=some (some blk))∨ ∃c L e,look σ0 c=some (.rights L)∧(blk,e)∈L
 oth:=fun blk o=>g.M blk o∧ ¬((∃b c,look ι b=some c∧g.β b=some (some blk))∨ ∃c L e,look σ0 c=some (.rights L)∧(blk,e)∈L)
 sp:=g.sp
 bx:=fun c=>c % 2=1∧ ∃cs,look σ0 c=some (.cells cs)
open Classical in
noncomputable def G.back (g g0 g1:G) (ω:List (Nat×Nat)):G where
 β:=fun b=>if h: ∃c,look ω c=some b then g1.β h.choose else g.β b
 own:=fun blk=>g1.own blk∨(g.own blk∧ ¬g0.own blk)
 oth:=g.oth
 sp:=fun blk=>if g1.own blk then g1.sp blk else g.sp blk
 bx:=g.bx
 lo:=g.lo
theorem Ji (hi:Inv w g σ) {b blk:Nat} (h:g.β b=some (some blk)):g.own blk:=by
 have hd:=hi.dom b
 rw[h]at hd
 obtain⟨B,hB⟩:=Option.isSome_iff_exists.1 (by simpa using hd)
 have hok:=hi.ok b B hB
 cases B with
 |cells cs=>obtain⟨blk',vs,e,h1,h2,_⟩:=hok;rw[h]at h1;cases h1;exact h2
 |grow sz es=>
  obtain⟨_,hh⟩:=hok
  rcases hh with⟨h1,_⟩|⟨blk',vs,e,h1,h2,_⟩
  ·rw[h]at h1;cases h1
  ·rw[h]at h1;cases h1;exact h2
 |rights L=>have h1:g.β b=some none:=hok;rw[h1]at h;cases h
 |loop l st pe ps asg bd n env=>obtain⟨r,h1,h2,_⟩:=hok;rw[h]at h1;cases h1;exact h2
 |mp ks xs=>obtain⟨blk',es,clk,h1,h2,_⟩:=hok;rw[h]at h1;cases h1;exact h2
theorem X3 (hR:RenOk ι ω σ σ2) {σ0:St} {b c:Nat} {p:Option Nat} (h1:look ι b=some c) (h2:g.β b=some p):(g.sub ι ω σ0).β c=some p:=by
 simp only[G.sub,(hR.io b c h1).1,h1,if_true,h2]
theorem CO (hR:RenOk ι ω σ σ2) {c:Nat} {L:List (Nat×Nat×Nat)} (h:look (Cu ι σ ι) c=some (.rights L)): ∃b,look ι b=some c∧look σ b=some (.rights L):=by
 obtain⟨b,B0,h1,h2,h3⟩:=DB h
 refine⟨b,hR.mem _ _ h1,?_⟩
 rw[h2]
 cases B0<;>simp[HL]at h3
 rw[h3]
theorem Gi (hi:Inv w g σ) (hR:RenOk ι ω σ σ2) {blk:Nat} (h:(g.sub ι ω (Cu ι σ ι)).own blk):g.own blk:=by
 rcases h with⟨b,c,_,h2⟩|⟨c,L,e,h1,h2⟩
 ·exact Ji hi h2
 ·obtain⟨b,_,h3⟩:=CO hR h1
  exact((hi.sx.ok b L h3).2 _ h2).1
theorem X4 (hi:Inv w g σ) (hR:RenOk ι ω σ σ2) (blk o:Nat):(g.sub ι ω (Cu ι σ ι)).M blk o↔g.M blk o:=by
 constructor
 ·rintro(h|h)
  ·exact .inl ⟨Gi hi hR h.1,h.2⟩
  ·exact h.1
 ·intro h
  by_cases ho:(g.sub ι ω (Cu ι σ ι)).own blk
  ·rcases h with h|h
   ·exact .inl ⟨ho,h.2⟩
   ·exact absurd h (hi.dis _ _ (Gi hi hR ho))
  ·exact .inr ⟨h,ho⟩
theorem SK (hR:RenOk ι ω σ σ2) {b c:Nat} {B:Blk} (h1:look ι b=some c) (h2:look σ b=some B):look (Cu ι σ ι) c=some (HL (look ι) B):=by
 obtain⟨B1,hB1⟩:=Option.isSome_iff_exists.1 (Iv (ι:=ι) (by rw[h2];rfl) (Ev h1))
 obtain⟨b',B0,k1,k2,k3⟩:=DB hB1
 have h3:=(hR.io b c h1).1
 have h4:=(hR.io b' c (hR.mem _ _ k1)).1
 rw[h3]at h4;cases h4
 rw[h2]at k2;cases k2
 rw[hB1,k3]
theorem KI (hi:Inv w g σ) (hR:RenOk ι ω σ σ2):Inv w (g.sub ι ω (Cu ι σ ι)) (Cu ι σ ι)∧ ∀v x,Rel w g v x→Rel w (g.sub ι ω (Cu ι σ ι)) v (Cw (look ι) x):=by
 have hk:Fq w g.M w (g.sub ι ω (Cu ι σ ι)).M:=fun b o v h1 h2=>⟨fun h=>h1 ((X4 hi hR b o).1 h),h2⟩
 have hr: ∀v x,Rel w g v x→Rel w (g.sub ι ω (Cu ι σ ι)) v (Cw (look ι) x):=fun v x h=>h.ren (look ι) hk (fun _ _ h=>h) (fun c b p h1 h2=>X3 hR h1 h2)
 refine⟨⟨fun c B hB=>?_,fun c=>?_,fun c c' blk h1 h2=>?_,fun blk h=>(by
   rcases h with h|⟨o,h⟩
   ·exact hi.lt blk (.inl (Gi hi hR h))
   ·rcases h.1 with h|h
    ·exact hi.lt blk (.inl h.1)
    ·exact hi.lt blk (.inr ⟨o,h⟩)),fun c h=>h,fun blk o h1 h2=>h2.2 h1,hi.im_of hk,Nat.zero_le _,⟨hi.sx.lt,fun c blk h=>?_,fun c c' L L' blk e e' h1 h2 h3 h4=>?_,fun c L hL=>?_⟩⟩,hr⟩
 ·obtain⟨b,B0,h1,h2,rfl⟩:=DB hB
  have h1:=hR.mem _ _ h1
  exact D0.ren (look ι) hk hr (fun p hp=>X3 hR h1 hp) (fun blk hb ho=>⟨.inl ⟨b,c,h1,hb⟩,rfl⟩) (hi.ok b B0 h2)
 ·simp only[G.sub]
  cases ho:look ω c with
  |none=>
   cases hl:look (Cu ι σ ι) c with
   |none=>simp
   |some B=>
    obtain⟨b,B0,h1,_⟩:=DB hl
    rw[(hR.io b c (hR.mem _ _ h1)).1]at ho;cases ho
  |some b=>
   by_cases hb:look ι b=some c
   ·simp only[hb,if_true]
    obtain⟨_,h2,_⟩:=hR.io b c hb
    rw[Iv h2 (Ev hb),←hi.dom b,h2]
   ·simp only[hb,if_false]
    cases hl:look (Cu ι σ ι) c with
    |none=>simp
    |some B=>
     obtain⟨b',B0,h1,_⟩:=DB hl
     have h1:=hR.mem _ _ h1
     have:=(hR.io b' c h1).1
     rw[ho]at this;cases this;exact absurd h1 hb
 ·simp only[G.sub]at h1 h2
  split at h1
  ·rename_i b hb
   split at h1
   ·rename_i e1
    split at h2
    ·rename_i b' hb'
     split at h2
     ·rename_i e2
      have:=hi.inj _ _ _ h1 h2;subst this
      rw[e1]at e2;cases e2;rfl
     ·cases h2
    ·cases h2
   ·cases h1
  ·cases h1
 ·simp only[G.sub]at h
  split at h
  ·split at h
   ·exact hi.sx.bs _ _ h
   ·cases h
  ·cases h
 ·obtain⟨b,k1,k2⟩:=CO hR h1
  obtain⟨b',k3,k4⟩:=CO hR h2
  have:=hi.sx.one _ _ _ _ _ _ _ k2 k4 h3 h4;subst this
  rw[k1]at k3;cases k3;rfl
 ·obtain⟨b,k1,k2⟩:=CO hR hL
  obtain⟨q1,q2⟩:=hi.sx.ok b L k2
  exact⟨q1,fun p hp=>⟨.inr ⟨c,L,p.2,hL,hp⟩,(q2 p hp).2⟩⟩
theorem Ep {g0:G} (hR:RenOk ι ω σ σ2) {b c:Nat} (h:look ω c=some b):(g.back g0 g1 ω).β b=g1.β c:=by
 have hex: ∃c,look ω c=some b:=⟨c,h⟩
 simp only[G.back,hex,dite_true]
 rw[hR.inj _ _ _ hex.choose_spec h]
theorem DU {g0:G} {b:Nat} (h: ∀c,look ω c≠some b):(g.back g0 g1 ω).β b=g.β b:=by
 have hex: ¬ ∃c,look ω c=some b:=fun⟨c,hc⟩=>h c hc
 simp only[G.back,hex,dite_false]
theorem G2 (hi:Inv w g σ) (hR:RenOk ι ω σ σ2) (hx:Ext w (g.sub ι ω (Cu ι σ ι)) w' g1) (hi2:Inv w' g1 σ2):
  ∃g',Ext w g w' g'∧Inv w' g' (FN ω σ2++GA ι σ σ)∧(∀v x,Rel w' g1 v x→Rel w' g' v (Cw (look ω) x))∧(∀v x,Rel w g v x→Rel w' g' v (Cw (Dw ι σ) x)):=by
 have hnow: ∀blk,g.own blk→ ¬(g.sub ι ω (Cu ι σ ι)).own blk→ ¬g1.own blk:=fun blk h1 h2 h3=>h2 (hx.own blk (hi.lt blk (.inl h1)) h3)
 have hM: ∀blk o,(g.back (g.sub ι ω (Cu ι σ ι)) g1 ω).M blk o↔g1.M blk o:=by
  intro blk o
  have ho:=hx.oth blk o
  constructor
  ·rintro(⟨h|⟨h1,h2⟩,hs⟩|h)
   ·refine .inl ⟨h,fun e he=>hs e ?_⟩
    simp only[G.back,h,if_true];exact he
   ·refine .inr (ho.2 ⟨.inl ⟨h1,fun e he=>hs e ?_⟩,h2⟩)
    simp only[G.back,hnow blk h1 h2,if_false];exact he
   ·exact .inr (ho.2 ⟨.inr h,fun hc=>hi.dis _ _ (Gi hi hR hc) h⟩)
  ·rintro(⟨h,hs⟩|h)
   ·refine .inl ⟨.inl h,fun e he=>hs e ?_⟩
    simp only[G.back,h,if_true]at he;exact he
   ·obtain⟨h1,h2⟩:=ho.1 h
    rcases h1 with⟨h1,hs⟩|h1
    ·refine .inl ⟨.inr ⟨h1,h2⟩,fun e he=>hs e ?_⟩
     simp only[G.back,hnow blk h1 h2,if_false]at he;exact he
    ·exact .inr h1
 have hstab: ∀b c cs,look ι b=some c→look σ b=some (.cells cs)→g1.bx c∧g1.β c=g.β b:=by
  intro b c cs h1 h2
  obtain⟨k1,_,k3⟩:=hR.io b c h1
  obtain⟨q1,q2⟩:=hx.bx c ⟨k3,_,SK hR h1 h2⟩
  refine⟨q1,?_⟩
  rw[q2];simp only[G.sub,k1,h1,if_true]
 have hext:Ext w g w' (g.back (g.sub ι ω (Cu ι σ ι)) g1 ω):=by
  refine⟨hx.size,fun blk hb ho=>hx.keep blk hb (fun hc=>ho (Gi hi hR hc)),fun blk hb ho=>?_,fun _ _=>Iff.rfl,hx.shape,fun b hb=>⟨hb,?_⟩,⟨rfl,hx.lo.2⟩,fun blk e hb ho he=>?_⟩
  ·rcases ho with ho|ho
   ·exact Gi hi hR (hx.own blk hb ho)
   ·exact ho.1
  ·obtain⟨_,cs,h2⟩:=hi.bx b hb
   by_cases hex: ∃c,look ω c=some b
   ·obtain⟨c,hc⟩:=hex
    rw[Ep hR hc]
    rcases hR.oi c b hc with h|⟨_,h⟩
    ·exact(hstab b c cs h h2).2
    ·rw[h2]at h;cases h
   ·exact DU fun c hc=>hex ⟨c,hc⟩
  ·by_cases h0:(g.sub ι ω (Cu ι σ ι)).own blk
   ·obtain⟨a1,a2⟩:=hx.sp blk e hb h0 he
    refine⟨a1,fun h=>?_⟩
    rcases h with h|h
    ·obtain⟨e',k1,k2⟩:=a2 h
     exact⟨e',by simp only[G.back,h,if_true];exact k1,k2⟩
    ·exact absurd h0 h.2
   ·refine⟨fun o _=>BS (hx.keep blk hb h0) o none,fun _=>⟨e,?_,Nat.le_refl _⟩⟩
    simp only[G.back,hnow blk ho h0,if_false];exact he
 have hkin:Fq w' g1.M w' (g.back (g.sub ι ω (Cu ι σ ι)) g1 ω).M:=fun b o v h1 h2=>⟨fun h=>h1 ((hM b o).1 h),h2⟩
 have hrin: ∀v x,Rel w' g1 v x→Rel w' (g.back (g.sub ι ω (Cu ι σ ι)) g1 ω) v (Cw (look ω) x):=fun v x h=>
  h.ren (look ω) hkin (fun _ _ h=>h) (fun c b p h1 h2=>by rw[Ep hR h1];exact h2)
 have hrout: ∀v x,Rel w g v x→Rel w' (g.back (g.sub ι ω (Cu ι σ ι)) g1 ω) v (Cw (Dw ι σ) x):=fun v x h=>
  h.ren (Dw ι σ) hext.keeps hx.shape (fun b1 b2 p h1 h2=>by
   unfold Dw at h1
   split at h1
   ·rename_i hn
    cases h1
    rw[DU]
    ·exact h2
    ·intro c hc
     rcases hR.oi c b1 hc with h|⟨_,h⟩
     ·rw[hn]at h;cases h
     ·have:=hi.dom b1;rw[h,h2]at this;cases this
   ·rename_i c hc
    split at h1
    ·rename_i cs hcs
     cases h1
     rw[Ep hR (hR.io b1 c hc).1,(hstab b1 c cs hc hcs).2];exact h2
    ·cases h1)
 refine⟨_,hext,⟨fun b B hB=>?_,fun b=>?_,fun b b' blk h1 h2=>?_,fun blk h=>?_,fun b hb=>?_,fun blk o h1 h2=>?_,hi.im_of hext.keeps,(Nat.le_trans hi.lo hext.size),?_⟩,hrin,hrout⟩
 ·rw[CB]at hB
  by_cases hex: ∃c,look ω c=some b
  ·obtain⟨c,hc⟩:=hex
   rw[(Dq hR.inj).1 c hc,Dk]at hB
   have hno:(if look ι b=none then(look σ b).map (HL (Dw ι σ))else none)=none:=by
    rcases hR.oi c b hc with h|⟨h1,h2⟩
    ·simp[h]
    ·simp[h1,h2]
   rw[hno,Option.or_none]at hB
   cases hl:look σ2 c with
   |none=>simp[hl]at hB
   |some B2=>
    simp[hl]at hB;subst hB
    exact D0.ren (look ω) hkin hrin (fun p hp=>by rw[Ep hR hc];exact hp) (fun blk _ ho=>⟨.inl ho,rfl⟩) (hi2.ok c B2 hl)
  ·have hn: ∀c,look ω c≠some b:=fun c hc=>hex ⟨c,hc⟩
   rw[(Dq hR.inj).2 hn,Dk,Option.none_or]at hB
   split at hB
   ·rename_i hnι
    cases hl:look σ b with
    |none=>simp[hl]at hB
    |some B0=>
     simp[hl]at hB;subst hB
     refine D0.ren (Dw ι σ) hext.keeps hrout (fun p hp=>by rw[DU hn];exact hp) (fun blk hb ho=>?_) (hi.ok b B0 hl)
     have hno: ¬(g.sub ι ω (Cu ι σ ι)).own blk:=by
      rintro(⟨b2,c2,q1,q2⟩|⟨c2,L,e,q1,q2⟩)
      ·have:=hi.inj _ _ _ hb q2;subst this
       rw[hnι]at q1;cases q1
      ·obtain⟨b2,_,k2⟩:=CO hR q1
       have h1:=((hi.sx.ok b2 L k2).2 _ q2).2.1
       rw[hi.sx.bs _ _ hb]at h1;cases h1
     exact⟨.inr ⟨ho,hno⟩,hx.keep blk (hi.lt blk (.inl ho)) hno⟩
   ·cases hB
 ·rw[CB]
  by_cases hex: ∃c,look ω c=some b
  ·obtain⟨c,hc⟩:=hex
   rw[(Dq hR.inj).1 c hc,Dk,Ep hR hc,←hi2.dom c]
   have hno:(if look ι b=none then(look σ b).map (HL (Dw ι σ))else none)=none:=by
    rcases hR.oi c b hc with h|⟨h1,h2⟩
    ·simp[h]
    ·simp[h1,h2]
   rw[hno];cases look σ2 c<;>rfl
  ·have hn: ∀c,look ω c≠some b:=fun c hc=>hex ⟨c,hc⟩
   rw[(Dq hR.inj).2 hn,Dk,DU hn,←hi.dom b]
   have:look ι b=none:=by
    cases hl:look ι b with
    |none=>rfl
    |some c=>exact absurd (hR.io b c hl).1 (hn c)
   simp only[this,if_true];cases look σ b<;>rfl
 ·have mixed: ∀b b' c,look ω c=some b→(∀c,look ω c≠some b')→g1.β c=some (some blk)→g.β b'=some (some blk)→False:=by
   intro b b' c q1 q2 q3 q4
   have ho:=Ji hi q4
   rcases hx.own blk (hi.lt blk (.inl ho)) (Ji hi2 q3)with⟨b2,c2,k1,k2⟩|⟨c2,L,e,k1,k2⟩
   ·have:=hi.inj _ _ _ q4 k2;subst this
    exact q2 c2 (hR.io _ _ k1).1
   ·obtain⟨b2,_,k3⟩:=CO hR k1
    have h1:=((hi.sx.ok b2 L k3).2 _ k2).2.1
    rw[hi.sx.bs _ _ q4]at h1;cases h1
  by_cases hb: ∃c,look ω c=some b<;>by_cases hb': ∃c,look ω c=some b'
  ·obtain⟨c,hc⟩:=hb;obtain⟨c',hc'⟩:=hb'
   rw[Ep hR hc]at h1;rw[Ep hR hc']at h2
   have:=hi2.inj _ _ _ h1 h2;subst this
   rw[hc]at hc';cases hc';rfl
  ·obtain⟨c,hc⟩:=hb
   rw[Ep hR hc]at h1;rw[DU fun c hc=>hb' ⟨c,hc⟩]at h2
   exact(mixed b b' c hc (fun c hc=>hb' ⟨c,hc⟩) h1 h2).elim
  ·obtain⟨c,hc⟩:=hb'
   rw[Ep hR hc]at h2;rw[DU fun c hc=>hb ⟨c,hc⟩]at h1
   exact(mixed b' b c hc (fun c hc=>hb ⟨c,hc⟩) h2 h1).elim
  ·rw[DU fun c hc=>hb ⟨c,hc⟩]at h1;rw[DU fun c hc=>hb' ⟨c,hc⟩]at h2
   exact hi.inj _ _ _ h1 h2
 ·rcases h with(h|h)|⟨o,h⟩
  ·exact hi2.lt blk (.inl h)
  ·exact Nat.lt_of_lt_of_le (hi.lt blk (.inl h.1)) hext.size
  ·exact Nat.lt_of_lt_of_le (hi.lt blk (.inr ⟨o,h⟩)) hext.size
 ·obtain⟨h1,cs,h2⟩:=hi.bx b hb
  refine⟨h1,?_⟩
  rw[CB]
  by_cases hex: ∃c,look ω c=some b
  ·obtain⟨c,hc⟩:=hex
   rcases hR.oi c b hc with h|⟨_,h⟩
   ·obtain⟨_,cs2,q⟩:=hi2.bx c (hstab b c cs h h2).1
    rw[(Dq hR.inj).1 c hc,q]
    exact⟨_,rfl⟩
   ·rw[h2]at h;cases h
  ·have hn: ∀c,look ω c≠some b:=fun c hc=>hex ⟨c,hc⟩
   have:look ι b=none:=by
    cases hl:look ι b with
    |none=>rfl
    |some c=>exact absurd (hR.io b c hl).1 (hn c)
   rw[(Dq hR.inj).2 hn,Dk,h2]
   simp only[this,if_true]
   exact⟨_,rfl⟩
 ·rcases h1 with h1|h1
  ·refine hi2.dis blk o h1 ((hx.oth blk o).2 ⟨.inr h2,fun hc=>hi.dis _ _ (Gi hi hR hc) h2⟩)
  ·exact hi.dis blk o h1.1 h2
 ·have old: ∀b L,(∀c,look ω c≠some b)→look σ b=some (.rights L)→ ∀p∈L,¬(g.sub ι ω (Cu ι σ ι)).own p.1:=by
   rintro b L hn hL p hp (⟨b2,c2,k1,k2⟩|⟨c2,L2,e,k1,k2⟩)
   ·have h1:=((hi.sx.ok b L hL).2 _ hp).2.1
    rw[hi.sx.bs _ _ k2]at h1;cases h1
   ·obtain⟨b2,k3,k4⟩:=CO hR k1
    have:=hi.sx.one _ _ _ _ _ _ _ hL k4 (show(p.1,p.2)∈L from hp) k2
    subst this
    exact hn c2 (hR.io _ _ k3).1
  have cases2: ∀b L,look (FN ω σ2++GA ι σ σ) b=some (.rights L)→(∃c,look ω c=some b∧look σ2 c=some (.rights L))∨((∀c,look ω c≠some b)∧look σ b=some (.rights L)):=by
   intro b L hL
   rw[CB]at hL
   by_cases hex: ∃c,look ω c=some b
   ·obtain⟨c,hc⟩:=hex
    refine .inl ⟨c,hc,?_⟩
    rw[(Dq hR.inj).1 c hc,Dk]at hL
    have hno:(if look ι b=none then(look σ b).map (HL (Dw ι σ))else none)=none:=by
     rcases hR.oi c b hc with h|⟨h1,h2⟩
     ·simp[h]
     ·simp[h1,h2]
    rw[hno,Option.or_none]at hL
    cases hl:look σ2 c with
    |none=>simp[hl]at hL
    |some B2=>
     simp[hl]at hL
     cases B2<;>simp[HL]at hL
     rw[hL]
   ·have hn: ∀c,look ω c≠some b:=fun c hc=>hex ⟨c,hc⟩
    refine .inr ⟨hn,?_⟩
    rw[(Dq hR.inj).2 hn,Dk,Option.none_or]at hL
    split at hL
    ·cases hl:look σ b with
     |none=>simp[hl]at hL
     |some B0=>
      simp[hl]at hL
      cases B0<;>simp[HL]at hL
      rw[hL]
    ·cases hL
  refine⟨fun blk e h=>?_,fun b blk h=>?_,fun b b' L L' blk e e' h1 h2 h3 h4=>?_,fun b L hL=>?_⟩
  ·simp only[G.back]at h
   split at h
   ·exact hi2.sx.lt blk e h
   ·exact Nat.lt_of_lt_of_le (hi.sx.lt blk e h) hext.size
  ·by_cases hex: ∃c,look ω c=some b
   ·obtain⟨c,hc⟩:=hex
    rw[Ep hR hc]at h
    simp only[G.back,Ji hi2 h,if_true]
    exact hi2.sx.bs c blk h
   ·have hn: ∀c,look ω c≠some b:=fun c hc=>hex ⟨c,hc⟩
    rw[DU hn]at h
    have hno: ¬g1.own blk:=by
     intro h3
     rcases hx.own blk (hi.lt blk (.inl (Ji hi h))) h3 with⟨b2,c2,k1,k2⟩|⟨c2,L,e,k1,k2⟩
     ·have:=hi.inj _ _ _ h k2;subst this
      exact hn c2 (hR.io _ _ k1).1
     ·obtain⟨b2,_,k3⟩:=CO hR k1
      have h1:=((hi.sx.ok b2 L k3).2 _ k2).2.1
      rw[hi.sx.bs _ _ h]at h1;cases h1
    simp only[G.back,hno,if_false]
    exact hi.sx.bs b blk h
  ·have apart: ∀b b' c L L' e e',look ω c=some b→look σ2 c=some (.rights L)→(∀c,look ω c≠some b')→look σ b'=some (.rights L')→(blk,e)∈L→(blk,e')∈L'→False:=by
    intro b b' c L L' e e' q1 q2 q3 q4 q5 q6
    have h1:=((hi2.sx.ok c L q2).2 _ q5).1
    have h2:=((hi.sx.ok b' L' q4).2 _ q6)
    exact hnow blk h2.1 (old b' L' q3 q4 _ q6) h1
   rcases cases2 b L h1 with⟨c,k1,k2⟩|⟨k1,k2⟩<;>rcases cases2 b' L' h2 with⟨c',k3,k4⟩|⟨k3,k4⟩
   ·have:=hi2.sx.one _ _ _ _ _ _ _ k2 k4 h3 h4;subst this
    rw[k1]at k3;cases k3;rfl
   ·exact(apart b b' c L L' _ _ k1 k2 k3 k4 h3 h4).elim
   ·exact(apart b' b c' L' L _ _ k3 k4 k1 k2 h4 h3).elim
   ·exact hi.sx.one _ _ _ _ _ _ _ k2 k4 h3 h4
  ·rcases cases2 b L hL with⟨c,k1,k2⟩|⟨k1,k2⟩
   ·obtain⟨q1,q2⟩:=hi2.sx.ok c L k2
    refine⟨q1,fun p hp=>?_⟩
    obtain⟨r1,r2,r3⟩:=q2 p hp
    exact⟨.inl r1,by simp only[G.back,r1,if_true];exact r2,r3⟩
   ·obtain⟨q1,q2⟩:=hi.sx.ok b L k2
    refine⟨q1,fun p hp=>?_⟩
    obtain⟨r1,r2,vs,ty,r3,r4⟩:=q2 p hp
    have hno:=old b L k1 k2 p hp
    have hn1:=hnow p.1 r1 hno
    exact⟨.inr ⟨r1,hno⟩,by simp only[G.back,hn1,if_false];exact r2,vs,ty,by rw[hx.keep p.1 (hi.lt p.1 (.inl r1)) hno];exact r3,r4⟩
end
section
variable {P:Program} {c:Conf} {n:Nat} {ops:Array Oper} {rest:List Oper} {env:Env} {σ:St} {o:Oper} {k:Env→St→Prop}
theorem AR (hp0:ProgOk P c) (ι ω:List (Nat×Nat)) {cl:Call} {f:Nat} {as as0:List AV} {e e2:Env} {σ0 σ2 s:St} {r x:AV} (hg:o.guard=none) (ho:o.op=.call cl) (hc:Cz c env cl=some (f,as)) (ha:DN (look ι) as=as0) (hs0:Cu ι σ ι=σ0)
  (hct:Ct P f as0 σ0 r σ2) (hR:My ι ω σ σ2=true) (hx:Cw (look ω) r=x) (he:Mu (Dw ι σ) env=e) (hs:FN ω σ2++GA ι σ σ=s) (hp:BD n o.dst x e=some e2) (h:AU P n ops rest e2 s k):
  AU P n ops (o::rest) env σ k:=by
 subst ha;subst hs0;subst hx;subst he;subst hs
 simp only[AU,AZ,hg]
 intro w g a hi hee
 obtain⟨⟨fn,hf,hb⟩,hca⟩:=hct
 obtain⟨vs,hrun,hrel⟩:=Cy hp0 hee hc ho hf hb
 have hR:=J5 hR
 obtain⟨i1,i2⟩:=KI hi hR
 refine BJ.enter hrun ((hca vs w _ (hrel.ren (look ι) i2) i1).mono ?_)
 rintro ed w' ⟨v,g1,rfl,q1,q2,q3⟩
 obtain⟨g',k1,k2,k3,k4⟩:=G2 hi hR q1 q3
 refine⟨v,rfl,_,_,_,⟨g',k1,k3 v r q2,k2,fun t x hx=>?_⟩,e2,hp,h⟩
 rw[Je]at hx
 cases hl:look env t with
 |none=>simp[hl]at hx
 |some y=>simp[hl]at hx;subst hx;exact k4 _ _ (hee t y hl)
end
end Go.Am
namespace Go.Am
section
variable {P:Program} {c:Conf} {n:Nat} {ops:Array Oper} {rest:List Oper} {env:Env} {σ:St} {o:Oper} {k:Env→St→Prop}
theorem Ah (hp0:ProgOk P c) {cl:Call} {so xo:Operand} {t e d s0 b0 sz0 sz:Nat} {z0:List T} {esz ebb:Nat} {ez:List T} {ek:TK} {es0 news:List (List T)} {m:SM} {x:AV} {e1 e2:Env} {s:St} (hg:o.guard=none) (ho:o.op=.call cl) (hcl:cl.callee=.builtin .append) (ha:cl.args.toList=[so,xo])
  (hty:cl.argTypes.toList=[t,t]) (hd:o.dst=some d) (hs:ev env so=some (.t (.slice .nil sz0 es0))) (hx:ev env xo=some (.t (.slice m sz news))) (ht:look c.te t=some ⟨s0,b0,z0,.slice e⟩) (he:look c.te e=some ⟨esz,ebb,ez,ek⟩) (hsz:esz=sz)
  (hf:CV (2*d) env σ (fun env σ=>some (AV.row (2*d) esz 0 news.length,env,(2*d,Blk.grow esz news)::σ))=some (x,e1,s)) (hp:BD n o.dst x e1=some e2)
  (hlim:news.length*(ebb+1)≤140737488355328) (h:AU P n ops rest e2 s k):AU P n ops (o::rest) env σ k:=by
 refine Ap hp0 (x:=x) (e:=e1) (s:=s) hg ?_ hp h
 unfold DH
 rw[ho]
 simp only[hcl,Ej,ho,ha,hty,hs,hx,hd,EO,ht,he,HQ,hsz,if_true,hlim]
 rw[←hsz];exact hf
theorem Af (hp0:ProgOk P c) {cl:Call} {so xo:Operand} {t e d s0 b0 b len sz:Nat} {z0:List T} {esz ebb:Nat} {ez:List T} {ek:TK} {es news:List (List T)} {m:SM} {e2:Env} (hg:o.guard=none) (ho:o.op=.call cl) (hcl:cl.callee=.builtin .append) (ha:cl.args.toList=[so,xo])
  (hty:cl.argTypes.toList=[t,t]) (hd:o.dst=some d) (hs:ev env so=some (.row b sz 0 len)) (hx:ev env xo=some (.t (.slice m sz news))) (ht:look c.te t=some ⟨s0,b0,z0,.slice e⟩) (he:look c.te e=some ⟨esz,ebb,ez,ek⟩) (hsz:esz=sz)
  (hb:look σ b=some (.grow sz es)) (hlen:len=es.length) (hp:BD n o.dst (.row b sz 0 (es++news).length) (Ew b env)=some e2)
  (hlim:(es++news).length*(ebb+1)≤140737488355328) (h:AU P n ops rest e2 ((b,.grow sz (es++news))::C0 b σ) k):AU P n ops (o::rest) env σ k:=by
 refine Ap hp0 (x:=.row b sz 0 (es++news).length) (e:=Ew b env) (s:=(b,.grow sz (es++news))::C0 b σ) hg ?_ hp h
 have hlim':(es.length+news.length)*(ebb+1)≤140737488355328:=by simpa using hlim
 subst hlen
 unfold DH
 rw[ho]
 simp only[hcl,Ej,ho,ha,hty,hs,hx,hd,EO,ht,he,HQ,hsz,if_true,hb,Nat.le_refl,hlim',List.take_length,List.length_append]
theorem Si (hp0:ProgOk P c) {cl:Call} {so xo:Operand} {t e d s0 b0 sz:Nat} {z0:List T} {esz ebb:Nat} {ez:List T} {ek:TK} {es news:List (List T)} {m:SM} {e2:Env} (hg:o.guard=none) (ho:o.op=.call cl) (hcl:cl.callee=.builtin .append) (ha:cl.args.toList=[so,xo])
  (hty:cl.argTypes.toList=[t,t]) (hd:o.dst=some d) (hs:ev env so=some (.t (.slice .full (sz+1) es))) (hx:ev env xo=some (.t (.slice m (sz+1) news))) (ht:look c.te t=some ⟨s0,b0,z0,.slice e⟩) (he:look c.te e=some ⟨esz,ebb,ez,ek⟩) (hsz:esz=sz+1)
  (hp:BD n o.dst (.t (.slice .any (sz+1) (es++news))) env=some e2)
  (hlim:(es++news).length*(ebb+1)≤140737488355328) (h:AU P n ops rest e2 σ k):AU P n ops (o::rest) env σ k:=by
 refine Ap hp0 (x:=.t (.slice .any (sz+1) (es++news))) (e:=env) (s:=σ) hg ?_ hp h
 have hlim':(es.length+news.length)*(ebb+1)≤140737488355328:=by simpa using hlim
 unfold DH
 rw[ho]
 simp only[hcl,Ej,ho,ha,hty,hs,hx,hd,EO,ht,he,HQ,hsz,if_true,hlim']
end
theorem Tr.nilRow {P:Program} {n:Nat} {env:Env} {σ:St} {K:Exit→Env→St→Prop} {code:Code} (t lab sz:Nat) {sz0:Nat} {es0:List (List T)} (hl:look env t=some (.t (.slice .nil sz0 es0))) (hlab:look σ (2*lab)=none) (h:Tr P n code ((t,.row (2*lab) sz 0 0)::env) ((2*lab,.grow sz [])::σ) K):Tr P n code env σ K:=by
 intro F hF hrf w g a hg
 obtain⟨k1,k2,k3⟩:=NS (sz:=sz) hg.inv hlab
 have hv:a.tmps.getD t undef=.slice none 0 0:=by
  rcases BW (AE (hg.env t _ hl))with⟨h1,_⟩|⟨_,_,_,_,_,_,h1,_⟩|⟨_,_,_,h1⟩
  ·exact h1
  ·exact absurd rfl h1
  ·exact absurd rfl h1
 refine wpIn_mono (h F hF hrf w _ a ⟨fun t' x hx=>?_,k2,hg.defers.ext k1,hg.size⟩) fun ex a2 w2 hq=>hq.lift k1
 rw[AB]at hx
 split at hx
 ·rename_i e;subst e;cases hx;rw[hv];exact .rowNil _ _ none Y (by simp[G.with])
 ·exact k3 _ _ (hg.env t' x hx)
def Dm:List AV→List AV→Prop
 |[],[]=>True
 |x::r,y::s=>Sub x y∧Dm r s
 |_,_=>False
theorem Dm.len: ∀{l m:List AV},Dm l m→l.length=m.length
 |[],[],_=>rfl
 |x::r,y::s,h=>by simp[Dm.len h.2]
 |[],y::s,h=>h.elim
 |x::r,[],h=>h.elim
theorem Dm.get: ∀{l m:List AV},Dm l m→ ∀(i:Nat) y,m[i]?=some y→ ∃x,l[i]?=some x∧Sub x y
 |[],[],_,i,y,h=>by simp at h
 |x::r,z::s,h,0,y,hy=>by simp at hy;subst hy;exact⟨x,by simp,h.1⟩
 |x::r,z::s,h,i+1,y,hy=>by simp at hy;simpa using Dm.get h.2 i y hy
 |[],y::s,h,_,_,_=>h.elim
 |x::r,[],h,_,_,_=>h.elim
theorem Dm.refl: ∀l:List AV,Dm l l
 |[]=>trivial
 |x::r=>⟨Sub.refl x,Dm.refl r⟩
theorem Dm.rel {w:World} {g:G} {vs:List Value} {l m:List AV} (h:Dm l m) (hr:B5 w g vs l):B5 w g vs m:=
 ⟨by rw[hr.1,h.len],fun i v y hv hy=>by obtain⟨x,h1,h2⟩:=h.get i y hy;exact h2 _ _ _ (hr.2 i v x hv h1)⟩
theorem Ct.args {P:Program} {f:Nat} {as as0:List AV} {σ σ':St} {r:AV} (h:Ct P f as0 σ r σ') (hs:Dm as as0):Ct P f as σ r σ':=
 ⟨h.1,fun vs w g hr hi=>h.2 vs w g (hs.rel hr) hi⟩
def Wc:Blk→Blk→Prop
 |.cells a,.cells b=>Dm a b
 |B,C=>B=C
theorem Ih {B C:Blk} (h:Wc B C):(∃a b,B=.cells a∧C=.cells b∧Dm a b)∨B=C:=by
 cases B<;>cases C<;>simp only[Wc]at h<;>first|exact .inr h|exact .inl ⟨_,_,rfl,rfl,h⟩
def Oj:St→St→Prop
 |[],[]=>True
 |(b,B)::r,(c,C)::s=>(b=c∧Wc B C)∧Oj r s
 |_,_=>False
theorem Oj.inv {w:World} {g:G} {σ σ':St} (h:Oj σ σ') (hi:Inv w g σ):Inv w g σ':=by
 have key: ∀{σ σ':St},Oj σ σ'→ ∀b,(look σ' b=none∧look σ b=none)∨ ∃B C,look σ b=some B∧look σ' b=some C∧Wc B C:=by
  intro σ
  induction σ with
  |nil=>intro σ' h b;cases σ' with
   |nil=>exact .inl ⟨rfl,rfl⟩
   |cons p r=>exact h.elim
  |cons p r ih=>
   intro σ' h b
   cases σ' with
   |nil=>exact h.elim
   |cons q s=>
    obtain⟨⟨h1,h2⟩,h3⟩:=h
    obtain⟨b1,B⟩:=p;obtain⟨c1,C⟩:=q
    subst h1
    rw[AB,AB]
    by_cases e:b1=b
    ·simp only[e,if_true];exact .inr ⟨B,C,rfl,rfl,h2⟩
    ·simp only[e,if_false];exact ih h3 b
 refine⟨fun b C hC=>?_,fun b=>?_,hi.inj,hi.lt,fun b hb=>⟨(hi.bx b hb).1,?_⟩,hi.dis,hi.im,hi.lo,hi.sx.mono (Nat.le_refl _) rfl (fun _ _ _ h=>h) (fun _ _ _ _ _=>rfl) (fun c blk h=>.inl ⟨c,h⟩) (fun b L hL=>?_)⟩
 ·rcases key h b with⟨h1,_⟩|⟨B,C',h1,h2,h3⟩
  ·rw[h1]at hC;cases hC
  ·rw[h2]at hC;cases hC
   have hok:=hi.ok b B h1
   rcases Ih h3 with⟨cs,ds,rfl,rfl,h3'⟩|rfl
   ·obtain⟨blk,vs,e,q1,q2,q3,q4,q5⟩:=hok
    refine⟨blk,vs,e,q1,q2,q3,by rw[q4,h3'.len],fun i v x hv hx=>?_⟩
    obtain⟨y,k1,k2⟩:=h3'.get i x hx
    exact k2 _ _ _ (q5 i v y hv k1)
   ·exact hok
 ·rw[←hi.dom b]
  rcases key h b with⟨h1,h2⟩|⟨B,C',h1,h2,h3⟩
  ·rw[h1,h2]
  ·rw[h1,h2];rfl
 ·obtain⟨_,cs,hcs⟩:=hi.bx b hb
  rcases key h b with⟨h1,h2⟩|⟨B,C',h1,h2,h3⟩
  ·rw[h2]at hcs;cases hcs
  ·rw[h1]at hcs;cases hcs
   rcases Ih h3 with⟨_,ds,_,rfl,_⟩|rfl
   ·exact⟨ds,h2⟩
   ·exact⟨cs,h2⟩
 ·rcases key h b with⟨h1,h2⟩|⟨B,C',h1,h2,h3⟩
  ·rw[h1]at hL;cases hL
  ·rw[h2]at hL;cases hL
   rcases Ih h3 with⟨_,ds,_,h4,_⟩|rfl
   ·cases h4
   ·exact h1
theorem Ct.weak {P:Program} {f:Nat} {as as0:List AV} {σ σ0 σ':St} {r:AV} (h:Ct P f as0 σ0 r σ') (hs:Dm as as0) (hσ:Oj σ σ0):Ct P f as σ r σ':=
 ⟨h.1,fun vs w g hr hi=>h.2 vs w g (hs.rel hr) (hσ.inv hi)⟩
theorem H1 {P:Program} {c:Conf} {n:Nat} {ops:Array Oper} {rest:List Oper} {env:Env} {σ:St} {o:Oper} {k:Env→St→Prop} (hp0:ProgOk P c) {cl:Call} {f:Nat} {as as1 as':List AV} {env1 e2:Env} {σ1:St} {r:AV} (hg:o.guard=none) (ho:o.op=.call cl) (hc:Cz c env cl=some (f,as))
  (hz:Dy σ as env σ=(as1,env1,σ1)) (hct:Ct P f as' [] r []) (hr:r.free=true) (hfr:Dz as'=true) (hp:BD n o.dst r env1=some e2) (hsub:Dm as1 as') (h:AU P n ops rest e2 σ1 k):
  AU P n ops (o::rest) env σ k:=by
 simp only[AU,AZ,hg]
 intro w g a hi hee
 obtain⟨⟨fn,hf,hb⟩,hca⟩:=hct
 obtain⟨vs,hrun,hrel⟩:=Cy hp0 hee hc ho hf hb
 obtain⟨g1,f1,f2,f3,f4⟩:=CQ (w:=w) σ hz hi hrel hee
 have f3':=hsub.rel f3
 refine BJ.enter hrun ((hca vs w g1.pureIn ⟨f3'.1,fun i v x hv hx=>?_⟩ (Gk f2)).mono ?_)
 ·exact(f3'.2 i v x hv hx).free (fun b o v h1 h2=>⟨fun h=>h1 ((JI b o).1 h),h2⟩) (Dv hfr i x hx)
 ·rintro ed w' ⟨v,g',rfl,h1,h2,h3⟩
  refine⟨v,rfl,r,env1,σ1,?_,e2,hp,h⟩
  have:=Ha (dst:=none) f2 f4 h3 h1 h2 (x:=r) (env':=env1) (σ':=σ1) (by simp[Hb,hr])
  exact this.lift f1
theorem Ct.freeze {P:Program} {f:Nat} {as:List AV} {r r':AV} {σ2 s:St} {e:Env} (h:Ct P f as [] r σ2) (hz:Dy σ2 [r] [] σ2=([r'],e,s)) (hr:r'.free=true):Ct P f as [] r' []:=by
 refine⟨h.1,fun vs w g hrl hi=>(h.2 vs w g hrl hi).mono ?_⟩
 rintro ed w' ⟨v,g1,rfl,h1,h2,h3⟩
 obtain⟨g2,k1,k2,k3,_⟩:=CQ (w:=w') σ2 (a:=⟨#[],[]⟩) hz h3 (vs:=[v]) (B5.cons h2 B5.nil) (fun t x hx=>by simp[look]at hx)
 have h4:Rel w' g2 v r':=k3.2 0 v r' rfl rfl
 have hx:=h1.trans k1
 have hbx: ∀b,¬g.bx b:=fun b hb=>by obtain⟨_,cs,hc⟩:=hi.bx b hb;simp[look]at hc
 refine⟨v,{β:=fun _=>none,own:=g2.own,oth:=g2.oth,sp:=g2.sp,bx:=fun _=>False,lo:=g.lo},rfl,⟨hx.size,hx.keep,hx.own,hx.oth,hx.shape,fun b hb=>absurd hb (hbx b),⟨rfl,hx.lo.2⟩,hx.sp⟩,?_,⟨fun b B hB=>?_,fun b=>?_,fun b b' blk hq=>?_,k2.lt,fun b hb=>hb.elim,k2.dis,k2.im,Nat.le_trans hi.lo hx.size,.empty k2.sx.lt (fun _=>rfl)⟩⟩
 ·exact Rel.free (g:=g2) (g':={β:=fun _=>none,own:=g2.own,oth:=g2.oth,sp:=g2.sp,bx:=fun _=>False,lo:=g.lo}) (fun b o v q1 q2=>⟨q1,q2⟩) h4 hr
 ·simp[look]at hB
 ·simp[look]
 ·simp at hq
theorem Nc {α:Type} (b:Nat) (x:α) (r:List (Nat×α)):look ((b,x)::r) b=some x:=by rw[AB];simp
theorem Uu (b sz:Nat) (es:List (List T)):D1 b sz es (.row b sz 0 es.length)=.t (.slice .any sz es):=by simp[D1]
theorem Ct.freeze2 {P:Program} {f:Nat} {as:List AV} {b sz:Nat} {es:List (List T)} {x:T} (h:Ct P f as [] (.tuple [.row b sz 0 es.length,.t x]) [(b,.grow sz es)]):Ct P f as [] (.tuple [.t (.slice .any sz es),.t x]) []:=by
 refine h.freeze (e:=[]) (s:=[]) ?_ rfl
 simp only[Dy,Nc,I1,AV.has,Nat.beq_refl,Bool.true_or,Bool.or_true,E8,Kc]
 simp[D1,E8,Gu]
theorem Ct.freeze1 {P:Program} {f:Nat} {as:List AV} {b sz:Nat} {es:List (List T)} (h:Ct P f as [] (.row b sz 0 es.length) [(b,.grow sz es)]):Ct P f as [] (.t (.slice .any sz es)) []:=by
 refine h.freeze (e:=[]) (s:=[]) ?_ rfl
 simp only[Dy,Nc,I1,AV.has,Nat.beq_refl,Bool.true_or,Bool.or_true,E8,Kc]
 simp[D1,Gu]
def Y5 (te:TE) (rs:List ResultVar) (r:AV) (σ':St) (ex:Exit) (e:Env) (s:St):Prop:=
 (ex=.normal∨ex=.ret)∧ ∃r0 s1 D r1,Is te true rs e s=some (r0,s1)∧Hm D [(0,r0)]=[(0,r1)]∧GE D s1=σ'∧Sub r1 r
theorem ct1 {P:Program} {c:Conf} (hp:ProgOk P c) {f:Nat} {fn:Func} (hf:P.funcs[f]?=some fn) {code:Code} (hb:fn.body=some code) {as:List AV} {r:AV} {σ σ':St} (hle:Nat.ble as.length fn.ntmps=true)
  (h:Tr P fn.ntmps code (E9 0 as) σ (Y5 c.te fn.results.toList r σ')):Ct P f as σ r σ':=by
 refine⟨⟨fn,hf,by simp[hb]⟩,?_⟩
 intro vs w g hrl hi
 refine E2 hf hb hle h hrl hi fun ex a' w' g' env' σ1 h1 h2 h3=>?_
 obtain⟨hex,r0,s1,D,r1,h4,h5,rfl,h6⟩:=h3
 obtain⟨v,g2,q1,q2,q3,q4⟩:=FL hp h2 h4
 have hg2:Good 0 w' g2 ⟨#[v],[]⟩ [(0,r0)] s1:=⟨fun t x hx=>by
  rw[AB]at hx
  split at hx
  ·rename_i e;subst e;cases hx;exact q3
  ·simp[look]at hx,q4,EE.nil,by simp⟩
 obtain⟨g3,k1,k2⟩:=HI D hg2
 rw[h5]at k2
 have hv:Rel w' g3 v r1:=k2.env 0 r1 rfl
 exact⟨hex,v,q1,v,g3,rfl,(h1.trans q2).trans k1,h6 _ _ _ hv,k2.inv⟩
theorem BO {te:TE} {rs:List ResultVar} {e:Env} {s s1 σ':St} {r r0 r1:AV} (D:List Nat) (h:Is te true rs e s=some (r0,s1)) (h1:Hm D [(0,r0)]=[(0,r1)]) (h2:GE D s1=σ') (hs:Sub r1 r):Y5 te rs r σ' .ret e s:=⟨.inr rfl,r0,s1,D,r1,h,h1,h2,hs⟩
theorem Bx {te:TE} {rs:List ResultVar} {e:Env} {s s1 σ':St} {r r0 r1:AV} (D:List Nat) (h:Is te true rs e s=some (r0,s1)) (h1:Hm D [(0,r0)]=[(0,r1)]) (h2:GE D s1=σ') (hs:Sub r1 r):Y5 te rs r σ' .normal e s:=⟨.inl rfl,r0,s1,D,r1,h,h1,h2,hs⟩
theorem KY {w:World} {M:Nat→Nat→Prop} {v:Value} {m:SM} {sz:Nat} {es:List (List T)} (h:RelT w M v (.slice m sz es)):RelT w M v (.slice .any sz es):=by
 cases h with
 |sliceNil=>exact .sliceNil _ _
 |sliceZ a _ _ _=>exact .sliceZ a _ _ Y
 |slice b off len cap _ _ _ vs hl hc hf hm hp hsz hone hcell hrel=>exact .slice b off len cap _ _ _ vs hl hc (fun h=>by cases h) (fun h=>by cases h) (fun p N h=>by cases h) hsz hone hcell hrel
theorem Ou {w:World} {M:Nat→Nat→Prop} {v:Value} {m:SM} {sz sz':Nat} (h:RelT w M v (.slice m sz [])):RelT w M v (.slice .any sz' []):=by
 cases h with
 |sliceNil=>exact .sliceNil _ _
 |sliceZ a _ _ _=>exact .sliceZ a _ _ Y
 |slice b off len cap _ _ _ vs hl hc hf hm hp hsz hone hcell hrel=>exact .slice b off len cap _ _ _ vs hl hc (fun h=>by cases h) (fun h=>by cases h) (fun p N h=>by cases h) Y Y Y Y
theorem H4 {m:SM} {sz:Nat} {es:List (List T)}:Sub (.t (.slice m sz es)) (.t (.slice .any sz es)):=fun _ _ _ h=>.t _ _ (KY (AE h))
theorem AY {m:SM} {sz sz':Nat}:Sub (.t (.slice m sz [])) (.t (.slice .any sz' [])):=fun _ _ _ h=>.t _ _ (Ou (AE h))
theorem BN {x y:Bool} (h:x=y):Sub (.t (.bool x)) (.t (.bool y)):=h▸Sub.refl _
theorem BL {l m:List AV} (h:Dm l m):Sub (.tuple l) (.tuple m):=fun w g v hr=>by
 cases hr with
 |tuple vs _ h1 h2=>have:=h.rel (⟨h1,h2⟩:B5 w g vs l);exact .tuple vs _ this.1 this.2
theorem BM {l m:List AV} (h:Dm l m):Sub (.agg l) (.agg m):=fun w g v hr=>by
 cases hr with
 |agg vs _ h1 h2=>have:=h.rel (⟨h1,h2⟩:B5 w g vs l);exact .agg vs _ this.1 this.2
end Go.Am
namespace Go.Am
section
variable {P:Program} {te:TE} {w w':World} {g:G} {σ:St}
def D2 (s:List UInt8):List (List T):=s.map fun c=>[T.int .u8 (c.toNat:Int)]
theorem Fm (s:List UInt8):(D2 s).length=s.length:=by simp[D2]
theorem Rq (s:List UInt8): ∀e∈D2 s,e.length=1:=by simp[D2]
theorem E4: ∀s:List UInt8,(D2 s).flatten=s.map fun c=>T.int .u8 (c.toNat:Int)
 |[]=>rfl
 |c::r=>by
  have:=E4 r
  simp only[D2]at this⊢
  rw[List.map_cons,List.flatten_cons,this];rfl
theorem Vc {t u ty e:Nat} (ht:P.underlying t=some (.slice e)) (hu:P.underlying u=some .string) {inf:TypeInfo} (hinf:P.info? e=some inf) {ei:TI} (hs1:inf.size=ei.size) (hs2:inf.bytes=ei.bytes) (hs3:inf.zero=some (BE ei)) (hsz:ei.size=1) (s:List UInt8):
  SrcOk P w t u ty e (.string ⟨s.toArray⟩) (D2 s).length (Lib.strCells ⟨s.toArray⟩) ei:=by
 have hsize:(⟨s.toArray⟩:ByteArray).size=s.length:=by simp[ByteArray.size]
 have hcl:(Lib.strCells ⟨s.toArray⟩).length=s.length:=by rw[Lib.strCells_length,hsize]
 rw[Fm]
 refine⟨fun h0 b l cc hl=>?_,fun h0 blk sLen sCap et cur hg hroom hfit=>?_,fun h0 hby=>?_,fun h0 b sLen sCap olds hlo holds hlt hby=>?_⟩
 ·have hs:s=[]:=List.eq_nil_of_length_eq_zero h0
  subst hs
  cases b<;>simp[Builtin.append_,Go.run_underlying ht,Go.run_underlying hu,sizeOf,typeInfo,hinf,Builtin.lenOf,Builtin.firstCells,hl,storeCells,ByteArray.size]
 ·have hf:=Lib.run_firstCells_string (P:=P) w inf.size ⟨s.toArray⟩
  rw[hsz,Nat.mul_one]at hfit⊢
  have hst:=run_storeCells_at P blk sLen et (Lib.strCells ⟨s.toArray⟩) 0 cur w hg (by simpa using hfit) (Lib.strCells_oneCell _)
  simp only[Nat.add_zero]at hst
  simp only[hsize]at hf
  have hi1:inf.size=1:=by rw[hs1,hsz]
  simp only[hi1]at hf
  simp[Builtin.append_,Go.run_underlying ht,Go.run_underlying hu,sizeOf,typeInfo,hinf,hi1,Builtin.lenOf,hsize,hroom,hf,Addr.add_lit,hst]
 ·have hb:=C1 hby
  have:=run_append_nil_string (P:=P) w t u ty e inf (BE ei) ht hu hinf hs3 ⟨s.toArray⟩ (by rw[hsize];omega) (by rw[hsize];omega) (by rw[hsize,hs2];omega)
  rw[this,hsize]
  simp[Lib.strCells]
 ·have hb:=C1 hby
  have:=Lib.run_append_grow_string (P:=P) w t u ty e inf (BE ei) ht hu hinf hs3 b sLen sCap olds (by rw[hlo,hs1]) holds ⟨s.toArray⟩ (by rw[hsize];omega) (by rw[hsize];omega) (by rw[hsize];exact growslice_fits O (by rw[hs2];omega))
  rw[this,hsize]
end
section
variable {P:Program} {c:Conf} {n:Nat} {ops:Array Oper} {rest:List Oper} {env:Env} {σ:St} {o:Oper} {k:Env→St→Prop}
theorem Ts (hp0:ProgOk P c) {cl:Call} {so xo:Operand} {t u e d s0 b0 b len ebb u1 u2:Nat} {z0 ez uz:List T} {ek:TK} {es:List (List T)} {s:List UInt8} {e2:Env} (hg:o.guard=none) (ho:o.op=.call cl) (hcl:cl.callee=.builtin .append) (ha:cl.args= #[so,xo])
  (hty:cl.argTypes= #[t,u]) (hd:o.dst=some d) (hs:ev env so=some (.row b 1 0 len)) (hx:ev env xo=some (.t (.str s))) (ht:look c.te t=some ⟨s0,b0,z0,.slice e⟩) (he:look c.te e=some ⟨1,ebb,ez,ek⟩) (hu:look c.te u=some ⟨u1,u2,uz,.string⟩)
  (hb:look σ b=some (.grow 1 es)) (hlen:len=es.length) (hp:BD n o.dst (.row b 1 0 (es++D2 s).length) (Ew b env)=some e2)
  (hlim:(es++D2 s).length*(ebb+1)≤140737488355328) (h:AU P n ops rest e2 ((b,.grow 1 (es++D2 s))::C0 b σ) k):AU P n ops (o::rest) env σ k:=by
 simp only[AU,AZ,hg]
 intro w g a hi hee
 obtain⟨dd,hdd,hdk⟩:=(hp0.te _ _ ht).und'
 have hut:P.underlying t=some (.slice e):=by cases dd<;>simp[CN]at hdk;subst hdk;exact hdd
 obtain⟨du,hdu,hduk⟩:=(hp0.te _ _ hu).und'
 have huu:P.underlying u=some .string:=by cases du<;>simp[CN]at hduk;exact hdu
 obtain⟨inf,hinf,hs1,hs2,hs3⟩:=(hp0.te _ _ he).info'
 have hlim':(len+(D2 s).length)*(ebb+1)≤140737488355328:=by rw[hlen];simpa using hlim
 have hsr:=AO hee hs
 have hxr:=AO hee hx
 have hxs:a.eval xo=.string ⟨s.toArray⟩:=En hxr
 have hsz:(⟨s.toArray⟩:ByteArray).size=s.length:=by simp[ByteArray.size]
 obtain⟨v,w',h1,h2⟩:=PU (P:=P) (ty:=o.type) (u:=u) hp0.te hi he hee hb O hsr hlim' (Vc (ty:=o.type) hut huu hinf hs1 hs2 hs3 rfl s) (Rq s)
  (by rw[Lib.strCells_length,hsz,E4];simp)
  (fun i v y hv hy=>by
   rw[E4]at hy
   simp only[Lib.strCells,List.getElem?_map]at hv hy
   cases hc:s[i]? with
   |none=>simp[hc]at hy
   |some ch=>
    simp[hc]at hv hy
    subst hv;subst hy;exact .int _ _)
  (fun i y hy=>by
   rw[E4,List.getElem?_map]at hy
   cases hc:s[i]? with
   |none=>simp[hc]at hy
   |some ch=>simp[hc]at hy;subst hy;rfl)
 refine BJ.value (v:=v) (w':=w') ?_ ⟨_,_,_,h2,e2,?_,?_⟩
 ·simp[execOp,ho,resolve,hcl,invoke,builtin,ha,hty,hxs,h1]
 ·subst hlen;simpa using hp
 ·subst hlen;simpa using h
end
end Go.Am
namespace Go.Am
section
variable {P:Program} {c:Conf} {n:Nat} {ops:Array Oper} {rest:List Oper} {env:Env} {σ:St} {o:Oper} {k:Env→St→Prop}
theorem Mh (s:List UInt8) {i:Nat} (h:i<s.length):(D2 s).flatten[i]?=some (T.int .u8 (s[i].toNat:Int)):=by
 rw[E4];simp[h]
theorem JS (hp0:ProgOk P c) {t s0 b0 e:Nat} {z0:List T} (ht:look c.te t=some ⟨s0,b0,z0,.slice e⟩):P.underlying t=some (.slice e):=by
 obtain⟨dd,hdd,hdk⟩:=(hp0.te _ _ ht).und'
 cases dd<;>simp[CN]at hdk;subst hdk;exact hdd
theorem Ac0 (hp0:ProgOk P c) {t s0 b0:Nat} {z0:List T} (ht:look c.te t=some ⟨s0,b0,z0,.string⟩):P.underlying t=some .string:=by
 obtain⟨dd,hdd,hdk⟩:=(hp0.te _ _ ht).und'
 cases dd<;>simp[CN]at hdk;exact hdd
theorem Abc (hp0:ProgOk P c) {t s0 b0:Nat} {z0:List T} {kk:IntKind} (ht:look c.te t=some ⟨s0,b0,z0,.int kk⟩):P.underlying t=some (.int kk):=by
 obtain⟨dd,hdd,hdk⟩:=(hp0.te _ _ ht).und'
 cases dd<;>simp[CN]at hdk;subst hdk;exact hdd
theorem UQ (hp0:ProgOk P c) {t u e s0 b0 u1 u2 e1 e2':Nat} {z0 ez uz:List T} {xo:Operand} {m:SM} {es:List (List T)} {s:List UInt8} {e2:Env} (hg:o.guard=none) (ho:o.op=.convert t u xo) (hx:ev env xo=some (.t (.slice m 1 es)))
  (ht:look c.te t=some ⟨s0,b0,z0,.slice e⟩) (he:look c.te e=some ⟨e1,e2',ez,.int .u8⟩) (hu:look c.te u=some ⟨u1,u2,uz,.string⟩) (hes:es=D2 s) (hp:BD n o.dst (.t (.str s)) env=some e2)
  (h:AU P n ops rest e2 σ k):AU P n ops (o::rest) env σ k:=by
 simp only[AU,AZ,hg]
 intro w g a hi hee
 have h1:=JS hp0 ht
 have h2:=Abc hp0 he
 have h3:=Ac0 hp0 hu
 subst hes
 have hr:=AE (AO hee hx)
 have hrun:(convert t u (a.eval xo)).run P w=.ok (.string ⟨s.toArray⟩) w:=by
  generalize a.eval xo=v at hr
  generalize hes':D2 s=es at hr
  cases hr with
  |sliceNil=>
   have:s=[]:=by
    have:=congrArg List.length hes'
    rw[Fm]at this;simpa using this
   subst this
   have:=run_convert_bytes_nil (P:=P) w t e h1 h2 0 0 u h3
   rw[this];rfl
  |sliceZ a _ _ _=>
   have:s=[]:=by
    have:=congrArg List.length hes'
    rw[Fm]at this;simpa using this
   subst this
   exact run_convert_bytes_back w t u e a 0 [] h1 h2 h3 (fun j hj=>by simp at hj)
  |slice b off len cap _ _ _ vs hl hc hf hm hp hsz hone hcell hrel=>
   subst hes'
   have hl':len=s.length:=by rw[←hl,Fm]
   subst hl'
   refine run_convert_bytes_back w t u e ⟨b,off,none⟩ cap s h1 h2 h3 (fun j hj=>?_)
   rw[B9,(hcell j _ (Mh s hj)).2]
   have:=hrel j _ (Mh s hj)
   generalize vs j=y at this
   cases this;rfl
 refine BJ.value (v:=.string ⟨s.toArray⟩) (w':=w) (by simp[execOp,ho,hrun]) ⟨_,env,σ,⟨g,Ext.refl _ _,.t _ _ (.str s),hi,hee⟩,e2,hp,h⟩
end
end Go.Am
namespace Go.Am
section
variable {P:Program} {c:Conf} {n:Nat} {ops:Array Oper} {rest:List Oper} {env:Env} {σ:St} {o:Oper} {k:Env→St→Prop}
theorem JJ (hp0:ProgOk P c) {t e d s0 b0 esz ebb l cc:Nat} {z0 ez:List T} {ek:TK} {lo co:Operand} {k1 k2:IntKind} {ln cn:Int} {x:AV} {e1 e2:Env} {s:St} (hg:o.guard=none) (ho:o.op=.makeSlice t lo co) (hd:o.dst=some d) (hl:ev env lo=some (.t (.int k1 ln))) (hc:ev env co=some (.t (.int k2 cn)))
  (ht:look c.te t=some ⟨s0,b0,z0,.slice e⟩) (he:look c.te e=some ⟨esz,ebb,ez,ek⟩) (hln:ln=(l:Int)) (hcn:cn=(cc:Int))
  (hf:CV (2*d) env σ (fun env σ=>some (AV.row (2*d) esz 0 l,env,(2*d,Blk.grow esz (List.replicate l ez))::σ))=some (x,e1,s)) (hp:BD n o.dst x e1=some e2)
  (hle:l≤cc) (hlim:cc*(ebb+1)≤140737488355328) (h:AU P n ops rest e2 s k):AU P n ops (o::rest) env σ k:=by
 subst hln;subst hcn
 refine Ap hp0 (x:=x) (e:=e1) (s:=s) hg ?_ hp h
 unfold DH
 rw[ho]
 simp only[Ej,ho,hd,hl,hc,LG,ht,he,Fy,hle,hlim,if_true]
 exact hf
theorem XL (hp0:ProgOk P c) {cl:Call} {so xo:Operand} {t u e s0 b0 b len sz ebb:Nat} {z0 ez:List T} {ek:TK} {es es':List (List T)} {m:SM} {e2:Env} (hg:o.guard=none) (ho:o.op=.call cl) (hcl:cl.callee=.builtin .copy) (ha:cl.args= #[so,xo])
  (hty:cl.argTypes= #[t,u]) (hs:ev env so=some (.row b sz 0 len)) (hx:ev env xo=some (.t (.slice m sz es'))) (ht:look c.te t=some ⟨s0,b0,z0,.slice e⟩) (he:look c.te e=some ⟨sz,ebb,ez,ek⟩)
  (hb:look σ b=some (.grow sz es)) (hlen:len=es.length) (hl':es'.length=es.length) (hp:BD n o.dst (.t (.int .i64 (es.length:Int))) env=some e2)
  (h:AU P n ops rest e2 ((b,.grow sz es')::C0 b σ) k):AU P n ops (o::rest) env σ k:=by
 simp only[AU,AZ,hg]
 intro w g a hi hee
 have hut:=JS hp0 ht
 obtain⟨inf,hinf,hs1,hs2,hs3⟩:=(hp0.te _ _ he).info'
 have hs1:inf.size=sz:=hs1
 have hsr:=AO hee hs
 have hxr:=AE (AO hee hx)
 subst hlen
 obtain⟨hext,hi1,hk⟩:=SQ hi b (fun hb'=>by obtain⟨cs,h⟩:=(hi.bx _ hb').2;rw[hb]at h;cases h)
 have hlk:look (C0 b σ) b=none:=by rw[CG];simp
 obtain⟨hall0,hok⟩:=hi.ok b _ hb
 suffices hrun: ∃w',(Builtin.copy_ #[t,u] o.type #[a.eval so,a.eval xo]).run P w=.ok (.int .i64 (es.length:Int)) w'∧ ∃g',Ext w g w' g'∧Inv w' g' ((b,.grow sz es')::C0 b σ)∧AQ w' g' a env by
  obtain⟨w',h1,g',h2,h3,h4⟩:=hrun
  exact BJ.value (v:=.int .i64 (es.length:Int)) (w':=w') (by simp[execOp,ho,resolve,hcl,invoke,builtin,ha,hty,h1]) ⟨_,_,_,⟨g',h2,.t _ _ (.int _ _),h3,h4⟩,e2,hp,h⟩
 generalize a.eval so=us at hsr⊢
 generalize a.eval xo=ux at hxr⊢
 have envOf: ∀{w':World} {g':G},Ext w g w' g'→(∀q p,g.β q=some p→g'.β q=some p)→AQ w' g' a env:=fun hx hβ t x ht'=>(hee t x ht').mono hx.keeps hβ hx.shape
 have h0:es.length=0→ ∀a0 cap0,(Builtin.copy_ #[t,u] o.type #[.slice a0 0 cap0,ux]).run P w=.ok (.int .i64 0) w:=by
  intro he0 a0 cap0
  have he':es'.length=0:=by omega
  rcases BW hxr with⟨h1,_⟩|⟨bb,off,capx,h1,_⟩|⟨az,h1,_⟩
  ·subst h1;cases a0<;>simp[Builtin.copy_,Go.run_underlying hut,sizeOf,typeInfo,hinf,Builtin.lenOf,Builtin.firstCells,storeCells,goInt]
  ·subst h1;rw[he'];cases a0<;>simp[Builtin.copy_,Go.run_underlying hut,sizeOf,typeInfo,hinf,Builtin.lenOf,Builtin.firstCells,storeCells,goInt,loadCells,loadCellsFrom]
  ·subst h1;cases a0<;>simp[Builtin.copy_,Go.run_underlying hut,sizeOf,typeInfo,hinf,Builtin.lenOf,Builtin.firstCells,storeCells,goInt,loadCells,loadCellsFrom]
 have hnil':es.length=0→es'=[]:=fun he0=>List.eq_nil_of_length_eq_zero O
 generalize hel:es.length=len at hsr
 cases hsr with
 |rowNil _ _ a0 ha0 hβ=>
  have he':=hnil' hel
  subst he'
  obtain⟨k1,k2,k3⟩:=NS (sz:=sz) hi1 hlk
  refine⟨w,h0 hel a0 0,_,hext.trans k1,k2,envOf (hext.trans k1) fun q p hq=>?_⟩
  by_cases e':q=b
  ·subst e';rw[hβ]at hq;cases hq;simp[G.with]
  ·simp[G.with,G.without,e',hq]
 |row _ _ _ _ blk off0 cap e0 n0 hβ hsh ho' hlc hn0=>
  rcases hok with⟨h1,_⟩|⟨blk',vs,et,h1,h2,h3,h4,h5⟩
  ·rw[hβ]at h1;cases h1
  ·rw[hβ]at h1;cases h1
   have hno: ∀q,(g.without b).β q≠some (some blk):=by
    intro q hq
    simp only[G.without]at hq
    split at hq
    ·cases hq
    ·rename_i hne;exact hne (hi.inj _ _ _ hq hβ)
   have hgβ: ∀q p,g.β q=some p→((g.without b).with b (some blk)).β q=some p:=by
    intro q p hq
    by_cases e':q=b
    ·subst e';rw[hβ]at hq;cases hq;simp[G.with]
    ·simp[G.with,G.without,e',hq]
   by_cases hz:len=0
   ·subst hz
    have he':=hnil' hel
    subst he'
    obtain⟨k1,k2,k3⟩:=IV hi1 hlk h2 (hi.sx.bs _ _ hβ) hno h3 rfl (Sets.refl h3) (B:=.grow sz []) (fun hr=>⟨by simp,.inr ⟨blk,vs,et,by simp[G.with],.inr rfl,h3,by simp,by simp⟩⟩)
    exact⟨w,h0 hel _ _,_,hext.trans k1,k2,envOf (hext.trans k1) hgβ⟩
   ·have ho0:off0=0:=by
     rcases ho' with h'|h'
     ·simpa using h'
     ·omega
    subst ho0
    rcases BW hxr with⟨_,h1⟩|⟨bb,off,capx,h1,_,_,_,hsz',hcell⟩|⟨_,_,h1,_⟩
    ·subst h1;simp at hl';omega
    rotate_left
    ·subst h1;simp at hl';omega
    ·subst h1
     obtain⟨ns,n1,n2,n3⟩:=FI (w:=w) (ts:=es'.flatten) (b:=bb) (off:=off) (M:=g.M) (fun i y hy=>(hcell i y hy).2.2)
     have hnf:=CL sz es' hsz'
     have hef:=CL sz es hall0
     have hones: ∀u∈ns,u.oneCell'=true:=by
      intro u hu'
      obtain⟨i,hi',rfl⟩:=List.getElem_of_mem hu'
      have hlt:i<es'.flatten.length:=by rw[←n1];exact hi'
      exact(L3 (n3 i _ _ (List.getElem?_eq_getElem hi') (List.getElem?_eq_getElem hlt)) (hcell i _ (List.getElem?_eq_getElem hlt)).2.1).1
     have hfit:ns.length≤vs.size:=by rw[n1,hnf,hl',←hef];exact h4
     have hf:=run_firstCells_some (P:=P) w inf.size len ⟨bb,off,none⟩ es'.length capx ns (by rw[n1,hnf,hl',hel,hs1]) (fun j v hv=>by rw[B9];exact n2 j v hv)
     have hst:=run_storeCells_at P blk 0 et ns 0 vs w h3 (by simpa using hfit) hones
     have hmin:Nat.min es'.length len=len:=by rw[hl',hel];exact Nat.min_self _
     have hrun:(Builtin.copy_ #[t,u] o.type #[.slice (some ⟨blk,0,none⟩) len cap,.slice (some ⟨bb,off,none⟩) es'.length capx]).run P w=.ok (.int .i64 (len:Int)) (w.setRow blk (vs.toList.take (0+0)++ns++vs.toList.drop (0+0+ns.length)).toArray):=by
      simp only[Builtin.copy_]
      simp[Go.run_underlying hut,sizeOf,typeInfo,hinf,Builtin.lenOf,hmin,hf,hst,goInt]
     have hsets:=Sets.setRow h3 (vs.toList.take (0+0)++ns++vs.toList.drop (0+0+ns.length)).toArray
     have hvsz:(vs.toList.take (0+0)++ns++vs.toList.drop (0+0+ns.length)).toArray.size=vs.size:=by
      simp;omega
     obtain⟨k1,k2,k3⟩:=IV hi1 hlk h2 (hi.sx.bs _ _ hβ) hno h3 hvsz hsets (B:=.grow sz es') (fun hr=>⟨hsz',.inr ⟨blk,_,et,by simp[G.with],.inr rfl,hsets.new,by rw[hvsz,←n1];exact hfit,fun i v y hv hy=>by
      have hlt:=Bp hy
      have hv':ns[i]?=some v:=by
       have:(vs.toList.take (0+0)++ns++vs.toList.drop (0+0+ns.length))[i]?=some v:=by simpa using hv
       simp only[Nat.add_zero,List.take_zero,List.nil_append]at this
       rw[List.getElem?_append_left (by rw[n1];exact hlt)]at this;exact this
      exact⟨(hcell i y hy).2.1,AE (hr _ _ (.t _ _ (hext.same_world (n3 i v y hv' hy))))⟩⟩⟩)
     exact⟨_,hrun,_,hext.trans k1,k2,envOf (hext.trans k1) hgβ⟩
end
end Go.Am
namespace Go.Am
section
variable {P:Program} {c:Conf} {n:Nat} {ops:Array Oper} {rest:List Oper} {env:Env} {σ:St} {o:Oper} {k:Env→St→Prop}
theorem UR (hp0:ProgOk P c) {t m d sz:Nat} {mm:SM} {parts:Array (Nat×Operand)} {es:List (List T)} {env' e e2:Env} {σ' s:St} {x:AV} (hg:o.guard=none) (ho:o.op=.buildSlice t m parts) (hd:o.dst=some d) (hz:Gl o env σ=(env',σ')) (hs:CR c.te t m env' parts.toList=some (.t (.slice mm sz es)))
  (hm:Nat.blt 0 m=true) (hf:CV (2*d) env' σ' (fun env σ=>some (AV.row (2*d) sz 0 es.length,env,(2*d,Blk.grow sz es)::σ))=some (x,e,s)) (hp:BD n o.dst x e=some e2) (h:AU P n ops rest e2 s k):AU P n ops (o::rest) env σ k:=by
 simp only[AU,AZ,hg]
 intro w g a hi hee
 obtain⟨g0,x0,i0,e0⟩:=IY hi hee hz
 obtain⟨v,w',h1,h2,h3,h4,h5,hfr⟩:=Gc (P:=P) hp0.te i0 e0 hs
 obtain⟨f1,f2,f3,cells',et,f4,f5,f6⟩:=hfr mm sz es rfl (by simpa[Nat.blt_eq]using hm)
 obtain⟨env1,σ1,g1,hk,hlk,hext,hi1,he1⟩:=E0 hf i0 e0
 simp at hk
 obtain⟨rfl,rfl,rfl⟩:=hk
 subst f1
 have hfl:=CL sz es f3
 have hpost:=Jp (w':=w') (cap:=m) (es':=es) (sz:=sz) hi1 hlk he1 f4 f3 (by rw[hfl,f5,f2];exact Nat.le_refl _) O (by rw[f5];exact Nat.le_refl _) (fun i v y hv hy=>⟨(f6 i v y hv hy).1,hext.same_world (f6 i v y hv hy).2⟩)
 rw[f2]at hpost hp
 refine BJ.value (v:=_) (w':=w') ?_ ⟨_,_,_,(hpost.lift hext).lift x0,e2,hp,by rw[f2]at*;exact h⟩
 simp only[execOp,ho,Sem.run_bind]
 simp[h1]
theorem Ib {t:Nat} {ti:TI} (h:TeOk1 P t ti):(BE ti).cells.size=ti.size:=by
 have hzr:=De (w:=default) (g:=⟨fun _=>none,fun _=>False,fun _ _=>False,fun _=>False,fun _=>none,0⟩) h
 rw[←h.len,←Bw,←hzr.1];simp
theorem Y7 {m:Nat} (h:m<9223372036854775808):IntKind.i64.wrap (m:Int)=(m:Int):=by
 simp[IntKind.wrap,IntKind.bits,IntKind.signed];omega
theorem N4 (hp0:ProgOk P c) {cl:Call} {so xo:Operand} {t u e d s0 b0 sz0 esz ebb u1 u2 m:Nat} {z0 ez uz:List T} {ek:TK} {es0:List (List T)} {mn:Int} {x:AV} {e1 e2:Env} {s:St} (hg:o.guard=none) (ho:o.op=.call cl) (hcl:cl.callee=.builtin .append) (ha:cl.args= #[so,xo])
  (hty:cl.argTypes= #[t,u]) (hd:o.dst=some d) (hs:ev env so=some (.t (.slice .nil sz0 es0))) (hx:ev env xo=some (.t (.int .i64 mn))) (ht:look c.te t=some ⟨s0,b0,z0,.slice e⟩) (he:look c.te e=some ⟨esz,ebb,ez,ek⟩) (hu:look c.te u=some ⟨u1,u2,uz,.int .i64⟩) (hmn:mn=(m:Int))
  (hf:CV (2*d) env σ (fun env σ=>some (AV.row (2*d) esz 0 m,env,(2*d,Blk.grow esz [])::σ))=some (x,e1,s)) (hp:BD n o.dst x e1=some e2)
  (hpos:0<m) (hlim:m*(ebb+1)≤140737488355328) (h:AU P n ops rest e2 s k):AU P n ops (o::rest) env σ k:=by
 subst hmn
 simp only[AU,AZ,hg]
 intro w g a hi hee
 have hut:=JS hp0 ht
 have huu:=Abc hp0 hu
 obtain⟨inf,hinf,hs1,hs2,hs3⟩:=(hp0.te _ _ he).info'
 have hzs:(BE ⟨esz,ebb,ez,ek⟩).cells.size=esz:=Ib (hp0.te _ _ he)
 have hb:=C1 hlim
 have hus:a.eval so=.slice none 0 0:=by
  rcases BW (AE (AO hee hs))with⟨h1,_⟩|⟨_,_,_,_,_,_,h1,_⟩|⟨_,_,_,h1⟩
  ·exact h1
  ·exact absurd rfl h1
  ·exact absurd rfl h1
 have hxs:a.eval xo=.int .i64 (m:Int):=Cv (AO hee hx)
 obtain⟨env1,σ1,g1,hk,hlk,hext,hi1,he1⟩:=E0 hf hi hee
 simp at hk
 obtain⟨rfl,rfl,rfl⟩:=hk
 have hw:IntKind.i64.wrap (m:Int)=(m:Int):=Y7 O
 have hby:m*inf.bytes≤140737488355328:=by rw[hs2];exact hb.1
 have hbig: ¬(281474976710656<(m:Int)*(inf.bytes:Int)):=by
  rw[←Int.natCast_mul];omega
 have h63': ¬(9223372036854775807<(m:Int)):=by omega
 have h48': ¬(281474976710656<Builtin.nextslicecap m 0*inf.bytes):=by rw[nextslicecap_zero hpos];omega
 have hn0:m≠0:=by omega
 obtain⟨arr,hrun,harr⟩: ∃arr:Array Value,(Builtin.append_ #[t,u] o.type #[.slice none 0 0,.int .i64 (m:Int)]).run P w=.ok (.slice (some ⟨w.heap.size,0,none⟩) m (grownCap w m 0 e)) (w.drew.alloc (.cells arr e))∧arr.size=grownCap w m 0 e*esz:=by
  have hge:=grownCap_ge w m 0 e
  refine⟨(if m*esz=0 then #[]else Builtin.zeroCells (BE ⟨esz,ebb,ez,ek⟩).cells m)++Builtin.zeroCells (BE ⟨esz,ebb,ez,ek⟩).cells (grownCap w m 0 e-m),?_,?_⟩
  ·have hneg: ¬((m:Int)<0):=by omega
   simp[Builtin.append_,Go.run_underlying hut,Go.run_underlying huu,sizeOf,typeInfo,zeroValue,hinf,hs1,hs3,asInt,asIntOf,hw,hneg,hbig,hn0,h63',h48',Question.forced,run_firstCells_none,newRow,grownCap]
   by_cases hz:m*esz=0<;>simp[hz]
  ·by_cases hz:m*esz=0
   ·have:esz=0:=by
     rcases Nat.mul_eq_zero.1 hz with h'|h'
     ·omega
     ·exact h'
    simp only[hz,if_true,Array.size_append,size_zeroCells,hzs]
    rw[this];simp
   ·simp only[hz,if_false,Array.size_append,size_zeroCells,hzs,←Nat.add_mul]
    congr 1;omega
 have hm:=More.drewAlloc w (.cells arr e)
 have hge:=grownCap_ge w m 0 e
 obtain⟨k1,k2,k3⟩:=Gm hi1 hlk hm (B:=.grow esz []) (fun hr=>⟨by simp,.inr ⟨w.heap.size,arr,e,by simp[G.with],.inr rfl,hm.new,by simp,by simp⟩⟩)
 refine BJ.value (v:=.slice (some ⟨w.heap.size,0,none⟩) m (grownCap w m 0 e)) (w':=w.drew.alloc (.cells arr e)) (by simp[execOp,ho,resolve,hcl,invoke,builtin,ha,hty,hus,hxs,hrun]) ⟨_,_,_,⟨_,hext.trans k1,?_,k2,he1.mono k3⟩,e2,hp,h⟩
 exact .row (2*d) esz 0 m w.heap.size 0 _ e arr.size (by simp[G.with]) (by simp only[World.shape?,hm.new]) (.inl Y) hge (by simp[harr])
theorem Tq (hp0:ProgOk P c) {cl:Call} {so:Operand} {t s0 b0 e sz0:Nat} {z0:List T} {es0:List (List T)} {e2:Env} (hg:o.guard=none) (ho:o.op=.call cl) (hcl:cl.callee=.builtin .cap) (ha:cl.args= #[so]) (hty:cl.argTypes= #[t]) (hs:ev env so=some (.t (.slice .nil sz0 es0)))
  (ht:look c.te t=some ⟨s0,b0,z0,.slice e⟩) (hp:BD n o.dst (.t (.int .i64 0)) env=some e2) (h:AU P n ops rest e2 σ k):AU P n ops (o::rest) env σ k:=by
 simp only[AU,AZ,hg]
 intro w g a hi hee
 have hut:=JS hp0 ht
 have hus:a.eval so=.slice none 0 0:=by
  rcases BW (AE (AO hee hs))with⟨h1,_⟩|⟨_,_,_,_,_,_,h1,_⟩|⟨_,_,_,h1⟩
  ·exact h1
  ·exact absurd rfl h1
  ·exact absurd rfl h1
 have hrun:(Builtin.cap_ #[t] o.type #[.slice none 0 0]).run P w=.ok (.int .i64 0) w:=by
  simp[Builtin.cap_,Go.run_underlying hut,goInt]
 exact BJ.value (v:=.int .i64 0) (w':=w) (by simp[execOp,ho,resolve,hcl,invoke,builtin,ha,hty,hus,hrun]) ⟨_,env,σ,⟨g,Ext.refl _ _,.t _ _ (.int _ _),hi,hee⟩,e2,hp,h⟩
end
end Go.Am
