/- Lemmas toward the law; each names its conditions. -/
import Derived.Test.YtppffhlbcgpgdaaGreatDoorYM4
import Derived.Lib.AppendStr
import Derived.Laws.BytesArg
import Derived.KernelRfl
import Derived.ChangeReads
import Derived.ReadAgain
set_option linter.all false
namespace Go.Am
def Af8:Nat->List AV->St->Option (AV×St):=λ_ _ _=>none
def D7:Callee->Bool
 |.builtin _=>true
 |_=>false
def H9:A2->A2->Prop
 |[],_=>True
 |(t,x)::r,e=>(∃v,look e t=some v/\Aq v x)/\H9 r e
def KG:List Nat->A2->A2
 |[],e=>e
 |d::r,e=>KG r (Gv (2*d) e)
def HI:List Nat->St->St
 |[],s=>s
 |d::r,s=>HI r (CX (2*d) s)
def At (E:A2) (S:St) (e:A2) (s:St):Prop:= ∃D,H9 E (KG D e)/\HI D s=S
section
variable {P:Program} {c:Conf} {n:Nat} {ops:Array Oper} {aD:List Oper} {env:A2} {σ:St} {o:Oper} {K:Exit->A2->St->Prop} {k:A2->St->Prop}
theorem QI:O1 P Af8:=λf as σ r σ' h=>by cases h
noncomputable def Sc (f:Nat) (as:List AV) (σ:St) (r:AV) (σ':St):Nat->List AV->St->Option (AV×St):=
 λf1 as1 σ1=>open Classical in if f1=f/\as1=as/\σ1=σ then some (r,σ')else none
theorem Sa {f:Nat} {as:List AV} {σ σ':St} {r:AV} (h:Ct P f as σ r σ'):O1 P (Sc f as σ r σ'):=by
 intro f1 as1 σ1 r1 σ1' h1;unfold Sc at h1;split at h1
 ·rename_i e;obtain⟨rfl,rfl,rfl⟩:=e;simp at h1;obtain⟨rfl,rfl⟩:=h1;exact h
 ·cases h1
theorem Sb {f:Nat} {as:List AV} {σ σ':St} {r:AV}:Sc f as σ r σ' f as σ=some (r,σ'):=by simp[Sc]
theorem A3m {x y:AV} (h:x=y):Aq x y:=h▸A3l x
theorem H9.rel {w:World} {g:G} {a:Act} {e:A2} (he:AQ w g a e): ∀{E:A2},H9 E e->AQ w g a E
 |[],_,t,x,h=>by simp[look]at h
 |(t',y)::r,⟨⟨v,h1,h2⟩,h3⟩,t,x,h=>by
  rw[Ap]at h;split at h
  ·rename_i e;subst e;cases h;exact h2 _ _ _ (he _ _ h1)
  ·exact H9.rel he h3 t x h
theorem Mb {w:World} {a:Act}: ∀(D:List Nat) {g:G} {e:A2} {s:St},Good n w g a e s-> ∃g',Ext w g w g'/\Good n w g' a (KG D e) (HI D s)
 |[],g,e,s,h=>⟨g,A3h _ _,h⟩
 |d::r,g,e,s,h=>by
  obtain⟨h1,h2,h3⟩:=Yq h.inv (2*d) (λhb=>by have:=(h.inv.bx _ hb).1;omega);obtain⟨g',k1,k2⟩:=Mb r ⟨h3 a e h.env,h2,h.defers.ext h1,h.size⟩;exact⟨g',h1.trans k1,k2⟩
theorem Tr.weak {code:Code} {E:A2} {S:St} (h:Tr P n code E S K) {e:A2} {s:St} (ha:At E S e s):Tr P n code e s K:=by
 obtain⟨D,h1,rfl⟩:=ha;intro F hF bP w g a hg;obtain⟨g',k1,k2⟩:=Mb D hg;exact A5d (h F hF bP w g' a ⟨H9.rel k2.env h1,k2.inv,k2.defers,k2.size⟩) λex a2 w2 hq=>hq.lift k1
def BP (b:Bool) (p:Prop):Prop:=b=true↔p
theorem TG:BP true True:=by simp[BP]
theorem TH:BP false False:=by simp[BP]
theorem TL {p:Prop} [Decidable p]:BP (decide p) p:=by simp[BP]
theorem TJ {α:Type} [BEq α] [LawfulBEq α] {a b:α}:BP (a==b) (a=b):=by simp[BP]
theorem Zk {α:Type} [BEq α] [LawfulBEq α] {a b:α}:BP (a !=b) (a≠b):=by simp[BP]
theorem H8 {b:Bool} {p:Prop} (h:BP b p):BP (!b) (¬p):=by unfold BP at*;cases b<;>simp_all
theorem TM {b:Bool}:BP b (b=true):=A6h
theorem BP.no {b:Bool} {p:Prop} (h:BP b p) (hb:b=false): ¬p:=λhp=>by have:=h.2 hp;rw[hb]at this;cases this
theorem nT {p:Prop} (h: ¬True):p:=(h trivial).elim
theorem Ra (hp:ProgOk P c) {f:Nat} {fn:Func} (hf:P.funcs[f]?=some fn) {code:Code} (hb:fn.body=some code) {as:List AV} {r:AV} (own:Bool) (cJ:Nat.ble as.length fn.ntmps=true) (hr:r.free=true)
  (h:Tr P fn.ntmps code (H7 0 as) [] (λex e s=>(ex=.normal\/ex=.ret)/\ ∃r0 s1,OB c.te own fn.results.toList e s=some (r0,s1)/\Aq r0 r)):Ct P f as [] r []:=by
 have key: ∀(vs:List Value) (w:World) (g:G),BB w g vs as->Inv w g []->Calls P f vs.toArray w λe w'=> ∃v g' s1,e=.returned v/\Ext w g w' g'/\Rel w' g' v r/\Inv w' g' s1:=by
  intro vs w g g6 hi;refine Jd hf hb cJ h g6 hi λex a' w' g' env' σ1 h1 h2 h3=>?_;obtain⟨eL,r0,s1,h4,h5⟩:=h3;obtain⟨v,g2,q1,q2,q3,q4⟩:=LI hp h2 h4;exact⟨eL,v,q1,v,g2,s1,Y,h1.trans q2,h5 _ _ _ q3,q4⟩
 refine⟨⟨fn,hf,by simp[hb]⟩,λvs w g g6 hi=>(key vs w g g6 hi).mono ?_⟩;rintro e w' ⟨v,g1,s1,rfl,h1,h2,h3⟩;have gX: ∀b,¬g.bx b:=λb hb=>by obtain⟨_,cs,hc⟩:=hi.bx b hb;simp[look]at hc
 refine⟨v,{β:=λ_=>none,own:=g1.own,oth:=g1.oth,sp:=g1.sp,bx:=λ_=>False,lo:=g.lo},Y,⟨h1.size,h1.keep,h1.own,h1.oth,h1.shape,λb hb=>absurd hb (gX b),⟨Y,h1.lo.2⟩,h1.sp⟩,?_,⟨λb B hB=>?_,λb=>?_,λb b' aA hq=>?_,h3.lt,λb hb=>hb.elim,h3.dis,h3.im,A47 hi.lo h1.size,.empty h3.sx.lt (λ_=>rfl)⟩⟩
 ·exact Rel.free (g:=g1) (g':={β:=λ_=>none,own:=g1.own,oth:=g1.oth,sp:=g1.sp,bx:=λ_=>False,lo:=g.lo}) (λb o v q1 q2=>⟨q1,q2⟩) h2 hr
 ·simp[look]at hB
 ·simp[look]
 ·simp at hq
theorem Ah {te:TE} {own:Bool} {rs:List ResultVar} {e:A2} {s s1:St} {r r0:AV} (h:OB te own rs e s=some (r0,s1)) (hs:Aq r0 r):(Exit.ret=.normal\/Exit.ret=.ret)/\ ∃r0 s1,OB te own rs e s=some (r0,s1)/\Aq r0 r:=⟨.inr Y,r0,s1,h,hs⟩
theorem AM {ι:Type} {I:ι->Prop} {m:ι->Nat} {i:ι} {E:ι->A2} {S:ι->St} {e:A2} {s:St} (j:ι) (h1:I j) (h2:m j<m i) (D:List Nat) (h3:H9 (E j) (KG D e)) (h4:HI D s=S j): ∃j,I j/\m j<m i/\At (E j) (S j) e s:=⟨j,h1,h2,D,h3,h4⟩
theorem Bb {E:A2} {S:St} {e:A2} {s:St} (D:List Nat) (h3:H9 E (KG D e)) (h4:HI D s=S):At E S e s:=⟨D,h3,h4⟩
theorem A8 {e:A2}:H9 [] e:=trivial
theorem Ag {t:Nat} {x v:AV} {r e:A2} (h:look e t=some v) (hs:v=x) (hr:H9 r e):H9 ((t,x)::r) e:=⟨⟨v,h,A3m hs⟩,hr⟩
theorem Aa6 {p:Prop} (h:p:=by repeat'(first|exact A8|refine Ag Y Y ?_)):p:=h
theorem Ath (h:K .normal env σ):Tr P n .skip env σ K:=λ_ _ _ _ g _ hg=>wpIn_skip ⟨env,σ,g,A3h _ _,hg,h⟩
theorem Ato {id:Nat} (h:K (.exit id) env σ):Tr P n (.exit id) env σ K:=λ_ _ _ _ g _ hg=>wpIn_exit ⟨env,σ,g,A3h _ _,hg,h⟩
theorem B3 (h:K .ret env σ):Tr P n .ret env σ K:=λ_ _ _ _ g _ hg=>wpIn_ret ⟨env,σ,g,A3h _ _,hg,h⟩
theorem Jx (hp:ProgOk P c) {id:Nat} {env':A2} {σ':St} {l:List Oper} (hz:regFrz ops env σ=(env',σ')) (hl:ops.toList=l) (h:A6 P n ops l env' σ' (K .normal)):Tr P n (.region id ops false) env σ K:=by
 subst hl;refine Fd hp (.region id ops false) ?_;simp only[Gb,Aq6,hz];exact h
theorem Atk (hp:ProgOk P c) {id m:Nat} {env':A2} {σ':St} {l1 l2:List Oper} {news:List Nat} (hm:Mv ops=some m) (hz:regFrz ops env σ=(env',σ')) (h1:ops.toList.take m=l1) (h2:ops.toList.drop m=l2) (h3:FO l1=news)
  (h:CG P c n ops news l1 env' σ' (λenv σ=>A6 P n ops l2 env σ (K .normal))):Tr P n (.region id ops true) env σ K:=by
 subst h3;subst h1;subst h2;refine Fd hp (.region id ops true) ?_;simp only[Gb,Aq6,hz,hm];exact h
theorem HA {a b:Code} (h:Tr P n a env σ (λex env σ=>match ex with
  |.normal=>Tr P n b env σ K
  |ex=>K ex env σ)):Tr P n (.seq a b) env σ K:=by
 intro F hF bP w g ac hg;refine wpIn_seq (A5d (h F hF bP.seq.1 w g ac hg) ?_);rintro ex a' w' ⟨env',σ',g',h1,h2,h3⟩
 cases ex with
 |normal=>exact A5d (h3 F hF bP.seq.2 w' g' a' h2) λex a2 w2 hq=>hq.lift h1
 |exit id=>exact⟨env',σ',g',h1,h2,h3⟩
 |goto l=>exact⟨env',σ',g',h1,h2,h3⟩
 |ret=>exact⟨env',σ',g',h1,h2,h3⟩
 |panic ch=>exact⟨env',σ',g',h1,h2,h3⟩
 |outgrown=>exact⟨env',σ',g',h1,h2,h3⟩
theorem Tr.mono {code:Code} {K':Exit->A2->St->Prop} (h:Tr P n code env σ K) (hk: ∀ex e s,K ex e s->K' ex e s):Tr P n code env σ K':=λF hF bP w g a hg=>
 A5d (h F hF bP w g a hg) λex a' w' ⟨e,s,g',h1,h2,h3⟩=>⟨e,s,g',h1,h2,hk _ _ _ h3⟩
theorem Atn {ι:Type} (I:ι->Prop) (E:ι->A2) (S:ι->St) {a b:Code} (ha:Tr P n a env σ (λex e s=>match ex with
  |.normal=> ∃i,I i/\At (E i) (S i) e s
  |ex=>K ex e s)) (hb: ∀i,I i->Tr P n b (E i) (S i) K):Tr P n (.seq a b) env σ K:=by
 refine HA (ha.mono λex e s h=>?_)
 cases ex with
 |normal=>obtain⟨i,h1,h2⟩:=h;exact(hb i h1).weak h2
 |exit id=>exact h
 |goto l=>exact h
 |ret=>exact h
 |panic ch=>exact h
 |outgrown=>exact h
theorem Atq {x:Operand} {a b:Code} (p:Bool) (hp:ev env x=some (.t (.bool p))) (ht:p=true->Tr P n a env σ K) (hf:p=false->Tr P n b env σ K):Tr P n (.cond x a b) env σ K:=by
 intro F hF bP w g ac hg;have hv:=Gm (AF hg.env hp)
 cases p with
 |true=>exact wpIn_cond_true hv (ht Y F hF bP.cond.1 w g ac hg)
 |false=>exact wpIn_cond_false hv (hf Y F hF bP.cond.2 w g ac hg)
theorem Ao0 {x:Operand} {a b:Code} {t:Bool} {p:Prop} (hp:ev env x=some (.t (.bool t))) (hb:BP t p:=by first|with_reducible exact TG|with_reducible exact TH|with_reducible exact TL|with_reducible exact TJ|with_reducible exact Zk|with_reducible exact H8 TG|with_reducible exact H8 TH|with_reducible exact H8 TL|with_reducible exact H8 TJ|with_reducible exact H8 TM|exact TM) (ht:p->Tr P n a env σ K) (hf: ¬p->Tr P n b env σ K):Tr P n (.cond x a b) env σ K:=
 Atq t hp (λh=>ht (hb.1 h)) (λh=>hf (hb.no h))
theorem Vs {id:Nat} {b:Code} (h:Tr P n b env σ (λex env σ=>match ex with
  |.exit i=>(match Nat.beq i id with
   |true=>K .normal env σ
   |false=>K (.exit i) env σ)
  |ex=>K ex env σ)):Tr P n (.block id b) env σ K:=by
 intro F hF bP w g a hg;refine wpIn_block (A5d (h F hF bP.block w g a hg) ?_);rintro ex a' w' ⟨env',σ',g',h1,h2,h3⟩
 cases ex with
 |normal=>exact⟨env',σ',g',h1,h2,h3⟩
 |exit i=>
  simp only[Exit.inBlock];by_cases e:i=id
  ·subst e;simp at h3⊢;exact⟨env',σ',g',h1,h2,h3⟩
  ·simp only[CF e]at h3;simp only[Ug e];exact⟨env',σ',g',h1,h2,h3⟩
 |goto l=>exact⟨env',σ',g',h1,h2,h3⟩
 |ret=>exact⟨env',σ',g',h1,h2,h3⟩
 |panic ch=>exact⟨env',σ',g',h1,h2,h3⟩
 |outgrown=>exact⟨env',σ',g',h1,h2,h3⟩
theorem AW {ι:Type} (I:ι->Prop) (E:ι->A2) (S:ι->St) (m:ι->Nat) {b:Code} (i0:ι) (h0:I i0) (ha:At (E i0) (S i0) env σ)
  (step: ∀i,I i->Tr P n b (E i) (S i) (λex e s=>match ex with
   |.normal=> ∃j,I j/\m j<m i/\At (E j) (S j) e s
   |ex=>K ex e s)):Tr P n (.loop b) env σ K:=by
 refine Tr.loop (I:=λk e s=> ∃i,I i/\m i=k/\At (E i) (S i) e s) (m i0) ⟨i0,h0,Y,ha⟩ ?_;rintro k e s ⟨i,hi,rfl,tN⟩;refine Tr.mono ((step i hi).weak tN) λex e s h=>?_
 cases ex with
 |normal=>obtain⟨j,h1,h2,h3⟩:=h;exact⟨m j,h2,j,h1,Y,h3⟩
 |exit id=>exact h
 |goto l=>exact h
 |ret=>exact h
 |panic ch=>exact h
 |outgrown=>exact h
theorem Y6 {o:Oper} {env:A2} {σ:St} {K:AV->A2->St->Prop} (h:Mt P {o with guard:=none} env σ K):Mt P o env σ K:=λw g a hi he next Q hn=>h w g a hi he next Q hn
theorem V2 (cf:Nat->List AV->St->Option (AV×St)) (news:List Nat) (env:A2):Cz c cf news {o with guard:=none} env σ=Cz c cf news o env σ:=rfl
theorem Asm (h:k env σ):A6 P n ops [] env σ k:=h
theorem DQ (aY:ProgOk P c) {x:AV} {e e2:A2} {s:St} (hg:o.guard=none) (hs:ES c Af8 o env σ=some (x,e,s)) (hp:BM n o.dst x e=some e2) (h:A6 P n ops aD e2 s k):
  A6 P n ops (o::aD) env σ k:=by
 simp only[A6,Bt,hg];exact Mt.of aY QI hs ⟨e2,hp,h⟩
def As1:Op->Bool
 |.buildSlice _ _ _=>true
 |.store _ _ _=>true
 |_=>false
theorem Aox (aY:ProgOk P c) {x:AV} {env' e e2:A2} {σ' s:St} (hg:o.guard=none) (hk:As1 o.op=true) (hz:Ke o env σ=(env',σ')) (hs:Gp c.toCfg o env' σ'=some (x,e,s)) (hp:BM n o.dst x e=some e2) (h:A6 P n ops aD e2 s k):
  A6 P n ops (o::aD) env σ k:=by
 refine DQ aY (x:=x) (e:=e) (s:=s) hg ?_ hp h;unfold ES;split<;>rename_i ho<;>simp only[ho,As1]at hk<;>first|(cases hk;done)|(rw[hz];exact hs)
theorem C8 {α β:Type} {f:α->β} {l:List α} {i:Nat} {x:α} (h:l[i]?=some x):(l.map f)[i]?=some (f x):=by simp[h]
theorem Hf (k:Nat):Mp (k:Int)=some k:=rfl
theorem HM (aY:ProgOk P c) {t s0 b0 e:Nat} {z0:List T} {bN bO:Nat} {ez:List T} {ek:TK} {xo io:Operand} {m:SM} {sz:Nat} {es:List (List T)} {kk:IntKind} {kc:Nat} {cc:List T} {e2:A2} (hg:o.guard=none) (ho:o.op=.indexAddr t xo io) (hx:ev env xo=some (.t (.slice m sz es)))
  (hi:ev env io=some (.t (.int kk (Int.ofNat kc)))) (ht:look c.te t=some ⟨s0,b0,z0,.slice e⟩) (he:look c.te e=some ⟨bN,bO,ez,ek⟩) (aN:sz=bN) (hc:es[kc]?=some cc) (hp:BM n o.dst (.t (.ptr cc)) env=some e2)
  (h:A6 P n ops aD e2 σ k):A6 P n ops (o::aD) env σ k:=by
 refine DQ aY (x:=.t (.ptr cc)) (e:=env) (s:=σ) hg ?_ hp h;unfold ES;rw[ho];simp only[Cj,hx,hi,E0,Mp,ht,he,aN,hc,Xs]
theorem KN (aY:ProgOk P c) {t s0 b0 e:Nat} {z0:List T} {bN bO:Nat} {ez:List T} {ek:TK} {xo io:Operand} {m:SM} {sz:Nat} {es:List (List T)} {kk:IntKind} {kc:Nat} {nn:Int} {cc:List T} {e2:A2} (hg:o.guard=none) (ho:o.op=.indexAddr t xo io) (hx:ev env xo=some (.t (.slice m sz es)))
  (hi:ev env io=some (.t (.int kk nn))) (ht:look c.te t=some ⟨s0,b0,z0,.slice e⟩) (he:look c.te e=some ⟨bN,bO,ez,ek⟩) (aN:sz=bN) (hn:nn=(kc:Int)) (hc:es[kc]?=some cc) (hp:BM n o.dst (.t (.ptr cc)) env=some e2)
  (h:A6 P n ops aD e2 σ k):A6 P n ops (o::aD) env σ k:=by
 subst hn;refine DQ aY (x:=.t (.ptr cc)) (e:=env) (s:=σ) hg ?_ hp h;unfold ES;rw[ho];simp only[Cj,hx,hi,E0,Hf,ht,he,aN,hc,Xs]
theorem Apg {news:List Nat} {t s0 b0 e:Nat} {z0:List T} {bN bO:Nat} {ez:List T} {ek:TK} {xo io:Operand} {m:SM} {sz:Nat} {es:List (List T)} {kk:IntKind} {kc:Nat} {cc:List T} {e2:A2} (hg:o.guard=none) (ho:o.op=.indexAddr t xo io) (hx:ev env xo=some (.t (.slice m sz es)))
  (hi:ev env io=some (.t (.int kk (Int.ofNat kc)))) (ht:look c.te t=some ⟨s0,b0,z0,.slice e⟩) (he:look c.te e=some ⟨bN,bO,ez,ek⟩) (aN:sz=bN) (hc:es[kc]?=some cc) (hp:BM n o.dst (.t (.ptr cc)) env=some e2)
  (h:CG P c n ops news aD e2 σ k):CG P c n ops news (o::aD) env σ k:=by
 simp only[CG,Bt,hg];refine⟨Af8,.t (.ptr cc),[],QI,?_,e2,hp,h⟩;unfold Cz;rw[ho];simp only[Cj,hx,hi,E0,Mp,ht,he,aN,hc,Xs]
theorem Ac5 {j d:Nat} {want b:Bool} {oj:Oper} {e2:A2} (hg:o.guard=some (j,want)) (hj:ops[j]?=some oj) (hd:oj.dst=some d) (hl:look env d=some (.t (.bool b))) (hp:BM n o.dst (.t .undef) ((d,.t (.bool (!want)))::env)=some e2)
  (ht:b=want->A6 P n ops ({o with guard:=none}::aD) ((d,.t (.bool want))::env) σ k)
  (hf:b= !want->A6 P n ops aD e2 σ k):A6 P n ops (o::aD) env σ k:=by
 simp only[A6,Bt,hg,hj,hd,hl];exact⟨λh=>Y6 (by simpa only[A6,Bt]using ht h),λh=>⟨e2,hp,hf h⟩⟩
theorem A01 {j d:Nat} {b:Bool} {oj:Oper} {e2:A2} (hg:o.guard=some (j,true)) (hj:ops[j]?=some oj) (hd:oj.dst=some d) (hl:look env d=some (.t (.bool b))) (hp:BM n o.dst (.t .undef) ((d,.t (.bool false))::env)=some e2)
  (ht:b=true->A6 P n ops ({o with guard:=none}::aD) ((d,.t (.bool true))::env) σ k)
  (hf:b=false->A6 P n ops aD e2 σ k):A6 P n ops (o::aD) env σ k:=Ac5 hg hj hd hl hp ht hf
theorem A02 {j d:Nat} {b:Bool} {oj:Oper} {e2:A2} (hg:o.guard=some (j,false)) (hj:ops[j]?=some oj) (hd:oj.dst=some d) (hl:look env d=some (.t (.bool b))) (hp:BM n o.dst (.t .undef) ((d,.t (.bool true))::env)=some e2)
  (ht:b=false->A6 P n ops ({o with guard:=none}::aD) ((d,.t (.bool false))::env) σ k)
  (hf:b=true->A6 P n ops aD e2 σ k):A6 P n ops (o::aD) env σ k:=Ac5 hg hj hd hl hp ht hf
theorem Av7 {j d:Nat} {b:Bool} {p:Prop} {oj:Oper} {e2:A2} (hg:o.guard=some (j,true)) (hj:ops[j]?=some oj) (hd:oj.dst=some d) (hl:look env d=some (.t (.bool b))) (hp:BM n o.dst (.t .undef) ((d,.t (.bool false))::env)=some e2) (hb:BP b p:=by first|with_reducible exact TG|with_reducible exact TH|with_reducible exact TL|with_reducible exact TJ|with_reducible exact Zk|with_reducible exact H8 TG|with_reducible exact H8 TH|with_reducible exact H8 TL|with_reducible exact H8 TJ|with_reducible exact H8 TM|exact TM)
  (ht:p->A6 P n ops ({o with guard:=none}::aD) ((d,.t (.bool true))::env) σ k)
  (hf: ¬p->A6 P n ops aD e2 σ k):A6 P n ops (o::aD) env σ k:=A01 hg hj hd hl hp (λh=>ht (hb.1 h)) (λh=>hf (hb.no h))
theorem Av8 {j d:Nat} {b:Bool} {p:Prop} {oj:Oper} {e2:A2} (hg:o.guard=some (j,false)) (hj:ops[j]?=some oj) (hd:oj.dst=some d) (hl:look env d=some (.t (.bool b))) (hp:BM n o.dst (.t .undef) ((d,.t (.bool true))::env)=some e2) (hb:BP b p:=by first|with_reducible exact TG|with_reducible exact TH|with_reducible exact TL|with_reducible exact TJ|with_reducible exact Zk|with_reducible exact H8 TG|with_reducible exact H8 TH|with_reducible exact H8 TL|with_reducible exact H8 TJ|with_reducible exact H8 TM|exact TM)
  (ht: ¬p->A6 P n ops ({o with guard:=none}::aD) ((d,.t (.bool false))::env) σ k)
  (hf:p->A6 P n ops aD e2 σ k):A6 P n ops (o::aD) env σ k:=A02 hg hj hd hl hp (λh=>ht (hb.no h)) (λh=>hf (hb.1 h))
theorem Ai4 {j d:Nat} {want:Bool} {oj:Oper} {e2:A2} (hg:o.guard=some (j,want)) (hj:ops[j]?=some oj) (hd:oj.dst=some d) (hl:look env d=some (.t .undef)) (hp:BM n o.dst (.t .undef) env=some e2)
  (h:A6 P n ops aD e2 σ k):A6 P n ops (o::aD) env σ k:=by
 simp only[A6,Bt,hg,hj,hd,hl];exact⟨e2,hp,h⟩
theorem Ji (aY:ProgOk P c) {cl:Call} {f:Nat} {as as':List AV} {env' e e2:A2} {σ' σ2 s:St} {r x:AV} (hg:o.guard=none) (ho:o.op=.call cl) (hb:D7 cl.callee=false) (hc:DG c env cl=some (f,as)) (hm:Kl f c.own=false)
  (hz:EC σ as env σ=(as',env',σ')) (e6:ED as'=true) (iF:Ct P f as' [] r σ2) (hh:Lu o.dst r σ2 env' σ'=some (x,e,s)) (hp:BM n o.dst x e=some e2) (h:A6 P n ops aD e2 s k):
  A6 P n ops (o::aD) env σ k:=by
 simp only[A6,Bt,hg];refine Mt.of aY (Sa iF) (x:=x) (e:=e) (s:=s) ?_ ⟨e2,hp,h⟩
 have hs:Mf c (Sc f as' [] r σ2) o.dst cl env σ=some (x,e,s):=by
  simp only[Mf,hc,hm,hz,e6,Sb];exact hh
 unfold ES;rw[ho];simp only;split
 ·rename_i hq;rw[hq]at hb;simp[D7]at hb
 ·rename_i hq;rw[hq]at hb;simp[D7]at hb
 ·rename_i hq;rw[hq]at hb;simp[D7]at hb
 ·rename_i hq;rw[hq]at hb;simp[D7]at hb
 ·exact hs
 ·exact hs
theorem Azs {news:List Nat} (h:k env σ):CG P c n ops news [] env σ k:=h
theorem R9 {news:List Nat} {x:AV} {e2:A2} {nb s:St} (hg:o.guard=none) (hs:Cz c Af8 news o env σ=some (x,nb)) (hn:nb++σ=s) (hp:BM n o.dst x env=some e2) (h:CG P c n ops news aD e2 s k):
  CG P c n ops news (o::aD) env σ k:=by
 subst hn;simp only[CG,Bt,hg];exact⟨Af8,x,nb,QI,hs,e2,hp,h⟩
theorem Adi {news:List Nat} {j d:Nat} {want b:Bool} {oj:Oper} {e2:A2} (hg:o.guard=some (j,want)) (hj:ops[j]?=some oj) (hd:oj.dst=some d) (hl:look env d=some (.t (.bool b))) (hp:BM n o.dst (.t .undef) ((d,.t (.bool (!want)))::env)=some e2)
  (ht:b=want->CG P c n ops news ({o with guard:=none}::aD) ((d,.t (.bool want))::env) σ k)
  (hf:b= !want->CG P c n ops news aD e2 σ k):CG P c n ops news (o::aD) env σ k:=by
 simp only[CG,Bt,hg,hj,hd,hl];exact⟨λh=>by simpa only[CG,Bt,V2]using ht h,λh=>⟨e2,hp,hf h⟩⟩
theorem A2a {news:List Nat} {j d:Nat} {b:Bool} {oj:Oper} {e2:A2} (hg:o.guard=some (j,true)) (hj:ops[j]?=some oj) (hd:oj.dst=some d) (hl:look env d=some (.t (.bool b))) (hp:BM n o.dst (.t .undef) ((d,.t (.bool false))::env)=some e2)
  (ht:b=true->CG P c n ops news ({o with guard:=none}::aD) ((d,.t (.bool true))::env) σ k)
  (hf:b=false->CG P c n ops news aD e2 σ k):CG P c n ops news (o::aD) env σ k:=Adi hg hj hd hl hp ht hf
theorem A2b {news:List Nat} {j d:Nat} {b:Bool} {oj:Oper} {e2:A2} (hg:o.guard=some (j,false)) (hj:ops[j]?=some oj) (hd:oj.dst=some d) (hl:look env d=some (.t (.bool b))) (hp:BM n o.dst (.t .undef) ((d,.t (.bool true))::env)=some e2)
  (ht:b=false->CG P c n ops news ({o with guard:=none}::aD) ((d,.t (.bool false))::env) σ k)
  (hf:b=true->CG P c n ops news aD e2 σ k):CG P c n ops news (o::aD) env σ k:=Adi hg hj hd hl hp ht hf
theorem Azt {news:List Nat} {j d:Nat} {b:Bool} {p:Prop} {oj:Oper} {e2:A2} (hg:o.guard=some (j,true)) (hj:ops[j]?=some oj) (hd:oj.dst=some d) (hl:look env d=some (.t (.bool b))) (hp:BM n o.dst (.t .undef) ((d,.t (.bool false))::env)=some e2) (hb:BP b p:=by first|with_reducible exact TG|with_reducible exact TH|with_reducible exact TL|with_reducible exact TJ|with_reducible exact Zk|with_reducible exact H8 TG|with_reducible exact H8 TH|with_reducible exact H8 TL|with_reducible exact H8 TJ|with_reducible exact H8 TM|exact TM)
  (ht:p->CG P c n ops news ({o with guard:=none}::aD) ((d,.t (.bool true))::env) σ k)
  (hf: ¬p->CG P c n ops news aD e2 σ k):CG P c n ops news (o::aD) env σ k:=A2a hg hj hd hl hp (λh=>ht (hb.1 h)) (λh=>hf (hb.no h))
theorem Azu {news:List Nat} {j d:Nat} {b:Bool} {p:Prop} {oj:Oper} {e2:A2} (hg:o.guard=some (j,false)) (hj:ops[j]?=some oj) (hd:oj.dst=some d) (hl:look env d=some (.t (.bool b))) (hp:BM n o.dst (.t .undef) ((d,.t (.bool true))::env)=some e2) (hb:BP b p:=by first|with_reducible exact TG|with_reducible exact TH|with_reducible exact TL|with_reducible exact TJ|with_reducible exact Zk|with_reducible exact H8 TG|with_reducible exact H8 TH|with_reducible exact H8 TL|with_reducible exact H8 TJ|with_reducible exact H8 TM|exact TM)
  (ht: ¬p->CG P c n ops news ({o with guard:=none}::aD) ((d,.t (.bool false))::env) σ k)
  (hf:p->CG P c n ops news aD e2 σ k):CG P c n ops news (o::aD) env σ k:=A2b hg hj hd hl hp (λh=>ht (hb.no h)) (λh=>hf (hb.1 h))
theorem Ajw {news:List Nat} {j d:Nat} {want:Bool} {oj:Oper} {e2:A2} (hg:o.guard=some (j,want)) (hj:ops[j]?=some oj) (hd:oj.dst=some d) (hl:look env d=some (.t .undef)) (hp:BM n o.dst (.t .undef) env=some e2)
  (h:CG P c n ops news aD e2 σ k):CG P c n ops news (o::aD) env σ k:=by
 simp only[CG,Bt,hg,hj,hd,hl];exact⟨e2,hp,h⟩
theorem Jm {news:List Nat} {cl:Call} {f:Nat} {as:List AV} {e2:A2} {σ2:St} {r:AV} (hg:o.guard=none) (ho:o.op=.call cl) (hb:D7 cl.callee=false) (hc:DG c env cl=some (f,as))
  (e6:ED as=true) (iF:Ct P f as [] r σ2) (hr:r.free=true) (hp:BM n o.dst r env=some e2) (h:CG P c n ops news aD e2 σ k):
  CG P c n ops news (o::aD) env σ k:=by
 simp only[CG,Bt,hg];refine⟨Sc f as [] r σ2,r,[],Sa iF,?_,e2,hp,h⟩;unfold Cz;rw[ho];simp only;split
 ·rename_i hq;rw[hq]at hb;simp[D7]at hb
 ·rename_i hq;rw[hq]at hb;simp[D7]at hb
 ·simp only[hc,e6,Sb,hr]
end
end Go.Am
namespace Go.Am
mutual
def Dn (f:Nat->Option Nat):AV->AV
 |.t x=>.t x
 |.top=>.top
 |.ref c o=>match f c with
  |some b=>.ref b o
  |none=>.top
 |.eref c s k o=>match f c with
  |some b=>.eref b s k o
  |none=>.top
 |.mref c=>match f c with
  |some b=>.mref b
  |none=>.top
 |.row c s lo len=>match f c with
  |some b=>.row b s lo len
  |none=>.top
 |.iface t x=>.iface t (Dn f x)
 |.func fn x y=>.func fn (Gq f x) (Gq f y)
 |.agg cs=>.agg (Gq f cs)
 |.tuple cs=>.tuple (Gq f cs)
def Gq (f:Nat->Option Nat):List AV->List AV
 |[]=>[]
 |x::r=>Dn f x::Gq f r
end
def T3 (f:Nat->Option Nat):A2->A2
 |[]=>[]
 |(t,x)::r=>(t,Dn f x)::T3 f r
def Mj (f:Nat->Option Nat) (B:Blk):Blk:=match B with
 |.cells cs=>.cells (Gq f cs)
 |.grow sz es=>.grow sz es
 |.rights L=>.rights L
 |.loop l st pe ps asg bd n env=>.loop l st pe ps asg bd n (T3 f env)
 |.mp ks xs=>.mp ks (Gq f xs)
theorem Hh (f:Nat->Option Nat): ∀l,(Gq f l).length=l.length
 |[]=>rfl
 |x::r=>by simp[Gq,Hh f r]
theorem Hi (f:Nat->Option Nat): ∀(l:List AV) (i:Nat),(Gq f l)[i]?=(l[i]?).map (Dn f)
 |[],i=>by simp[Gq]
 |x::r,0=>by simp[Gq]
 |x::r,i+1=>by simp[Gq,Hi f r i]
theorem NS (f:Nat->Option Nat): ∀(l:A2) (t:Nat),look (T3 f l) t=(look l t).map (Dn f)
 |[],t=>by simp[T3,look]
 |(k,x)::r,t=>by
  simp only[T3];rw[Ap,Ap,NS f r t];split<;>rfl
theorem Rel.ren {w w':World} {g g':G} (f:Nat->Option Nat) (hk:Jh w g.M w' g'.M) (hs: ∀b p,w.shape? b=some p->w'.shape? b=some p) (hβ: ∀c b p,f c=some b->g.β c=some p->g'.β b=some p)
  {v:Value} {x:AV} (h:Rel w g v x):Rel w' g' v (Dn f x):=by
 induction h with
 |t v x h=>simp only[Dn];exact .t _ _ (h.mono hk)
 |top v=>simp only[Dn];exact .top v
 |ref c o aA h=>
  simp only[Dn];split
  ·rename_i b hb;exact .ref _ _ _ (hβ _ _ _ hb h)
  ·exact .top _
 |eref c s k o aA h=>
  simp only[Dn];split
  ·rename_i b hb;exact .eref _ _ _ _ _ (hβ _ _ _ hb h)
  ·exact .top _
 |mref c aA h=>
  simp only[Dn];split
  ·rename_i b hb;exact .mref _ _ (hβ _ _ _ hb h)
  ·exact .top _
 |rowNil c s a ha h=>
  simp only[Dn];split
  ·rename_i b hb;exact .rowNil _ _ _ ha (hβ _ _ _ hb h)
  ·exact .top _
 |row c s lo len aA o cap e0 n h dS ho hl hn=>
  simp only[Dn];split
  ·rename_i b hb;exact .row _ _ _ _ aA o cap e0 n (hβ _ _ _ hb h) (hs _ _ dS) ho hl hn
  ·exact .top _
 |iface t v x _ ih=>simp only[Dn];exact .iface _ _ _ ih
 |func fn v1 v2 x1 x2 h1 h2 _ _ i1 i2=>
  simp only[Dn];refine .func fn v1 v2 _ _ (by rw[Hh];exact h1) (by rw[Hh];exact h2) (λi v x hv hx=>?_) (λi v x hv hx=>?_)
  ·rw[Hi]at hx
   cases hg:x1[i]? with
   |none=>simp[hg]at hx
   |some y=>simp[hg]at hx;subst hx;exact i1 i v y hv hg
  ·rw[Hi]at hx
   cases hg:x2[i]? with
   |none=>simp[hg]at hx
   |some y=>simp[hg]at hx;subst hx;exact i2 i v y hv hg
 |agg vs xs h _ ih=>
  simp only[Dn];refine .agg vs _ (by rw[Hh];exact h) λi v x hv hx=>?_;rw[Hi]at hx
  cases hg:xs[i]? with
  |none=>simp[hg]at hx
  |some y=>simp[hg]at hx;subst hx;exact ih i v y hv hg
 |tuple vs xs h _ ih=>
  simp only[Dn];refine .tuple vs _ (by rw[Hh];exact h) λi v x hv hx=>?_;rw[Hi]at hx
  cases hg:xs[i]? with
  |none=>simp[hg]at hx
  |some y=>simp[hg]at hx;subst hx;exact ih i v y hv hg
theorem BB.ren {w w':World} {g g':G} (f:Nat->Option Nat) (hr: ∀v x,Rel w g v x->Rel w' g' v (Dn f x)) {vs:List Value} {xs:List AV} (h:BB w g vs xs):BB w' g' vs (Gq f xs):=
 ⟨by rw[Hh];exact h.1,λi v x hv hx=>by
  rw[Hi]at hx
  cases hg:xs[i]? with
  |none=>simp[hg]at hx
  |some y=>simp[hg]at hx;subst hx;exact hr _ _ (h.2 i v y hv hg)⟩
theorem Fh.ren {w w':World} {g g':G} (f:Nat->Option Nat) (hk:Jh w g.M w' g'.M) (hr: ∀v x,Rel w g v x->Rel w' g' v (Dn f x)) {b c:Nat} (hβ: ∀p,g.β b=some p->g'.β c=some p)
  (eP: ∀aA,g.β b=some (some aA)->g.own aA->g'.own aA/\w'.heap[aA]?=w.heap[aA]?) {B:Blk} (h:Fh w g b B):Fh w' g' c (Mj f B):=by
 cases B with
 |cells cs=>
  obtain⟨aA,vs,e,h1,h2,h3,h4,h5⟩:=h;obtain⟨k1,k2⟩:=eP aA h1 h2;refine⟨aA,vs,e,hβ _ h1,k1,by rw[k2];exact h3,by rw[Hh];exact h4,λi v x hv hx=>?_⟩;rw[Hi]at hx
  cases hg:cs[i]? with
  |none=>simp[hg]at hx
  |some y=>simp[hg]at hx;subst hx;exact hr _ _ (h5 i v y hv hg)
 |grow sz es=>
  obtain⟨h0,h⟩:=h;refine⟨h0,?_⟩;rcases h with⟨h1,h2⟩|⟨aA,vs,e,h1,h2,h3,h4,h5⟩
  ·exact .inl ⟨hβ _ h1,h2⟩
  ·obtain⟨k1,k2⟩:=eP aA h1 h2;exact .inr ⟨aA,vs,e,hβ _ h1,k1,by rw[k2];exact h3,h4,λi v x hv hx=>⟨(h5 i v x hv hx).1,(h5 i v x hv hx).2.mono hk⟩⟩
 |rights L=>exact hβ _ h
 |loop l st pe ps asg bd n env=>
  obtain⟨r,h1,h2,h3,h4,h5,h6⟩:=h;obtain⟨k1,k2⟩:=eP l h1 h2;refine⟨r,hβ _ h1,k1,by rw[k2];exact h3,h4,h5,λt x ht=>?_⟩;rw[NS]at ht
  cases hg:look env t with
  |none=>simp[hg]at ht
  |some y=>simp[hg]at ht;subst ht;exact hr _ _ (h6 t y hg)
 |mp ks ys=>
  obtain⟨aA,fs,clk,h1,h2,h3,h4,h5,h6,h7⟩:=h;refine⟨aA,fs,clk,hβ _ h1,(eP aA h1 h2).1,by rw[(eP aA h1 h2).2];exact h3,h4,by rw[Hh];exact h5,λi e x he hx=>(h6 i e x he hx).mono hk,λi e x he hx=>?_⟩;rw[Hi]at hx
  cases hg:ys[i]? with
  |none=>simp[hg]at hx
  |some y=>simp[hg]at hx;subst hx;exact hr _ _ (h7 i e y he hg)
def De (ι:List (Nat×Nat)) (σ:St):List (Nat×Nat)->St
 |[]=>[]
 |(b,c)::r=>match look σ b with
  |some B=>(c,Mj (look ι) B)::De ι σ r
  |none=>De ι σ r
def Ll (ω:List (Nat×Nat)):St->St
 |[]=>[]
 |(c,B)::r=>match look ω c with
  |some b=>(b,Mj (look ω) B)::Ll ω r
  |none=>Ll ω r
def G3 (ι:List (Nat×Nat)) (σ:St) (b:Nat):Option Nat:=
 match look ι b with
 |none=>some b
 |some _=>match look σ b with
  |some (.cells _)=>some b
  |_=>none
def KD (ι:List (Nat×Nat)) (σ:St):St->St
 |[]=>[]
 |(b,B)::r=>match look ι b with
  |none=>(b,Mj (G3 ι σ) B)::KD ι σ r
  |some _=>KD ι σ r
def Adr (n:Nat):List Nat->Bool
 |[]=>true
 |k::r=> !(Nat.beq k n)&&Adr n r
def GB:List Nat->Bool
 |[]=>true
 |k::r=>Adr k r&&GB r
def XO (o:Option Nat) (n:Nat):Bool:=match o with
 |some k=>Nat.beq k n
 |none=>false
def Anv (ω:List (Nat×Nat)) (σ:St):List (Nat×Nat)->Bool
 |[]=>true
 |(b,c)::r=>(XO (look ω c) b&&((look σ b).isSome&&Nat.beq (c % 2) 1))&&Anv ω σ r
def Ahp (ι:List (Nat×Nat)) (σ:St):List (Nat×Nat)->Bool
 |[]=>true
 |(c,b)::r=>(XO (look ι b) c||((look ι b).isNone&&(look σ b).isNone))&&Ahp ι σ r
def Anu (ω:List (Nat×Nat)):St->Bool
 |[]=>true
 |(c,_)::r=>(look ω c).isSome&&Anu ω r
def Lq:List (Nat×Nat)->List Nat
 |[]=>[]
 |(k,_)::r=>k::Lq r
def KP:List (Nat×Nat)->List Nat
 |[]=>[]
 |(_,v)::r=>v::KP r
def Ze (ι ω:List (Nat×Nat)) (σ σ2:St):Bool:=
 (GB (Lq ι)&&(GB (Lq ω)&&GB (KP ω)))&&(Anv ω σ ι&&(Ahp ι σ ω&&Anu ω σ2))
theorem LN {n:Nat}: ∀{l:List Nat},Adr n l=true->n∉l
 |[],_=>Ac
 |k::r,h=>by
  simp only[Adr,Qp]at h;intro hm;rcases Als.1 hm with e|e
  ·subst e;simp at h
  ·exact LN h.2 e
theorem Hj {α:Type}: ∀{l:List (Nat×α)} {k:Nat} {v:α},look l k=some v->(k,v)∈l
 |[],k,v,h=>by simp[look]at h
 |(k',v')::r,k,v,h=>by
  rw[Ap]at h;split at h
  ·rename_i e;subst e;cases h;simp
  ·exact A57 _ (Hj h)
theorem Yb: ∀{l:List (Nat×Nat)} {k v:Nat},(k,v)∈l->k∈Lq l
 |(k',v')::r,k,v,h=>by
  rcases Als.1 h with e|e
  ·cases e;simp[Lq]
  ·exact A57 _ (Yb e)
theorem NP: ∀{l:List (Nat×Nat)} {k v:Nat},(k,v)∈l->v∈KP l
 |(k',v')::r,k,v,h=>by
  rcases Als.1 h with e|e
  ·cases e;simp[KP]
  ·exact A57 _ (NP e)
theorem WJ: ∀{l:List (Nat×Nat)} {k k' v:Nat},GB (KP l)=true->(k,v)∈l->(k',v)∈l->GB (Lq l)=true->k=k'
 |(a,b)::r,k,k',v,hn,h1,h2,hk=>by
  simp only[KP,GB,Qp]at hn;simp only[Lq,GB,Qp]at hk;rcases Als.1 h1 with e1|e1<;>rcases Als.1 h2 with e2|e2
  ·cases e1;cases e2;rfl
  ·cases e1;exact absurd (NP e2) (LN hn.1)
  ·cases e2;exact absurd (NP e1) (LN hn.1)
  ·exact WJ hn.2 e1 e2 hk.2
theorem XN {o:Option Nat} {n:Nat} (h:XO o n=true):o=some n:=by
 cases o with
 |none=>simp[XO]at h
 |some k=>simp only[XO]at h;rw[A4f h]
theorem Zh {ω:List (Nat×Nat)} {σ:St}: ∀{l:List (Nat×Nat)},Anv ω σ l=true-> ∀b c,(b,c)∈l->look ω c=some b/\(look σ b).isSome=true/\c % 2=1
 |(b',c')::r,h,b,c,hm=>by
  simp only[Anv,Qp]at h;rcases Als.1 hm with e|e
  ·cases e;exact⟨XN h.1.1,h.1.2.1,A4f h.1.2.2⟩
  ·exact Zh h.2 b c e
theorem Zg {ι:List (Nat×Nat)} {σ:St}: ∀{l:List (Nat×Nat)},Ahp ι σ l=true-> ∀c b,(c,b)∈l->look ι b=some c\/(look ι b=none/\look σ b=none)
 |(c',b')::r,h,c,b,hm=>by
  simp only[Ahp,Qp,A6b]at h;rcases Als.1 hm with e|e
  ·cases e;rcases h.1 with h'|h'
   ·exact .inl (XN h')
   ·exact .inr ⟨by simpa using h'.1,by simpa using h'.2⟩
  ·exact Zg h.2 c b e
theorem Zd {ω:List (Nat×Nat)}: ∀{l:St},Anu ω l=true-> ∀c B,look l c=some B->(look ω c).isSome=true
 |[],_,c,B,h=>by simp[look]at h
 |(c',B')::r,hc,c,B,h=>by
  simp only[Anu,Qp]at hc;rw[Ap]at h;split at h
  ·rename_i e;subst e;exact hc.1
  ·exact Zd hc.2 c B h
structure RenOk (ι ω:List (Nat×Nat)) (σ σ2:St):Prop where
 io: ∀b c,look ι b=some c->look ω c=some b/\(look σ b).isSome=true/\c % 2=1
 oi: ∀c b,look ω c=some b->look ι b=some c\/(look ι b=none/\look σ b=none)
 inj: ∀c c' b,look ω c=some b->look ω c'=some b->c=c'
 dom: ∀c B,look σ2 c=some B->(look ω c).isSome=true
 mem: ∀b c,(b,c)∈ι->look ι b=some c
theorem XZ: ∀{l:List (Nat×Nat)},GB (Lq l)=true-> ∀b c,(b,c)∈l->look l b=some c
 |(b',c')::r,hn,b,c,h=>by
  simp only[Lq,GB,Qp]at hn;rw[Ap];rcases Als.1 h with e|e
  ·cases e;simp
  ·have: ¬b'=b:=λe2=>by subst e2;exact LN hn.1 (Yb e)
   simp only[this,ZF];exact XZ hn.2 b c e
theorem QY {ι ω:List (Nat×Nat)} {σ σ2:St} (h:Ze ι ω σ σ2=true):RenOk ι ω σ σ2:=by
 simp only[Ze,Qp]at h;obtain⟨⟨h1,h2,h3⟩,h4,h5,h6⟩:=h;exact⟨λb c hb=>Zh h4 b c (Hj hb),λc b hc=>Zg h5 c b (Hj hc),λc c' b h7 h8=>WJ h3 (Hj h7) (Hj h8) h2,Zd h6,XZ h1⟩
theorem FP {ι:List (Nat×Nat)} {σ:St} {c:Nat} {B:Blk}: ∀{l:List (Nat×Nat)},look (De ι σ l) c=some B-> ∃b B0,(b,c)∈l/\look σ b=some B0/\B=Mj (look ι) B0
 |[],h=>by simp[De,look]at h
 |(b',c')::r,h=>by
  simp only[De]at h;split at h
  ·rename_i B0 hB;rw[Ap]at h;split at h
   ·rename_i e;subst e;cases h;exact⟨b',B0,Ac,hB,Y⟩
   ·obtain⟨b,B1,h1,h2⟩:=FP h;exact⟨b,B1,by simp[h1],h2⟩
  ·obtain⟨b,B1,h1,h2⟩:=FP h;exact⟨b,B1,by simp[h1],h2⟩
theorem MK {ι:List (Nat×Nat)} {σ:St} {b c:Nat} (hs:(look σ b).isSome=true): ∀{l:List (Nat×Nat)},(b,c)∈l->(look (De ι σ l) c).isSome=true
 |(b',c')::r,h=>by
  simp only[De];rcases Als.1 h with e|e
  ·cases e;obtain⟨B,hB⟩:=A56.1 hs;rw[hB];simp[Ap]
  ·have ih:=MK hs e (ι:=ι);split
   ·rw[Ap];split
    ·rfl
    ·exact ih
   ·exact ih
theorem Fp {ω:List (Nat×Nat)} (pO: ∀c c' b,look ω c=some b->look ω c'=some b->c=c') {b:Nat}: ∀{s:St},(∀c,look ω c=some b->look (Ll ω s) b=(look s c).map (Mj (look ω)))/\((∀c,look ω c≠some b)->look (Ll ω s) b=none)
 |[]=>⟨λc hc=>by simp[Ll,look],λ_=>by simp[Ll,look]⟩
 |(c',B)::r=>by
  obtain⟨ih1,ih2⟩:=Fp pO (b:=b) (s:=r);constructor
  ·intro c hc;simp only[Ll];split
   ·rename_i b' cN;rw[Ap,Ap];by_cases e:b'=b
    ·subst e;have:c'=c:=pO _ _ _ cN hc;subst this;simp
    ·have: ¬c'=c:=λe2=>e (by subst e2;rw[hc]at cN;cases cN;rfl);simp only[e,this,ZF];exact ih1 c hc
   ·rename_i cN;have: ¬c'=c:=λe2=>by subst e2;rw[hc]at cN;cases cN
    rw[Ap];simp only[this,ZF];exact ih1 c hc
  ·intro hn;simp only[Ll];split
   ·rename_i b' cN;rw[Ap];have: ¬b'=b:=λe=>hn c' (by rw[cN,e]);simp only[this,ZF];exact ih2 hn
   ·exact ih2 hn
theorem Fc {ι:List (Nat×Nat)} {σ:St} {b:Nat}: ∀{s:St},look (KD ι σ s) b=if look ι b=none then(look s b).map (Mj (G3 ι σ))else none
 |[]=>by simp[KD,look]
 |(b',B)::r=>by
  have ih:=Fc (ι:=ι) (σ:=σ) (b:=b) (s:=r);simp only[KD];split
  ·rename_i cN;rw[Ap,Ap];by_cases e:b'=b
   ·subst e;simp[cN]
   ·simp only[e,ZF];exact ih
  ·rename_i c cN;rw[Ap];by_cases e:b'=b
   ·subst e;rw[ih];simp[cN]
   ·simp only[e,ZF];exact ih
end Go.Am
namespace Go.Am
section
variable {w w':World} {g g1:G} {σ σ2:St} {ι ω:List (Nat×Nat)}
def G.sub (g:G) (ι ω:List (Nat×Nat)) (σ0:St):G where
 β:=λc=>match look ω c with
  |some b=>if look ι b=some c then g.β b else none
  |none=>none
 own:=λaA=>(∃b c,look ι b=some c/\g.β b=some (some aA))\/ ∃c L e,look σ0 c=some (.rights L)/\(aA,e)∈L
 oth:=λaA o=>g.M aA o/\ ¬((∃b c,look ι b=some c/\g.β b=some (some aA))\/ ∃c L e,look σ0 c=some (.rights L)/\(aA,e)∈L)
 sp:=g.sp
 bx:=λc=>c % 2=1/\ ∃cs,look σ0 c=some (.cells cs)
open Classical in
noncomputable def G.back (g g0 g1:G) (ω:List (Nat×Nat)):G where
 β:=λb=>if h: ∃c,look ω c=some b then g1.β h.choose else g.β b
 own:=λaA=>g1.own aA\/(g.own aA/\ ¬g0.own aA)
 oth:=g.oth
 sp:=λaA=>if g1.own aA then g1.sp aA else g.sp aA
 bx:=g.bx
 lo:=g.lo
theorem NV (hi:Inv w g σ) {b aA:Nat} (h:g.β b=some (some aA)):g.own aA:=by
 have hd:=hi.dom b;rw[h]at hd;obtain⟨B,hB⟩:=A56.1 (by simpa using hd);have bA:=hi.ok b B hB
 cases B with
 |cells cs=>obtain⟨aX,vs,e,h1,h2,_⟩:=bA;rw[h]at h1;cases h1;exact h2
 |grow sz es=>
  obtain⟨_,hh⟩:=bA;rcases hh with⟨h1,_⟩|⟨aX,vs,e,h1,h2,_⟩
  ·rw[h]at h1;cases h1
  ·rw[h]at h1;cases h1;exact h2
 |rights L=>have h1:g.β b=some none:=bA;rw[h1]at h;cases h
 |loop l st pe ps asg bd n env=>obtain⟨r,h1,h2,_⟩:=bA;rw[h]at h1;cases h1;exact h2
 |mp ks xs=>obtain⟨aX,es,clk,h1,h2,_⟩:=bA;rw[h]at h1;cases h1;exact h2
theorem Ass (hR:RenOk ι ω σ σ2) {σ0:St} {b c:Nat} {p:Option Nat} (h1:look ι b=some c) (h2:g.β b=some p):(g.sub ι ω σ0).β c=some p:=by
 simp only[G.sub,(hR.io b c h1).1,h1,Xs,h2]
theorem Eh (hR:RenOk ι ω σ σ2) {c:Nat} {L:List (Nat×Nat×Nat)} (h:look (De ι σ ι) c=some (.rights L)): ∃b,look ι b=some c/\look σ b=some (.rights L):=by
 obtain⟨b,B0,h1,h2,h3⟩:=FP h;refine⟨b,hR.mem _ _ h1,?_⟩;rw[h2];cases B0<;>simp[Mj]at h3
 rw[h3]
theorem JQ (hi:Inv w g σ) (hR:RenOk ι ω σ σ2) {aA:Nat} (h:(g.sub ι ω (De ι σ ι)).own aA):g.own aA:=by
 rcases h with⟨b,c,_,h2⟩|⟨c,L,e,h1,h2⟩
 ·exact NV hi h2
 ·obtain⟨b,_,h3⟩:=Eh hR h1;exact((hi.sx.ok b L h3).2 _ h2).1
theorem Azn (hi:Inv w g σ) (hR:RenOk ι ω σ σ2) (aA o:Nat):(g.sub ι ω (De ι σ ι)).M aA o↔g.M aA o:=by
 constructor
 ·rintro(h|h)
  ·exact .inl ⟨JQ hi hR h.1,h.2⟩
  ·exact h.1
 ·intro h;by_cases ho:(g.sub ι ω (De ι σ ι)).own aA
  ·rcases h with h|h
   ·exact .inl ⟨ho,h.2⟩
   ·exact absurd h (hi.dis _ _ (JQ hi hR ho))
  ·exact .inr ⟨h,ho⟩
theorem Agr (hR:RenOk ι ω σ σ2) {b c:Nat} {B:Blk} (h1:look ι b=some c) (h2:look σ b=some B):look (De ι σ ι) c=some (Mj (look ι) B):=by
 obtain⟨B1,vJ⟩:=A56.1 (MK (ι:=ι) (by rw[h2];rfl) (Hj h1));obtain⟨b',B0,k1,k2,k3⟩:=FP vJ;have h3:=(hR.io b c h1).1;have h4:=(hR.io b' c (hR.mem _ _ k1)).1;rw[h3]at h4;cases h4;rw[h2]at k2;cases k2;rw[vJ,k3]
theorem V1 (hi:Inv w g σ) (hR:RenOk ι ω σ σ2):Inv w (g.sub ι ω (De ι σ ι)) (De ι σ ι)/\ ∀v x,Rel w g v x->Rel w (g.sub ι ω (De ι σ ι)) v (Dn (look ι) x):=by
 have hk:Jh w g.M w (g.sub ι ω (De ι σ ι)).M:=λb o v h1 h2=>⟨λh=>h1 ((Azn hi hR b o).1 h),h2⟩
 have hr: ∀v x,Rel w g v x->Rel w (g.sub ι ω (De ι σ ι)) v (Dn (look ι) x):=λv x h=>h.ren (look ι) hk (λ_ _ h=>h) (λc b p h1 h2=>Ass hR h1 h2)
 refine⟨⟨λc B hB=>?_,λc=>?_,λc c' aA h1 h2=>?_,λaA h=>(by
   rcases h with h|⟨o,h⟩
   ·exact hi.lt aA (.inl (JQ hi hR h))
   ·rcases h.1 with h|h
    ·exact hi.lt aA (.inl h.1)
    ·exact hi.lt aA (.inr ⟨o,h⟩)),λc h=>h,λaA o h1 h2=>h2.2 h1,hi.im_of hk,A5t _,⟨hi.sx.lt,λc aA h=>?_,λc c' L L' aA e e' h1 h2 h3 h4=>?_,λc L hL=>?_⟩⟩,hr⟩
 ·obtain⟨b,B0,h1,h2,rfl⟩:=FP hB;have h1:=hR.mem _ _ h1;exact Fh.ren (look ι) hk hr (λp hp=>Ass hR h1 hp) (λaA hb ho=>⟨.inl ⟨b,c,h1,hb⟩,Y⟩) (hi.ok b B0 h2)
 ·simp only[G.sub]
  cases ho:look ω c with
  |none=>
   cases hl:look (De ι σ ι) c with
   |none=>simp
   |some B=>
    obtain⟨b,B0,h1,_⟩:=FP hl;rw[(hR.io b c (hR.mem _ _ h1)).1]at ho;cases ho
  |some b=>
   by_cases hb:look ι b=some c
   ·simp only[hb,Xs];obtain⟨_,h2,_⟩:=hR.io b c hb;rw[MK h2 (Hj hb),<-hi.dom b,h2]
   ·simp only[hb,ZF]
    cases hl:look (De ι σ ι) c with
    |none=>simp
    |some B=>
     obtain⟨b',B0,h1,_⟩:=FP hl;have h1:=hR.mem _ _ h1;have:=(hR.io b' c h1).1;rw[ho]at this;cases this;exact absurd h1 hb
 ·simp only[G.sub]at h1 h2;split at h1
  ·rename_i b hb;split at h1
   ·rename_i e1;split at h2
    ·rename_i b' cN;split at h2
     ·rename_i e2;have:=hi.inj _ _ _ h1 h2;subst this;rw[e1]at e2;cases e2;rfl
     ·cases h2
    ·cases h2
   ·cases h1
  ·cases h1
 ·simp only[G.sub]at h;split at h
  ·split at h
   ·exact hi.sx.bs _ _ h
   ·cases h
  ·cases h
 ·obtain⟨b,k1,k2⟩:=Eh hR h1;obtain⟨b',k3,k4⟩:=Eh hR h2;have:=hi.sx.one _ _ _ _ _ _ _ k2 k4 h3 h4;subst this;rw[k1]at k3;cases k3;rfl
 ·obtain⟨b,k1,k2⟩:=Eh hR hL;obtain⟨q1,q2⟩:=hi.sx.ok b L k2;exact⟨q1,λp hp=>⟨.inr ⟨c,L,p.2,hL,hp⟩,(q2 p hp).2⟩⟩
theorem GW {g0:G} (hR:RenOk ι ω σ σ2) {b c:Nat} (h:look ω c=some b):(g.back g0 g1 ω).β b=g1.β c:=by
 have eL: ∃c,look ω c=some b:=⟨c,h⟩
 simp only[G.back,eL,dite_true];rw[hR.inj _ _ _ eL.choose_spec h]
theorem Gz {g0:G} {b:Nat} (h: ∀c,look ω c≠some b):(g.back g0 g1 ω).β b=g.β b:=by
 have eL: ¬ ∃c,look ω c=some b:=λ⟨c,hc⟩=>h c hc;simp only[G.back,eL,dite_false]
theorem Ng (hi:Inv w g σ) (hR:RenOk ι ω σ σ2) (hx:Ext w (g.sub ι ω (De ι σ ι)) w' g1) (fK:Inv w' g1 σ2):
  ∃g',Ext w g w' g'/\Inv w' g' (Ll ω σ2++KD ι σ σ)/\(∀v x,Rel w' g1 v x->Rel w' g' v (Dn (look ω) x))/\(∀v x,Rel w g v x->Rel w' g' v (Dn (G3 ι σ) x)):=by
 have gM: ∀aA,g.own aA-> ¬(g.sub ι ω (De ι σ ι)).own aA-> ¬g1.own aA:=λaA h1 h2 h3=>h2 (hx.own aA (hi.lt aA (.inl h1)) h3)
 have hM: ∀aA o,(g.back (g.sub ι ω (De ι σ ι)) g1 ω).M aA o↔g1.M aA o:=by
  intro aA o;have ho:=hx.oth aA o;constructor
  ·rintro(⟨h|⟨h1,h2⟩,hs⟩|h)
   ·refine .inl ⟨h,λe he=>hs e ?_⟩;simp only[G.back,h,Xs];exact he
   ·refine .inr (ho.2 ⟨.inl ⟨h1,λe he=>hs e ?_⟩,h2⟩);simp only[G.back,gM aA h1 h2,ZF];exact he
   ·exact .inr (ho.2 ⟨.inr h,λhc=>hi.dis _ _ (JQ hi hR hc) h⟩)
  ·rintro(⟨h,hs⟩|h)
   ·refine .inl ⟨.inl h,λe he=>hs e ?_⟩;simp only[G.back,h,Xs]at he;exact he
   ·obtain⟨h1,h2⟩:=ho.1 h;rcases h1 with⟨h1,hs⟩|h1
    ·refine .inl ⟨.inr ⟨h1,h2⟩,λe he=>hs e ?_⟩;simp only[G.back,gM aA h1 h2,ZF]at he;exact he
    ·exact .inr h1
 have jV: ∀b c cs,look ι b=some c->look σ b=some (.cells cs)->g1.bx c/\g1.β c=g.β b:=by
  intro b c cs h1 h2;obtain⟨k1,_,k3⟩:=hR.io b c h1;obtain⟨q1,q2⟩:=hx.bx c ⟨k3,_,Agr hR h1 h2⟩;refine⟨q1,?_⟩;rw[q2];simp only[G.sub,k1,h1,Xs]
 have aG:Ext w g w' (g.back (g.sub ι ω (De ι σ ι)) g1 ω):=by
  refine⟨hx.size,λaA hb ho=>hx.keep aA hb (λhc=>ho (JQ hi hR hc)),λaA hb ho=>?_,λ_ _=>A6h,hx.shape,λb hb=>⟨hb,?_⟩,⟨Y,hx.lo.2⟩,λaA e hb ho he=>?_⟩
  ·rcases ho with ho|ho
   ·exact JQ hi hR (hx.own aA hb ho)
   ·exact ho.1
  ·obtain⟨_,cs,h2⟩:=hi.bx b hb;by_cases eL: ∃c,look ω c=some b
   ·obtain⟨c,hc⟩:=eL;rw[GW hR hc];rcases hR.oi c b hc with h|⟨_,h⟩
    ·exact(jV b c cs h h2).2
    ·rw[h2]at h;cases h
   ·exact Gz λc hc=>eL ⟨c,hc⟩
  ·by_cases h0:(g.sub ι ω (De ι σ ι)).own aA
   ·obtain⟨a1,a2⟩:=hx.sp aA e hb h0 he;refine⟨a1,λh=>?_⟩;rcases h with h|h
    ·obtain⟨e',k1,k2⟩:=a2 h;exact⟨e',by simp only[G.back,h,Xs];exact k1,k2⟩
    ·exact absurd h0 h.2
   ·refine⟨λo _=>Ch (hx.keep aA hb h0) o none,λ_=>⟨e,?_,WW _⟩⟩;simp only[G.back,gM aA ho h0,ZF];exact he
 have pK:Jh w' g1.M w' (g.back (g.sub ι ω (De ι σ ι)) g1 ω).M:=λb o v h1 h2=>⟨λh=>h1 ((hM b o).1 h),h2⟩
 have oR: ∀v x,Rel w' g1 v x->Rel w' (g.back (g.sub ι ω (De ι σ ι)) g1 ω) v (Dn (look ω) x):=λv x h=>
  h.ren (look ω) pK (λ_ _ h=>h) (λc b p h1 h2=>by rw[GW hR h1];exact h2)
 have lW: ∀v x,Rel w g v x->Rel w' (g.back (g.sub ι ω (De ι σ ι)) g1 ω) v (Dn (G3 ι σ) x):=λv x h=>
  h.ren (G3 ι σ) aG.keeps hx.shape (λb1 b2 p h1 h2=>by
   unfold G3 at h1;split at h1
   ·rename_i hn;cases h1;rw[Gz]
    ·exact h2
    ·intro c hc;rcases hR.oi c b1 hc with h|⟨_,h⟩
     ·rw[hn]at h;cases h
     ·have:=hi.dom b1;rw[h,h2]at this;cases this
   ·rename_i c hc;split at h1
    ·rename_i cs bZ;cases h1;rw[GW hR (hR.io b1 c hc).1,(jV b1 c cs hc bZ).2];exact h2
    ·cases h1)
 refine⟨_,aG,⟨λb B hB=>?_,λb=>?_,λb b' aA h1 h2=>?_,λaA h=>?_,λb hb=>?_,λaA o h1 h2=>?_,hi.im_of aG.keeps,(A47 hi.lo aG.size),?_⟩,oR,lW⟩
 ·rw[DA]at hB;by_cases eL: ∃c,look ω c=some b
  ·obtain⟨c,hc⟩:=eL;rw[(Fp hR.inj).1 c hc,Fc]at hB
   have cH:(if look ι b=none then(look σ b).map (Mj (G3 ι σ))else none)=none:=by
    rcases hR.oi c b hc with h|⟨h1,h2⟩
    ·simp[h]
    ·simp[h1,h2]
   rw[cH,Option.or_none]at hB
   cases hl:look σ2 c with
   |none=>simp[hl]at hB
   |some B2=>
    simp[hl]at hB;subst hB;exact Fh.ren (look ω) pK oR (λp hp=>by rw[GW hR hc];exact hp) (λaA _ ho=>⟨.inl ho,Y⟩) (fK.ok c B2 hl)
  ·have hn: ∀c,look ω c≠some b:=λc hc=>eL ⟨c,hc⟩;rw[(Fp hR.inj).2 hn,Fc,Option.none_or]at hB;split at hB
   ·rename_i hnι
    cases hl:look σ b with
    |none=>simp[hl]at hB
    |some B0=>
     simp[hl]at hB;subst hB;refine Fh.ren (G3 ι σ) aG.keeps lW (λp hp=>by rw[Gz hn];exact hp) (λaA hb ho=>?_) (hi.ok b B0 hl)
     have cH: ¬(g.sub ι ω (De ι σ ι)).own aA:=by
      rintro(⟨b2,c2,q1,q2⟩|⟨c2,L,e,q1,q2⟩)
      ·have:=hi.inj _ _ _ hb q2;subst this;rw[hnι]at q1;cases q1
      ·obtain⟨b2,_,k2⟩:=Eh hR q1;have h1:=((hi.sx.ok b2 L k2).2 _ q2).2.1;rw[hi.sx.bs _ _ hb]at h1;cases h1
     exact⟨.inr ⟨ho,cH⟩,hx.keep aA (hi.lt aA (.inl ho)) cH⟩
   ·cases hB
 ·rw[DA];by_cases eL: ∃c,look ω c=some b
  ·obtain⟨c,hc⟩:=eL;rw[(Fp hR.inj).1 c hc,Fc,GW hR hc,<-fK.dom c]
   have cH:(if look ι b=none then(look σ b).map (Mj (G3 ι σ))else none)=none:=by
    rcases hR.oi c b hc with h|⟨h1,h2⟩
    ·simp[h]
    ·simp[h1,h2]
   rw[cH];cases look σ2 c<;>rfl
  ·have hn: ∀c,look ω c≠some b:=λc hc=>eL ⟨c,hc⟩;rw[(Fp hR.inj).2 hn,Fc,Gz hn,<-hi.dom b]
   have:look ι b=none:=by
    cases hl:look ι b with
    |none=>rfl
    |some c=>exact absurd (hR.io b c hl).1 (hn c)
   simp only[this,Xs];cases look σ b<;>rfl
 ·have mixed: ∀b b' c,look ω c=some b->(∀c,look ω c≠some b')->g1.β c=some (some aA)->g.β b'=some (some aA)->False:=by
   intro b b' c q1 q2 q3 q4;have ho:=NV hi q4;rcases hx.own aA (hi.lt aA (.inl ho)) (NV fK q3)with⟨b2,c2,k1,k2⟩|⟨c2,L,e,k1,k2⟩
   ·have:=hi.inj _ _ _ q4 k2;subst this;exact q2 c2 (hR.io _ _ k1).1
   ·obtain⟨b2,_,k3⟩:=Eh hR k1;have h1:=((hi.sx.ok b2 L k3).2 _ k2).2.1;rw[hi.sx.bs _ _ q4]at h1;cases h1
  by_cases hb: ∃c,look ω c=some b<;>by_cases cN: ∃c,look ω c=some b'
  ·obtain⟨c,hc⟩:=hb;obtain⟨c',e7⟩:=cN;rw[GW hR hc]at h1;rw[GW hR e7]at h2;have:=fK.inj _ _ _ h1 h2;subst this;rw[hc]at e7;cases e7;rfl
  ·obtain⟨c,hc⟩:=hb;rw[GW hR hc]at h1;rw[Gz λc hc=>cN ⟨c,hc⟩]at h2;exact(mixed b b' c hc (λc hc=>cN ⟨c,hc⟩) h1 h2).elim
  ·obtain⟨c,hc⟩:=cN;rw[GW hR hc]at h2;rw[Gz λc hc=>hb ⟨c,hc⟩]at h1;exact(mixed b' b c hc (λc hc=>hb ⟨c,hc⟩) h2 h1).elim
  ·rw[Gz λc hc=>hb ⟨c,hc⟩]at h1;rw[Gz λc hc=>cN ⟨c,hc⟩]at h2;exact hi.inj _ _ _ h1 h2
 ·rcases h with(h|h)|⟨o,h⟩
  ·exact fK.lt aA (.inl h)
  ·exact A4y (hi.lt aA (.inl h.1)) aG.size
  ·exact A4y (hi.lt aA (.inr ⟨o,h⟩)) aG.size
 ·obtain⟨h1,cs,h2⟩:=hi.bx b hb;refine⟨h1,?_⟩;rw[DA];by_cases eL: ∃c,look ω c=some b
  ·obtain⟨c,hc⟩:=eL;rcases hR.oi c b hc with h|⟨_,h⟩
   ·obtain⟨_,cs2,q⟩:=fK.bx c (jV b c cs h h2).1;rw[(Fp hR.inj).1 c hc,q];exact⟨_,Y⟩
   ·rw[h2]at h;cases h
  ·have hn: ∀c,look ω c≠some b:=λc hc=>eL ⟨c,hc⟩
   have:look ι b=none:=by
    cases hl:look ι b with
    |none=>rfl
    |some c=>exact absurd (hR.io b c hl).1 (hn c)
   rw[(Fp hR.inj).2 hn,Fc,h2];simp only[this,Xs];exact⟨_,Y⟩
 ·rcases h1 with h1|h1
  ·refine fK.dis aA o h1 ((hx.oth aA o).2 ⟨.inr h2,λhc=>hi.dis _ _ (JQ hi hR hc) h2⟩)
  ·exact hi.dis aA o h1.1 h2
 ·have old: ∀b L,(∀c,look ω c≠some b)->look σ b=some (.rights L)-> ∀p∈L,¬(g.sub ι ω (De ι σ ι)).own p.1:=by
   rintro b L hn hL p hp (⟨b2,c2,k1,k2⟩|⟨c2,L2,e,k1,k2⟩)
   ·have h1:=((hi.sx.ok b L hL).2 _ hp).2.1;rw[hi.sx.bs _ _ k2]at h1;cases h1
   ·obtain⟨b2,k3,k4⟩:=Eh hR k1;have:=hi.sx.one _ _ _ _ _ _ _ hL k4 (show(p.1,p.2)∈L from hp) k2;subst this;exact hn c2 (hR.io _ _ k3).1
  have cases2: ∀b L,look (Ll ω σ2++KD ι σ σ) b=some (.rights L)->(∃c,look ω c=some b/\look σ2 c=some (.rights L))\/((∀c,look ω c≠some b)/\look σ b=some (.rights L)):=by
   intro b L hL;rw[DA]at hL;by_cases eL: ∃c,look ω c=some b
   ·obtain⟨c,hc⟩:=eL;refine .inl ⟨c,hc,?_⟩;rw[(Fp hR.inj).1 c hc,Fc]at hL
    have cH:(if look ι b=none then(look σ b).map (Mj (G3 ι σ))else none)=none:=by
     rcases hR.oi c b hc with h|⟨h1,h2⟩
     ·simp[h]
     ·simp[h1,h2]
    rw[cH,Option.or_none]at hL
    cases hl:look σ2 c with
    |none=>simp[hl]at hL
    |some B2=>
     simp[hl]at hL;cases B2<;>simp[Mj]at hL
     rw[hL]
   ·have hn: ∀c,look ω c≠some b:=λc hc=>eL ⟨c,hc⟩;refine .inr ⟨hn,?_⟩;rw[(Fp hR.inj).2 hn,Fc,Option.none_or]at hL;split at hL
    ·cases hl:look σ b with
     |none=>simp[hl]at hL
     |some B0=>
      simp[hl]at hL;cases B0<;>simp[Mj]at hL
      rw[hL]
    ·cases hL
  refine⟨λaA e h=>?_,λb aA h=>?_,λb b' L L' aA e e' h1 h2 h3 h4=>?_,λb L hL=>?_⟩
  ·simp only[G.back]at h;split at h
   ·exact fK.sx.lt aA e h
   ·exact A4y (hi.sx.lt aA e h) aG.size
  ·by_cases eL: ∃c,look ω c=some b
   ·obtain⟨c,hc⟩:=eL;rw[GW hR hc]at h;simp only[G.back,NV fK h,Xs];exact fK.sx.bs c aA h
   ·have hn: ∀c,look ω c≠some b:=λc hc=>eL ⟨c,hc⟩;rw[Gz hn]at h
    have cH: ¬g1.own aA:=by
     intro h3;rcases hx.own aA (hi.lt aA (.inl (NV hi h))) h3 with⟨b2,c2,k1,k2⟩|⟨c2,L,e,k1,k2⟩
     ·have:=hi.inj _ _ _ h k2;subst this;exact hn c2 (hR.io _ _ k1).1
     ·obtain⟨b2,_,k3⟩:=Eh hR k1;have h1:=((hi.sx.ok b2 L k3).2 _ k2).2.1;rw[hi.sx.bs _ _ h]at h1;cases h1
    simp only[G.back,cH,ZF];exact hi.sx.bs b aA h
  ·have apart: ∀b b' c L L' e e',look ω c=some b->look σ2 c=some (.rights L)->(∀c,look ω c≠some b')->look σ b'=some (.rights L')->(aA,e)∈L->(aA,e')∈L'->False:=by
    intro b b' c L L' e e' q1 q2 q3 q4 q5 q6;have h1:=((fK.sx.ok c L q2).2 _ q5).1
    have h2:=((hi.sx.ok b' L' q4).2 _ q6)
    exact gM aA h2.1 (old b' L' q3 q4 _ q6) h1
   rcases cases2 b L h1 with⟨c,k1,k2⟩|⟨k1,k2⟩<;>rcases cases2 b' L' h2 with⟨c',k3,k4⟩|⟨k3,k4⟩
   ·have:=fK.sx.one _ _ _ _ _ _ _ k2 k4 h3 h4;subst this;rw[k1]at k3;cases k3;rfl
   ·exact(apart b b' c L L' _ _ k1 k2 k3 k4 h3 h4).elim
   ·exact(apart b' b c' L' L _ _ k3 k4 k1 k2 h4 h3).elim
   ·exact hi.sx.one _ _ _ _ _ _ _ k2 k4 h3 h4
  ·rcases cases2 b L hL with⟨c,k1,k2⟩|⟨k1,k2⟩
   ·obtain⟨q1,q2⟩:=fK.sx.ok c L k2;refine⟨q1,λp hp=>?_⟩;obtain⟨r1,r2,r3⟩:=q2 p hp;exact⟨.inl r1,by simp only[G.back,r1,Xs];exact r2,r3⟩
   ·obtain⟨q1,q2⟩:=hi.sx.ok b L k2;refine⟨q1,λp hp=>?_⟩;obtain⟨r1,r2,vs,ty,r3,r4⟩:=q2 p hp;have cH:=old b L k1 k2 p hp;have sC:=gM p.1 r1 cH;exact⟨.inr ⟨r1,cH⟩,by simp only[G.back,sC,ZF];exact r2,vs,ty,by rw[hx.keep p.1 (hi.lt p.1 (.inl r1)) cH];exact r3,r4⟩
end
section
variable {P:Program} {c:Conf} {n:Nat} {ops:Array Oper} {aD:List Oper} {env:A2} {σ:St} {o:Oper} {k:A2->St->Prop}
theorem Ew (aY:ProgOk P c) (ι ω:List (Nat×Nat)) {cl:Call} {f:Nat} {as as0:List AV} {e e2:A2} {σ0 σ2 s:St} {r x:AV} (hg:o.guard=none) (ho:o.op=.call cl) (hc:DG c env cl=some (f,as)) (ha:Gq (look ι) as=as0) (n5:De ι σ ι=σ0)
  (iF:Ct P f as0 σ0 r σ2) (hR:Ze ι ω σ σ2=true) (hx:Dn (look ω) r=x) (he:T3 (G3 ι σ) env=e) (hs:Ll ω σ2++KD ι σ σ=s) (hp:BM n o.dst x e=some e2) (h:A6 P n ops aD e2 s k):
  A6 P n ops (o::aD) env σ k:=by
 subst ha;subst n5;subst hx;subst he;subst hs;simp only[A6,Bt,hg];intro w g a hi bS;obtain⟨⟨fn,hf,hb⟩,hca⟩:=iF;obtain⟨vs,aM,aJ⟩:=Dc aY bS hc ho hf hb;have hR:=QY hR;obtain⟨i1,i2⟩:=V1 hi hR;refine BN.enter aM ((hca vs w _ (aJ.ren (look ι) i2) i1).mono ?_);rintro ed w' ⟨v,g1,rfl,q1,q2,q3⟩;obtain⟨g',k1,k2,k3,k4⟩:=Ng hi hR q1 q3;refine⟨v,Y,_,_,_,⟨g',k1,k3 v r q2,k2,λt x hx=>?_⟩,e2,hp,h⟩;rw[NS]at hx
 cases hl:look env t with
 |none=>simp[hl]at hx
 |some y=>simp[hl]at hx;subst hx;exact k4 _ _ (bS t y hl)
end
end Go.Am
namespace Go.Am
section
variable {P:Program} {c:Conf} {n:Nat} {ops:Array Oper} {aD:List Oper} {env:A2} {σ:St} {o:Oper} {k:A2->St->Prop}
theorem Ai7 (aY:ProgOk P c) {cl:Call} {so xo:Operand} {t e d s0 b0 sz0 sz:Nat} {z0:List T} {bN bO:Nat} {ez:List T} {ek:TK} {es0 news:List (List T)} {m:SM} {x:AV} {e1 e2:A2} {s:St} (hg:o.guard=none) (ho:o.op=.call cl) (bR:cl.callee=.builtin .append) (ha:cl.args.toList=[so,xo])
  (eG:cl.argTypes.toList=[t,t]) (hd:o.dst=some d) (hs:ev env so=some (.t (.slice .nil sz0 es0))) (hx:ev env xo=some (.t (.slice m sz news))) (ht:look c.te t=some ⟨s0,b0,z0,.slice e⟩) (he:look c.te e=some ⟨bN,bO,ez,ek⟩) (aN:bN=sz)
  (hf:E1 (2*d) env σ (λenv σ=>some (AV.row (2*d) bN 0 news.length,env,(2*d,Blk.grow bN news)::σ))=some (x,e1,s)) (hp:BM n o.dst x e1=some e2)
  (bW:news.length*(bO+1)<=140737488355328) (h:A6 P n ops aD e2 s k):A6 P n ops (o::aD) env σ k:=by
 refine DQ aY (x:=x) (e:=e1) (s:=s) hg ?_ hp h;unfold ES;rw[ho];simp only[bR,Gp,ho,ha,eG,hs,hx,hd,Ia,ht,he,Jb,aN,Xs,bW];rw[<-aN];exact hf
theorem WH (aY:ProgOk P c) {cl:Call} {so xo:Operand} {t e d s0 b0 b len sz:Nat} {z0:List T} {bN bO:Nat} {ez:List T} {ek:TK} {es news:List (List T)} {m:SM} {e2:A2} (hg:o.guard=none) (ho:o.op=.call cl) (bR:cl.callee=.builtin .append) (ha:cl.args.toList=[so,xo])
  (eG:cl.argTypes.toList=[t,t]) (hd:o.dst=some d) (hs:ev env so=some (.row b sz 0 len)) (hx:ev env xo=some (.t (.slice m sz news))) (ht:look c.te t=some ⟨s0,b0,z0,.slice e⟩) (he:look c.te e=some ⟨bN,bO,ez,ek⟩) (aN:bN=sz)
  (hb:look σ b=some (.grow sz es)) (aO:len=es.length) (hp:BM n o.dst (.row b sz 0 (es++news).length) (Gv b env)=some e2)
  (bW:(es++news).length*(bO+1)<=140737488355328) (h:A6 P n ops aD e2 ((b,.grow sz (es++news))::CX b σ) k):A6 P n ops (o::aD) env σ k:=by
 refine DQ aY (x:=.row b sz 0 (es++news).length) (e:=Gv b env) (s:=(b,.grow sz (es++news))::CX b σ) hg ?_ hp h;have eY:(es.length+news.length)*(bO+1)<=140737488355328:=by simpa using bW
 subst aO;unfold ES;rw[ho];simp only[bR,Gp,ho,ha,eG,hs,hx,hd,Ia,ht,he,Jb,aN,Xs,hb,WW,eY,A5o,Xp]
theorem TU (aY:ProgOk P c) {cl:Call} {so xo:Operand} {t e d s0 b0 sz:Nat} {z0:List T} {bN bO:Nat} {ez:List T} {ek:TK} {es news:List (List T)} {m:SM} {e2:A2} (hg:o.guard=none) (ho:o.op=.call cl) (bR:cl.callee=.builtin .append) (ha:cl.args.toList=[so,xo])
  (eG:cl.argTypes.toList=[t,t]) (hd:o.dst=some d) (hs:ev env so=some (.t (.slice .full (sz+1) es))) (hx:ev env xo=some (.t (.slice m (sz+1) news))) (ht:look c.te t=some ⟨s0,b0,z0,.slice e⟩) (he:look c.te e=some ⟨bN,bO,ez,ek⟩) (aN:bN=sz+1)
  (hp:BM n o.dst (.t (.slice .any (sz+1) (es++news))) env=some e2)
  (bW:(es++news).length*(bO+1)<=140737488355328) (h:A6 P n ops aD e2 σ k):A6 P n ops (o::aD) env σ k:=by
 refine DQ aY (x:=.t (.slice .any (sz+1) (es++news))) (e:=env) (s:=σ) hg ?_ hp h;have eY:(es.length+news.length)*(bO+1)<=140737488355328:=by simpa using bW
 unfold ES;rw[ho];simp only[bR,Gp,ho,ha,eG,hs,hx,hd,Ia,ht,he,Jb,aN,Xs,eY]
theorem Ats (aY:ProgOk P c) {t yt:Nat} {xo yo:Operand} {a b:List UInt8} {e2:A2} (hg:o.guard=none) (ho:o.op=.binOp .add t xo yo yt) (hx:ev env xo=some (.t (.str a))) (hy:ev env yo=some (.t (.str b)))
  (hp:BM n o.dst (.t (.str (a++b))) env=some e2) (hl:a.length+b.length<9223372036854775808) (h:A6 P n ops aD e2 σ k):A6 P n ops (o::aD) env σ k:=by
 refine DQ aY (x:=.t (.str (a++b))) (e:=env) (s:=σ) hg ?_ hp h;unfold ES;rw[ho];simp only[Cj,hx,hy,Zm,An0,SW,hl,Xs]
end
theorem A3n {P:Program} {n:Nat} {env:A2} {σ:St} {K:Exit->A2->St->Prop} {code:Code} (t lab sz:Nat) {sz0:Nat} {es0:List (List T)} (hl:look env t=some (.t (.slice .nil sz0 es0))) (gP:look σ (2*lab)=none) (h:Tr P n code ((t,.row (2*lab) sz 0 0)::env) ((2*lab,.grow sz [])::σ) K):Tr P n code env σ K:=by
 intro F hF bP w g a hg;obtain⟨k1,k2,k3⟩:=NM (sz:=sz) hg.inv gP
 have hv:a.tmps.getD t undef=.slice none 0 0:=by
  rcases C5 (Av (hg.env t _ hl))with⟨h1,_⟩|⟨_,_,_,_,_,_,h1,_⟩|⟨_,_,_,h1⟩
  ·exact h1
  ·exact absurd Y h1
  ·exact absurd Y h1
 refine A5d (h F hF bP w _ a ⟨λt' x hx=>?_,k2,hg.defers.ext k1,hg.size⟩) λex a2 w2 hq=>hq.lift k1;rw[Ap]at hx;split at hx
 ·rename_i e;subst e;cases hx;rw[hv];exact .rowNil _ _ none Ac (by simp[G.with])
 ·exact k3 _ _ (hg.env t' x hx)
def Fv:List AV->List AV->Prop
 |[],[]=>True
 |x::r,y::s=>Aq x y/\Fv r s
 |_,_=>False
theorem Fv.len: ∀{l m:List AV},Fv l m->l.length=m.length
 |[],[],_=>rfl
 |x::r,y::s,h=>by simp[Fv.len h.2]
 |[],y::s,h=>h.elim
 |x::r,[],h=>h.elim
theorem Fv.get: ∀{l m:List AV},Fv l m-> ∀(i:Nat) y,m[i]?=some y-> ∃x,l[i]?=some x/\Aq x y
 |[],[],_,i,y,h=>by simp at h
 |x::r,z::s,h,0,y,hy=>by simp at hy;subst hy;exact⟨x,Ac,h.1⟩
 |x::r,z::s,h,i+1,y,hy=>by simp at hy;simpa using Fv.get h.2 i y hy
 |[],y::s,h,_,_,_=>h.elim
 |x::r,[],h,_,_,_=>h.elim
theorem A3o: ∀l:List AV,Fv l l
 |[]=>trivial
 |x::r=>⟨A3l x,A3o r⟩
theorem Fv.rel {w:World} {g:G} {vs:List Value} {l m:List AV} (h:Fv l m) (hr:BB w g vs l):BB w g vs m:=
 ⟨by rw[hr.1,h.len],λi v y hv hy=>by obtain⟨x,h1,h2⟩:=h.get i y hy;exact h2 _ _ _ (hr.2 i v x hv h1)⟩
theorem Ct.args {P:Program} {f:Nat} {as as0:List AV} {σ σ':St} {r:AV} (h:Ct P f as0 σ r σ') (hs:Fv as as0):Ct P f as σ r σ':=
 ⟨h.1,λvs w g hr hi=>h.2 vs w g (hs.rel hr) hi⟩
def Ask:Blk->Blk->Prop
 |.cells a,.cells b=>Fv a b
 |B,C=>B=C
theorem M7 {B C:Blk} (h:Ask B C):(∃a b,B=.cells a/\C=.cells b/\Fv a b)\/B=C:=by
 cases B<;>cases C<;>simp only[Ask]at h<;>first|exact .inr h|exact .inl ⟨_,_,Y,Y,h⟩
def TP:St->St->Prop
 |[],[]=>True
 |(b,B)::r,(c,C)::s=>(b=c/\Ask B C)/\TP r s
 |_,_=>False
theorem TP.inv {w:World} {g:G} {σ σ':St} (h:TP σ σ') (hi:Inv w g σ):Inv w g σ':=by
 have key: ∀{σ σ':St},TP σ σ'-> ∀b,(look σ' b=none/\look σ b=none)\/ ∃B C,look σ b=some B/\look σ' b=some C/\Ask B C:=by
  intro σ
  induction σ with
  |nil=>intro σ' h b;cases σ' with
   |nil=>exact .inl ⟨Y,Y⟩
   |cons p r=>exact h.elim
  |cons p r ih=>
   intro σ' h b
   cases σ' with
   |nil=>exact h.elim
   |cons q s=>
    obtain⟨⟨h1,h2⟩,h3⟩:=h;obtain⟨b1,B⟩:=p;obtain⟨c1,C⟩:=q;subst h1;rw[Ap,Ap];by_cases e:b1=b
    ·simp only[e,Xs];exact .inr ⟨B,C,Y,Y,h2⟩
    ·simp only[e,ZF];exact ih h3 b
 refine⟨λb C hC=>?_,λb=>?_,hi.inj,hi.lt,λb hb=>⟨(hi.bx b hb).1,?_⟩,hi.dis,hi.im,hi.lo,hi.sx.mono (WW _) Y (λ_ _ _ h=>h) (λ_ _ _ _ _=>rfl) (λc aA h=>.inl ⟨c,h⟩) (λb L hL=>?_)⟩
 ·rcases key h b with⟨h1,_⟩|⟨B,C',h1,h2,h3⟩
  ·rw[h1]at hC;cases hC
  ·rw[h2]at hC;cases hC;have bA:=hi.ok b B h1;rcases M7 h3 with⟨cs,ds,rfl,rfl,mO⟩|rfl
   ·obtain⟨aA,vs,e,q1,q2,q3,q4,q5⟩:=bA;refine⟨aA,vs,e,q1,q2,q3,by rw[q4,mO.len],λi v x hv hx=>?_⟩;obtain⟨y,k1,k2⟩:=mO.get i x hx;exact k2 _ _ _ (q5 i v y hv k1)
   ·exact bA
 ·rw[<-hi.dom b];rcases key h b with⟨h1,h2⟩|⟨B,C',h1,h2,h3⟩
  ·rw[h1,h2]
  ·rw[h1,h2];rfl
 ·obtain⟨_,cs,bZ⟩:=hi.bx b hb;rcases key h b with⟨h1,h2⟩|⟨B,C',h1,h2,h3⟩
  ·rw[h2]at bZ;cases bZ
  ·rw[h1]at bZ;cases bZ;rcases M7 h3 with⟨_,ds,_,rfl,_⟩|rfl
   ·exact⟨ds,h2⟩
   ·exact⟨cs,h2⟩
 ·rcases key h b with⟨h1,h2⟩|⟨B,C',h1,h2,h3⟩
  ·rw[h1]at hL;cases hL
  ·rw[h2]at hL;cases hL;rcases M7 h3 with⟨_,ds,_,h4,_⟩|rfl
   ·cases h4
   ·exact h1
theorem Ct.weak {P:Program} {f:Nat} {as as0:List AV} {σ σ0 σ':St} {r:AV} (h:Ct P f as0 σ0 r σ') (hs:Fv as as0) (hσ:TP σ σ0):Ct P f as σ r σ':=
 ⟨h.1,λvs w g hr hi=>h.2 vs w g (hs.rel hr) (hσ.inv hi)⟩
theorem CO {P:Program} {c:Conf} {n:Nat} {ops:Array Oper} {aD:List Oper} {env:A2} {σ:St} {o:Oper} {k:A2->St->Prop} (aY:ProgOk P c) {cl:Call} {f:Nat} {as as1 as':List AV} {aV e2:A2} {σ1:St} {r:AV} (hg:o.guard=none) (ho:o.op=.call cl) (hc:DG c env cl=some (f,as))
  (hz:EC σ as env σ=(as1,aV,σ1)) (iF:Ct P f as' [] r []) (hr:r.free=true) (e6:ED as'=true) (hp:BM n o.dst r aV=some e2) (jU:Fv as1 as') (h:A6 P n ops aD e2 σ1 k):
  A6 P n ops (o::aD) env σ k:=by
 simp only[A6,Bt,hg];intro w g a hi bS;obtain⟨⟨fn,hf,hb⟩,hca⟩:=iF;obtain⟨vs,aM,aJ⟩:=Dc aY bS hc ho hf hb;obtain⟨g1,f1,f2,f3,f4⟩:=Df (w:=w) σ hz hi aJ bS;have f3':=jU.rel f3;refine BN.enter aM ((hca vs w g1.pureIn ⟨f3'.1,λi v x hv hx=>?_⟩ (Ka f2)).mono ?_)
 ·exact(f3'.2 i v x hv hx).free (λb o v h1 h2=>⟨λh=>h1 ((O0 b o).1 h),h2⟩) (Ft e6 i x hx)
 ·rintro ed w' ⟨v,g',rfl,h1,h2,h3⟩;refine⟨v,Y,r,aV,σ1,?_,e2,hp,h⟩;have:=Lt (dst:=none) f2 f4 h3 h1 h2 (x:=r) (env':=aV) (σ':=σ1) (by simp[Lu,hr]);exact this.lift f1
theorem Ct.freeze {P:Program} {f:Nat} {as:List AV} {r r':AV} {σ2 s:St} {e:A2} (h:Ct P f as [] r σ2) (hz:EC σ2 [r] [] σ2=([r'],e,s)) (hr:r'.free=true):Ct P f as [] r' []:=by
 refine⟨h.1,λvs w g g6 hi=>(h.2 vs w g g6 hi).mono ?_⟩;rintro ed w' ⟨v,g1,rfl,h1,h2,h3⟩;obtain⟨g2,k1,k2,k3,_⟩:=Df (w:=w') σ2 (a:=⟨#[],[]⟩) hz h3 (vs:=[v]) (A3k h2 BB.nil) (λt x hx=>by simp[look]at hx);have h4:Rel w' g2 v r':=k3.2 0 v r' Y Y;have hx:=h1.trans k1;have gX: ∀b,¬g.bx b:=λb hb=>by obtain⟨_,cs,hc⟩:=hi.bx b hb;simp[look]at hc
 refine⟨v,{β:=λ_=>none,own:=g2.own,oth:=g2.oth,sp:=g2.sp,bx:=λ_=>False,lo:=g.lo},Y,⟨hx.size,hx.keep,hx.own,hx.oth,hx.shape,λb hb=>absurd hb (gX b),⟨Y,hx.lo.2⟩,hx.sp⟩,?_,⟨λb B hB=>?_,λb=>?_,λb b' aA hq=>?_,k2.lt,λb hb=>hb.elim,k2.dis,k2.im,A47 hi.lo hx.size,.empty k2.sx.lt (λ_=>rfl)⟩⟩
 ·exact Rel.free (g:=g2) (g':={β:=λ_=>none,own:=g2.own,oth:=g2.oth,sp:=g2.sp,bx:=λ_=>False,lo:=g.lo}) (λb o v q1 q2=>⟨q1,q2⟩) h4 hr
 ·simp[look]at hB
 ·simp[look]
 ·simp at hq
theorem UG {α:Type} (b:Nat) (x:α) (r:List (Nat×α)):look ((b,x)::r) b=some x:=by rw[Ap];simp
theorem Al8 (b sz:Nat) (es:List (List T)):BG b sz es (.row b sz 0 es.length)=.t (.slice .any sz es):=by simp[BG]
theorem Ct.freeze2 {P:Program} {f:Nat} {as:List AV} {b sz:Nat} {es:List (List T)} {x:T} (h:Ct P f as [] (.tuple [.row b sz 0 es.length,.t x]) [(b,.grow sz es)]):Ct P f as [] (.tuple [.t (.slice .any sz es),.t x]) []:=by
 refine h.freeze (e:=[]) (s:=[]) ?_ Y;simp only[EC,UG,KJ,AV.has,A7a,Bool.true_or,Bool.or_true,F6,IM];simp[BG,F6,Gf]
theorem A3p {P:Program} {f:Nat} {as:List AV} {b sz:Nat} {es:List (List T)} (h:Ct P f as [] (.row b sz 0 es.length) [(b,.grow sz es)]):Ct P f as [] (.t (.slice .any sz es)) []:=by
 refine h.freeze (e:=[]) (s:=[]) ?_ Y;simp only[EC,UG,KJ,AV.has,A7a,Bool.true_or,Bool.or_true,F6,IM];simp[BG,Gf]
def Asl (te:TE) (rs:List ResultVar) (r:AV) (σ':St) (ex:Exit) (e:A2) (s:St):Prop:=
 (ex=.normal\/ex=.ret)/\ ∃r0 s1 D r1,OB te true rs e s=some (r0,s1)/\KG D [(0,r0)]=[(0,r1)]/\HI D s1=σ'/\Aq r1 r
theorem Xf {P:Program} {c:Conf} (hp:ProgOk P c) {f:Nat} {fn:Func} (hf:P.funcs[f]?=some fn) {code:Code} (hb:fn.body=some code) {as:List AV} {r:AV} {σ σ':St} (cJ:Nat.ble as.length fn.ntmps=true)
  (h:Tr P fn.ntmps code (H7 0 as) σ (Asl c.te fn.results.toList r σ')):Ct P f as σ r σ':=by
 refine⟨⟨fn,hf,by simp[hb]⟩,?_⟩;intro vs w g g6 hi;refine Jd hf hb cJ h g6 hi λex a' w' g' env' σ1 h1 h2 h3=>?_;obtain⟨eL,r0,s1,D,r1,h4,h5,rfl,h6⟩:=h3;obtain⟨v,g2,q1,q2,q3,q4⟩:=LI hp h2 h4
 have jH:Good 0 w' g2 ⟨#[v],[]⟩ [(0,r0)] s1:=⟨λt x hx=>by
  rw[Ap]at hx;split at hx
  ·rename_i e;subst e;cases hx;exact q3
  ·simp[look]at hx,q4,HJ.nil,Ac⟩
 obtain⟨g3,k1,k2⟩:=Mb D jH;rw[h5]at k2;have hv:Rel w' g3 v r1:=k2.env 0 r1 Y;exact⟨eL,v,q1,v,g3,Y,(h1.trans q2).trans k1,h6 _ _ _ hv,k2.inv⟩
theorem A0 {te:TE} {rs:List ResultVar} {e:A2} {s s1 σ':St} {r r0 r1:AV} (D:List Nat) (h:OB te true rs e s=some (r0,s1)) (h1:KG D [(0,r0)]=[(0,r1)]) (h2:HI D s1=σ') (hs:Aq r1 r):Asl te rs r σ' .ret e s:=⟨.inr Y,r0,s1,D,r1,h,h1,h2,hs⟩
theorem AE {te:TE} {rs:List ResultVar} {e:A2} {s s1 σ':St} {r r0 r1:AV} (D:List Nat) (h:OB te true rs e s=some (r0,s1)) (h1:KG D [(0,r0)]=[(0,r1)]) (h2:HI D s1=σ') (hs:Aq r1 r):Asl te rs r σ' .normal e s:=⟨.inl Y,r0,s1,D,r1,h,h1,h2,hs⟩
theorem Ru {w:World} {M:Nat->Nat->Prop} {v:Value} {m:SM} {sz:Nat} {es:List (List T)} (h:RelT w M v (.slice m sz es)):RelT w M v (.slice .any sz es):=by
 cases h with
 |sliceNil=>exact .sliceNil _ _
 |sliceZ a _ _ _=>exact .sliceZ a _ _ Ac
 |slice b off len cap _ _ _ vs hl hc hf hm hp aN aU aL aJ=>exact .slice b off len cap _ _ _ vs hl hc (λh=>by cases h) (λh=>by cases h) (λp N h=>by cases h) aN aU aL aJ
theorem WO {w:World} {M:Nat->Nat->Prop} {v:Value} {m:SM} {sz cO:Nat} (h:RelT w M v (.slice m sz [])):RelT w M v (.slice .any cO []):=by
 cases h with
 |sliceNil=>exact .sliceNil _ _
 |sliceZ a _ _ _=>exact .sliceZ a _ _ Ac
 |slice b off len cap _ _ _ vs hl hc hf hm hp aN aU aL aJ=>exact .slice b off len cap _ _ _ vs hl hc (λh=>by cases h) (λh=>by cases h) (λp N h=>by cases h) Ac Ac Ac Ac
theorem A9 {m:SM} {sz:Nat} {es:List (List T)}:Aq (.t (.slice m sz es)) (.t (.slice .any sz es)):=λ_ _ _ h=>.t _ _ (Ru (Av h))
theorem Ay {m:SM} {sz cO:Nat}:Aq (.t (.slice m sz [])) (.t (.slice .any cO [])):=λ_ _ _ h=>.t _ _ (WO (Av h))
theorem BL {x y:Bool} (h:x=y):Aq (.t (.bool x)) (.t (.bool y)):=h▸A3l _
theorem As {l m:List AV} (h:Fv l m):Aq (.tuple l) (.tuple m):=λw g v hr=>by
 cases hr with
 |tuple vs _ h1 h2=>have:=h.rel (⟨h1,h2⟩:BB w g vs l);exact .tuple vs _ this.1 this.2
theorem AC {l m:List AV} (h:Fv l m):Aq (.agg l) (.agg m):=λw g v hr=>by
 cases hr with
 |agg vs _ h1 h2=>have:=h.rel (⟨h1,h2⟩:BB w g vs l);exact .agg vs _ this.1 this.2
theorem AA {p:Prop} (h:p:=by repeat'(first|exact A3l _|exact Ay|exact A9|exact trivial|refine AC ?_|refine As ?_|refine And.intro ?_ ?_)):p:=h
end Go.Am
namespace Go.Am
section
variable {P:Program} {te:TE} {w w':World} {g:G} {σ:St}
def E3 (s:List UInt8):List (List T):=s.map λc=>[T.int .u8 (c.toNat:Int)]
theorem GL (s:List UInt8):(E3 s).length=s.length:=by simp[E3]
theorem SV (s:List UInt8): ∀e∈E3 s,e.length=1:=by simp[E3]
theorem En: ∀s:List UInt8,(E3 s).flatten=s.map λc=>T.int .u8 (c.toNat:Int)
 |[]=>rfl
 |c::r=>by
  have:=En r;simp only[E3]at this⊢;rw[A5h,A5g,this];rfl
theorem Adf {t u ty e:Nat} (ht:P.underlying t=some (.slice e)) (hu:P.underlying u=some .string) {inf:TypeInfo} (bX:P.info? e=some inf) {ei:TI} (cC:inf.size=ei.size) (eD:inf.bytes=ei.bytes) (d6:inf.zero=some (BJ ei)) (aN:ei.size=1) (s:List UInt8):
  SrcOk P w t u ty e (.string ⟨s.toArray⟩) (E3 s).length (Lib.strCells ⟨s.toArray⟩) ei:=by
 have c7:(⟨s.toArray⟩:ByteArray).size=s.length:=by simp[ByteArray.size]
 have bR:(Lib.strCells ⟨s.toArray⟩).length=s.length:=by rw[Lib.strCells_length,c7]
 rw[GL];refine⟨λh0 b l cc hl=>?_,λh0 aA bE cG et cur hg bJ d8=>?_,λh0 jR=>?_,λh0 b bE cG olds eT holds aC jR=>?_⟩
 ·have hs:s=[]:=Aq1 h0;subst hs;cases b<;>simp[Builtin.append_,A3a ht,A3a hu,sizeOf,typeInfo,bX,Builtin.lenOf,Builtin.firstCells,hl,storeCells,ByteArray.size]
 ·have hf:=Lib.run_firstCells_string (P:=P) w inf.size ⟨s.toArray⟩;rw[aN,A62]at d8⊢;have cL:=A71 P aA bE et (Lib.strCells ⟨s.toArray⟩) 0 cur w hg (by simpa using d8) (Lib.strCells_oneCell _);simp only[A80]at cL;simp only[c7]at hf;have dM:inf.size=1:=by rw[cC,aN]
  simp only[dM]at hf;simp[Builtin.append_,A3a ht,A3a hu,sizeOf,typeInfo,bX,dM,Builtin.lenOf,c7,bJ,hf,Addr.add_lit,cL]
 ·have hb:=Dh jR;have:=run_append_nil_string (P:=P) w t u ty e inf (BJ ei) ht hu bX d6 ⟨s.toArray⟩ (by rw[c7];omega) (by rw[c7];omega) (by rw[c7,eD];omega);rw[this,c7];simp[Lib.strCells]
 ·have hb:=Dh jR;have:=Lib.run_append_grow_string (P:=P) w t u ty e inf (BJ ei) ht hu bX d6 b bE cG olds (by rw[eT,cC]) holds ⟨s.toArray⟩ (by rw[c7];omega) (by rw[c7];omega) (by rw[c7];exact growslice_fits Aa (by rw[eD];omega));rw[this,c7]
end
section
variable {P:Program} {c:Conf} {n:Nat} {ops:Array Oper} {aD:List Oper} {env:A2} {σ:St} {o:Oper} {k:A2->St->Prop}
theorem Ai6 (aY:ProgOk P c) {cl:Call} {so xo:Operand} {t u e d s0 b0 b len bO u1 u2:Nat} {z0 ez uz:List T} {ek:TK} {es:List (List T)} {s:List UInt8} {e2:A2} (hg:o.guard=none) (ho:o.op=.call cl) (bR:cl.callee=.builtin .append) (ha:cl.args= #[so,xo])
  (eG:cl.argTypes= #[t,u]) (hd:o.dst=some d) (hs:ev env so=some (.row b 1 0 len)) (hx:ev env xo=some (.t (.str s))) (ht:look c.te t=some ⟨s0,b0,z0,.slice e⟩) (he:look c.te e=some ⟨1,bO,ez,ek⟩) (hu:look c.te u=some ⟨u1,u2,uz,.string⟩)
  (hb:look σ b=some (.grow 1 es)) (aO:len=es.length) (hp:BM n o.dst (.row b 1 0 (es++E3 s).length) (Gv b env)=some e2)
  (bW:(es++E3 s).length*(bO+1)<=140737488355328) (h:A6 P n ops aD e2 ((b,.grow 1 (es++E3 s))::CX b σ) k):A6 P n ops (o::aD) env σ k:=by
 simp only[A6,Bt,hg];intro w g a hi bS;obtain⟨dd,iS,d9⟩:=(aY.te _ _ ht).und';have iC:P.underlying t=some (.slice e):=by cases dd<;>simp[Dp]at d9;subst d9;exact iS
 obtain⟨du,tD,nM⟩:=(aY.te _ _ hu).und';have oL:P.underlying u=some .string:=by cases du<;>simp[Dp]at nM;exact tD
 obtain⟨inf,bX,cC,eD,d6⟩:=(aY.te _ _ he).info';have eY:(len+(E3 s).length)*(bO+1)<=140737488355328:=by rw[aO];simpa using bW
 have cA:=AF bS hs;have mQ:=AF bS hx;have lA:a.eval xo=.string ⟨s.toArray⟩:=Gl mQ;have aN:(⟨s.toArray⟩:ByteArray).size=s.length:=by simp[ByteArray.size]
 obtain⟨v,w',h1,h2⟩:=Zs (P:=P) (ty:=o.type) (u:=u) aY.te hi he bS hb Aa cA eY (Adf (ty:=o.type) iC oL bX cC eD d6 Y s) (SV s)
  (by rw[Lib.strCells_length,aN,En];simp)
  (λi v y hv hy=>by
   rw[En]at hy;simp only[Lib.strCells,A42]at hv hy
   cases hc:s[i]? with
   |none=>simp[hc]at hy
   |some ch=>
    simp[hc]at hv hy
    subst hv;subst hy;exact .int _ _)
  (λi y hy=>by
   rw[En,A42]at hy
   cases hc:s[i]? with
   |none=>simp[hc]at hy
   |some ch=>simp[hc]at hy;subst hy;rfl)
 refine BN.value (v:=v) (w':=w') ?_ ⟨_,_,_,h2,e2,?_,?_⟩
 ·simp[execOp,ho,resolve,bR,invoke,builtin,ha,eG,lA,h1]
 ·subst aO;simpa using hp
 ·subst aO;simpa using h
theorem Vu (aY:ProgOk P c) {cl:Call} {so xo:Operand} {t u e d s0 b0 bO u1 u2:Nat} {z0 ez uz:List T} {ek:TK} {es:List (List T)} {s:List UInt8} {e2:A2} (hg:o.guard=none) (ho:o.op=.call cl) (bR:cl.callee=.builtin .append) (ha:cl.args= #[so,xo])
  (eG:cl.argTypes= #[t,u]) (hd:o.dst=some d) (hs:ev env so=some (.t (.slice .full 1 es))) (hx:ev env xo=some (.t (.str s))) (ht:look c.te t=some ⟨s0,b0,z0,.slice e⟩) (he:look c.te e=some ⟨1,bO,ez,ek⟩) (hu:look c.te u=some ⟨u1,u2,uz,.string⟩)
  (hp:BM n o.dst (.t (.slice .any 1 (es++E3 s))) env=some e2)
  (bW:(es++E3 s).length*(bO+1)<=140737488355328) (h:A6 P n ops aD e2 σ k):A6 P n ops (o::aD) env σ k:=by
 simp only[A6,Bt,hg];intro w g a hi bS;obtain⟨dd,iS,d9⟩:=(aY.te _ _ ht).und';have iC:P.underlying t=some (.slice e):=by cases dd<;>simp[Dp]at d9;subst d9;exact iS
 obtain⟨du,tD,nM⟩:=(aY.te _ _ hu).und';have oL:P.underlying u=some .string:=by cases du<;>simp[Dp]at nM;exact tD
 obtain⟨inf,bX,cC,eD,d6⟩:=(aY.te _ _ he).info';have eY:(es.length+(E3 s).length)*(bO+1)<=140737488355328:=by simpa using bW
 have cA:=AF bS hs;have mQ:=AF bS hx;have lA:a.eval xo=.string ⟨s.toArray⟩:=Gl mQ;have aN:(⟨s.toArray⟩:ByteArray).size=s.length:=by simp[ByteArray.size]
 obtain⟨v,w',h1,h2⟩:=Vn (P:=P) (ty:=o.type) (u:=u) aY.te hi he bS cA eY (Adf (ty:=o.type) iC oL bX cC eD d6 Y s) (SV s)
  (by rw[Lib.strCells_length,aN,En];simp)
  (λi v y hv hy=>by
   rw[En]at hy;simp only[Lib.strCells,A42]at hv hy
   cases hc:s[i]? with
   |none=>simp[hc]at hy
   |some ch=>
    simp[hc]at hv hy
    subst hv;subst hy;exact .int _ _)
  (λi y hy=>by
   rw[En,A42]at hy
   cases hc:s[i]? with
   |none=>simp[hc]at hy
   |some ch=>simp[hc]at hy;subst hy;rfl)
 refine BN.value (v:=v) (w':=w') ?_ ⟨_,_,_,h2,e2,?_,?_⟩
 ·simp[execOp,ho,resolve,bR,invoke,builtin,ha,eG,lA,h1]
 ·exact hp
 ·exact h
end
end Go.Am
namespace Go.Am
section
variable {P:Program} {c:Conf} {n:Nat} {ops:Array Oper} {aD:List Oper} {env:A2} {σ:St} {o:Oper} {k:A2->St->Prop}
theorem SU (s:List UInt8) {i:Nat} (h:i<s.length):(E3 s).flatten[i]?=some (T.int .u8 (s[i].toNat:Int)):=by
 rw[En];simp[h]
theorem OI (aY:ProgOk P c) {t s0 b0 e:Nat} {z0:List T} (ht:look c.te t=some ⟨s0,b0,z0,.slice e⟩):P.underlying t=some (.slice e):=by
 obtain⟨dd,iS,d9⟩:=(aY.te _ _ ht).und';cases dd<;>simp[Dp]at d9;subst d9;exact iS
theorem A2d (aY:ProgOk P c) {t s0 b0:Nat} {z0:List T} (ht:look c.te t=some ⟨s0,b0,z0,.string⟩):P.underlying t=some .string:=by
 obtain⟨dd,iS,d9⟩:=(aY.te _ _ ht).und';cases dd<;>simp[Dp]at d9;exact iS
theorem Az1 (aY:ProgOk P c) {t s0 b0:Nat} {z0:List T} {kk:IntKind} (ht:look c.te t=some ⟨s0,b0,z0,.int kk⟩):P.underlying t=some (.int kk):=by
 obtain⟨dd,iS,d9⟩:=(aY.te _ _ ht).und';cases dd<;>simp[Dp]at d9;subst d9;exact iS
theorem Ev (aY:ProgOk P c) {t u e s0 b0 u1 u2 e1 e2':Nat} {z0 ez uz:List T} {xo:Operand} {m:SM} {es:List (List T)} {s:List UInt8} {e2:A2} (hg:o.guard=none) (ho:o.op=.convert t u xo) (hx:ev env xo=some (.t (.slice m 1 es)))
  (ht:look c.te t=some ⟨s0,b0,z0,.slice e⟩) (he:look c.te e=some ⟨e1,e2',ez,.int .u8⟩) (hu:look c.te u=some ⟨u1,u2,uz,.string⟩) (gW:es=E3 s) (hp:BM n o.dst (.t (.str s)) env=some e2)
  (h:A6 P n ops aD e2 σ k):A6 P n ops (o::aD) env σ k:=by
 simp only[A6,Bt,hg];intro w g a hi bS;have h1:=OI aY ht;have h2:=Az1 aY he;have h3:=A2d aY hu;subst gW;have hr:=Av (AF bS hx)
 have aM:(convert t u (a.eval xo)).run P w=.ok (.string ⟨s.toArray⟩) w:=by
  generalize a.eval xo=v at hr;generalize hes':E3 s=es at hr
  cases hr with
  |sliceNil=>
   have:s=[]:=by
    have:=A5s List.length hes';rw[GL]at this;simpa using this
   subst this;have:=run_convert_bytes_nil (P:=P) w t e h1 h2 0 0 u h3;rw[this];rfl
  |sliceZ a _ _ _=>
   have:s=[]:=by
    have:=A5s List.length hes';rw[GL]at this;simpa using this
   subst this;exact run_convert_bytes_back w t u e a 0 [] h1 h2 h3 (λj hj=>by simp at hj)
  |slice b off len cap _ _ _ vs hl hc hf hm hp aN aU aL aJ=>
   subst hes';have cX:len=s.length:=by rw[<-hl,GL]
   subst cX;refine run_convert_bytes_back w t u e ⟨b,off,none⟩ cap s h1 h2 h3 (λj hj=>?_);rw[BS,(aL j _ (SU s hj)).2];have:=aJ j _ (SU s hj);generalize vs j=y at this;cases this;rfl
 refine BN.value (v:=.string ⟨s.toArray⟩) (w':=w) (by simp[execOp,ho,aM]) ⟨_,env,σ,⟨g,A3h _ _,.t _ _ (.str s),hi,bS⟩,e2,hp,h⟩
end
end Go.Am
namespace Go.Am
section
variable {P:Program} {c:Conf} {n:Nat} {ops:Array Oper} {aD:List Oper} {env:A2} {σ:St} {o:Oper} {k:A2->St->Prop}
theorem DH (aY:ProgOk P c) {t e d s0 b0 bN bO l cc:Nat} {z0 ez:List T} {ek:TK} {lo co:Operand} {k1 k2:IntKind} {ln cn:Int} {x:AV} {e1 e2:A2} {s:St} (hg:o.guard=none) (ho:o.op=.makeSlice t lo co) (hd:o.dst=some d) (hl:ev env lo=some (.t (.int k1 ln))) (hc:ev env co=some (.t (.int k2 cn)))
  (ht:look c.te t=some ⟨s0,b0,z0,.slice e⟩) (he:look c.te e=some ⟨bN,bO,ez,ek⟩) (hln:ln=(l:Int)) (dQ:cn=(cc:Int))
  (hf:E1 (2*d) env σ (λenv σ=>some (AV.row (2*d) bN 0 l,env,(2*d,Blk.grow bN (List.replicate l ez))::σ))=some (x,e1,s)) (hp:BM n o.dst x e1=some e2)
  (cJ:l<=cc) (bW:cc*(bO+1)<=140737488355328) (h:A6 P n ops aD e2 s k):A6 P n ops (o::aD) env σ k:=by
 subst hln;subst dQ;refine DQ aY (x:=x) (e:=e1) (s:=s) hg ?_ hp h;unfold ES;rw[ho];simp only[Gp,ho,hd,hl,hc,So,ht,he,Hf,cJ,bW,Xs];exact hf
theorem Atp (aY:ProgOk P c) {cl:Call} {so xo:Operand} {t u e s0 b0 b len sz bO:Nat} {z0 ez:List T} {ek:TK} {es es':List (List T)} {m:SM} {e2:A2} (hg:o.guard=none) (ho:o.op=.call cl) (bR:cl.callee=.builtin .copy) (ha:cl.args= #[so,xo])
  (eG:cl.argTypes= #[t,u]) (hs:ev env so=some (.row b sz 0 len)) (hx:ev env xo=some (.t (.slice m sz es'))) (ht:look c.te t=some ⟨s0,b0,z0,.slice e⟩) (he:look c.te e=some ⟨sz,bO,ez,ek⟩)
  (hb:look σ b=some (.grow sz es)) (aO:len=es.length) (cX:es'.length=es.length) (hp:BM n o.dst (.t (.int .i64 (es.length:Int))) env=some e2)
  (h:A6 P n ops aD e2 ((b,.grow sz es')::CX b σ) k):A6 P n ops (o::aD) env σ k:=by
 simp only[A6,Bt,hg];intro w g a hi bS;have iC:=OI aY ht;obtain⟨inf,bX,cC,eD,d6⟩:=(aY.te _ _ he).info';have cC:inf.size=sz:=cC;have cA:=AF bS hs;have mQ:=Av (AF bS hx);subst aO;obtain⟨aG,dM,hk⟩:=Yq hi b (λcN=>by obtain⟨cs,h⟩:=(hi.bx _ cN).2;rw[hb]at h;cases h);have cU:look (CX b σ) b=none:=by rw[DL];simp
 obtain⟨e8,bA⟩:=hi.ok b _ hb
 suffices aM: ∃w',(Builtin.copy_ #[t,u] o.type #[a.eval so,a.eval xo]).run P w=.ok (.int .i64 (es.length:Int)) w'/\ ∃g',Ext w g w' g'/\Inv w' g' ((b,.grow sz es')::CX b σ)/\AQ w' g' a env by
  obtain⟨w',h1,g',h2,h3,h4⟩:=aM;exact BN.value (v:=.int .i64 (es.length:Int)) (w':=w') (by simp[execOp,ho,resolve,bR,invoke,builtin,ha,eG,h1]) ⟨_,_,_,⟨g',h2,.t _ _ (.int _ _),h3,h4⟩,e2,hp,h⟩
 generalize a.eval so=us at cA⊢;generalize a.eval xo=ux at mQ⊢;have envOf: ∀{w':World} {g':G},Ext w g w' g'->(∀q p,g.β q=some p->g'.β q=some p)->AQ w' g' a env:=λhx hβ t x d5=>(bS t x d5).mono hx.keeps hβ hx.shape
 have h0:es.length=0-> ∀a0 cap0,(Builtin.copy_ #[t,u] o.type #[.slice a0 0 cap0,ux]).run P w=.ok (.int .i64 0) w:=by
  intro tC a0 cap0;have k8:es'.length=0:=Aa;rcases C5 mQ with⟨h1,_⟩|⟨bb,off,capx,h1,_⟩|⟨az,h1,_⟩
  ·subst h1;cases a0<;>simp[Builtin.copy_,A3a iC,sizeOf,typeInfo,bX,Builtin.lenOf,Builtin.firstCells,storeCells,goInt]
  ·subst h1;rw[k8];cases a0<;>simp[Builtin.copy_,A3a iC,sizeOf,typeInfo,bX,Builtin.lenOf,Builtin.firstCells,storeCells,goInt,loadCells,loadCellsFrom]
  ·subst h1;cases a0<;>simp[Builtin.copy_,A3a iC,sizeOf,typeInfo,bX,Builtin.lenOf,Builtin.firstCells,storeCells,goInt,loadCells,loadCellsFrom]
 have l6:es.length=0->es'=[]:=λtC=>Aq1 Aa;generalize iE:es.length=len at cA
 cases cA with
 |rowNil _ _ a0 jN hβ=>
  have k8:=l6 iE;subst k8;obtain⟨k1,k2,k3⟩:=NM (sz:=sz) dM cU;refine⟨w,h0 iE a0 0,_,aG.trans k1,k2,envOf (aG.trans k1) λq p hq=>?_⟩;by_cases e':q=b
  ·subst e';rw[hβ]at hq;cases hq;simp[G.with]
  ·simp[G.with,G.without,e',hq]
 |row _ _ _ _ aA off0 cap e0 n0 hβ hsh dE gC dB=>
  rcases bA with⟨h1,_⟩|⟨aX,vs,et,h1,h2,h3,h4,h5⟩
  ·rw[hβ]at h1;cases h1
  ·rw[hβ]at h1;cases h1
   have cH: ∀q,(g.without b).β q≠some (some aA):=by
    intro q hq;simp only[G.without]at hq;split at hq
    ·cases hq
    ·rename_i aE;exact aE (hi.inj _ _ _ hq hβ)
   have hgβ: ∀q p,g.β q=some p->((g.without b).with b (some aA)).β q=some p:=by
    intro q p hq;by_cases e':q=b
    ·subst e';rw[hβ]at hq;cases hq;simp[G.with]
    ·simp[G.with,G.without,e',hq]
   by_cases hz:len=0
   ·subst hz;have k8:=l6 iE;subst k8;obtain⟨k1,k2,k3⟩:=NA dM cU h2 (hi.sx.bs _ _ hβ) cH h3 Y (A3j h3) (B:=.grow sz []) (λhr=>⟨Ac,.inr ⟨aA,vs,et,by simp[G.with],.inr Y,h3,Ac,Ac⟩⟩);exact⟨w,h0 iE _ _,_,aG.trans k1,k2,envOf (aG.trans k1) hgβ⟩
   ·have fQ:off0=0:=by
     rcases dE with h'|h'
     ·simpa using h'
     ·omega
    subst fQ;rcases C5 mQ with⟨_,h1⟩|⟨bb,off,capx,h1,_,_,_,dF,aL⟩|⟨_,_,h1,_⟩
    ·subst h1;simp at cX;omega
    rotate_left
    ·subst h1;simp at cX;omega
    ·subst h1;obtain⟨ns,n1,n2,n3⟩:=Ie (w:=w) (ts:=es'.flatten) (b:=bb) (off:=off) (M:=g.M) (λi y hy=>(aL i y hy).2.2);have g7:=Cx sz es' dF;have qU:=Cx sz es e8
     have eH: ∀u∈ns,u.oneCell'=true:=by
      intro u rD;obtain⟨i,dC,rfl⟩:=A7d rD;have aC:i<es'.flatten.length:=by rw[<-n1];exact dC
      exact(He (n3 i _ _ (Kv dC) (Kv aC)) (aL i _ (Kv aC)).2.1).1
     have d8:ns.length<=vs.size:=by rw[n1,g7,cX,<-qU];exact h4
     have hf:=run_firstCells_some (P:=P) w inf.size len ⟨bb,off,none⟩ es'.length capx ns (by rw[n1,g7,cX,iE,cC]) (λj v hv=>by rw[BS];exact n2 j v hv);have cL:=A71 P aA 0 et ns 0 vs w h3 (by simpa using d8) eH;have cW:Nat.min es'.length len=len:=by rw[cX,iE];exact Nat.min_self _
     have aM:(Builtin.copy_ #[t,u] o.type #[.slice (some ⟨aA,0,none⟩) len cap,.slice (some ⟨bb,off,none⟩) es'.length capx]).run P w=.ok (.int .i64 (len:Int)) (w.setRow aA (vs.toList.take (0+0)++ns++vs.toList.drop (0+0+ns.length)).toArray):=by
      simp only[Builtin.copy_];simp[A3a iC,sizeOf,typeInfo,bX,Builtin.lenOf,cW,hf,cL,goInt]
     have bU:=Sets.setRow h3 (vs.toList.take (0+0)++ns++vs.toList.drop (0+0+ns.length)).toArray
     have gZ:(vs.toList.take (0+0)++ns++vs.toList.drop (0+0+ns.length)).toArray.size=vs.size:=by
      simp;omega
     obtain⟨k1,k2,k3⟩:=NA dM cU h2 (hi.sx.bs _ _ hβ) cH h3 gZ bU (B:=.grow sz es') (λhr=>⟨dF,.inr ⟨aA,_,et,by simp[G.with],.inr Y,bU.new,by rw[gZ,<-n1];exact d8,λi v y hv hy=>by
      have aC:=Bu hy
      have cY:ns[i]?=some v:=by
       have:(vs.toList.take (0+0)++ns++vs.toList.drop (0+0+ns.length))[i]?=some v:=by simpa using hv
       simp only[A80,A6t,A6w]at this;rw[Abh (by rw[n1];exact aC)]at this;exact this
      exact⟨(aL i y hy).2.1,Av (hr _ _ (.t _ _ (aG.same_world (n3 i v y cY hy))))⟩⟩⟩)
     exact⟨_,aM,_,aG.trans k1,k2,envOf (aG.trans k1) hgβ⟩
end
end Go.Am
namespace Go.Am
section
variable {P:Program} {c:Conf} {n:Nat} {ops:Array Oper} {aD:List Oper} {env:A2} {σ:St} {o:Oper} {k:A2->St->Prop}
theorem QC (aY:ProgOk P c) {t m d sz:Nat} {mm:SM} {parts:Array (Nat×Operand)} {es:List (List T)} {env' e e2:A2} {σ' s:St} {x:AV} (hg:o.guard=none) (ho:o.op=.buildSlice t m parts) (hd:o.dst=some d) (hz:Ke o env σ=(env',σ')) (hs:Ep c.te t m env' parts.toList=some (.t (.slice mm sz es)))
  (hm:Nat.blt 0 m=true) (hf:E1 (2*d) env' σ' (λenv σ=>some (AV.row (2*d) sz 0 es.length,env,(2*d,Blk.grow sz es)::σ))=some (x,e,s)) (hp:BM n o.dst x e=some e2) (h:A6 P n ops aD e2 s k):A6 P n ops (o::aD) env σ k:=by
 simp only[A6,Bt,hg];intro w g a hi bS;obtain⟨g0,x0,i0,e0⟩:=NC hi bS hz;obtain⟨v,w',h1,h2,h3,h4,h5,e6⟩:=JI (P:=P) aY.te i0 e0 hs;obtain⟨f1,f2,f3,aK,et,f4,f5,f6⟩:=e6 mm sz es Y (by simpa[A6i]using hm);obtain⟨aV,σ1,g1,hk,cU,aG,dM,bM⟩:=Ho hf i0 e0;simp at hk;obtain⟨rfl,rfl,rfl⟩:=hk;subst f1;have eK:=Cx sz es f3;have eW:=Oe (w':=w') (cap:=m) (es':=es) (sz:=sz) dM cU bM f4 f3 (by rw[eK,f5,f2];exact WW _) Aa (by rw[f5];exact WW _) (λi v y hv hy=>⟨(f6 i v y hv hy).1,aG.same_world (f6 i v y hv hy).2⟩);rw[f2]at eW hp;refine BN.value (v:=_) (w':=w') ?_ ⟨_,_,_,(eW.lift aG).lift x0,e2,hp,by rw[f2]at*;exact h⟩;simp only[execOp,ho,Ake];simp[h1]
theorem My {t:Nat} {ti:TI} (h:TeOk1 P t ti):(BJ ti).cells.size=ti.size:=by
 have fR:=DN (w:=default) (g:=⟨λ_=>none,λ_=>False,λ_ _=>False,λ_=>False,λ_=>none,0⟩) h;rw[<-h.len,<-Bz,<-fR.1];simp
theorem Av6 {m:Nat} (h:m<9223372036854775808):IntKind.i64.wrap (m:Int)=(m:Int):=by
 simp[IntKind.wrap,IntKind.bits,IntKind.signed];omega
theorem Vt (aY:ProgOk P c) {cl:Call} {so xo:Operand} {t u e d s0 b0 sz0 bN bO u1 u2 m:Nat} {z0 ez uz:List T} {ek:TK} {es0:List (List T)} {mn:Int} {x:AV} {e1 e2:A2} {s:St} (hg:o.guard=none) (ho:o.op=.call cl) (bR:cl.callee=.builtin .append) (ha:cl.args= #[so,xo])
  (eG:cl.argTypes= #[t,u]) (hd:o.dst=some d) (hs:ev env so=some (.t (.slice .nil sz0 es0))) (hx:ev env xo=some (.t (.int .i64 mn))) (ht:look c.te t=some ⟨s0,b0,z0,.slice e⟩) (he:look c.te e=some ⟨bN,bO,ez,ek⟩) (hu:look c.te u=some ⟨u1,u2,uz,.int .i64⟩) (hmn:mn=(m:Int))
  (hf:E1 (2*d) env σ (λenv σ=>some (AV.row (2*d) bN 0 m,env,(2*d,Blk.grow bN [])::σ))=some (x,e1,s)) (hp:BM n o.dst x e1=some e2)
  (dH:0<m) (bW:m*(bO+1)<=140737488355328) (h:A6 P n ops aD e2 s k):A6 P n ops (o::aD) env σ k:=by
 subst hmn;simp only[A6,Bt,hg];intro w g a hi bS;have iC:=OI aY ht;have oL:=Az1 aY hu;obtain⟨inf,bX,cC,eD,d6⟩:=(aY.te _ _ he).info';have fE:(BJ ⟨bN,bO,ez,ek⟩).cells.size=bN:=My (aY.te _ _ he);have hb:=Dh bW
 have gU:a.eval so=.slice none 0 0:=by
  rcases C5 (Av (AF bS hs))with⟨h1,_⟩|⟨_,_,_,_,_,_,h1,_⟩|⟨_,_,_,h1⟩
  ·exact h1
  ·exact absurd Y h1
  ·exact absurd Y h1
 have lA:a.eval xo=.int .i64 (m:Int):=CC (AF bS hx);obtain⟨aV,σ1,g1,hk,cU,aG,dM,bM⟩:=Ho hf hi bS;simp at hk;obtain⟨rfl,rfl,rfl⟩:=hk;have hw:IntKind.i64.wrap (m:Int)=(m:Int):=Av6 Aa;have jR:m*inf.bytes<=140737488355328:=by rw[eD];exact hb.1
 have nR: ¬(281474976710656<(m:Int)*(inf.bytes:Int)):=by
  rw[<-Int.natCast_mul];omega
 have uG: ¬(9223372036854775807<(m:Int)):=Aa;have uH: ¬(281474976710656<Builtin.nextslicecap m 0*inf.bytes):=by rw[nextslicecap_zero dH];omega
 have dB:m≠0:=Aa
 obtain⟨arr,aM,nU⟩: ∃arr:Array Value,(Builtin.append_ #[t,u] o.type #[.slice none 0 0,.int .i64 (m:Int)]).run P w=.ok (.slice (some ⟨w.heap.size,0,none⟩) m (grownCap w m 0 e)) (w.drew.alloc (.cells arr e))/\arr.size=grownCap w m 0 e*bN:=by
  have dN:=A63 w m 0 e;refine⟨(if m*bN=0 then #[]else Builtin.zeroCells (BJ ⟨bN,bO,ez,ek⟩).cells m)++Builtin.zeroCells (BJ ⟨bN,bO,ez,ek⟩).cells (grownCap w m 0 e-m),?_,?_⟩
  ·have rY: ¬((m:Int)<0):=Aa;simp[Builtin.append_,A3a iC,A3a oL,sizeOf,typeInfo,zeroValue,bX,cC,d6,asInt,asIntOf,hw,rY,nR,dB,uG,uH,Question.forced,run_firstCells_none,newRow,grownCap];by_cases hz:m*bN=0<;>simp[hz]
  ·by_cases hz:m*bN=0
   ·have:bN=0:=by
     rcases Nat.mul_eq_zero.1 hz with h'|h'
     ·omega
     ·exact h'
    simp only[hz,Xs,A5p,A6l,fE];rw[this];simp
   ·simp only[hz,ZF,A5p,A6l,fE,<-A6v];congr 1;omega
 have hm:=A3i w (.cells arr e);have dN:=A63 w m 0 e;obtain⟨k1,k2,k3⟩:=HS dM cU hm (B:=.grow bN []) (λhr=>⟨Ac,.inr ⟨w.heap.size,arr,e,by simp[G.with],.inr Y,hm.new,Ac,Ac⟩⟩);refine BN.value (v:=.slice (some ⟨w.heap.size,0,none⟩) m (grownCap w m 0 e)) (w':=w.drew.alloc (.cells arr e)) (by simp[execOp,ho,resolve,bR,invoke,builtin,ha,eG,gU,lA,aM]) ⟨_,_,_,⟨_,aG.trans k1,?_,k2,bM.mono k3⟩,e2,hp,h⟩;exact .row (2*d) bN 0 m w.heap.size 0 _ e arr.size (by simp[G.with]) (by simp only[World.shape?,hm.new]) (.inl Ac) dN (by simp[nU])
theorem Ai5 (aY:ProgOk P c) {cl:Call} {so:Operand} {t s0 b0 e sz0:Nat} {z0:List T} {es0:List (List T)} {e2:A2} (hg:o.guard=none) (ho:o.op=.call cl) (bR:cl.callee=.builtin .cap) (ha:cl.args= #[so]) (eG:cl.argTypes= #[t]) (hs:ev env so=some (.t (.slice .nil sz0 es0)))
  (ht:look c.te t=some ⟨s0,b0,z0,.slice e⟩) (hp:BM n o.dst (.t (.int .i64 0)) env=some e2) (h:A6 P n ops aD e2 σ k):A6 P n ops (o::aD) env σ k:=by
 simp only[A6,Bt,hg];intro w g a hi bS;have iC:=OI aY ht
 have gU:a.eval so=.slice none 0 0:=by
  rcases C5 (Av (AF bS hs))with⟨h1,_⟩|⟨_,_,_,_,_,_,h1,_⟩|⟨_,_,_,h1⟩
  ·exact h1
  ·exact absurd Y h1
  ·exact absurd Y h1
 have aM:(Builtin.cap_ #[t] o.type #[.slice none 0 0]).run P w=.ok (.int .i64 0) w:=by
  simp[Builtin.cap_,A3a iC,goInt]
 exact BN.value (v:=.int .i64 0) (w':=w) (by simp[execOp,ho,resolve,bR,invoke,builtin,ha,eG,gU,aM]) ⟨_,env,σ,⟨g,A3h _ _,.t _ _ (.int _ _),hi,bS⟩,e2,hp,h⟩
end
end Go.Am
namespace Go.Am
section
variable {w:World} {g:G} {σ:St} {D:Nat} {o0:Obj}
theorem NT (hi:Inv w g σ) {b l:Nat} {st st':LoopState} {pe pe':Option Code} {ps:Array Tmp} {asg bd:Code} {n:Nat} {env:A2} (hb:look σ b=some (.loop l st pe ps asg bd n env)):
  ∃r:Loop,w.heap[l]?=some (.loop r)/\r.state=st/\r.pending=pe/\r.params=ps/\r.assign=asg/\r.body=bd/\n<=r.tmps.size/\g.own l/\(∀t x,look env t=some x->Rel w g (r.tmps.getD t undef) x)/\
   Inv (w.putObj l (.loop {r with state:=st',pending:=pe'})) g (upd σ b (.loop l st' pe' ps asg bd n env)):=by
 obtain⟨r,h1,h2,h3,⟨h4,h5,h6,h7,h8⟩,h9,lR⟩:=hi.ok b _ hb;refine⟨r,h3,h4,h5,h6,h7,h8,h9,h2,lR,?_⟩;have hr: ∀v x,Rel w g v x->Rel (w.putObj l (.loop {r with state:=st',pending:=pe'})) g v x:=λv x h=>Aa7 h3 Y _ h;refine⟨λc C hC=>?_,λc=>?_,hi.inj,λaA h=>by rw[A5x];exact hi.lt aA h,λc hc=>⟨(hi.bx c hc).1,?_⟩,hi.dis,λp hp=>⟨(hi.im p hp).1,?_⟩,by rw[A5x];exact hi.lo,hi.sx.mono (by rw[A5x];exact WW _) Y (λ_ _ _ h=>h) (λaA e _ _ hn=>A29 λe=>hn b (e▸h1)) (λc aA h=>.inl ⟨c,h⟩) (λc L hL=>?_)⟩
 ·rw[AK]at hC;split at hC
  ·rename_i e;subst e;cases hC;exact⟨{r with state:=st',pending:=pe'},h1,h2,A75 (C9 h3),⟨Y,Y,h6,h7,h8⟩,h9,λt x ht=>hr _ _ (lR t x ht)⟩
  ·rename_i aE;refine(hi.ok c C hC).mono Y (λ_ _ h=>h) (λaA cN=>A29 λe=>?_) hr;subst e;exact aE (hi.inj _ _ _ h1 cN)
 ·rw[AK];by_cases e:b=c
  ·subst e;simp[h1]
  ·simp only[Ug e];exact hi.dom c
 ·rw[AK];by_cases e:b=c
  ·subst e;obtain⟨_,cs,h⟩:=hi.bx b hc;rw[hb]at h;cases h
  ·simp only[Ug e];exact(hi.bx c hc).2
 ·have hq:=(hi.im p hp).2;have aE:p.1≠l:=λe=>by rw[e]at hq;simp[World.cell?,h3]at hq
  rw[Ch (A29 aE)];exact hq
 ·rw[AK]at hL;split at hL
  ·cases hL
  ·exact hL
theorem HJ.put {ds:List Deferred} {r:Loop} (hD:w.heap[D]?=some (.loop r)) (o:Obj) (h:HJ w g ds):HJ (w.putObj D o) g ds:=by
 obtain⟨Ds,h1,h2,h3⟩:=h;refine⟨Ds,h1,h2,λE hE=>?_⟩;obtain⟨k1,k2⟩:=h3 E hE;have aE:E≠D:=λe=>by subst e;rw[hD]at k1;cases k1
 exact⟨by rw[A29 aE];exact k1,k2⟩
end
def RO:List Nat->List AV->A2->A2
 |t::ts,x::xs,e=>RO ts xs ((t,x)::e)
 |_,_,e=>e
theorem Uy {w:World} {g:G}: ∀(ps:List Nat) (vs:List Value) (xs:List AV) (tmps:Array Value) (e:A2),vs.length=xs.length->(∀(i:Nat) v x,vs[i]?=some v->xs[i]?=some x->Rel w g v x)->(∀t∈ps,t<tmps.size)->AQ w g ⟨tmps,[]⟩ e->
  AQ w g ⟨(ps.zip vs).foldl (λtmps p=>tmps.setIfInBounds p.1 p.2) tmps,[]⟩ (RO ps xs e)
 |[],vs,xs,tmps,e,_,_,_,he=>by simpa[RO]using he
 |t::ts,[],[],tmps,e,_,_,_,he=>by simpa[RO]using he
 |t::ts,v::vs,x::xs,tmps,e,hl,hr,aC,he=>by
  simp only[List.zip_cons_cons,A6m,RO];refine Uy ts vs xs _ _ (by simpa using hl) (λi v x a b=>hr (i+1) v x (by simpa using a) (by simpa using b)) (λu hu=>by simp;exact aC u (by simp[hu])) ?_;intro u y hy;rw[Ap]at hy;have ht:=aC t Ac;split at hy
  ·rename_i e';subst e';cases hy;have:(tmps.setIfInBounds t v).getD t undef=v:=by simp[Array.getD,ht]
   rw[this];exact hr 0 v x Y Y
  ·rename_i e'
   have e2:(tmps.setIfInBounds t v).getD u undef=tmps.getD u undef:=by
    simp only[A5b];rw[A7f e']
   simp only[e2];exact he u y hy
 |t::ts,[],x::xs,_,_,hl,_,_,_=>by simp at hl
 |t::ts,v::vs,[],_,_,hl,_,_,_=>by simp at hl
theorem UR: ∀(l:List (Nat×Value)) (tmps:Array Value),(l.foldl (λtmps p=>tmps.setIfInBounds p.1 p.2) tmps).size=tmps.size
 |[],tmps=>rfl
 |p::r,tmps=>by simp only[A6m];rw[UR r];simp
def Qq:A2->A2
 |[]=>[]
 |(t,x)::r=>(t,bif x.free then x else .top)::Qq r
theorem Ag5 {w w':World} {g g':G} (hk:Jh w g.M w' g'.M) {a:Act}: ∀{env:A2},AQ w g a env->AQ w' g' a (Qq env):=by
 intro env he t x h
 have key: ∀(env:A2),look (Qq env) t=some x-> ∃y,look env t=some y/\((y.free=true/\x=y)\/x=.top):=by
  intro env
  induction env with
  |nil=>intro h;simp[Qq,look]at h
  |cons p r ih=>
   intro h;obtain⟨k,y⟩:=p;simp only[Qq]at h;rw[Ap]at h⊢;split at h
   ·rename_i e;simp only[e,Xs]
    cases hy:y.free with
    |true=>rw[hy]at h;cases h;exact⟨_,Y,.inl ⟨hy,Y⟩⟩
    |false=>rw[hy]at h;cases h;exact⟨_,Y,.inr Y⟩
   ·rename_i e;simp only[Ug e];exact ih h
 obtain⟨y,h1,h2|h2⟩:=key env h
 ·obtain⟨hf,rfl⟩:=h2;exact(he t _ h1).free hk hf
 ·subst h2;exact .top _
def Auw:Exit->Option (Option Code×Bool×LoopState)
 |.normal=>some (none,true,.ready)
 |.ret=>some (some .ret,false,.done)
 |.exit id=>some (some (.exit id),false,.done)
 |_=>none
theorem Q3.inRound {F:Fence} (h:Q3 F) (l:Nat):Q3 (F.inRound l):=by
 rcases h with rfl|⟨l',rfl⟩
 ·exact .inr ⟨l,Y⟩
 ·exact .inr ⟨l,Y⟩
section
variable {P:Program} {c:Conf} {n:Nat} {ops:Array Oper} {aD:List Oper} {env:A2} {σ:St} {o:Oper} {k:A2->St->Prop} {K:Exit->A2->St->Prop}
theorem Y7 {w:World} {g:G} {v:Value} {fn:Fn} {xs:List T} (h:Rel w g v (.t (.func fn [] xs))): ∃vs:List Value,v=.func fn #[] vs.toArray/\vs.length=xs.length/\ ∀(i:Nat) v x,vs[i]?=some v->xs[i]?=some x->RelT w g.M v x:=by
 have h:=Av h
 cases h with
 |func _ v1 v2 _ _ h1 h2 r1 r2=>
  have:v1=[]:=Aq1 (by simpa using h1);subst this;exact⟨v2,Y,h2,r2⟩
theorem Ac2 {cl:Call} {fo:Operand} {l b n':Nat} {ps:Array Tmp} {asg bd:Code} {envL:A2} {xs:List AV} (hg:o.guard=none) (ho:o.op=.call cl) (bR:cl.callee=.value fo) (l7:ev env fo=some (.t (.func (.yield l) [] []))) (has:YL env cl.args.toList=some xs)
  (hb:look σ b=some (.loop l .ready none ps asg bd n' envL)) (aO:Nat.beq xs.length ps.size=true) (iL:(ps.toList.all λt=>Nat.blt t n')=true) (hr1:MN asg=true) (gV:MN bd=true)
  (h:Tr P n' asg (RO ps.toList xs envL) σ (λex e s=>ex=.normal/\ ∃envL1,look s b=some (.loop l .ready none ps asg bd n' envL1)/\
   Tr P n' bd e (upd s b (.loop l .busy none ps asg bd n' envL1)) (λex _ s=> ∃jump jb st eM,Auw ex=some (jump,jb,st)/\look s b=some (.loop l .busy none ps asg bd n' eM)/\
    ∃e3,BM n o.dst (.t (.bool jb)) (Qq env)=some e3/\A6 P n ops aD e3 (upd s b (.loop l st jump ps asg bd n' eM)) k))):
  A6 P n ops (o::aD) env σ k:=by
 simp only[A6,Bt,hg];intro w g a hi he F hF next Q hn;have i9:xs.length=ps.size:=A4f aO;obtain⟨r,q1,q2,q3,q4,q5,q6,q7,q8,q9,_⟩:=NT (st':=.ready) (pe':=none) hi hb;obtain⟨vs0,hv,hv0,_⟩:=Y7 (AF he l7);have:vs0=[]:=Aq1 (by simpa using hv0);subst this;obtain⟨j9,aJ⟩:=Oj he has
 have aM:(o.semAt F.round a.eval).run P w=.ok (.round l r.fn ((r.params.zip (cl.args.map a.eval)).foldl (λtmps (t,a)=>tmps.setIfInBounds t a) r.tmps) r.assign r.body) w:=by
  rw[A8u _ _ _ (λc hc=>by rw[ho]at hc;cases hc)];have hy:=run_yield (P:=P) (args:=cl.args.map a.eval) q1 (by rw[q4,<-i9,<-j9];simp);simp only[execOp,ho,Ake,resolve,bR,hv,Deferred.ofValue,A4t,Y5,invoke];have e:(([]:List Value).toArray++(cl.args.map a.eval++([]:List Value).toArray))=cl.args.map a.eval:=by apply A5v;simp
  first
   |rw[e];exact hy
   |(simp only[List.toArray_nil,Array.empty_append,Array.append_empty];exact hy)
   |simpa using hy
 refine⟨λf _=>hF.fn f,?_⟩;rw[q5,q6]at aM;rw[aM];refine⟨hF.depth,roundIn_of_wpIn (hF.fn _) ?_⟩
 have eI:Good n' w g {tmps:=(r.params.zip (cl.args.map a.eval)).foldl (λtmps (t,a)=>tmps.setIfInBounds t a) r.tmps,defers:=[]} (RO ps.toList xs envL) σ:=by
  have e1:(r.params.zip (cl.args.map a.eval)).foldl (λtmps (t,a)=>tmps.setIfInBounds t a) r.tmps=(ps.toList.zip (cl.args.toList.map a.eval)).foldl (λtmps p=>tmps.setIfInBounds p.1 p.2) r.tmps:=by
   rw[<-Array.foldl_toList,Array.toList_zip,q4];simp
  rw[e1];refine⟨Uy _ _ _ _ _ (by simpa using j9) aJ (λt ht=>?_) q9,hi,HJ.nil,?_⟩
  ·have:=A21.1 iL t ht;have:t<n':=by simpa[A6i]using this
   omega
  ·simp only[UR];exact q7
 refine A5d (h (F.inRound l) (hF.inRound l) (.inr hr1) w g _ eI) ?_;rintro ex a1 w1 ⟨e1,s1,g1,x1,k1,rfl,envL1,sL,iW⟩;obtain⟨r1,p1,p2,p3,p4,p5,p6,p7,p8,p9,p10⟩:=NT (st':=.busy) (pe':=none) k1.inv sL;refine⟨_,run_beginRound p1 p2,?_⟩;have jQ:Ext w g (w1.putObj l (.loop {r1 with state:=.busy})) g1:=Sf p1 Y _ x1 (.inl q8)
 have p10':Inv (w1.putObj l (.loop {r1 with state:=.busy})) g1 (upd s1 b (.loop l .busy none ps asg bd n' envL1)):=by
  have e:({r1 with state:=.busy,pending:=none}:Loop)={r1 with state:=.busy}:=by cases r1;simp at p3;simp[p3]
  rw[<-e];exact p10
 have nJ:Good n' (w1.putObj l (.loop {r1 with state:=.busy})) g1 a1 e1 (upd s1 b (.loop l .busy none ps asg bd n' envL1)):=
  ⟨λt x ht=>Aa7 p1 Y _ (k1.env t x ht),p10',k1.defers.put p1 _,k1.size⟩
 refine A5d (iW (F.inRound l) (hF.inRound l) (.inr gV) _ g1 _ nJ) ?_
 have fin: ∀(ex:Exit) (a3:Act) (w3:World) (e4:A2) (s3:St) (g3:G) (jump:Option Code) (eM:A2) (e3:A2),Ext (w1.putObj l (.loop {r1 with state:=.busy})) g1 w3 g3->Good n' w3 g3 a3 e4 s3->
   look s3 b=some (.loop l .busy none ps asg bd n' eM)->BM n o.dst (.t (.bool jump.isNone)) (Qq env)=some e3->A6 P n ops aD e3 (upd s3 b (.loop l (if jump.isNone then .ready else .done) jump ps asg bd n' eM)) k->
   ∃v w4,(Instr.endRound l jump).run P w3=.ok v w4/\next (a.put o.dst v) w4:=by
  intro ex a3 w3 e4 s3 g3 jump eM e3 iB nK pH bB jZ;obtain⟨r3,t1,t2,t3,t4,t5,t6,t7,t8,t9,t10⟩:=NT (st':=if jump.isNone then .ready else .done) (pe':=jump) nK.inv pH;refine⟨_,_,run_endRound jump t1,hn _ _ ⟨.t (.bool jump.isNone),Qq env,_,⟨g3,?_,.t _ _ (.bool _),t10,?_⟩,e3,bB,jZ⟩⟩
  ·exact Sf t1 Y _ (jQ.trans iB) (.inl q8)
  ·exact Ag5 (Sf t1 Y _ (jQ.trans iB) (.inl q8)).keeps he
 rintro ex a3 w3 ⟨e4,s3,g3,iB,nK,jump,jb,st,eM,hj,pH,e3,bB,jZ⟩
 cases ex with
 |normal=>cases hj;exact fin .normal a3 w3 e4 s3 g3 none eM e3 iB nK pH bB jZ
 |ret=>cases hj;exact fin .ret a3 w3 e4 s3 g3 (some .ret) eM e3 iB nK pH bB jZ
 |exit id=>cases hj;exact fin (.exit id) a3 w3 e4 s3 g3 (some (.exit id)) eM e3 iB nK pH bB jZ
 |goto t=>cases hj
 |panic ch=>cases hj
 |outgrown=>cases hj
theorem SI {b:Nat} {l:Nat} {st:LoopState} {pe:Option Code} {ps:Array Tmp} {asg bd:Code} {n:Nat} {envL:A2} (hb:b % 2=0): ∀{σ:St},Dg (upd σ b (.loop l st pe ps asg bd n envL))=Dg σ:=by
 have hz: ∀k,Nat.beq k b=true->Nat.beq (k % 2) 1=false:=λk hk=>by
  have:=A4f hk;subst this;rw[hb];rfl
 intro σ
 induction σ with
 |nil=>simp only[upd,Dg,hb];rfl
 |cons p r ih=>
  obtain⟨k,B⟩:=p;simp only[upd]
  cases hk:Nat.beq k b with
  |true=>cases B<;>simp[Dg,hz k hk]
  |false=>cases B<;>simp[Dg,ih]
def KM:Nat:=200000
def Aux:Option Code->Option Exit
 |none=>some .normal
 |some .ret=>some .ret
 |some (.exit id)=>some (.exit id)
 |_=>none
theorem Q3.wide_of {F:Fence} (h:Q3 F) (hr:F.round=none):F=Fence.wide:=by
 rcases h with rfl|⟨l,rfl⟩
 ·rfl
 ·simp[Fence.inRound]at hr
theorem Ac4 {gop:Operand} {gf:Nat} {caps:List T} {ps:Array Tmp} {asg bd:Code} {fn:Func} {code:Code} (hp:ProgOk P c) (hg:ev env gop=some (.t (.func (.func gf) [] caps))) (hf:P.funcs[gf]?=some fn) (mG:fn.body=some code)
  (cJ:Nat.ble (caps.length+1) fn.ntmps=true)
  (h: ∀l:Nat,Tr P fn.ntmps code (H7 0 (.t (.func (.yield l) [] [])::Af caps)) ((KM,.loop l .ready none ps asg bd n (KV env))::Z5 σ)
   (λex e s=>(ex=.normal\/ex=.ret)/\OB c.te true fn.results.toList e s=some (.tuple [],s)/\ ∃st pe envL ex',look s KM=some (.loop l st pe ps asg bd n envL)/\st≠ .busy/\Aux pe=some ex'/\
    K ex' (TN σ env) (Dg s))):
  Tr P n (.rangeFunc gop ps asg bd) env σ K:=by
 intro F hF bP w g a c9;have fT:F.round=none:=by rcases bP with h|h;exact h;simp[MN]at h
 have hFw:=hF.wide_of fT;subst hFw;refine wpIn_rangeFunc ?_;intro fn0 hfn0;rw[fT];obtain⟨vs,hv,lC,hvr⟩:=Y7 (AF c9.env hg)
 obtain⟨rec,lG⟩: ∃rec:Loop,rec={state:=.ready,pending:=none,fn:=fn0,tmps:=a.tmps,params:=ps,assign:=asg,body:=bd,defers:=w.heap.size}:=⟨_,Y⟩
 obtain⟨W0,vA⟩: ∃W0,w.alloc (.deferred (some []))=W0:=⟨_,Y⟩
 obtain⟨W1,fC⟩: ∃W1,W0.alloc (.loop rec)=W1:=⟨_,Y⟩
 have oA:More w W0 (.deferred (some [])):=vA▸More.alloc w _;have iD:More W0 W1 (.loop rec):=fC▸More.alloc W0 _;obtain⟨x0,i0,r0⟩:=Fs (ZC c9.inv) oA
 have iQ:look (Z5 σ) KM=none:=by
  have:=(ZC c9.inv).dom KM;simp[G.up,KM]at this;exact this
 have hB:(∀v x,Rel W0 (g.up σ) v x->Rel W1 ((g.up σ).with KM (some W0.heap.size)) v x)->Fh W1 ((g.up σ).with KM (some W0.heap.size)) KM (.loop W0.heap.size .ready none ps asg bd n (KV env)):=by
  intro hr;refine⟨rec,by simp[G.with],by simp[G.with],iD.new,by subst lG;exact⟨Y,Y,Y,Y,Y⟩,by subst lG;exact c9.size,λt x ht=>?_⟩;rw[Vv]at ht
  cases hl:look env t with
  |none=>simp[hl]at ht
  |some y=>
   simp[hl]at ht;subst ht;subst lG;exact hr _ _ (r0 _ _ (Rm (c9.env t y hl)))
 obtain⟨x1,i1,r1⟩:=HS i0 iQ iD hB;have hsz0:W0.heap.size=w.heap.size+1:=oA.size
 refine⟨W0.heap.size,[{target:=.collected w.heap.size,args:= #[]}],W1,{target:=.fn (.func gf) vs.toArray,args:= #[.func (.yield W0.heap.size) #[] #[]]},W1,gf,
  #[.func (.yield W0.heap.size) #[] #[]]++vs.toArray,W1,?_,?_,(λf' _=>trivial),?_,(by intro h;cases h),?_⟩
 ·rw[<-fC,<-vA,lG,World.size_alloc];exact run_enterLoop_outer _ _ _ _ _
 ·simp only[resolve,hv];simp[go_sem]
 ·simp only[invoke];rw[IJ hp hf (by simp[mG])]
 ·have oT:BB W1 ((g.up σ).with KM (some W0.heap.size)) (.func (.yield W0.heap.size) #[] #[]::vs) (.t (.func (.yield W0.heap.size) [] [])::Af caps):=by
   refine A3k (.t _ _ ?_) (Ik lC λi v x a b=>((hvr i v x a b).mono ?_))
   ·exact RelT.func _ [] [] [] [] Y Y (λi v x a=>by simp at a) (λi v x a=>by simp at a)
   ·have k:=(x0.trans x1).keeps;intro b o v hb hc;exact k b o v (λhm=>hb hm) hc
  refine(callsIn_wide (n:=0-1)).2 ?_;have e:(#[Value.func (.yield W0.heap.size) #[] #[]]++vs.toArray)=(Value.func (.yield W0.heap.size) #[] #[]::vs).toArray:=by apply A5v;simp
  rw[e];refine Jd hf mG (by simpa[Bz]using cJ) (h W0.heap.size) oT i1 ?_;rintro ex a' w' g' env' σ' hx sU ⟨eL,rQ,st,pe,envL,ex',cU,cL,hj,hK⟩;obtain⟨v,g2,q1,q2,_,q4⟩:=LI hp sU rQ;refine⟨eL,v,q1,?_⟩;obtain⟨r3,t1,t2,t3,t4,t5,t6,t7,t8,t9,t10⟩:=NT (st':=.exhausted) (pe':=pe) q4 cU;have kW:({r3 with state:=.exhausted,pending:=pe}:Loop)={r3 with state:=.exhausted}:=by cases r3;simp at t3;simp[t3]
  rw[kW]at t10;have hxa:Ext w (g.up σ) w' g2:=((x0.trans x1).trans hx).trans q2;have qZ:Ext w (g.up σ) (w'.putObj W0.heap.size (.loop {r3 with state:=.exhausted})) g2:=Sf t1 Y _ hxa (.inr Aa);have hdn:Dg (upd σ' KM (.loop W0.heap.size .exhausted pe ps asg bd n envL))=Dg σ':=SI (by simp[KM]);have qG:=YX c9.inv t10 qZ;rw[hdn]at qG;have lQ:=YY c9.inv qZ;have hD1:W1.heap[w.heap.size]?=some (.deferred (some [])):=by rw[iD.old _ Aa];exact oA.new
  have oY: ¬((g.up σ).with KM (some W0.heap.size)).own w.heap.size:=by
   rintro(h|h)
   ·have:=c9.inv.lt _ (.inl h);omega
   ·simp at h;omega
  have hsz1:W1.heap.size=W0.heap.size+1:=iD.size;have m7: ¬g2.own w.heap.size:=λh=>oY ((hx.trans q2).own _ Aa h);have hD2:w'.heap[w.heap.size]?=some (.deferred (some [])):=by rw[hx.keep _ Aa oY];exact hD1
  have eI:Good n (w'.putObj W0.heap.size (.loop {r3 with state:=.exhausted})) (g2.down g) {a with defers:=[{target:=.collected w.heap.size,args:= #[]}]++a.defers} (TN σ env) (Dg σ'):=by
   refine⟨λt x ht=>Aeg qZ c9.env t x ht,qG,?_,c9.size⟩;obtain⟨Ds,d1,d2,d3⟩:=c9.defers.ext lQ;obtain⟨Ds',d1',_,d3'⟩:=c9.defers
   have hDs:Ds=Ds':=by
    have:Ds.map (λD=>({target:=.collected D,args:= #[]}:Deferred))=Ds'.map (λD=>({target:=.collected D,args:= #[]}:Deferred)):=by rw[<-d1,<-d1']
    exact List.map_inj_right (λx y qX=>by simpa using qX)|>.1 this
   refine⟨w.heap.size::Ds,by simp[d1],?_,?_⟩
   ·refine A7w.2 ⟨λhm=>?_,d2⟩;have:=C9 (d3' _ (hDs▸hm)).1;omega
   ·intro D hD;simp only[Als]at hD;rcases hD with rfl|hD
    ·exact⟨by rw[A29 Aa];exact hD2,m7,c9.inv.lo⟩
    ·exact d3 D hD
  have oP:(Instr.endLoop W0.heap.size).run P w'=.ok pe (w'.putObj W0.heap.size (.loop {r3 with state:=.exhausted})):=by
   have:=run_endLoop (P:=P) t1 (by rw[t2];exact cL);rw[this,t3]
  refine⟨pe,_,oP,?_⟩
  cases pe with
  |none=>cases hj;exact⟨_,_,_,lQ,eI,hK⟩
  |some cc=>
   cases cc with
   |ret=>cases hj;exact wpIn_ret ⟨_,_,_,lQ,eI,hK⟩
   |exit id=>cases hj;exact wpIn_exit ⟨_,_,_,lQ,eI,hK⟩
   |_=>cases hj
end
end Go.Am
namespace Go.Am
theorem SA {b sz:Nat} {es:List (List T)} {B:Blk}: ∀{σ:St},Gf b sz es (upd σ b B)=Gf b sz es σ
 |[]=>by simp[upd,Gf]
 |(k,C)::r=>by
  simp only[upd];by_cases h:k=b
  ·subst h;simp[Gf]
  ·simp[Gf,CF h,SA (σ:=r)]
theorem SpOk.upd {w:World} {g:G} {σ:St} (h:SpOk w g σ) (b:Nat) {B:Blk} (hB: ∀L,B≠ .rights L):SpOk w g (Am.upd σ b B):=
 h.mono (WW _) Y (λ_ _ _ h=>h) (λ_ _ _ _ _=>rfl) (λc aA h=>.inl ⟨c,h⟩) (λc L hL=>by
  rw[AK]at hL;split at hL
  ·exact absurd (Option.some.inj hL) (hB L)
  ·exact hL)
theorem A3q {P:Program} {n:Nat} {env:A2} {σ:St} {K:Exit->A2->St->Prop} {code:Code} (t b:Nat) {cs:List T} (pW:b % 2=0) (hl:look env t=some (.ref b 0)) (hb:look σ b=some (.cells (Af cs))) (aU:cs.all CV=true)
  (h:Tr P n code ((t,.t (.ptr cs))::IM b cs.length [cs] env) (Gf b cs.length [cs] σ) K):Tr P n code env σ K:=by
 intro F hF bP w g a hg;have hi:=hg.inv;obtain⟨aA,vs,e,q1,q2,q3,q4,q5⟩:=hi.ok b _ hb;have fU: ∀(i:Nat) x,cs[i]?=some x->CV x=true:=λi x hx=>A21.1 aU x (Apj hx);have aJ: ∀(i:Nat) v x,vs[i]?=some v->cs[i]?=some x->RelT w g.M v x:=λi v x hv hx=>Av (q5 i v (.t x) hv (by rw[CK,hx];rfl))
 have dM:Inv w g (upd σ b (.grow cs.length [cs])):=by
  refine⟨λc C hC=>?_,λc=>?_,hi.inj,hi.lt,λc hc=>⟨(hi.bx c hc).1,?_⟩,hi.dis,hi.im,hi.lo,hi.sx.upd b (λL h=>by cases h)⟩
  ·rw[AK]at hC;split at hC
   ·rename_i e1;subst e1;cases hC;refine⟨λe he=>by simp at he;subst he;rfl,.inr ⟨aA,vs,e,q1,q2,q3,?_,λi v x hv hx=>?_⟩⟩
    ·simp;rw[q4,Bz];exact WW _
    ·simp at hx;exact⟨fU i x hx,aJ i v x hv hx⟩
   ·exact hi.ok c C hC
  ·rw[AK];by_cases e1:b=c
   ·subst e1;simp[q1]
   ·simp only[Ug e1];exact hi.dom c
  ·rw[AK];have aE:b≠c:=λe1=>by subst e1;have:=(hi.bx _ hc).1;omega
   simp only[Ug aE];exact(hi.bx c hc).2
 obtain⟨k1,k2,k3⟩:=freeze dM (b:=b) (sz:=cs.length) (es:=[cs]) (by rw[AK];simp);rw[SA]at k2;refine A5d (h F hF bP w _ a ⟨λt' x hx=>?_,k2,hg.defers.ext k1,hg.size⟩) λex a2 w2 hq=>hq.lift k1;rw[Ap]at hx;split at hx
 ·rename_i e1;subst e1;cases hx;have hr:=hg.env t _ hl;generalize a.tmps.getD t undef=v at hr
  cases hr with
  |ref _ _ aX cN=>
   rw[q1]at cN;cases cN;refine .t _ _ (.ptr _ _ cs (λi=>vs.getD i undef) fU (λi x hx=>⟨?_,?_⟩) (λi x hx=>?_))
   ·rintro(ho|ho)
    ·exact ho.1.2 q1
    ·exact hi.dis _ _ q2 ho
   ·have aC:i<vs.size:=by rw[q4,Bz];exact Bu hx
    simp[World.cell?,q3,aC]
   ·have aC:i<vs.size:=by rw[q4,Bz];exact Bu hx
    have hv:vs[i]?=some (vs.getD i undef):=by simp[aC]
    exact(aJ i _ x hv hx).mono k1.keeps
 ·rw[FD]at hx
  cases cX:look env t' with
  |none=>simp[cX]at hx
  |some y=>simp[cX]at hx;subst hx;exact k3 _ _ (hg.env t' y cX)
end Go.Am
namespace Go.Am
end Go.Am
namespace Go.Am
section
variable {P:Program} {c:Conf} {n:Nat} {ops:Array Oper} {aD:List Oper} {env:A2} {σ:St} {o:Oper} {k:A2->St->Prop}
theorem Is (aY:ProgOk P c) {t m e:Nat} {parts:Array (Nat×Operand)} {ti ei:TI} {ps:List (Nat×AV)} {cs:List AV} {e2:A2} (hg:o.guard=none) (ho:o.op=.build t parts) (ht:look c.te t=some ti) (hk:ti.kind=.array m e) (he:look c.te e=some ei)
  (iL:Dx env parts.toList=some ps) (hf:G4 (λi=>some (i*ei.size,ei.size)) ps (Af ti.zero)=some cs) (hp:BM n o.dst (.agg cs) env=some e2) (h:A6 P n ops aD e2 σ k):A6 P n ops (o::aD) env σ k:=by
 simp only[A6,Bt,hg];intro w g a hi bS;have aH:=aY.te;have hz:=DI (aH _ _ ht) w;have hd:=Ic (aH _ _ ht) w hk;have aN:=C0 (aH _ _ he) w;obtain⟨aK,f1,f2⟩:=JE (w:=w) (g:=g) (λi=>some (i*ei.size,ei.size)) hf (DN (aH _ _ ht)) (Kz bS iL);have f1':Instr.fill (λi=>some (i*ei.size,ei.size)) (BJ ti).cells (parts.map λp=>(p.1,a.eval p.2)).toList=some aK:=by rw[<-f1];simp
 have aM:(Instr.build t (parts.map λp=>(p.1,a.eval p.2))).run P w=.ok (.agg aK) w:=by
  simp only[Instr.build,Ake,hz,Y5,hd,aN,f1',A4t]
 refine BN.value (v:=.agg aK) (w':=w) ?_ ⟨.agg cs,env,σ,⟨g,A3h _ _,?_,hi,bS⟩,e2,hp,h⟩
 ·simp[execOp,ho,aM]
 ·have:aK=aK.toList.toArray:=Ac;rw[this];exact .agg _ _ f2.1 f2.2
def LoopN (P:Program) (n:Nat) (b:Code) (K:Exit->A2->St->Prop):Nat->A2->St->Prop
 |0,_,_=>False
 |m+1,e,s=>Tr P n b e s (λex e s=>match ex with
  |.normal=>LoopN P n b K m e s
  |ex=>K ex e s)
theorem LoopN.rounds {F:Fence} (hF:Q3 F) {b:Code} (bP:RF F b) {K:Exit->A2->St->Prop}: ∀(m:Nat) {env:A2} {σ:St} {w:World} {g:G} {a:Act} {w0:World} {g0:G},LoopN P n b K m env σ->Good n w g a env σ->Ext w0 g0 w g->Code.roundsIn F 0 P b (Cl n w0 g0 K) m a w
 |0,_,_,_,_,_,_,_,h,_,_=>h.elim
 |m+1,env,σ,w,g,a,w0,g0,h,hg,hx=>by
  rw[roundsIn_succ];refine A5d (h F hF bP w g a hg) ?_;rintro ex a' w' ⟨env',σ',g',h1,h2,h3⟩
  cases ex with
  |normal=>exact LoopN.rounds hF bP m h3 h2 (hx.trans h1)
  |exit id=>exact⟨env',σ',g',hx.trans h1,h2,h3⟩
  |goto l=>exact⟨env',σ',g',hx.trans h1,h2,h3⟩
  |ret=>exact⟨env',σ',g',hx.trans h1,h2,h3⟩
  |panic ch=>exact⟨env',σ',g',hx.trans h1,h2,h3⟩
  |outgrown=>exact⟨env',σ',g',hx.trans h1,h2,h3⟩
theorem B6 {b:Code} {K:Exit->A2->St->Prop} (m:Nat) (h:LoopN P n b K m env σ):Tr P n (.loop b) env σ K:=
 λF hF bP w g a hg=>wpIn_loop_rounds m (LoopN.rounds hF bP.loop m h hg (A3h _ _))
theorem BH {b:Code} {K:Exit->A2->St->Prop} {m:Nat} (h:Tr P n b env σ (λex e s=>match ex with
  |.normal=>LoopN P n b K m e s
  |ex=>K ex e s)):LoopN P n b K (m+1) env σ:=h
end
end Go.Am
namespace Go.Am
section
variable {P:Program} {c:Conf} {n:Nat} {ops:Array Oper} {aD:List Oper} {env:A2} {σ:St} {o:Oper} {k:A2->St->Prop}
theorem Ac3 (aY:ProgOk P c) {t yt:Nat} {xo yo:Operand} {kk k':IntKind} {a b:Int} (m:Nat) {e2:A2} (hg:o.guard=none) (ho:o.op=.binOp .shr t xo yo yt) (hx:ev env xo=some (.t (.int kk a))) (hy:ev env yo=some (.t (.int k' b))) (hb:b=(m:Int))
  (hp:BM n o.dst (.t (.int kk (a.fdiv (2^(min m kk.bits))))) env=some e2) (h:A6 P n ops aD e2 σ k):A6 P n ops (o::aD) env σ k:=by
 subst hb;refine DQ aY (x:=.t (.int kk (a.fdiv (2^(min m kk.bits))))) (e:=env) (s:=σ) hg ?_ hp h;have h1: ¬((m:Int)<0):=Aa;unfold ES;rw[ho];simp only[Cj,hx,hy,Zm,An0,LW,V6,Ug h1,Int.toNat_natCast]
theorem Ai1 (aY:ProgOk P c) {t m e:Nat} {xo:Operand} {cs:List T} {ti ei:TI} {e2:A2} (hg:o.guard=none) (ho:o.op=.slice t xo none none none) (hx:ev env xo=some (.t (.ptr cs))) (ht:look c.te t=some ti) (hk:ti.kind=.array m e) (he:look c.te e=some ei)
  (hl:cs.length=m*ei.size) (hm:m≠0) (hp:BM n o.dst (.t (.slice .full ei.size (CH ei.size m cs))) env=some e2) (h:A6 P n ops aD e2 σ k):A6 P n ops (o::aD) env σ k:=by
 simp only[A6,Bt,hg];intro w g a hi bS;have aH:=aY.te;have hd:=Ic (aH _ _ ht) w hk;have aN:=C0 (aH _ _ he) w;obtain⟨b,off,hv,hc⟩:=GR (Av (AF bS hx));have hb:=E4 (P:=P) (w:=w) bS (s:=false) (len:=m) (cap:=m) (lo:=none) (hi:=none) (l:=0) (h:=m) Y Y (WW _) (A5t _);simp only[Option.map_none]at hb
 have aM:(Instr.sliceAt t (a.eval xo) none none none).run P w=.ok (.slice (some ⟨b,off,none⟩) m m) w:=by
  rw[hv];simp[Instr.sliceAt,hd,hb,aN,Instr.sureAddr,asAddr,Addr.add,hm]
 obtain⟨q1,q2,q3⟩:=K4 ei.size m cs hl;refine BN.value (v:=.slice (some ⟨b,off,none⟩) m m) (w':=w) ?_ ⟨_,env,σ,⟨g,A3h _ _,.t _ _ (EA (m:=.full) q3 (WW _) (λ_=>rfl) Ac q2 (λi x hx=>?_)),hi,bS⟩,e2,hp,h⟩
 ·simp[execOp,ho,aM]
 ·rw[q1]at hx;exact hc i x hx
theorem Ar6 {w:World} {g:G} {a:Act} (t b:Nat) {cs:List T} (pW:b % 2=0) (hl:look env t=some (.ref b 0)) (hb:look σ b=some (.cells (Af cs))) (aU:cs.all CV=true) (hi:Inv w g σ) (dN:AQ w g a env):
  ∃g',Ext w g w g'/\Inv w g' (Gf b cs.length [cs] σ)/\AQ w g' a ((t,.t (.ptr cs))::IM b cs.length [cs] env):=by
 obtain⟨aA,vs,e,q1,q2,q3,q4,q5⟩:=hi.ok b _ hb;have fU: ∀(i:Nat) x,cs[i]?=some x->CV x=true:=λi x hx=>A21.1 aU x (Apj hx);have aJ: ∀(i:Nat) v x,vs[i]?=some v->cs[i]?=some x->RelT w g.M v x:=λi v x hv hx=>Av (q5 i v (.t x) hv (by rw[CK,hx];rfl))
 have dM:Inv w g (upd σ b (.grow cs.length [cs])):=by
  refine⟨λc C hC=>?_,λc=>?_,hi.inj,hi.lt,λc hc=>⟨(hi.bx c hc).1,?_⟩,hi.dis,hi.im,hi.lo,hi.sx.upd b (λL h=>by cases h)⟩
  ·rw[AK]at hC;split at hC
   ·rename_i e1;subst e1;cases hC;refine⟨λe he=>by simp at he;subst he;rfl,.inr ⟨aA,vs,e,q1,q2,q3,?_,λi v x hv hx=>?_⟩⟩
    ·simp;rw[q4,Bz];exact WW _
    ·simp at hx;exact⟨fU i x hx,aJ i v x hv hx⟩
   ·exact hi.ok c C hC
  ·rw[AK];by_cases e1:b=c
   ·subst e1;simp[q1]
   ·simp only[Ug e1];exact hi.dom c
  ·rw[AK];have aE:b≠c:=λe1=>by subst e1;have:=(hi.bx _ hc).1;omega
   simp only[Ug aE];exact(hi.bx c hc).2
 obtain⟨k1,k2,k3⟩:=freeze dM (b:=b) (sz:=cs.length) (es:=[cs]) (by rw[AK];simp);rw[SA]at k2;refine⟨_,k1,k2,λt' x hx=>?_⟩;rw[Ap]at hx;split at hx
 ·rename_i e1;subst e1;cases hx;have hr:=dN t _ hl;generalize a.tmps.getD t undef=v at hr
  cases hr with
  |ref _ _ aX cN=>
   rw[q1]at cN;cases cN;refine .t _ _ (.ptr _ _ cs (λi=>vs.getD i undef) fU (λi x hx=>⟨?_,?_⟩) (λi x hx=>?_))
   ·rintro(ho|ho)
    ·exact ho.1.2 q1
    ·exact hi.dis _ _ q2 ho
   ·have aC:i<vs.size:=by rw[q4,Bz];exact Bu hx
    simp[World.cell?,q3,aC]
   ·have aC:i<vs.size:=by rw[q4,Bz];exact Bu hx
    have hv:vs[i]?=some (vs.getD i undef):=by simp[aC]
    exact(aJ i _ x hv hx).mono k1.keeps
 ·rw[FD]at hx
  cases cX:look env t' with
  |none=>simp[cX]at hx
  |some y=>simp[cX]at hx;subst hx;exact k3 _ _ (dN t' y cX)
theorem Cr (t b:Nat) {cs:List T} (hg:o.guard=none) (pW:b % 2=0) (hl:look env t=some (.ref b 0)) (hb:look σ b=some (.cells (Af cs))) (aU:cs.all CV=true)
  (h:A6 P n ops (o::aD) ((t,.t (.ptr cs))::IM b cs.length [cs] env) (Gf b cs.length [cs] σ) k):A6 P n ops (o::aD) env σ k:=by
 simp only[A6,Bt,hg]at h⊢;intro w g a hi he;obtain⟨g',k1,k2,k3⟩:=Ar6 t b pW hl hb aU hi he;refine(h w g' a k2 k3).mono ?_;rintro v w' ⟨x,e,s,hp,hk⟩;exact⟨x,e,s,hp.lift k1,hk⟩
theorem KO (aY:ProgOk P c) {cl:Call} {so xo:Operand} {t e d s0 b0 sz:Nat} {z0:List T} {bN bO:Nat} {ez:List T} {ek:TK} {news:List (List T)} {m:SM} {x:AV} {e1 e2:A2} {s:St} (hg:o.guard=none) (ho:o.op=.call cl) (bR:cl.callee=.builtin .append) (ha:cl.args.toList=[so,xo])
  (eG:cl.argTypes.toList=[t,t]) (hd:o.dst=some d) (hs:ev env so=some (.t (.slice .full 0 []))) (hx:ev env xo=some (.t (.slice m sz news))) (ht:look c.te t=some ⟨s0,b0,z0,.slice e⟩) (he:look c.te e=some ⟨bN,bO,ez,ek⟩) (aN:bN=sz)
  (hf:E1 (2*d) env σ (λenv σ=>some (AV.row (2*d) bN 0 news.length,env,(2*d,Blk.grow bN news)::σ))=some (x,e1,s)) (hp:BM n o.dst x e1=some e2)
  (bW:news.length*(bO+1)<=140737488355328) (h:A6 P n ops aD e2 s k):A6 P n ops (o::aD) env σ k:=by
 refine DQ aY (x:=x) (e:=e1) (s:=s) hg ?_ hp h;unfold ES;rw[ho];simp only[bR,Gp,ho,ha,eG,hs,hx,hd,Ia,ht,he,Jb,aN,Xs,bW];rw[<-aN];exact hf
end
end Go.Am
namespace Go.Am
structure DrawOkF (ops:Array Oper) (k m:Nat):Prop where
 edge: ∀(i:Nat) o,ops[i]?=some o-> ∀e∈o.after,Region.binds .any e=true->e.on<i
 head: ∀i oi,i<m->ops[i]?=some oi-> ∀j oj,j<i->ops[j]?=some oj->Pre ops j i\/oj.apart ops oi=true
 tail: ∀i,m<=i->i<ops.size-> ∀j,k<=j->j<i->Pre ops j i
 le:m<=ops.size
 km:k<=m
def Ht (ops:Array Oper):List Nat->Array Bool->Bool
 |[],_=>true
 |i::r,l=>(Region.free .any ops l i&&(Region.ready .any ops l).contains i)&&Ht ops r (l.setIfInBounds i true)
section
variable {P:Program} {c:Conf} {n k m:Nat} {ops:Array Oper} {news:List Nat}
def Jl:List Nat->Array Bool->Array Bool
 |[],l=>l
 |i::r,l=>Jl r (l.setIfInBounds i true)
theorem KW: ∀(fl:List Nat) (l:Array Bool),(Jl fl l).size=l.size
 |[],_=>rfl
 |i::r,l=>by simp[Jl,KW r]
theorem O9: ∀(fl:List Nat) (l:Array Bool) (j:Nat),(∀i∈fl,i<l.size)->(Li (Jl fl l) j↔j∈fl\/Li l j)
 |[],l,j,_=>by simp[Jl]
 |i::r,l,j,h=>by
  rw[Jl,O9 r _ j (λx hx=>by simp;exact h x (by simp[hx])),E8 (h i Ac)];simp only[Als];constructor
  ·rintro(h'|h'|h')
   ·exact .inl (.inr h')
   ·exact .inl (.inl h')
   ·exact .inr h'
  ·rintro((h'|h')|h')
   ·exact .inr (.inl h')
   ·exact .inl h'
   ·exact .inr (.inr h')
theorem Uo: ∀(fl:List Nat) (l:Array Bool),l.size=ops.size->Ht ops fl l=true->DC ops l->DC ops (Jl fl l)
 |[],l,_,_,h=>h
 |i::r,l,hs,ht,h=>by
  simp only[Ht,Qp]at ht;have hr:=(BR hs).1 (A8e.1 ht.1.2);obtain⟨_,o,ho,hr⟩:=hr
  have hi:i<ops.size:=by
   rcases A4i i ops.size with h|h
   ·exact h
   ·rw[A39 h]at ho;cases ho
  exact Uo r _ (by simp[hs]) ht.2 (h.set Aa (λo2 d7=>by rw[ho]at d7;cases d7;exact hr))
end
end Go.Am
namespace Go.Am
section
variable {P:Program} {c:Conf} {cf:Nat->List AV->St->Option (AV×St)} {R:Type}
theorem Tr.regFrz {n:Nat} {code:Code} {ops:Array Oper} {env:A2} {σ:St} {K:Exit->A2->St->Prop} (env':A2) (σ':St) (hz:Am.regFrz ops env σ=(env',σ')) (h:Tr P n code env' σ' K):Tr P n code env σ K:=by
 intro F hF bP w g a hg;obtain⟨g',k1,k2⟩:=Fl hz hg;exact A5d (h F hF bP w g' a k2) λex a2 w2 hq=>hq.lift k1
end
end Go.Am
namespace Go.Am
def Az7:SM->Bool
 |.any=>true
 |_=>false
def Ad9:List UInt8->List UInt8->Bool
 |[],[]=>true
 |a::r,b::s=>Nat.beq a.toNat b.toNat&&Ad9 r s
 |_,_=>false
def Az9:Int->Int->Bool
 |.ofNat a,.ofNat b=>Nat.beq a b
 |.negSucc a,.negSucc b=>Nat.beq a b
 |_,_=>false
mutual
def A16:T->T->Bool
 |.bool a,.bool b=>a==b
 |.int k a,.int k' b=>decide (k=k')&&Az9 a b
 |.str a,.str b=>Ad9 a b
 |.slice _ sz es,.slice m' cO es'=>Az7 m'&&Azo (Nat.beq sz cO) es es'
 |.nilIface,.nilIface=>true
 |_,_=>false
def Ajj:List T->List T->Bool
 |[],[]=>true
 |x::r,y::s=>A16 x y&&Ajj r s
 |_,_=>false
def Azo:Bool->List (List T)->List (List T)->Bool
 |_,[],[]=>true
 |b,e::r,e'::r'=>b&&(Ajj e e'&&Aji r r')
 |_,_,_=>false
def Aji:List (List T)->List (List T)->Bool
 |[],[]=>true
 |x::r,y::s=>Ajj x y&&Aji r s
 |_,_=>false
end
end Go.Am
namespace Go.Am
mutual
def KB:T->Bool
 |.undef=>true
 |.bool _=>true
 |.int _ _=>true
 |.str _=>true
 |.nilIface=>true
 |.nilPtr=>true
 |.nilFunc=>true
 |.nilMap=>true
 |.agg l=>R7 l
 |.tuple l=>R7 l
 |_=>false
def R7:List T->Bool
 |[]=>true
 |x::r=>KB x&&R7 r
end
mutual
def HC:AV->Bool
 |.t x=>KB x
 |.agg l=>R8 l
 |.tuple l=>R8 l
 |_=>false
def R8:List AV->Bool
 |[]=>true
 |x::r=>HC x&&R8 r
end
theorem MC: ∀{l:List T},R7 l=true-> ∀(i:Nat) x,l[i]?=some x->KB x=true
 |[],_,i,x,h=>by simp at h
 |y::r,hs,i,x,h=>by
  simp only[R7,Qp]at hs
  cases i with
  |zero=>simp at h;subst h;exact hs.1
  |succ i=>simp at h;exact MC hs.2 i x h
theorem MD: ∀{l:List AV},R8 l=true-> ∀(i:Nat) x,l[i]?=some x->HC x=true
 |[],_,i,x,h=>by simp at h
 |y::r,hs,i,x,h=>by
  simp only[R8,Qp]at hs
  cases i with
  |zero=>simp at h;subst h;exact hs.1
  |succ i=>simp at h;exact MD hs.2 i x h
theorem Afd {w w':World} {M M':Nat->Nat->Prop} {v:Value} {x:T} (h:RelT w M v x):KB x=true->RelT w' M' v x:=by
 induction h with
 |undef=>exact λ_=>.undef
 |bool b=>exact λ_=>.bool b
 |int k n=>exact λ_=>.int k n
 |str s=>exact λ_=>.str s
 |nilPtr=>exact λ_=>.nilPtr
 |nilIface=>exact λ_=>.nilIface
 |nilFunc=>exact λ_=>.nilFunc
 |nilMap=>exact λ_=>.nilMap
 |agg vs xs h _ ih=>intro hs;simp only[KB]at hs;exact .agg vs xs h (λi v x a b=>ih i v x a b (MC hs i x b))
 |tuple vs xs h _ ih=>intro hs;simp only[KB]at hs;exact .tuple vs xs h (λi v x a b=>ih i v x a b (MC hs i x b))
 |sliceNil=>intro hs;simp[KB]at hs
 |sliceZ=>intro hs;simp[KB]at hs
 |slice=>intro hs;simp[KB]at hs
 |ptr=>intro hs;simp[KB]at hs
 |iface=>intro hs;simp[KB]at hs
 |func=>intro hs;simp[KB]at hs
theorem Up {w w':World} {g g':G} {v:Value} {x:AV} (h:Rel w g v x):HC x=true->Rel w' g' v x:=by
 induction h with
 |t v x h=>intro hs;exact .t v x (Afd h hs)
 |agg vs xs h _ ih=>intro hs;simp only[HC]at hs;exact .agg vs xs h (λi v x a b=>ih i v x a b (MD hs i x b))
 |tuple vs xs h _ ih=>intro hs;simp only[HC]at hs;exact .tuple vs xs h (λi v x a b=>ih i v x a b (MD hs i x b))
 |top=>intro hs;simp[HC]at hs
 |ref=>intro hs;simp[HC]at hs
 |eref=>intro hs;simp[HC]at hs
 |mref=>intro hs;simp[HC]at hs
 |rowNil=>intro hs;simp[HC]at hs
 |row=>intro hs;simp[HC]at hs
 |iface=>intro hs;simp[HC]at hs
 |func=>intro hs;simp[HC]at hs
def HH (σ:St):AV->Option AV
 |.t x=>some (.t x)
 |.row b sz lo n=>match look σ b with
  |some (.grow cO es)=>bif Nat.beq sz cO&&(Nat.beq lo 0&&Nat.ble n es.length)then some (.t (.slice .any sz (es.take n)))else none
  |_=>none
 |_=>none
def KE (σ:St):List AV->Option (List AV)
 |[]=>some []
 |x::r=>match HH σ x with
  |some y=>match KE σ r with
   |some s=>some (y::s)
   |none=>none
  |none=>none
def G.lend (g:G) (σ:St):G:={β:=λ_=>none,own:=λ_=>False,oth:=λaA o=>g.M aA o/\ ¬ ∃b sz es,look σ b=some (.grow sz es)/\g.β b=some (some aA),sp:=λ_=>none,bx:=λ_=>False,lo:=g.lo}
theorem Ald {g:G} {σ:St} {aA o:Nat} (h:(g.lend σ).M aA o):g.M aA o:=by
 rcases h with h|h
 ·exact h.1.elim
 ·exact h.1
theorem Ym {w:World} {g:G} {σ:St} (hi:Inv w g σ):Inv w (g.lend σ) []:=
 ⟨λb B h=>by simp[look]at h,λb=>by simp[look,G.lend],λb b' aA h=>by simp[G.lend]at h,λaA h=>(by
   rcases h with h|⟨o,h⟩
   ·exact h.elim
   ·rcases h.1 with h|h
    ·exact hi.lt aA (.inl h.1)
    ·exact hi.lt aA (.inr ⟨o,h⟩)),λb h=>by simp[G.lend]at h,λaA o h=>by simp[G.lend]at h,
  λp hp=>⟨λh=>(hi.im p hp).1 (Ald h),(hi.im p hp).2⟩,hi.lo,.empty (λ_ _ h=>by cases h) (λ_=>rfl)⟩
theorem Agt {w:World} {g:G} {σ:St} (hi:Inv w g σ) {v:Value} {x y:AV} (h:HH σ x=some y) (hr:Rel w g v x):Rel w (g.lend σ) v y:=by
 have hk:Jh w g.M w (g.lend σ).M:=λb o u h1 h2=>⟨λh=>h1 (Ald h),h2⟩
 cases x with
 |t x=>simp[HH]at h;subst h;exact .t _ _ ((Av hr).mono hk)
 |row b sz lo n=>
  simp only[HH]at h
  cases hb:look σ b with
  |none=>rw[hb]at h;simp at h
  |some B=>
   rw[hb]at h
   cases B with
   |cells=>simp at h
   |loop=>simp at h
   |mp=>simp at h
   |rights=>simp at h
   |grow cO es=>
    simp only at h
    cases hq:(Nat.beq sz cO&&(Nat.beq lo 0&&Nat.ble n es.length))with
    |false=>rw[hq]at h;simp at h
    |true=>
     rw[hq]at h;simp only[A6x,A26]at h;subst h;simp only[Qp]at hq;obtain⟨h1,h2,h3⟩:=hq;have h1:=A4f h1;have h2:=A4f h2;have h3:n<=es.length:=by simpa using h3
     subst h1;subst h2;obtain⟨aN,jY⟩:=hi.ok b _ hb
     cases hr with
     |rowNil _ _ a ha hβ=>
      refine .t _ _ ?_
      cases a with
      |none=>simpa using RelT.sliceNil (w:=w) (M:=(g.lend σ).M) .any sz
      |some a=>simpa using RelT.sliceZ (w:=w) (M:=(g.lend σ).M) a .any sz Ac
     |row _ _ _ _ aA o cap e m hβ hs ho hl hn=>
      rcases jY with⟨q1,q2⟩|⟨aX,u,e',k1,k2,k3,k4,k5⟩
      ·rw[q1]at hβ;cases hβ
      rw[k1]at hβ;cases hβ;refine .t _ _ (EA (by simp;omega) hl (λh=>by cases h) Ac (λe he=>aN e (A3c he)) (λi x hx=>?_))
      have l8:es.flatten[i]?=some x:=by
       have:=Do sz es aN 0 n i x (by simpa using hx)
       simpa using this
      have m8:n≠0:=λe=>by subst e;simp at hx
      have dE:o=0:=by rcases ho with h|h<;>omega
      subst dE;have aC:i<u.size:=A4y (Bu l8) k4;have hv:u[i]?=some u[i]:=by simp[aC]
      obtain⟨q1,q2⟩:=k5 i _ x hv l8;refine⟨?_,q1,u[i],by simp[World.cell?,k3,aC],q2.mono hk⟩;rintro(h|h)
      ·exact h.1.elim
      ·exact h.2 ⟨b,sz,es,hb,k1⟩
 |top=>simp[HH]at h
 |ref=>simp[HH]at h
 |eref=>simp[HH]at h
 |mref=>simp[HH]at h
 |iface=>simp[HH]at h
 |func=>simp[HH]at h
 |agg=>simp[HH]at h
 |tuple=>simp[HH]at h
theorem OO {w:World} {g:G} {σ:St} (hi:Inv w g σ): ∀{xs ys:List AV} {vs:List Value},KE σ xs=some ys->BB w g vs xs->BB w (g.lend σ) vs ys
 |[],ys,vs,h,hr=>by
  simp[KE]at h;subst h;exact⟨hr.1,λi v x hv hx=>by simp at hx⟩
 |x::r,ys,vs,h,hr=>by
  simp only[KE]at h
  cases hy:HH σ x with
  |none=>rw[hy]at h;simp at h
  |some y=>
   rw[hy]at h
   cases hs:KE σ r with
   |none=>rw[hs]at h;simp at h
   |some s=>
    rw[hs]at h;simp at h;subst h
    match vs,hr with
    |[],hr=>simp[BB]at hr
    |v::vr,hr=>exact A3k (Agt hi hy (hr.2 0 v x Y Y)) (OO hi hs ⟨by simpa using hr.1,λi u z hu hz=>hr.2 (i+1) u z (by simpa using hu) (by simpa using hz)⟩)
theorem Ct.lend {P:Program} {f:Nat} {xs ys:List AV} {r:AV} {σ:St} (h:Ct P f ys [] r []) (hs:HC r=true) (hl:KE σ xs=some ys):Ct P f xs σ r σ:=by
 refine⟨h.1,λvs w g hr hi=>(h.2 vs w (g.lend σ) (OO hi hl hr) (Ym hi)).mono ?_⟩;rintro e w' ⟨v,g',rfl,hx,hv,dC⟩;have cV: ∀aA,aA<w.heap.size->w'.heap[aA]?=w.heap[aA]?:=λaA hb=>hx.keep aA hb (λh=>h)
 have aG:Ext w g w' g:=⟨hx.size,λaA hb _=>cV aA hb,λ_ _ h=>h,λ_ _=>A6h,hx.shape,λ_ h=>⟨h,Y⟩,⟨Y,hx.lo.2⟩,Hu (λ_ _ _ _ h=>h) (λaA e hb _ _=>cV aA hb)⟩
 have bQ: ∀v x,Rel w g v x->Rel w' g v x:=λv x hr=>hr.mono aG.keeps (λ_ _ h=>h) hx.shape;refine⟨v,g,Y,aG,Up hv hs,⟨λb B hB=>?_,hi.dom,hi.inj,λaA hb=>A4y (hi.lt aA hb) hx.size,hi.bx,hi.dis,hi.im_of aG.keeps,A47 hi.lo hx.size,hi.sx.mono hx.size Y (λ_ _ _ h=>h) (λaA e h _ _=>cV aA (hi.sx.lt _ _ h)) (λc aA h=>.inl ⟨c,h⟩) (λ_ _ h=>h)⟩⟩;have bA:=hi.ok b B hB;refine bA.mono Y (λ_ _ h=>h) (λaA hb=>cV _ ?_) bQ;exact(EX hi hb).1
end Go.Am
namespace Go.Am
inductive Sh where
 |int (k:IntKind)
 |bool
 |str
 |slice (e:Sh)
 |struct (fs:List Sh)
 |intB (k:IntKind)
 |arr (n:Nat) (e:Sh)
mutual
def Sh.size:Sh->Nat
 |.struct fs=>Un fs
 |.arr n e=>n*e.size
 |_=>1
def Un:List Sh->Nat
 |[]=>0
 |f::r=>f.size+Un r
end
mutual
def Sh.Q:Sh->List T->Prop
 |.int k,xs=> ∃n,xs=[.int k n]
 |.bool,xs=> ∃b,xs=[.bool b]
 |.str,xs=> ∃s,xs=[.str s]
 |.slice e,xs=> ∃ess:List (List T),(∀y∈ess,e.Q y)/\xs=[.slice .any e.size ess]
 |.struct fs,xs=>QL fs xs
 |.intB k,xs=> ∃n,(Lit.int k n).wf=true/\xs=[.int k n]
 |.arr n e,xs=> ∃ess:List (List T),ess.length=n/\(∀y∈ess,e.Q y)/\xs=ess.flatten
def QL:List Sh->List T->Prop
 |[],xs=>xs=[]
 |f::r,xs=> ∃a b,f.Q a/\QL r b/\xs=a++b
end
theorem YB {sz:Nat}: ∀{ess:List (List T)},(∀y∈ess,y.length=sz)->ess.flatten.length=ess.length*sz
 |[],_=>Ac
 |y::r,h=>by
  rw[A5g,Xp,YB (λy hy=>h y (by simp[hy])),h y Ac,A2z,A58];omega
mutual
theorem Atb: ∀(s:Sh) {xs:List T},s.Q xs->xs.length=s.size
 |.int k,xs,h=>by simp only[Sh.Q]at h;obtain⟨n,rfl⟩:=h;simp[Sh.size]
 |.bool,xs,h=>by simp only[Sh.Q]at h;obtain⟨n,rfl⟩:=h;simp[Sh.size]
 |.str,xs,h=>by simp only[Sh.Q]at h;obtain⟨n,rfl⟩:=h;simp[Sh.size]
 |.slice e,xs,h=>by simp only[Sh.Q]at h;obtain⟨n,_,rfl⟩:=h;simp[Sh.size]
 |.struct fs,xs,h=>by simp only[Sh.Q]at h;simp only[Sh.size];exact Aol fs h
 |.intB k,xs,h=>by simp only[Sh.Q]at h;obtain⟨n,_,rfl⟩:=h;simp[Sh.size]
 |.arr n e,xs,h=>by
  simp only[Sh.Q]at h;obtain⟨ess,h1,h2,rfl⟩:=h;rw[YB (λy hy=>Atb e (h2 y hy)),h1,Sh.size]
theorem Aol: ∀(l:List Sh) {xs:List T},QL l xs->xs.length=Un l
 |[],xs,h=>by simp only[QL]at h;subst h;simp[Un]
 |f::r,xs,h=>by
  simp only[QL]at h;obtain⟨a,b,h1,h2,rfl⟩:=h;rw[Xp,Atb f h1,Aol r h2,Un]
end
mutual
theorem Ata: ∀(s:Sh) {xs:List T},s.Q xs-> ∀x∈xs,CV x=true
 |.int k,xs,h=>by simp only[Sh.Q]at h;obtain⟨n,rfl⟩:=h;simp[CV]
 |.bool,xs,h=>by simp only[Sh.Q]at h;obtain⟨n,rfl⟩:=h;simp[CV]
 |.str,xs,h=>by simp only[Sh.Q]at h;obtain⟨n,rfl⟩:=h;simp[CV]
 |.slice e,xs,h=>by simp only[Sh.Q]at h;obtain⟨n,_,rfl⟩:=h;simp[CV]
 |.struct fs,xs,h=>by simp only[Sh.Q]at h;exact Aok fs h
 |.intB k,xs,h=>by simp only[Sh.Q]at h;obtain⟨n,_,rfl⟩:=h;simp[CV]
 |.arr n e,xs,h=>by
  simp only[Sh.Q]at h;obtain⟨ess,_,h2,rfl⟩:=h;intro x hx;obtain⟨y,hy,qX⟩:=List.mem_flatten.1 hx;exact Ata e (h2 y hy) x qX
theorem Aok: ∀(l:List Sh) {xs:List T},QL l xs-> ∀x∈xs,CV x=true
 |[],xs,h=>by simp only[QL]at h;subst h;simp
 |f::r,xs,h=>by
  simp only[QL]at h;obtain⟨a,b,h1,h2,rfl⟩:=h;intro x hx;rcases A25.1 hx with h'|h'
  ·exact Ata f h1 x h'
  ·exact Aok r h2 x h'
end
mutual
def Atx (P:Program):TypeId->Sh->Bool
 |t,.int k=>(match P.underlying t with
  |some (.int k')=>decide (k=k')
  |_=>false)
 |t,.bool=>(match P.underlying t with
  |some .bool=>true
  |_=>false)
 |t,.str=>(match P.underlying t with
  |some .string=>true
  |_=>false)
 |t,.slice e=>(match P.underlying t with
  |some (.slice te)=>Nat.beq (P.cellsOf te) e.size&&(Nat.blt 0 e.size&&Atx P te e)
  |_=>false)
 |t,.struct fs=>(match P.underlying t with
  |some (.struct gs)=>Nat.beq (P.cellsOf t) (Un fs)&&Ast P 0 gs.toList fs
  |_=>false)
 |t,.intB k=>(match P.underlying t with
  |some (.int k')=>decide (k=k')
  |_=>false)
 |t,.arr n e=>(match P.underlying t with
  |some (.array m te)=>Nat.beq m n&&(Nat.beq (P.cellsOf te) e.size&&(Nat.blt 0 e.size&&(Nat.beq (P.cellsOf t) (n*e.size)&&Atx P te e)))
  |_=>false)
def Ast (P:Program):Nat->List Field->List Sh->Bool
 |_,[],[]=>true
 |o,g::gs,f::fs=>Nat.beq g.offset o&&(Nat.beq (P.cellsOf g.type) f.size&&(Atx P g.type f&&Ast P (o+f.size) gs fs))
 |_,_,_=>false
end
section
variable {H:Type} {enc:TypeId×Value->H} {P:Program} {w:World} {hd:Bool}
def Ah7 (w:World) (cs:List Value) (xs:List T):Prop:=cs.length=xs.length/\ ∀(i:Nat) v x,cs[i]?=some v->xs[i]?=some x->RelT w (λ_ _=>False) v x
theorem Ah7.one {v:Value} {x:T} (h:RelT w (λ_ _=>False) v x):Ah7 w [v] [x]:=⟨Y,λi u y hu hy=>by
 cases i with
 |zero=>simp at hu hy;subst hu;subst hy;exact h
 |succ i=>simp at hu⟩
theorem Ah7.append {c1 c2:List Value} {x1 x2:List T} (h1:Ah7 w c1 x1) (h2:Ah7 w c2 x2):Ah7 w (c1++c2) (x1++x2):=by
 refine⟨by simp[h1.1,h2.1],λi v x hv hx=>?_⟩;by_cases c:i<c1.length
 ·rw[Abh c]at hv;rw[Abh (by rw[<-h1.1];exact c)]at hx;exact h1.2 i v x hv hx
 ·rw[Aez Aa]at hv;rw[Aez (by rw[<-h1.1];omega),<-h1.1]at hx;exact h2.2 _ v x hv hx
end
