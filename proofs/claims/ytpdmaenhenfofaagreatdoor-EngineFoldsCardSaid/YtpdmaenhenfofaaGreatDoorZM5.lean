/- Contracts and laws, joined: Hw9, Hw10, Hw11, Hw12, Hw13, Ax. No condition beside those that each theorem names. -/
import Derived.Test.YtpdmaenhenfofaaGreatDoorZM3
set_option linter.unusedVariables false
set_option linter.unusedSimpArgs false
namespace Go.Am
section
variable {w:World} {g:G} {σ:St} {D:Nat} {o0:Obj}
theorem Aal (hD:w.heap[D]?=some o0) (hc:o0.isCells=false) (o:Obj) {v:Value} {x:AV} (h:Rel w g v x):Rel (w.putObj D o) g v x:=by
 refine h.mono (fun b off u h1 h2=>⟨h1,?_⟩) (fun _ _ h=>h) (fun b p hp=>?_)
 ·have hne:b≠D:=fun e=>by subst e;cases o0<;>simp[World.cell?,hD,Obj.isCells]at h2 hc
  rw[Ch (World.putObj_heap_other hne)];exact h2
 ·have hne:b≠D:=fun e=>by subst e;cases o0<;>simp[World.shape?,hD,Obj.isCells]at hp hc
  simp only[World.shape?,World.putObj_heap_other hne]at hp⊢;exact hp
theorem Sn (hD:w.heap[D]?=some o0) (hc:o0.isCells=false) (o:Obj) {w0:World} {g0:G} (hx:Ext w0 g0 w g) (hge:g0.own D∨w0.heap.size≤D) (hc':o.isCells=false:=by rfl):Ext w0 g0 (w.putObj D o) g:=by
 refine⟨by rw[World.putObj_size];exact hx.size,fun blk hb ho=>?_,hx.own,hx.oth,fun b p hp=>?_,hx.bx,hx.lo,fun blk e hb ho he=>?_⟩
 ·rw[World.putObj_heap_other (fun e=>by subst e;rcases hge with h|h;exact ho h;omega)];exact hx.keep blk hb ho
 ·have hq:=hx.shape b p hp
  have hne:b≠D:=fun e=>by subst e;cases o0<;>simp[World.shape?,hD,Obj.isCells]at hq hc
  simp only[World.shape?,World.putObj_heap_other hne]at hq⊢;exact hq
 ·obtain⟨a1,a2⟩:=hx.sp blk e hb ho he
  refine⟨fun i hlt=>?_,a2⟩
  rw[←a1 i hlt]
  by_cases hne:blk=D
  ·subst hne
   have h1:w.cell? ⟨blk,i,none⟩=none:=by cases o0<;>simp[World.cell?,hD,Obj.isCells]at hc⊢
   have h2:(w.putObj blk o).heap[blk]?=some o:=World.putObj_heap_same (CW hD)
   have h3:(w.putObj blk o).cell? ⟨blk,i,none⟩=none:=by cases o<;>simp[World.cell?,h2,Obj.isCells]at hc'⊢
   rw[h1,h3]
  ·exact Ch (World.putObj_heap_other hne) _ _
theorem L8 (hi:Inv w g σ) {b l:Nat} {st st':LoopState} {pe pe':Option Code} {ps:Array Tmp} {asg bd:Code} {n:Nat} {env:Env} (hb:look σ b=some (.loop l st pe ps asg bd n env)):
  ∃r:Loop,w.heap[l]?=some (.loop r)∧r.state=st∧r.pending=pe∧r.params=ps∧r.assign=asg∧r.body=bd∧n≤r.tmps.size∧g.own l∧(∀t x,look env t=some x→Rel w g (r.tmps.getD t undef) x)∧
   Inv (w.putObj l (.loop {r with state:=st',pending:=pe'})) g (upd σ b (.loop l st' pe' ps asg bd n env)):=by
 obtain⟨r,h1,h2,h3,⟨h4,h5,h6,h7,h8⟩,h9,h10⟩:=hi.ok b _ hb
 refine⟨r,h3,h4,h5,h6,h7,h8,h9,h2,h10,?_⟩
 have hr: ∀v x,Rel w g v x→Rel (w.putObj l (.loop {r with state:=st',pending:=pe'})) g v x:=fun v x h=>Aal h3 rfl _ h
 refine⟨fun c C hC=>?_,fun c=>?_,hi.inj,fun blk h=>by rw[World.putObj_size];exact hi.lt blk h,fun c hc=>⟨(hi.bx c hc).1,?_⟩,hi.dis,fun p hp=>⟨(hi.im p hp).1,?_⟩,by rw[World.putObj_size];exact hi.lo,hi.sx.mono (by rw[World.putObj_size];exact Nat.le_refl _) rfl (fun _ _ _ h=>h) (fun blk e _ _ hn=>World.putObj_heap_other fun e=>hn b (e▸h1)) (fun c blk h=>.inl ⟨c,h⟩) (fun c L hL=>?_)⟩
 ·rw[AG]at hC
  split at hC
  ·rename_i e;subst e;cases hC
   exact⟨{r with state:=st',pending:=pe'},h1,h2,World.putObj_heap_same (CW h3),⟨rfl,rfl,h6,h7,h8⟩,h9,fun t x ht=>hr _ _ (h10 t x ht)⟩
  ·rename_i hne
   refine(hi.ok c C hC).mono rfl (fun _ _ h=>h) (fun blk hb'=>World.putObj_heap_other fun e=>?_) hr
   subst e;exact hne (hi.inj _ _ _ h1 hb')
 ·rw[AG]
  by_cases e:b=c
  ·subst e;simp[h1]
  ·simp only[if_neg e];exact hi.dom c
 ·rw[AG]
  by_cases e:b=c
  ·subst e
   obtain⟨_,cs,h⟩:=hi.bx b hc
   rw[hb]at h;cases h
  ·simp only[if_neg e];exact(hi.bx c hc).2
 ·have hq:=(hi.im p hp).2
  have hne:p.1≠l:=fun e=>by rw[e]at hq;simp[World.cell?,h3]at hq
  rw[Ch (World.putObj_heap_other hne)];exact hq
 ·rw[AG]at hL
  split at hL
  ·cases hL
  ·exact hL
theorem Ga.put {ds:List Deferred} {r:Loop} (hD:w.heap[D]?=some (.loop r)) (o:Obj) (h:Ga w g ds):Ga (w.putObj D o) g ds:=by
 obtain⟨Ds,h1,h2,h3⟩:=h
 refine⟨Ds,h1,h2,fun E hE=>?_⟩
 obtain⟨k1,k2⟩:=h3 E hE
 have hne:E≠D:=fun e=>by subst e;rw[hD]at k1;cases k1
 exact⟨by rw[World.putObj_heap_other hne];exact k1,k2⟩
end
def Og:List Nat→List AV→Env→Env
 |t::ts,x::xs,e=>Og ts xs ((t,x)::e)
 |_,_,e=>e
theorem QU {w:World} {g:G}: ∀(ps:List Nat) (vs:List Value) (xs:List AV) (tmps:Array Value) (e:Env),vs.length=xs.length→(∀(i:Nat) v x,vs[i]?=some v→xs[i]?=some x→Rel w g v x)→(∀t∈ps,t<tmps.size)→AY w g ⟨tmps,[]⟩ e→
  AY w g ⟨(ps.zip vs).foldl (fun tmps p=>tmps.setIfInBounds p.1 p.2) tmps,[]⟩ (Og ps xs e)
 |[],vs,xs,tmps,e,_,_,_,he=>by simpa[Og]using he
 |t::ts,[],[],tmps,e,_,_,_,he=>by simpa[Og]using he
 |t::ts,v::vs,x::xs,tmps,e,hl,hr,hlt,he=>by
  simp only[List.zip_cons_cons,List.foldl_cons,Og]
  refine QU ts vs xs _ _ (by simpa using hl) (fun i v x a b=>hr (i+1) v x (by simpa using a) (by simpa using b)) (fun u hu=>by simp;exact hlt u (by simp[hu])) ?_
  intro u y hy
  rw[A3]at hy
  have ht:=hlt t Z
  split at hy
  ·rename_i e';subst e';cases hy
   have:(tmps.setIfInBounds t v).getD t undef=v:=by simp[Array.getD,ht]
   rw[this];exact hr 0 v x rfl rfl
  ·rename_i e'
   have e2:(tmps.setIfInBounds t v).getD u undef=tmps.getD u undef:=by
    simp only[Array.getD_eq_getD_getElem?]
    rw[Array.getElem?_setIfInBounds_ne e']
   simp only[e2];exact he u y hy
 |t::ts,[],x::xs,_,_,hl,_,_,_=>by simp at hl
 |t::ts,v::vs,[],_,_,hl,_,_,_=>by simp at hl
theorem Rz: ∀(l:List (Nat×Value)) (tmps:Array Value),(l.foldl (fun tmps p=>tmps.setIfInBounds p.1 p.2) tmps).size=tmps.size
 |[],tmps=>rfl
 |p::r,tmps=>by simp only[List.foldl_cons];rw[Rz r];simp
def Nb:Env→Env
 |[]=>[]
 |(t,x)::r=>(t,bif x.free then x else .top)::Nb r
theorem Y6 {w w':World} {g g':G} (hk:Hg w g.M w' g'.M) {a:Act}: ∀{env:Env},AY w g a env→AY w' g' a (Nb env):=by
 intro env he t x h
 have key: ∀(env:Env),look (Nb env) t=some x→ ∃y,look env t=some y∧((y.free=true∧x=y)∨x=.top):=by
  intro env
  induction env with
  |nil=>intro h;simp[Nb,look]at h
  |cons p r ih=>
   intro h
   obtain⟨k,y⟩:=p
   simp only[Nb]at h
   rw[A3]at h⊢
   split at h
   ·rename_i e
    simp only[e,if_true]
    cases hy:y.free with
    |true=>rw[hy]at h;cases h;exact⟨_,rfl,.inl ⟨hy,rfl⟩⟩
    |false=>rw[hy]at h;cases h;exact⟨_,rfl,.inr rfl⟩
   ·rename_i e;simp only[if_neg e];exact ih h
 obtain⟨y,h1,h2|h2⟩:=key env h
 ·obtain⟨hf,rfl⟩:=h2
  exact(he t _ h1).free hk hf
 ·subst h2;exact .top _
def Aib:Exit→Option (Option Code×Bool×LoopState)
 |.normal=>some (none,true,.ready)
 |.ret=>some (some .ret,false,.done)
 |.exit id=>some (some (.exit id),false,.done)
 |_=>none
theorem IsW.inRound {F:Fence} (h:IsW F) (l:Nat):IsW (F.inRound l):=by
 rcases h with rfl|⟨l',rfl⟩
 ·exact .inr ⟨l,rfl⟩
 ·exact .inr ⟨l,rfl⟩
section
variable {P:Program} {c:Conf} {n:Nat} {ops:Array Oper} {rest:List Oper} {env:Env} {σ:St} {o:Oper} {k:Env→St→Prop} {K:Exit→Env→St→Prop}
theorem UF {w:World} {g:G} {v:Value} {fn:Fn} {xs:List T} (h:Rel w g v (.t (.func fn [] xs))): ∃vs:List Value,v=.func fn #[] vs.toArray∧vs.length=xs.length∧ ∀(i:Nat) v x,vs[i]?=some v→xs[i]?=some x→RelT w g.M v x:=by
 have h:=A8 h
 cases h with
 |func _ v1 v2 _ _ h1 h2 r1 r2=>
  have:v1=[]:=List.eq_nil_of_length_eq_zero (by simpa using h1)
  subst this
  exact⟨v2,rfl,h2,r2⟩
theorem Acy {cl:Call} {fo:Operand} {l b n':Nat} {ps:Array Tmp} {asg bd:Code} {envL:Env} {xs:List AV} (hg:o.guard=none) (ho:o.op=.call cl) (hcl:cl.callee=.value fo) (hfo:ev env fo=some (.t (.func (.yield l) [] []))) (has:evL env cl.args.toList=some xs)
  (hb:look σ b=some (.loop l .ready none ps asg bd n' envL)) (hlen:Nat.beq xs.length ps.size=true) (hps:(ps.toList.all fun t=>Nat.blt t n')=true) (hr1:Ka asg=true) (hr2:Ka bd=true)
  (h:Tr P n' asg (Og ps.toList xs envL) σ (fun ex e s=>ex=.normal∧ ∃envL1,look s b=some (.loop l .ready none ps asg bd n' envL1)∧
   Tr P n' bd e (upd s b (.loop l .busy none ps asg bd n' envL1)) (fun ex _ s=> ∃jump jb st envL2,Aib ex=some (jump,jb,st)∧look s b=some (.loop l .busy none ps asg bd n' envL2)∧
    ∃e3,BM n o.dst (.t (.bool jb)) (Nb env)=some e3∧AQ P n ops rest e3 (upd s b (.loop l st jump ps asg bd n' envL2)) k))):
  AQ P n ops (o::rest) env σ k:=by
 simp only[AQ,B3,hg]
 intro w g a hi he F hF next Q hn
 have hlen':xs.length=ps.size:=Nat.eq_of_beq_eq_true hlen
 obtain⟨r,q1,q2,q3,q4,q5,q6,q7,q8,q9,_⟩:=L8 (st':=.ready) (pe':=none) hi hb
 obtain⟨vs0,hv,hv0,_⟩:=UF (Bm he hfo)
 have:vs0=[]:=List.eq_nil_of_length_eq_zero (by simpa using hv0)
 subst this
 obtain⟨hl1,hrel⟩:=LM he has
 have hrun:(o.semAt F.round a.eval).run P w=.ok (.round l r.fn ((r.params.zip (cl.args.map a.eval)).foldl (fun tmps (t,a)=>tmps.setIfInBounds t a) r.tmps) r.assign r.body) w:=by
  rw[Oper.semAt_eq _ _ _ (fun c hc=>by rw[ho]at hc;cases hc)]
  have hy:=run_yield (P:=P) (args:=cl.args.map a.eval) q1 (by rw[q4,←hlen',←hl1];simp)
  simp only[execOp,ho,Sem.run_bind,resolve,hcl,hv,Deferred.ofValue,Sem.run_pure,Result.andThen_ok,invoke]
  have e:(([]:List Value).toArray++(cl.args.map a.eval++([]:List Value).toArray))=cl.args.map a.eval:=by apply Array.ext';simp
  first
   |rw[e];exact hy
   |(simp only[List.toArray_nil,Array.empty_append,Array.append_empty];exact hy)
   |simpa using hy
 refine⟨fun f _=>hF.fn f,?_⟩
 rw[q5,q6]at hrun
 rw[hrun]
 refine⟨hF.depth,roundIn_of_wpIn (hF.fn _) ?_⟩
 have hgood:Good n' w g {tmps:=(r.params.zip (cl.args.map a.eval)).foldl (fun tmps (t,a)=>tmps.setIfInBounds t a) r.tmps,defers:=[]} (Og ps.toList xs envL) σ:=by
  have e1:(r.params.zip (cl.args.map a.eval)).foldl (fun tmps (t,a)=>tmps.setIfInBounds t a) r.tmps=(ps.toList.zip (cl.args.toList.map a.eval)).foldl (fun tmps p=>tmps.setIfInBounds p.1 p.2) r.tmps:=by
   rw[←Array.foldl_toList,Array.toList_zip,q4];simp
  rw[e1]
  refine⟨QU _ _ _ _ _ (by simpa using hl1) hrel (fun t ht=>?_) q9,hi,Ga.nil,?_⟩
  ·have:=List.all_eq_true.1 hps t ht
   have:t<n':=by simpa[Nat.blt_eq]using this
   omega
  ·simp only[Rz];exact q7
 refine wpIn_mono (h (F.inRound l) (hF.inRound l) (.inr hr1) w g _ hgood) ?_
 rintro ex a1 w1 ⟨e1,s1,g1,x1,k1,rfl,envL1,hl1',hb1⟩
 obtain⟨r1,p1,p2,p3,p4,p5,p6,p7,p8,p9,p10⟩:=L8 (st':=.busy) (pe':=none) k1.inv hl1'
 refine⟨_,run_beginRound p1 p2,?_⟩
 have hx2:Ext w g (w1.putObj l (.loop {r1 with state:=.busy})) g1:=Sn p1 rfl _ x1 (.inl q8)
 have p10':Inv (w1.putObj l (.loop {r1 with state:=.busy})) g1 (upd s1 b (.loop l .busy none ps asg bd n' envL1)):=by
  have e:({r1 with state:=.busy,pending:=none}:Loop)={r1 with state:=.busy}:=by cases r1;simp at p3;simp[p3]
  rw[←e];exact p10
 have hgood2:Good n' (w1.putObj l (.loop {r1 with state:=.busy})) g1 a1 e1 (upd s1 b (.loop l .busy none ps asg bd n' envL1)):=
  ⟨fun t x ht=>Aal p1 rfl _ (k1.env t x ht),p10',k1.defers.put p1 _,k1.size⟩
 refine wpIn_mono (hb1 (F.inRound l) (hF.inRound l) (.inr hr2) _ g1 _ hgood2) ?_
 have fin: ∀(ex:Exit) (a3:Act) (w3:World) (e4:Env) (s3:St) (g3:G) (jump:Option Code) (envL2:Env) (e3:Env),Ext (w1.putObj l (.loop {r1 with state:=.busy})) g1 w3 g3→Good n' w3 g3 a3 e4 s3→
   look s3 b=some (.loop l .busy none ps asg bd n' envL2)→BM n o.dst (.t (.bool jump.isNone)) (Nb env)=some e3→AQ P n ops rest e3 (upd s3 b (.loop l (if jump.isNone then .ready else .done) jump ps asg bd n' envL2)) k→
   ∃v w4,(Instr.endRound l jump).run P w3=.ok v w4∧next (a.put o.dst v) w4:=by
  intro ex a3 w3 e4 s3 g3 jump envL2 e3 hx3 hg3 hl3 hput hops
  obtain⟨r3,t1,t2,t3,t4,t5,t6,t7,t8,t9,t10⟩:=L8 (st':=if jump.isNone then .ready else .done) (pe':=jump) hg3.inv hl3
  refine⟨_,_,run_endRound jump t1,hn _ _ ⟨.t (.bool jump.isNone),Nb env,_,⟨g3,?_,.t _ _ (.bool _),t10,?_⟩,e3,hput,hops⟩⟩
  ·exact Sn t1 rfl _ (hx2.trans hx3) (.inl q8)
  ·exact Y6 (Sn t1 rfl _ (hx2.trans hx3) (.inl q8)).keeps he
 rintro ex a3 w3 ⟨e4,s3,g3,hx3,hg3,jump,jb,st,envL2,hj,hl3,e3,hput,hops⟩
 cases ex with
 |normal=>cases hj;exact fin .normal a3 w3 e4 s3 g3 none envL2 e3 hx3 hg3 hl3 hput hops
 |ret=>cases hj;exact fin .ret a3 w3 e4 s3 g3 (some .ret) envL2 e3 hx3 hg3 hl3 hput hops
 |exit id=>cases hj;exact fin (.exit id) a3 w3 e4 s3 g3 (some (.exit id)) envL2 e3 hx3 hg3 hl3 hput hops
 |goto t=>cases hj
 |panic ch=>cases hj
 |outgrown=>cases hj
theorem OX {b:Nat} {l:Nat} {st:LoopState} {pe:Option Code} {ps:Array Tmp} {asg bd:Code} {n:Nat} {envL:Env} (hb:b % 2=0): ∀{σ:St},Db (upd σ b (.loop l st pe ps asg bd n envL))=Db σ:=by
 have hz: ∀k,Nat.beq k b=true→Nat.beq (k % 2) 1=false:=fun k hk=>by
  have:=Nat.eq_of_beq_eq_true hk;subst this;rw[hb];rfl
 intro σ
 induction σ with
 |nil=>simp only[upd,Db,hb];rfl
 |cons p r ih=>
  obtain⟨k,B⟩:=p
  simp only[upd]
  cases hk:Nat.beq k b with
  |true=>cases B<;>simp[Db,hz k hk]
  |false=>cases B<;>simp[Db,ih]
def Mh:Nat:=200000
def Aic:Option Code→Option Exit
 |none=>some .normal
 |some .ret=>some .ret
 |some (.exit id)=>some (.exit id)
 |_=>none
theorem IsW.wide_of {F:Fence} (h:IsW F) (hr:F.round=none):F=Fence.wide:=by
 rcases h with rfl|⟨l,rfl⟩
 ·rfl
 ·simp[Fence.inRound]at hr
theorem Ac0 {gop:Operand} {gf:Nat} {caps:List T} {ps:Array Tmp} {asg bd:Code} {fn:Func} {code:Code} (hp:ProgOk P c) (hg:ev env gop=some (.t (.func (.func gf) [] caps))) (hf:P.funcs[gf]?=some fn) (hbody:fn.body=some code)
  (hle:Nat.ble (caps.length+1) fn.ntmps=true)
  (h: ∀l:Nat,Tr P fn.ntmps code (FP 0 (.t (.func (.yield l) [] [])::Aj caps)) ((Mh,.loop l .ready none ps asg bd n (upE env))::upS σ)
   (fun ex e s=>(ex=.normal∨ex=.ret)∧Lr c.te true fn.results.toList e s=some (.tuple [],s)∧ ∃st pe envL ex',look s Mh=some (.loop l st pe ps asg bd n envL)∧st≠ .busy∧Aic pe=some ex'∧
    K ex' (Q6 σ env) (Db s))):
  Tr P n (.rangeFunc gop ps asg bd) env σ K:=by
 intro F hF hrf w g a hgd
 have hro:F.round=none:=by rcases hrf with h|h;exact h;simp[Ka]at h
 have hFw:=hF.wide_of hro
 subst hFw
 refine wpIn_rangeFunc ?_
 intro fn0 hfn0
 rw[hro]
 obtain⟨vs,hv,hvl,hvr⟩:=UF (Bm hgd.env hg)
 obtain⟨rec,hrec⟩: ∃rec:Loop,rec={state:=.ready,pending:=none,fn:=fn0,tmps:=a.tmps,params:=ps,assign:=asg,body:=bd,defers:=w.heap.size}:=⟨_,rfl⟩
 obtain⟨W0,hW0⟩: ∃W0,w.alloc (.deferred (some []))=W0:=⟨_,rfl⟩
 obtain⟨W1,hW1⟩: ∃W1,W0.alloc (.loop rec)=W1:=⟨_,rfl⟩
 have hm0:More w W0 (.deferred (some [])):=hW0▸More.alloc w _
 have hm1:More W0 W1 (.loop rec):=hW1▸More.alloc W0 _
 obtain⟨x0,i0,r0⟩:=Gh (V8 hgd.inv) hm0
 have hl0:look (upS σ) Mh=none:=by
  have:=(V8 hgd.inv).dom Mh
  simp[G.up,Mh]at this
  exact this
 have hB:(∀v x,Rel W0 (g.up σ) v x→Rel W1 ((g.up σ).with Mh (some W0.heap.size)) v x)→E7 W1 ((g.up σ).with Mh (some W0.heap.size)) Mh (.loop W0.heap.size .ready none ps asg bd n (upE env)):=by
  intro hr
  refine⟨rec,by simp[G.with],by simp[G.with],hm1.new,by subst hrec;exact⟨rfl,rfl,rfl,rfl,rfl⟩,by subst hrec;exact hgd.size,fun t x ht=>?_⟩
  rw[RS]at ht
  cases hl:look env t with
  |none=>simp[hl]at ht
  |some y=>
   simp[hl]at ht;subst ht;subst hrec
   exact hr _ _ (r0 _ _ (RR (hgd.env t y hl)))
 obtain⟨x1,i1,r1⟩:=Ly i0 hl0 hm1 hB
 have hsz0:W0.heap.size=w.heap.size+1:=hm0.size
 refine⟨W0.heap.size,[{target:=.collected w.heap.size,args:= #[]}],W1,{target:=.fn (.func gf) vs.toArray,args:= #[.func (.yield W0.heap.size) #[] #[]]},W1,gf,
  #[.func (.yield W0.heap.size) #[] #[]]++vs.toArray,W1,?_,?_,(fun f' _=>trivial),?_,(by intro h;cases h),?_⟩
 ·rw[←hW1,←hW0,hrec,World.size_alloc];exact run_enterLoop_outer _ _ _ _ _
 ·simp only[resolve,hv]
  simp[go_sem]
 ·simp only[invoke]
  rw[I2 hp hf (by simp[hbody])]
 ·have hrelL:BL W1 ((g.up σ).with Mh (some W0.heap.size)) (.func (.yield W0.heap.size) #[] #[]::vs) (.t (.func (.yield W0.heap.size) [] [])::Aj caps):=by
   refine BL.cons (.t _ _ ?_) (Gv hvl fun i v x a b=>((hvr i v x a b).mono ?_))
   ·exact RelT.func _ [] [] [] [] rfl rfl (fun i v x a=>by simp at a) (fun i v x a=>by simp at a)
   ·have k:=(x0.trans x1).keeps
    intro b o v hb hc
    exact k b o v (fun hm=>hb hm) hc
  refine(callsIn_wide (n:=0-1)).2 ?_
  have e:(#[Value.func (.yield W0.heap.size) #[] #[]]++vs.toArray)=(Value.func (.yield W0.heap.size) #[] #[]::vs).toArray:=by apply Array.ext';simp
  rw[e]
  refine FJ hf hbody (by simpa[BG]using hle) (h W0.heap.size) hrelL i1 ?_
  rintro ex a' w' g' env' σ' hx hgd' ⟨hex,hret,st,pe,envL,ex',hlk,hst,hj,hK⟩
  obtain⟨v,g2,q1,q2,_,q4⟩:=Hu hp hgd' hret
  refine⟨hex,v,q1,?_⟩
  obtain⟨r3,t1,t2,t3,t4,t5,t6,t7,t8,t9,t10⟩:=L8 (st':=.exhausted) (pe':=pe) q4 hlk
  have hpe:({r3 with state:=.exhausted,pending:=pe}:Loop)={r3 with state:=.exhausted}:=by cases r3;simp at t3;simp[t3]
  rw[hpe]at t10
  have hxa:Ext w (g.up σ) w' g2:=((x0.trans x1).trans hx).trans q2
  have hxb:Ext w (g.up σ) (w'.putObj W0.heap.size (.loop {r3 with state:=.exhausted})) g2:=Sn t1 rfl _ hxa (.inr O)
  have hdn:Db (upd σ' Mh (.loop W0.heap.size .exhausted pe ps asg bd n envL))=Db σ':=OX (by simp[Mh])
  have hInv:=UX hgd.inv t10 hxb
  rw[hdn]at hInv
  have hExt:=UY hgd.inv hxb
  have hD1:W1.heap[w.heap.size]?=some (.deferred (some [])):=by rw[hm1.old _ O];exact hm0.new
  have hno1: ¬((g.up σ).with Mh (some W0.heap.size)).own w.heap.size:=by
   rintro(h|h)
   ·have:=hgd.inv.lt _ (.inl h);omega
   ·simp at h;omega
  have hsz1:W1.heap.size=W0.heap.size+1:=hm1.size
  have hno2: ¬g2.own w.heap.size:=fun h=>hno1 ((hx.trans q2).own _ O h)
  have hD2:w'.heap[w.heap.size]?=some (.deferred (some [])):=by rw[hx.keep _ O hno1];exact hD1
  have hgood:Good n (w'.putObj W0.heap.size (.loop {r3 with state:=.exhausted})) (g2.down g) {a with defers:=[{target:=.collected w.heap.size,args:= #[]}]++a.defers} (Q6 σ env) (Db σ'):=by
   refine⟨fun t x ht=>X2 hxb hgd.env t x ht,hInv,?_,hgd.size⟩
   obtain⟨Ds,d1,d2,d3⟩:=hgd.defers.ext hExt
   obtain⟨Ds',d1',_,d3'⟩:=hgd.defers
   have hDs:Ds=Ds':=by
    have:Ds.map (fun D=>({target:=.collected D,args:= #[]}:Deferred))=Ds'.map (fun D=>({target:=.collected D,args:= #[]}:Deferred)):=by rw[←d1,←d1']
    exact List.map_inj_right (fun x y hxy=>by simpa using hxy)|>.1 this
   refine⟨w.heap.size::Ds,by simp[d1],?_,?_⟩
   ·refine List.nodup_cons.2 ⟨fun hm=>?_,d2⟩
    have:=CW (d3' _ (hDs▸hm)).1
    omega
   ·intro D hD
    simp only[List.mem_cons]at hD
    rcases hD with rfl|hD
    ·exact⟨by rw[World.putObj_heap_other O];exact hD2,hno2,hgd.inv.lo⟩
    ·exact d3 D hD
  have hrunE:(Instr.endLoop W0.heap.size).run P w'=.ok pe (w'.putObj W0.heap.size (.loop {r3 with state:=.exhausted})):=by
   have:=run_endLoop (P:=P) t1 (by rw[t2];exact hst)
   rw[this,t3]
  refine⟨pe,_,hrunE,?_⟩
  cases pe with
  |none=>cases hj;exact⟨_,_,_,hExt,hgood,hK⟩
  |some cc=>
   cases cc with
   |ret=>cases hj;exact wpIn_ret ⟨_,_,_,hExt,hgood,hK⟩
   |exit id=>cases hj;exact wpIn_exit ⟨_,_,_,hExt,hgood,hK⟩
   |_=>cases hj
end
end Go.Am
namespace Go.Am
theorem OG {b sz:Nat} {es:List (List T)} {B:Blk}: ∀{σ:St},Fh b sz es (upd σ b B)=Fh b sz es σ
 |[]=>by simp[upd,Fh]
 |(k,C)::r=>by
  simp only[upd]
  by_cases h:k=b
  ·subst h;simp[Fh]
  ·simp[Fh,CF h,OG (σ:=r)]
theorem SpOk.upd {w:World} {g:G} {σ:St} (h:SpOk w g σ) (b:Nat) {B:Blk} (hB: ∀L,B≠ .rights L):SpOk w g (Am.upd σ b B):=
 h.mono (Nat.le_refl _) rfl (fun _ _ _ h=>h) (fun _ _ _ _ _=>rfl) (fun c blk h=>.inl ⟨c,h⟩) (fun c L hL=>by
  rw[AG]at hL
  split at hL
  ·exact absurd (Option.some.inj hL) (hB L)
  ·exact hL)
theorem Tr.freezeBox {P:Program} {n:Nat} {env:Env} {σ:St} {K:Exit→Env→St→Prop} {code:Code} (t b:Nat) {cs:List T} (hev:b % 2=0) (hl:look env t=some (.ref b 0)) (hb:look σ b=some (.cells (Aj cs))) (hone:cs.all CG=true)
  (h:Tr P n code ((t,.t (.ptr cs))::H9 b cs.length [cs] env) (Fh b cs.length [cs] σ) K):Tr P n code env σ K:=by
 intro F hF hrf w g a hg
 have hi:=hg.inv
 obtain⟨blk,vs,e,q1,q2,q3,q4,q5⟩:=hi.ok b _ hb
 have hone': ∀(i:Nat) x,cs[i]?=some x→CG x=true:=fun i x hx=>List.all_eq_true.1 hone x (List.mem_of_getElem? hx)
 have hrel: ∀(i:Nat) v x,vs[i]?=some v→cs[i]?=some x→RelT w g.M v x:=fun i v x hv hx=>A8 (q5 i v (.t x) hv (by rw[C7,hx];rfl))
 have hi1:Inv w g (upd σ b (.grow cs.length [cs])):=by
  refine⟨fun c C hC=>?_,fun c=>?_,hi.inj,hi.lt,fun c hc=>⟨(hi.bx c hc).1,?_⟩,hi.dis,hi.im,hi.lo,hi.sx.upd b (fun L h=>by cases h)⟩
  ·rw[AG]at hC
   split at hC
   ·rename_i e1;subst e1;cases hC
    refine⟨fun e he=>by simp at he;subst he;rfl,.inr ⟨blk,vs,e,q1,q2,q3,?_,fun i v x hv hx=>?_⟩⟩
    ·simp;rw[q4,BG];exact Nat.le_refl _
    ·simp at hx;exact⟨hone' i x hx,hrel i v x hv hx⟩
   ·exact hi.ok c C hC
  ·rw[AG]
   by_cases e1:b=c
   ·subst e1;simp[q1]
   ·simp only[if_neg e1];exact hi.dom c
  ·rw[AG]
   have hne:b≠c:=fun e1=>by subst e1;have:=(hi.bx _ hc).1;omega
   simp only[if_neg hne];exact(hi.bx c hc).2
 obtain⟨k1,k2,k3⟩:=freeze hi1 (b:=b) (sz:=cs.length) (es:=[cs]) (by rw[AG];simp)
 rw[OG]at k2
 refine wpIn_mono (h F hF hrf w _ a ⟨fun t' x hx=>?_,k2,hg.defers.ext k1,hg.size⟩) fun ex a2 w2 hq=>hq.lift k1
 rw[A3]at hx
 split at hx
 ·rename_i e1;subst e1;cases hx
  have hr:=hg.env t _ hl
  generalize a.tmps.getD t undef=v at hr
  cases hr with
  |ref _ _ blk' hb'=>
   rw[q1]at hb';cases hb'
   refine .t _ _ (.ptr _ _ cs (fun i=>vs.getD i undef) hone' (fun i x hx=>⟨?_,?_⟩) (fun i x hx=>?_))
   ·rintro(ho|ho)
    ·exact ho.1.2 q1
    ·exact hi.dis _ _ q2 ho
   ·have hlt:i<vs.size:=by rw[q4,BG];exact Bw hx
    simp[World.cell?,q3,hlt]
   ·have hlt:i<vs.size:=by rw[q4,BG];exact Bw hx
    have hv:vs[i]?=some (vs.getD i undef):=by simp[hlt]
    exact(hrel i _ x hv hx).mono k1.keeps
 ·rw[E3]at hx
  cases hl':look env t' with
  |none=>simp[hl']at hx
  |some y=>simp[hl']at hx;subst hx;exact k3 _ _ (hg.env t' y hl')
end Go.Am
namespace Go.Am
theorem Tr.weakC {P:Program} {n:Nat} {env:Env} {σ:St} {K:Exit→Env→St→Prop} {code:Code} (b:Nat) {cs cs':List AV} (hb:look σ b=some (.cells cs)) (hs:Fw cs cs') (h:Tr P n code env (upd σ b (.cells cs')) K):Tr P n code env σ K:=by
 intro F hF hrf w g a hg
 have hi:=hg.inv
 obtain⟨blk,vs,e,q1,q2,q3,q4,q5⟩:=hi.ok b _ hb
 have hi1:Inv w g (upd σ b (.cells cs')):=by
  refine⟨fun c C hC=>?_,fun c=>?_,hi.inj,hi.lt,fun c hc=>⟨(hi.bx c hc).1,?_⟩,hi.dis,hi.im,hi.lo,hi.sx.upd b (fun L h=>by cases h)⟩
  ·rw[AG]at hC
   split at hC
   ·rename_i e1;subst e1;cases hC
    refine⟨blk,vs,e,q1,q2,q3,by rw[q4];exact hs.len,fun i v y hv hy=>?_⟩
    obtain⟨x,hx,hsub⟩:=hs.get i y hy
    exact hsub _ _ _ (q5 i v x hv hx)
   ·exact hi.ok c C hC
  ·rw[AG]
   by_cases e1:b=c
   ·subst e1;simp[q1]
   ·simp only[if_neg e1];exact hi.dom c
  ·rw[AG]
   by_cases e1:b=c
   ·subst e1;simp
   ·simp only[if_neg e1];exact(hi.bx c hc).2
 exact h F hF hrf w g a ⟨hg.env,hi1,hg.defers,hg.size⟩
end Go.Am
namespace Go.Am
section
variable {P:Program} {c:Conf} {n:Nat} {ops:Array Oper} {rest:List Oper} {env:Env} {σ:St} {o:Oper} {k:Env→St→Prop}
theorem G0 (hp0:ProgOk P c) {t m e:Nat} {parts:Array (Nat×Operand)} {ti ei:TI} {ps:List (Nat×AV)} {cs:List AV} {e2:Env} (hg:o.guard=none) (ho:o.op=.build t parts) (ht:look c.te t=some ti) (hk:ti.kind=.array m e) (he:look c.te e=some ei)
  (hps:evP env parts.toList=some ps) (hf:HD (fun i=>some (i*ei.size,ei.size)) ps (Aj ti.zero)=some cs) (hp:BM n o.dst (.agg cs) env=some e2) (h:AQ P n ops rest e2 σ k):AQ P n ops (o::rest) env σ k:=by
 simp only[AQ,B3,hg]
 intro w g a hi hee
 have hte:=hp0.te
 have hz:=F4 (hte _ _ ht) w
 have hd:=Ml (hte _ _ ht) w hk
 have hsz:=CT (hte _ _ he) w
 obtain⟨cells',f1,f2⟩:=LK (w:=w) (g:=g) (fun i=>some (i*ei.size,ei.size)) hf (Ev (hte _ _ ht)) (LL hee hps)
 have f1':Instr.fill (fun i=>some (i*ei.size,ei.size)) (Cs ti).cells (parts.map fun p=>(p.1,a.eval p.2)).toList=some cells':=by rw[←f1];simp
 have hrun:(Instr.build t (parts.map fun p=>(p.1,a.eval p.2))).run P w=.ok (.agg cells') w:=by
  simp only[Instr.build,Sem.run_bind,hz,Result.andThen_ok,hd,hsz,f1',Sem.run_pure]
 refine Cx.value (v:=.agg cells') (w':=w) ?_ ⟨.agg cs,env,σ,⟨g,Ext.refl _ _,?_,hi,hee⟩,e2,hp,h⟩
 ·simp[execOp,ho,hrun]
 ·have:cells'=cells'.toList.toArray:=by simp
  rw[this];exact .agg _ _ f2.1 f2.2
def LoopN (P:Program) (n:Nat) (b:Code) (K:Exit→Env→St→Prop):Nat→Env→St→Prop
 |0,_,_=>False
 |m+1,e,s=>Tr P n b e s (fun ex e s=>match ex with
  |.normal=>LoopN P n b K m e s
  |ex=>K ex e s)
theorem LoopN.rounds {F:Fence} (hF:IsW F) {b:Code} (hrf:RF F b) {K:Exit→Env→St→Prop}: ∀(m:Nat) {env:Env} {σ:St} {w:World} {g:G} {a:Act} {w0:World} {g0:G},LoopN P n b K m env σ→Good n w g a env σ→Ext w0 g0 w g→Code.roundsIn F 0 P b (BH n w0 g0 K) m a w
 |0,_,_,_,_,_,_,_,h,_,_=>h.elim
 |m+1,env,σ,w,g,a,w0,g0,h,hg,hx=>by
  rw[roundsIn_succ]
  refine wpIn_mono (h F hF hrf w g a hg) ?_
  rintro ex a' w' ⟨env',σ',g',h1,h2,h3⟩
  cases ex with
  |normal=>exact LoopN.rounds hF hrf m h3 h2 (hx.trans h1)
  |exit id=>exact⟨env',σ',g',hx.trans h1,h2,h3⟩
  |goto l=>exact⟨env',σ',g',hx.trans h1,h2,h3⟩
  |ret=>exact⟨env',σ',g',hx.trans h1,h2,h3⟩
  |panic ch=>exact⟨env',σ',g',hx.trans h1,h2,h3⟩
  |outgrown=>exact⟨env',σ',g',hx.trans h1,h2,h3⟩
end
end Go.Am
namespace Go.Am
section
variable {P:Program} {c:Conf} {n:Nat} {ops:Array Oper} {rest:List Oper} {env:Env} {σ:St} {o:Oper} {k:Env→St→Prop}
theorem WK (hp0:ProgOk P c) {t yt:Nat} {xo yo:Operand} {kk k':IntKind} {a b:Int} (m:Nat) {e2:Env} (hg:o.guard=none) (ho:o.op=.binOp .shr t xo yo yt) (hx:ev env xo=some (.t (.int kk a))) (hy:ev env yo=some (.t (.int k' b))) (hb:b=(m:Int))
  (hp:BM n o.dst (.t (.int kk (a.fdiv (2^(min m kk.bits))))) env=some e2) (h:AQ P n ops rest e2 σ k):AQ P n ops (o::rest) env σ k:=by
 subst hb
 refine Ae hp0 (x:=.t (.int kk (a.fdiv (2^(min m kk.bits))))) (e:=env) (s:=σ) hg ?_ hp h
 have h1: ¬((m:Int)<0):=by omega
 unfold DN
 rw[ho]
 simp only[Ce,hx,hy,Vs,Acc,JJ,RY,if_neg h1,Int.toNat_natCast]
theorem Zq (hp0:ProgOk P c) {t m e:Nat} {xo:Operand} {cs:List T} {ti ei:TI} {e2:Env} (hg:o.guard=none) (ho:o.op=.slice t xo none none none) (hx:ev env xo=some (.t (.ptr cs))) (ht:look c.te t=some ti) (hk:ti.kind=.array m e) (he:look c.te e=some ei)
  (hl:cs.length=m*ei.size) (hm:m≠0) (hp:BM n o.dst (.t (.slice .full ei.size (AW ei.size m cs))) env=some e2) (h:AQ P n ops rest e2 σ k):AQ P n ops (o::rest) env σ k:=by
 simp only[AQ,B3,hg]
 intro w g a hi hee
 have hte:=hp0.te
 have hd:=Ml (hte _ _ ht) w hk
 have hsz:=CT (hte _ _ he) w
 obtain⟨b,off,hv,hc⟩:=Ih (A8 (Bm hee hx))
 have hb:=Ef (P:=P) (w:=w) hee (s:=false) (len:=m) (cap:=m) (lo:=none) (hi:=none) (l:=0) (h:=m) rfl rfl (Nat.le_refl _) (Nat.zero_le _)
 simp only[Option.map_none]at hb
 have hrun:(Instr.sliceAt t (a.eval xo) none none none).run P w=.ok (.slice (some ⟨b,off,none⟩) m m) w:=by
  rw[hv]
  simp[Instr.sliceAt,hd,hb,hsz,Instr.sureAddr,asAddr,Addr.add,hm]
 obtain⟨q1,q2,q3⟩:=KD ei.size m cs hl
 refine Cx.value (v:=.slice (some ⟨b,off,none⟩) m m) (w':=w) ?_ ⟨_,env,σ,⟨g,Ext.refl _ _,.t _ _ (Dr (m:=.full) q3 (Nat.le_refl _) (fun _=>rfl) Z q2 (fun i x hx=>?_)),hi,hee⟩,e2,hp,h⟩
 ·simp[execOp,ho,hrun]
 ·rw[q1]at hx;exact hc i x hx
theorem Ae5 {w:World} {g:G} {a:Act} (t b:Nat) {cs:List T} (hev:b % 2=0) (hl:look env t=some (.ref b 0)) (hb:look σ b=some (.cells (Aj cs))) (hone:cs.all CG=true) (hi:Inv w g σ) (hge:AY w g a env):
  ∃g',Ext w g w g'∧Inv w g' (Fh b cs.length [cs] σ)∧AY w g' a ((t,.t (.ptr cs))::H9 b cs.length [cs] env):=by
 obtain⟨blk,vs,e,q1,q2,q3,q4,q5⟩:=hi.ok b _ hb
 have hone': ∀(i:Nat) x,cs[i]?=some x→CG x=true:=fun i x hx=>List.all_eq_true.1 hone x (List.mem_of_getElem? hx)
 have hrel: ∀(i:Nat) v x,vs[i]?=some v→cs[i]?=some x→RelT w g.M v x:=fun i v x hv hx=>A8 (q5 i v (.t x) hv (by rw[C7,hx];rfl))
 have hi1:Inv w g (upd σ b (.grow cs.length [cs])):=by
  refine⟨fun c C hC=>?_,fun c=>?_,hi.inj,hi.lt,fun c hc=>⟨(hi.bx c hc).1,?_⟩,hi.dis,hi.im,hi.lo,hi.sx.upd b (fun L h=>by cases h)⟩
  ·rw[AG]at hC
   split at hC
   ·rename_i e1;subst e1;cases hC
    refine⟨fun e he=>by simp at he;subst he;rfl,.inr ⟨blk,vs,e,q1,q2,q3,?_,fun i v x hv hx=>?_⟩⟩
    ·simp;rw[q4,BG];exact Nat.le_refl _
    ·simp at hx;exact⟨hone' i x hx,hrel i v x hv hx⟩
   ·exact hi.ok c C hC
  ·rw[AG]
   by_cases e1:b=c
   ·subst e1;simp[q1]
   ·simp only[if_neg e1];exact hi.dom c
  ·rw[AG]
   have hne:b≠c:=fun e1=>by subst e1;have:=(hi.bx _ hc).1;omega
   simp only[if_neg hne];exact(hi.bx c hc).2
 obtain⟨k1,k2,k3⟩:=freeze hi1 (b:=b) (sz:=cs.length) (es:=[cs]) (by rw[AG];simp)
 rw[OG]at k2
 refine⟨_,k1,k2,fun t' x hx=>?_⟩
 rw[A3]at hx
 split at hx
 ·rename_i e1;subst e1;cases hx
  have hr:=hge t _ hl
  generalize a.tmps.getD t undef=v at hr
  cases hr with
  |ref _ _ blk' hb'=>
   rw[q1]at hb';cases hb'
   refine .t _ _ (.ptr _ _ cs (fun i=>vs.getD i undef) hone' (fun i x hx=>⟨?_,?_⟩) (fun i x hx=>?_))
   ·rintro(ho|ho)
    ·exact ho.1.2 q1
    ·exact hi.dis _ _ q2 ho
   ·have hlt:i<vs.size:=by rw[q4,BG];exact Bw hx
    simp[World.cell?,q3,hlt]
   ·have hlt:i<vs.size:=by rw[q4,BG];exact Bw hx
    have hv:vs[i]?=some (vs.getD i undef):=by simp[hlt]
    exact(hrel i _ x hv hx).mono k1.keeps
 ·rw[E3]at hx
  cases hl':look env t' with
  |none=>simp[hl']at hx
  |some y=>simp[hl']at hx;subst hx;exact k3 _ _ (hge t' y hl')
theorem TN (t b:Nat) {cs:List T} (hg:o.guard=none) (hev:b % 2=0) (hl:look env t=some (.ref b 0)) (hb:look σ b=some (.cells (Aj cs))) (hone:cs.all CG=true)
  (h:AQ P n ops (o::rest) ((t,.t (.ptr cs))::H9 b cs.length [cs] env) (Fh b cs.length [cs] σ) k):AQ P n ops (o::rest) env σ k:=by
 simp only[AQ,B3,hg]at h⊢
 intro w g a hi he
 obtain⟨g',k1,k2,k3⟩:=Ae5 t b hev hl hb hone hi he
 refine(h w g' a k2 k3).mono ?_
 rintro v w' ⟨x,e,s,hp,hk⟩
 exact⟨x,e,s,hp.lift k1,hk⟩
theorem NF (hp0:ProgOk P c) {cl:Call} {so xo:Operand} {t e d s0 b0 sz:Nat} {z0:List T} {esz ebb:Nat} {ez:List T} {ek:TK} {news:List (List T)} {m:SM} {x:AV} {e1 e2:Env} {s:St} (hg:o.guard=none) (ho:o.op=.call cl) (hcl:cl.callee=.builtin .append) (ha:cl.args.toList=[so,xo])
  (hty:cl.argTypes.toList=[t,t]) (hd:o.dst=some d) (hs:ev env so=some (.t (.slice .full 0 []))) (hx:ev env xo=some (.t (.slice m sz news))) (ht:look c.te t=some ⟨s0,b0,z0,.slice e⟩) (he:look c.te e=some ⟨esz,ebb,ez,ek⟩) (hsz:esz=sz)
  (hf:Eu (2*d) env σ (fun env σ=>some (AV.row (2*d) esz 0 news.length,env,(2*d,Blk.grow esz news)::σ))=some (x,e1,s)) (hp:BM n o.dst x e1=some e2)
  (hlim:news.length*(ebb+1)≤140737488355328) (h:AQ P n ops rest e2 s k):AQ P n ops (o::rest) env σ k:=by
 refine Ae hp0 (x:=x) (e:=e1) (s:=s) hg ?_ hp h
 unfold DN
 rw[ho]
 simp only[hcl,Fg,ho,ha,hty,hs,hx,hd,Gm,ht,he,Hz,hsz,if_true,hlim]
 rw[←hsz];exact hf
end
end Go.Am
namespace Go.Am
structure DrawOkF (ops:Array Oper) (k m:Nat):Prop where
 edge: ∀(i:Nat) o,ops[i]?=some o→ ∀e∈o.after,Region.binds .any e=true→e.on<i
 head: ∀i oi,i<m→ops[i]?=some oi→ ∀j oj,j<i→ops[j]?=some oj→Pre ops j i∨oj.apart ops oi=true
 tail: ∀i,m≤i→i<ops.size→ ∀j,k≤j→j<i→Pre ops j i
 le:m≤ops.size
 km:k≤m
def HP (b k:Nat):Nat→Bool
 |0=>true
 |i+1=>(Nat.blt i k||Nat.testBit b i)&&HP b k i
theorem Mc {b k:Nat}: ∀{i:Nat},HP b k i=true→ ∀j,k≤j→j<i→b.testBit j=true
 |0,_,j,_,h=>by omega
 |i+1,hb,j,hk,h=>by
  simp only[HP,Bool.and_eq_true,Bool.or_eq_true]at hb
  by_cases e:j=i
  ·subst e
   rcases hb.1 with h'|h'
   ·have:j<k:=by simpa[Nat.blt_eq]using h'
    omega
   ·exact h'
  ·exact Mc hb.2 j hk O
def Nv (ms:List Nat) (k:Nat):Nat→Nat→Bool
 |_,0=>true
 |i,l+1=>HP (ms.getD i 0) k i&&Nv ms k (i+1) l
theorem ML {ms:List Nat} {k:Nat}: ∀{l i0:Nat},Nv ms k i0 l=true→ ∀i,i<l→HP (ms.getD (i0+i) 0) k (i0+i)=true
 |0,i0,_,i,h=>by omega
 |l+1,i0,hb,i,h=>by
  simp only[Nv,Bool.and_eq_true]at hb
  cases i with
  |zero=>exact hb.1
  |succ i=>have:=ML hb.2 i O;rwa[show i0+1+i=i0+(i+1)by omega]at this
def WU (ms:List Nat) (k:Nat):Nat→Nat
 |0=>0
 |i+1=>match HP (ms.getD i 0) k i&&Nat.ble k i with
  |true=>WU ms k i
  |false=>i+1
def Ja:List Oper→Nat
 |[]=>0
 |o::r=>match o.guard with
  |none=>(match o.op with
   |.move _=>Ja r+1
   |_=>0)
  |some _=>0
def Ep (ops:Array Oper):List Nat→Array Bool→Bool
 |[],_=>true
 |i::r,l=>(Region.free .any ops l i&&(Region.ready .any ops l).contains i)&&Ep ops r (l.setIfInBounds i true)
def UW (ops:Array Oper) (k:Nat):Option Nat:=
 let ms:=L4 ops.toList []
 let m:=WU ms k ops.size
 match JQ 0 ops.toList&&(O8 ops ms (ops.toList.take m) 0 (ops.toList.take m)&&(Nv ms k m (ops.size-m)&&(Nat.ble k m&&(Nat.ble m ops.size&&(Region.noSelect ops&&(Ep ops (List.range k) (Array.replicate ops.size false)&&Nat.ble k (Ja ops.toList)))))))with
 |true=>some m
 |false=>none
theorem Ow: ∀{l:List Oper} {i:Nat},i<Ja l→ ∃o x,l[i]?=some o∧o.guard=none∧o.op=.move x
 |[],i,h=>by simp[Ja]at h
 |o::r,i,h=>by
  unfold Ja at h
  split at h
  ·rename_i hg
   split at h
   ·rename_i x hx
    cases i with
    |zero=>exact⟨o,x,rfl,hg,hx⟩
    |succ i=>simpa using Ow (l:=r) (i:=i) O
   ·omega
  ·omega
section
variable {P:Program} {c:Conf} {n k m:Nat} {ops:Array Oper} {news:List Nat}
theorem Aby (h:UW ops k=some m):DrawOkF ops k m∧Region.noSelect ops=true∧Ep ops (List.range k) (Array.replicate ops.size false)=true∧k≤Ja ops.toList:=by
 unfold UW at h
 simp only at h
 split at h
 ·rename_i hb
  simp at h
  simp only[Bool.and_eq_true]at hb
  obtain⟨h1,h2,h3,h4,h5,h6,h7,h8⟩:=hb
  rw[h]at h2 h3 h4 h5
  refine⟨⟨fun i o ho e he hbi=>?_,fun i oi hi hoi j oj hj hoj=>?_,fun i hi hsz j hk hj=>?_,by simpa using h5,by simpa using h4⟩,h6,h7,by simpa using h8⟩
  ·have:=Hb h1 i o (by rw[Array.getElem?_toList];exact ho) e he hbi;omega
  ·have:=K6 h2 i oi (by rw[List.getElem?_take,if_pos hi,Array.getElem?_toList];exact hoi)
   have:=Hl this j oj (by rw[List.getElem?_take,if_pos O,List.getElem?_take,if_pos O,Array.getElem?_toList];exact hoj)
   simp only[Nat.zero_add]at this
   rcases this with h'|h'
   ·exact .inl (Gu _ _ h')
   ·exact .inr h'
  ·have:=ML h3 (i-m) O
   rw[show m+(i-m)=i by omega]at this
   exact Gu _ _ (Mc this j hk hj)
 ·simp at h
theorem MM {F:Fence} (hF:IsW F) (hD:DrawOkF ops k m) {K:Exit→Env→St→Prop} {w0:World} {g0:G}: ∀(fuel i0:Nat) {listed:Array Bool} {w:World} {g:G} {a:Act} {env:Env} {σ:St},
  m≤i0→i0≤ops.size→listed.size=ops.size→(∀i,i<ops.size→(Li listed i↔i<i0))→ops.size-i0≤fuel→AQ P n ops (ops.toList.drop i0) env σ (K .normal)→Good n w g a env σ→Ext w0 g0 w g→
  wpAnyIn F 0 P .any ops (BH n w0 g0 K) fuel listed a w:=by
 intro fuel
 induction fuel with
 |zero=>
  intro i0 listed w g a env σ h1 h2 hs hl hf h hg hx
  have:i0=ops.size:=by omega
  subst this
  have hready:Region.ready .any ops listed=[]:=by
   apply List.eq_nil_iff_forall_not_mem.2
   intro i hi
   rw[BF hs]at hi
   obtain⟨hn,o,ho,_⟩:=hi
   have hi':i<ops.size:=by
    rcases Nat.lt_or_ge i ops.size with h|h
    ·exact h
    ·rw[Array.getElem?_eq_none h]at ho;cases ho
   exact hn ((hl i hi').2 hi')
  rw[List.drop_of_length_le Z]at h
  exact⟨hready,env,σ,g,hx,hg,h⟩
 |succ fuel ih=>
  intro i0 listed w g a env σ h1 h2 hs hl hf h hg hx
  by_cases hend:i0=ops.size
  ·subst hend
   rw[List.drop_of_length_le Z]at h
   refine⟨fun _=>⟨env,σ,g,hx,hg,h⟩,fun i hi=>?_⟩
   rw[BF hs]at hi
   obtain⟨hn,o,ho,_⟩:=hi
   have hi':i<ops.size:=by
    rcases Nat.lt_or_ge i ops.size with h|h
    ·exact h
    ·rw[Array.getElem?_eq_none h]at ho;cases ho
   exact absurd ((hl i hi').2 hi') hn
  ·have hlt:i0<ops.size:=by omega
   have ho:ops[i0]?=some ops[i0]:=Array.getElem?_eq_getElem hlt
   have hrdy: ∀o,ops[i0]?=some o→ ∀e∈o.after,Region.binds .any e=true→Li listed e.on:=fun o ho' e he hb=>by
    have:=hD.edge i0 o ho' e he hb
    exact(hl _ O).2 this
   have hin:i0∈Region.ready .any ops listed:=by
    rw[BF hs]
    exact⟨fun hc=>by have:=(hl i0 hlt).1 hc;omega,ops[i0],ho,hrdy _ ho⟩
   refine⟨fun hnil=>by rw[hnil]at hin;simp at hin,fun i hi=>?_⟩
   rw[BF hs]at hi
   obtain⟨hn,o,ho',hr'⟩:=hi
   have hisz:i<ops.size:=by
    rcases Nat.lt_or_ge i ops.size with h|h
    ·exact h
    ·rw[Array.getElem?_eq_none h]at ho';cases ho'
   have hdc:DC ops listed:=by
    intro j oj hoj hlj e he hb
    have hj:j<ops.size:=by
     rcases Nat.lt_or_ge j ops.size with h|h
     ·exact h
     ·rw[Array.getElem?_eq_none h]at hoj;cases hoj
    have h1:=(hl j hj).1 hlj
    have h2:=hD.edge j oj hoj e he hb
    exact(hl _ O).2 O
   have hieq:i=i0:=by
    rcases Nat.lt_trichotomy i i0 with h'|h'|h'
    ·exact absurd ((hl i hisz).2 h') hn
    ·exact h'
    ·have hpre:=hD.tail i O hisz i0 (by have:=hD.km;omega) h'
     have:=Cz hdc hpre (fun o2 ho2=>by rw[ho']at ho2;cases ho2;exact hr')
     have:=(hl i0 hlt).1 this
     omega
   subst hieq
   rw[ho']at ho;cases ho
   have hdrop:ops.toList.drop i=ops[i]::ops.toList.drop (i+1):=by
    rw[List.drop_eq_getElem_cons (by simpa using hlt)];simp
   rw[hdrop]at h
   simp only[AQ]at h
   have hl': ∀j,j<ops.size→(Li (listed.setIfInBounds i true) j↔j<i+1):=by
    intro j hj
    rw[C9 O,hl j hj];omega
   refine Fy hF ho' ?_
   rcases Gn hg h with⟨hw,env0,h,hg⟩|⟨hw,env0,h,hg⟩
   ·refine .inl ⟨hw,?_⟩
    refine h w g a hg.inv hg.env F hF _ _ ?_
    rintro v w' ⟨x,e1,s1,⟨g',k1,k2,k3,k4⟩,e2,hput,h⟩
    exact ih (i+1) O O (by simp[hs]) hl' O h (C5 hput ⟨k4,k3,hg.defers.ext k1,hg.size⟩ k2) (hx.trans k1)
   ·refine .inr ⟨hw,?_⟩
    obtain⟨e2,hput,h⟩:=h
    exact ih (i+1) O O (by simp[hs]) hl' O h (C5 hput hg (.t _ _ .undef)) hx
theorem UC {F:Fence} (hF:IsW F) (hp:ProgOk P c) (hD:DrawOkF ops k m) {K:Exit→Env→St→Prop} {w0:World} {g0:G} {e:Env} {s:St} (htl:AQ P n ops (ops.toList.drop m) e s (K .normal)):
  ∀(fuel:Nat) {listed:Array Bool} {rem:List Nat} {w:World} {g:G} {a:Act} {env:Env} {σ:St},listed.size=ops.size→DC ops listed→(∀j,j<k→Li listed j)→(∀i,m≤i→i<ops.size→ ¬Li listed i)→
  (∀i,i∈rem↔i<m∧ ¬Li listed i)→rem.Pairwise (· < ·)→rem.length+(ops.size-m)≤fuel→Fx P c TO n ops news rem env σ e s→Good n w g a env σ→Ext w0 g0 w g→
  wpAnyIn F 0 P .any ops (BH n w0 g0 K) fuel listed a w:=by
 intro fuel
 induction fuel with
 |zero=>
  intro listed rem w g a env σ hs hdc hkl hhi hrem hsort hf hruns hg hx
  have hnil:rem=[]:=List.eq_nil_of_length_eq_zero O
  subst hnil
  refine MM hF hD 0 m (Nat.le_refl _) hD.le hs (fun i hi=>⟨fun h=>?_,fun h=>?_⟩) O htl (hg.eqv hruns.1 hruns.2) hx
  ·exact Classical.byContradiction fun hc=>hhi i O hi h
  ·exact Classical.byContradiction fun hc=>by have:=(hrem i).2 ⟨h,hc⟩;simp at this
 |succ fuel ih=>
  intro listed rem w g a env σ hs hdc hkl hhi hrem hsort hf hruns hg hx
  by_cases hnil:rem=[]
  ·subst hnil
   refine MM hF hD (fuel+1) m (Nat.le_refl _) hD.le hs (fun i hi=>⟨fun h=>?_,fun h=>?_⟩) (by simp at hf;omega) htl (hg.eqv hruns.1 hruns.2) hx
   ·exact Classical.byContradiction fun hc=>hhi i O hi h
   ·exact Classical.byContradiction fun hc=>by have:=(hrem i).2 ⟨h,hc⟩;simp at this
  ·obtain⟨i0,rest,rfl⟩: ∃i0 rest,rem=i0::rest:=List.exists_cons_of_ne_nil hnil
   have hm:=hD.le
   obtain⟨hi0,hn0⟩:=(hrem i0).1 Z
   have hmin: ∀j,j<i0→Li listed j:=fun j hj=>Classical.byContradiction fun hc=>by
    have:=(hrem j).2 ⟨by omega,hc⟩
    simp at this
    rcases this with h'|h'
    ·omega
    ·have:=(List.pairwise_cons.1 hsort).1 j h';omega
   have ho0:ops[i0]?=some ops[i0]:=Array.getElem?_eq_getElem O
   have hin:i0∈Region.ready .any ops listed:=by
    rw[BF hs]
    exact⟨hn0,ops[i0],ho0,fun e he hb=>hmin _ (hD.edge i0 _ ho0 e he hb)⟩
   refine⟨fun hnil=>by rw[hnil]at hin;simp at hin,fun i hi=>?_⟩
   rw[BF hs]at hi
   obtain⟨hn,o,ho,hr⟩:=hi
   have hisz:i<ops.size:=by
    rcases Nat.lt_or_ge i ops.size with h|h
    ·exact h
    ·rw[Array.getElem?_eq_none h]at ho;cases ho
   have hr': ∀o2,ops[i]?=some o2→ ∀e∈o2.after,Region.binds .any e=true→Li listed e.on:=fun o2 ho2=>by rw[ho]at ho2;cases ho2;exact hr
   have him:i<m:=Classical.byContradiction fun hc=>hn0 (Cz hdc (hD.tail i O hisz i0 (Nat.le_of_not_lt fun h=>hn0 (hkl i0 h)) O) hr')
   have himem:i∈i0::rest:=(hrem i).2 ⟨him,hn⟩
   obtain⟨l1,l2,hsplit⟩:=List.append_of_mem himem
   rw[hsplit]at hruns hsort hrem hf
   have hlt: ∀j∈l1,j<i:=fun j hj=>(List.pairwise_append.1 hsort).2.2 j hj i Z
   have hgt: ∀j∈l2,i<j:=fun j hj=>(List.pairwise_cons.1 (List.pairwise_append.1 hsort).2.1).1 j hj
   have hb:=KG Hy ho (l1:=l1) (l2:=l2) (fun j hj=>by
    obtain⟨hjm,hjn⟩:=(hrem j).1 (by simp[hj])
    have hoj:ops[j]?=some ops[j]:=Array.getElem?_eq_getElem O
    refine⟨ops[j],hoj,?_⟩
    rcases hD.head i o him ho j ops[j] (hlt j hj) hoj with h'|h'
    ·exact absurd (Cz hdc h' hr') hjn
    ·exact h') hruns
   obtain⟨o2,y,nb,e1,s1,q1,q2,q3,q4,q5⟩:=hb
   rw[ho]at q1;cases q1
   have hrem': ∀j,j∈l1++l2↔j<m∧ ¬Li (listed.setIfInBounds i true) j:=by
    intro j
    rw[C9 O]
    have hj:=hrem j
    constructor
    ·intro hmem
     have hne:j≠i:=by
      rcases List.mem_append.1 hmem with h'|h'
      ·have:=hlt j h';omega
      ·have:=hgt j h';omega
     have:=hj.1 (by rcases List.mem_append.1 hmem with h'|h'<;>simp[h'])
     exact⟨this.1,fun hc=>by rcases hc with h'|h';exact hne h';exact this.2 h'⟩
    ·rintro⟨h1,h2⟩
     have hne:j≠i:=fun e=>h2 (.inl e)
     have:=hj.2 ⟨h1,fun hc=>h2 (.inr hc)⟩
     simp at this⊢
     rcases this with h'|h'|h'
     ·exact .inl h'
     ·exact absurd h' hne
     ·exact .inr h'
   have hsort':(l1++l2).Pairwise (· < ·):=by
    refine List.pairwise_append.2 ⟨(List.pairwise_append.1 hsort).1,(List.pairwise_cons.1 (List.pairwise_append.1 hsort).2.1).2,fun x hx y hy=>?_⟩
    have:=hlt x hx;have:=hgt y hy;omega
   have hhi': ∀j,m≤j→j<ops.size→ ¬Li (listed.setIfInBounds i true) j:=fun j hj hjs hc=>by
    rw[C9 O]at hc
    rcases hc with h'|h'
    ·omega
    ·exact hhi j hj hjs h'
   have hcont: ∀{w':World} {g':G} {a':Act} {env':Env} {σ':St},(∀t,look env' t=look e1 t)→(∀b,look σ' b=look s1 b)→Good n w' g' a' env' σ'→Ext w0 g0 w' g'→
     wpAnyIn F 0 P .any ops (BH n w0 g0 K) fuel (listed.setIfInBounds i true) a' w':=by
    intro w' g' a' env' σ' he1 hs1 hg1 hx1
    exact ih (by simp[hs]) (hdc.set O hr') (fun j hj=>(C9 O).2 (.inr (hkl j hj))) hhi' hrem' hsort' (by simp at hf⊢;omega) (q5.congr Hy (fun t=>(he1 t).symm) (fun b=>(hs1 b).symm)) hg1 hx1
   have hputg: ∀{w':World} {g':G} {v:Value} {σ':St},Good n w' g' a env σ'→Rel w' g' v y→(∀b,look σ' b=look s1 b)→Ext w0 g0 w' g'→
     wpAnyIn F 0 P .any ops (BH n w0 g0 K) fuel (listed.setIfInBounds i true) (a.put o.dst v) w':=by
    intro w' g' v σ' hg1 hrel hs1 hx1
    cases hd:o.dst with
    |none=>
     refine hcont (env':=env) (fun t=>?_) hs1 hg1 hx1
     rw[q4.1 t,hd];simp
    |some d=>
     have hlt:=q3.1 d hd
     have hput:BM n (some d) y env=some ((d,y)::env):=by
      simp only[BM]
      have:Nat.blt d n=true:=by simpa[Nat.blt_eq]using hlt
      rw[this]
     refine hcont (env':=(d,y)::env) (fun t=>?_) hs1 (C5 hput hg1 hrel) hx1
     rw[q4.1 t,hd,A3];simp
   refine Fy hF ho ?_
   rcases q3.2 with⟨_,hal,_⟩|⟨hw,cf,hcf,hst⟩|⟨hw,hy,hnb⟩
   ·exact hal.elim
   ·refine .inl ⟨CR hg hw,?_⟩
    refine EF hp hcf hg.inv hg.env hst F hF _ _ ?_
    rintro v w' ⟨g',k1,k2,k3,k4⟩
    exact hputg (σ':=nb++σ) ⟨k4,k3,hg.defers.ext k1,hg.size⟩ k2 (fun b=>(q4.2 b).symm) (hx.trans k1)
   ·refine .inr ⟨CR hg hw,?_⟩
    subst hy;subst hnb
    exact hputg (σ':=σ) hg (.t _ _ .undef) (fun b=>(q4.2 b).symm) hx
def J5 (n:Nat) (ops:Array Oper):List Nat→Env→Option Env
 |[],e=>some e
 |i::r,e=>match ops[i]? with
  |some o=>(match o.op with
   |.move x=>(match ev e x with
    |some y=>(match BM n o.dst y e with
     |some e2=>J5 n ops r e2
     |none=>none)
    |none=>none)
   |_=>none)
  |none=>none
def FO:List Nat→Array Bool→Array Bool
 |[],l=>l
 |i::r,l=>FO r (l.setIfInBounds i true)
theorem GT: ∀(fl:List Nat) (l:Array Bool),(FO fl l).size=l.size
 |[],_=>rfl
 |i::r,l=>by simp[FO,GT r]
theorem J7: ∀(fl:List Nat) (l:Array Bool) (j:Nat),(∀i∈fl,i<l.size)→(Li (FO fl l) j↔j∈fl∨Li l j)
 |[],l,j,_=>by simp[FO]
 |i::r,l,j,h=>by
  rw[FO,J7 r _ j (fun x hx=>by simp;exact h x (by simp[hx])),C9 (h i Z)]
  simp only[List.mem_cons]
  constructor
  ·rintro(h'|h'|h')
   ·exact .inl (.inr h')
   ·exact .inl (.inl h')
   ·exact .inr h'
  ·rintro((h'|h')|h')
   ·exact .inr (.inl h')
   ·exact .inl h'
   ·exact .inr (.inr h')
theorem Mp: ∀(fl:List Nat) (l:Array Bool),l.size=ops.size→Ep ops fl l=true→DC ops l→DC ops (FO fl l)
 |[],l,_,_,h=>h
 |i::r,l,hs,ht,h=>by
  simp only[Ep,Bool.and_eq_true]at ht
  have hr:=(BF hs).1 (List.contains_iff_mem.1 ht.1.2)
  obtain⟨_,o,ho,hr⟩:=hr
  have hi:i<ops.size:=by
   rcases Nat.lt_or_ge i ops.size with h|h
   ·exact h
   ·rw[Array.getElem?_eq_none h]at ho;cases ho
  exact Mp r _ (by simp[hs]) ht.2 (h.set O (fun o2 ho2=>by rw[ho]at ho2;cases ho2;exact hr))
theorem NK {F:Fence} (hro:F.round=none) (hs:Region.noSelect ops=true) {K:Exit→Env→St→Prop} (hK: ∀ch e s,¬K (.panic ch) e s) {w0:World} {g0:G} {fuel:Nat} {w:World} {g:G} {env':Env} {σ:St}: ∀(fl:List Nat) {listed:Array Bool} {a:Act} {env:Env},
  Ep ops fl listed=true→(∀i∈fl,∃o x,ops[i]?=some o∧o.guard=none∧o.op=.move x)→J5 n ops fl env=some env'→Good n w g a env σ→
  (∀a',Good n w g a' env' σ→wpAnyIn F 0 P .any ops (BH n w0 g0 K) fuel (FO fl listed) a' w)→wpAnyIn F 0 P .any ops (BH n w0 g0 K) (fuel+fl.length) listed a w
 |[],listed,a,env,_,_,he,hg,h=>by simp[J5]at he;subst he;exact h a hg
 |i::r,listed,a,env,ht,hm,he,hg,h=>by
  obtain⟨o,x,ho,hgd,hx⟩:=hm i Z
  simp only[Ep,Bool.and_eq_true]at ht
  simp only[J5,ho,hx]at he
  cases hy:ev env x with
  |none=>rw[hy]at he;simp at he
  |some y=>
   rw[hy]at he
   simp only at he
   cases hp:BM n o.dst y env with
   |none=>rw[hp]at he;simp at he
   |some e2=>
    rw[hp]at he
    simp only at he
    have hg2:=C5 hp hg (Bm hg.env hy)
    refine wpAnyIn_take (fuel:=fuel+r.length) (v:=a.eval x) hro ho hs ht.1.1 ht.1.2 ?_ ⟨.inl ⟨by simp[Region.wanted,hgd],fun w=>by simp[execOp,hx]⟩,fun w=>by simp[Oper.about,hx]⟩ ?_
    ·rintro ch a1 w1 ⟨e1,s1,g1,_,_,hk⟩;exact absurd hk (hK _ _ _)
    ·exact NK hro hs hK r ht.2 (fun j hj=>hm j (by simp[hj])) he hg2 h
theorem VJ (hp:ProgOk P c) {id:Nat} {env env':Env} {σ:St} {K:Exit→Env→St→Prop} (hd:UW ops k=some m) (ha:Jj ops.toList=true) (hK: ∀ch e s,¬K (.panic ch) e s) (hte:J5 n ops (List.range k) env=some env')
  (h:hSK P c n ops (Dc ((ops.toList.take m).drop k)) ((ops.toList.take m).drop k) env' σ (fun env σ=>AQ P n ops (ops.toList.drop m) env σ (K .normal))):Tr P n (.region id ops true) env σ K:=by
 intro F hF hrf w g a hg
 obtain⟨hD,hns,htk,hmv⟩:=Aby hd
 have hro:F.round=none:=by
  rcases hrf with h|h
  ·exact h
  ·simp[Ka,ha]at h
 have hlen:ops.toList.length=ops.size:=by simp
 have hle:=hD.le
 have hkm:=hD.km
 obtain⟨e,s,h1,h2⟩:=E2 ((ops.toList.take m).drop k) k (fun j hj=>by
  rw[List.getElem?_drop,List.getElem?_take,if_pos (by simp at hj;omega),Array.getElem?_toList]) (fun o ho=>EC ho) h
 refine wpIn_region_any hp.mix ?_
 have hsz:ops.size=(ops.size-k)+(List.range k).length:=by simp;omega
 rw[hsz,←hsz]
 rw[show wpAnyIn F 0 P .any ops (BH n w g K) ops.size=wpAnyIn F 0 P .any ops (BH n w g K) ((ops.size-k)+(List.range k).length)by rw[←hsz]]
 refine NK hro hns hK (List.range k) htk (fun i hi=>?_) hte hg.drew (fun a' hg'=>?_)
 ·obtain⟨o,x,ho,q1,q2⟩:=Ow (l:=ops.toList) (i:=i) (by simp at hi;omega)
  exact⟨o,x,by rw[Array.getElem?_toList]at ho;exact ho,q1,q2⟩
 ·have hin: ∀i∈List.range k,i<(Array.replicate ops.size false).size:=fun i hi=>by simp at hi⊢;omega
  have hLi: ∀j,Li (FO (List.range k) (Array.replicate ops.size false)) j↔j<k:=fun j=>by
   rw[J7 _ _ _ hin];simp[Li,Array.getElem?_replicate]
  have hrl:(List.range' k ((ops.toList.take m).drop k).length)=List.range' k (m-k):=by congr 1;simp;omega
  rw[hrl]at h1
  refine UC hF hp hD h2 (ops.size-k) (by rw[GT];simp) (Mp _ _ Z htk (fun i o ho hl=>by simp[Li,Array.getElem?_replicate]at hl)) (fun j hj=>(hLi j).2 hj) (fun i hi _ hl=>by have:=(hLi i).1 hl;omega) (fun i=>?_) List.pairwise_lt_range' (by simp;omega) h1 hg' (Ext.drew w g)
  rw[hLi,List.mem_range'_1];omega
end
end Go.Am
