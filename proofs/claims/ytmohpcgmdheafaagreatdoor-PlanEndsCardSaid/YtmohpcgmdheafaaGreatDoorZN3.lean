/- Contracts and laws, joined: M9, M10, Bc, Bd, Be, Bf, Bg, Bh, Bi, Bj, Bl, Bm, Bn, Bk. No condition beside those that each theorem names. -/
import Derived.Test.YtmohpcgmdheafaaGreatDoorZN2
set_option linter.unusedVariables false
set_option linter.unusedSimpArgs false
namespace Go.Am
section
variable {P:Program} {c:Conf} {te:TE} {w w':World} {g:G} {σ:St}
end
end Go.Am
namespace Go.Am
def PS (b sz:Nat) (es:List (List T)) (blk N:Nat) (y y':AV):Prop:= ∀(w:World) (g g':G),(∀v,Rel w g v (.row b sz 0 es.length)->Rel w g' v (.t (.slice (.phys blk N) sz es)))->(∀v x,Rel w g v x->Rel w g' v (B5 b sz es x))-> ∀v,Rel w g v y->Rel w g' v y'
def PSL (b sz:Nat) (es:List (List T)) (blk N:Nat):List AV->List AV->Prop
 |[],[]=>True
 |x::r,y::s=>PS b sz es blk N x y/\PSL b sz es blk N r s
 |_,_=>False
section
variable {b sz:Nat} {es:List (List T)} {blk N:Nat}
theorem PSL.get: ∀{xs ys:List AV},PSL b sz es blk N xs ys->xs.length=ys.length/\ ∀(i:Nat) y,ys[i]?=some y-> ∃x,xs[i]?=some x/\PS b sz es blk N x y
 |[],[],_=>⟨Y,fun i y h=>by simp at h⟩
 |x::r,y::s,⟨h1,h2⟩=>by
  obtain⟨k1,k2⟩:=PSL.get h2
  refine⟨by simp[k1],fun i z hz=>?_⟩
  cases i with
  |zero=>simp at hz;subst hz;exact⟨x,Y,h1⟩
  |succ i=>simp at hz;simpa using k2 i z hz
 |[],_::_,h=>h.elim
 |_::_,[],h=>h.elim
end
section
variable {P:Program} {c:Conf} {n:Nat} {ops:Array Oper} {rest:List Oper} {env:Env} {σ:St} {o:Oper} {K:Exit->Env->St->Prop} {k:Env->St->Prop}
def CtF (P:Program) (f:Nat) (as:List AV) (σ:St) {ι:Type} (V:ι->Prop) (r:ι->AV) (s:ι->St):Prop:=
 (∃fn,P.funcs[f]?=some fn/\fn.body.isSome=true)/\ ∀(vs:List Value) (w:World) (g:G),Bt w g vs as->Inv w g σ->Calls P f vs.toArray w fun e w'=> ∃v g' i,e=.returned v/\V i/\Ext w g w' g'/\Rel w' g' v (r i)/\Inv w' g' (s i)
def Atp {ι:Type} (te:TE) (rs:List ResultVar) (V:ι->Prop) (r:ι->AV) (s:ι->St) (ex:Exit) (e:Env) (st:St):Prop:=
 (ex=.normal\/ex=.ret)/\ ∃i,V i/\ ∃r0 s1 D r1,JY te true rs e st=some (r0,s1)/\K6 D [(0,r0)]=[(0,r1)]/\EY D s1=s i/\Sub r1 (r i)
theorem ctF (hp:ProgOk P c) {f:Nat} {fn:Func} (hf:P.funcs[f]?=some fn) {code:Code} (hb:fn.body=some code) {as:List AV} {ι:Type} {V:ι->Prop} {r:ι->AV} {s:ι->St} (hle:Nat.ble as.length fn.ntmps=true)
  (h:Tr P fn.ntmps code (FG 0 as) σ (Atp c.te fn.results.toList V r s)):CtF P f as σ V r s:=by
 refine⟨⟨fn,hf,by simp[hb]⟩,?_⟩
 intro vs w g hrl hi
 refine Gl hf hb hle h hrl hi fun ex a' w' g' env' σ1 h1 h2 h3=>?_
 obtain⟨hex,i,hV,r0,s1,D,r1,h4,h5,hs,h6⟩:=h3
 obtain⟨v,g2,q1,q2,q3,q4⟩:=Is hp h2 h4
 have hg2:Good 0 w' g2 ⟨#[v],[]⟩ [(0,r0)] s1:=⟨fun t x hx=>by
  rw[Ao]at hx
  split at hx
  ·rename_i e;subst e;cases hx;exact q3
  ·simp[look]at hx,q4,G3.nil,by simp⟩
 obtain⟨g3,k1,k2⟩:=Lp D hg2
 rw[h5]at k2
 have hv:Rel w' g3 v r1:=k2.env 0 r1 Y
 exact⟨hex,v,q1,v,g3,i,Y,hV,(h1.trans q2).trans k1,h6 _ _ _ hv,hs▸k2.inv⟩
theorem E7 {ι:Type} {te:TE} {rs:List ResultVar} {V:ι->Prop} {r:ι->AV} {s:ι->St} {e:Env} {st s1:St} {r0 r1:AV} (i:ι) (hV:V i) (D:List Nat) (h:JY te true rs e st=some (r0,s1)) (h1:K6 D [(0,r0)]=[(0,r1)]) (h2:EY D s1=s i) (hs:Sub r1 (r i)):Atp te rs V r s .ret e st:=
 ⟨.inr Y,i,hV,r0,s1,D,r1,h,h1,h2,hs⟩
theorem CtF.args {f:Nat} {as as0:List AV} {ι:Type} {V:ι->Prop} {r:ι->AV} {s:ι->St} (h:CtF P f as0 σ V r s) (hs:DU as as0):CtF P f as σ V r s:=
 ⟨h.1,fun vs w g hr hi=>h.2 vs w g (hs.rel hr) hi⟩
theorem HD (hp0:ProgOk P c) (ι ω:List (Nat×Nat)) {cl:Call} {f:Nat} {as as0:List AV} {σ0:St} {I:Type} {V:I->Prop} {r:I->AV} {s2:I->St} {e2:I->Env} {s:I->St} (hg:o.guard=none) (ho:o.op=.call cl) (hc:C6 c env cl=some (f,as)) (ha:HY (look ι) as=as0) (hs0:CI ι σ ι=σ0)
  (hct:CtF P f as0 σ0 V r s2) (hR0:SF ι ω σ []=true) (hR: ∀i,V i->SF ι ω σ (s2 i)=true) (hs: ∀i,V i->Iv ω (s2 i)++J9 ι σ σ=s i) (hp: ∀i,V i->B4 n o.dst (CV (look ω) (r i)) (S7 (Ft ι σ) env)=some (e2 i)) (h: ∀i,V i->A2 P n ops rest (e2 i) (s i) k):
  A2 P n ops (o::rest) env σ k:=by
 subst ha;subst hs0
 simp only[A2,AL,hg]
 intro w g a hi hee
 obtain⟨⟨fn,hf,hb⟩,hca⟩:=hct
 obtain⟨vs,hrun,hrel⟩:=C5 hp0 hee hc ho hf hb
 refine BJ.enter hrun ?_
 obtain⟨i1,i2⟩:=PF hi (NA hR0)
 refine(hca vs w _ (hrel.ren (look ι) i2) i1).mono ?_
 rintro ed w' ⟨v,g1,i,rfl,hVi,q1,q2,q3⟩
 obtain⟨g',k1,k2,k3,k4⟩:=J2 hi (NA (hR i hVi)) q1 q3
 refine⟨v,Y,_,_,_,⟨g',k1,k3 v (r i) q2,(hs i hVi)▸k2,fun t x hx=>?_⟩,e2 i,hp i hVi,h i hVi⟩
 rw[MR]at hx
 cases hl:look env t with
 |none=>simp[hl]at hx
 |some y=>simp[hl]at hx;subst hx;exact k4 _ _ (hee t y hl)
end
end Go.Am
namespace Go.Am
section
variable {P:Program} {c:Conf} {n k m:Nat} {ops:Array Oper} {news:List Nat}
theorem JF.app {alt:Oper->Env->Prop} (hal:Uw ops alt): ∀{l1 l2:List Nat} {env e1 e:Env} {σ s1 s:St},JF P c alt n ops news l1 env σ e1 s1->JF P c alt n ops news l2 e1 s1 e s->JF P c alt n ops news (l1++l2) env σ e s
 |[],l2,env,e1,e,σ,s1,s,h1,h2=>h2.congr hal (fun t=>h1.1 t) (fun b=>h1.2 b)
 |i::r,l2,env,e1,e,σ,s1,s,⟨o,y,nb,e2,s2,a1,a2,a3,a4,a5⟩,h2=>⟨o,y,nb,e2,s2,a1,a2,a3,a4,JF.app hal a5 h2⟩
end
end Go.Am
namespace Go.Am
section
variable {P:Program} {c:Conf} {n:Nat} {ops:Array Oper} {rest:List Oper} {env:Env} {σ:St} {o:Oper} {k:Env->St->Prop}
theorem Arq (hp0:ProgOk P c) {t yt e s0 b0 sz sz':Nat} {z0:List T} {xo yo:Operand} {m:SM} {es:List (List T)} {e2:Bool->Env} (hg:o.guard=none) (ho:o.op=.binOp .eql t xo yo yt) (hx:ev env xo=some (.t (.slice m sz es))) (hy:ev env yo=some (.t (.slice .nil sz' [])))
  (ht:look c.te t=some ⟨s0,b0,z0,.slice e⟩) (hp: ∀b,B4 n o.dst (.t (.bool b)) env=some (e2 b)) (h: ∀b,(b=true->es=[])->A2 P n ops rest (e2 b) σ k):A2 P n ops (o::rest) env σ k:=by
 simp only[A2,AL,hg]
 intro w g a hi hee
 have rx:=Aw (AG hee hx)
 have ry:=Aw (AG hee hy)
 have hv:a.eval yo=.slice none 0 0:=by
  generalize a.eval yo=v at ry
  cases ry with
  |sliceNil=>rfl
  |sliceZ _ _ _ hm=>exact absurd Y hm
  |slice _ _ _ _ _ _ _ _ _ _ _ hm=>exact absurd Y hm
 have hu:=F7 (hp0.te _ _ ht) w Y
 have fin: ∀b,(b=true->es=[])->(execOp a.eval o).run P w=.ok (.value (.bool b)) w->BJ P o a w fun v w'=> ∃x e s,ER w g a x e s v w'/\FX n o.dst x e fun e2=>A2 P n ops rest e2 s k:=fun b hb hrun=>
  BJ.value hrun ⟨.t (.bool b),env,σ,⟨g,A1t _ _,.t _ _ (.bool b),hi,hee⟩,e2 b,hp b,h b hb⟩
 rcases Cq rx with⟨h1,h2⟩|⟨b,off,cap,h1,_,_,_,_,_⟩|⟨az,h1,h2,_⟩
 ·refine fin true (fun _=>h2) ?_
  have:=Fy (P:=P) (w:=w) (t:=t) (H3 hu) Y
  simp[execOp,ho,h1,hv,Hq,this]
 ·refine fin false (fun hb=>by cases hb) ?_
  have:=Fy (P:=P) (w:=w) (t:=t) (EJ (a:=⟨b,off,none⟩) (l:=es.length) (c:=cap) hu) Y
  simp[execOp,ho,h1,hv,Hq,this]
 ·refine fin false (fun hb=>by cases hb) ?_
  have:=Fy (P:=P) (w:=w) (t:=t) (EJ (a:=az) (l:=0) (c:=0) hu) Y
  simp[execOp,ho,h1,hv,Hq,this]
theorem Agq {news:List Nat} {t s0 b0 e:Nat} {z0:List T} {esz ebb:Nat} {ez:List T} {ek:TK} {xo io:Operand} {m:SM} {sz:Nat} {es:List (List T)} {kk:IntKind} {kc:Nat} {nn:Int} {cc:List T} {e2:Env} (hg:o.guard=none) (ho:o.op=.indexAddr t xo io) (hx:ev env xo=some (.t (.slice m sz es)))
  (hi:ev env io=some (.t (.int kk nn))) (ht:look c.te t=some ⟨s0,b0,z0,.slice e⟩) (he:look c.te e=some ⟨esz,ebb,ez,ek⟩) (hsz:sz=esz) (hn:nn=(kc:Int)) (hc:es[kc]?=some cc) (hp:B4 n o.dst (.t (.ptr cc)) env=some e2)
  (h:hSK P c n ops news rest e2 σ k):hSK P c n ops news (o::rest) env σ k:=by
 subst hn
 simp only[hSK,AL,hg]
 refine⟨Adm,.t (.ptr cc),[],PK,?_,e2,hp,h⟩
 unfold BW
 rw[ho]
 simp only[Ce,hx,hi,DE,FY,ht,he,hsz,hc,if_true]
end
end Go.Am
namespace Go.Am
section
variable {P:Program} {te:TE} {w:World} {g:G}
theorem SB (hte:CX P te) {t i:Nat} {u:Value} {p r:AV} (h:Hu te t i p=some r) (hp:Rel w g u p):
  ∃z,(∀w',(Instr.fieldAt t u i).run P w'=.ok z w')/\Rel w g z r:=by
 obtain⟨z,h1,h2⟩:=K4 (P:=P) hte h hp
 refine⟨z,fun w'=>?_,h2⟩
 unfold Hu Ain at h
 split at h
 ·rename_i off ft hf
  split at hf
  ·rename_i i1 i2 i3 fs hl
   obtain⟨d,hd0,hdk⟩:=(hte _ _ hl).und'
   obtain⟨gs,hd,hg⟩:=IR (hte _ _ hl) w Y
   have hd':(underlying t).run P w'=.ok (.struct gs) w':=by
    have e1:=Go.run_underlying (P:=P) (w:=w) hd0
    rw[e1]at hd;cases hd
    exact Go.run_underlying hd0 w'
   obtain⟨f,hf1,hf2,hf3⟩:=Vm hg hf
   split at h
   ·rename_i fi hfi
    split at h
    ·simp at h
    ·rename_i n hn
     have hn0:fi.size≠0:=by omega
     rw[<-hf3]at hfi
     have both: ∀b o,u=.pointer (some ⟨b,o,none⟩)->(Instr.fieldAt t u i).run P w'=.ok z w':=by
      rintro b o rfl
      have k1:(Instr.fieldAt t (.pointer (some ⟨b,o,none⟩)) i).run P w=.ok (.pointer (some ⟨b,o+f.offset,none⟩)) w:=by simp[Instr.fieldAt,hd,hf1,Instr.sureAddr,Ej hte w hfi hn0]
      rw[k1]at h1;cases h1
      simp[Instr.fieldAt,hd',hf1,Instr.sureAddr,Ej hte w' hfi hn0]
     split at h
     ·simp at h;subst h
      cases hp with
      |ref _ _ blk hb=>exact both _ _ Y
     ·simp at h;subst h
      cases hp with
      |eref _ _ _ _ blk hb=>exact both _ _ Y
     ·obtain⟨b,o,hu,_⟩:=FO (Aw hp)
      exact both _ _ hu
     ·simp at h
   ·simp at h
  ·simp at hf
 ·simp at h
def Zm:Op->Bool
 |.move _=>true
 |.fieldAddr _ _ _=>true
 |_=>false
theorem Aka (hte:CX P te) {a:Act} {env:Env} (he:AK w g a env) {o:Oper} {x:AV} (ha:Zm o.op=true) (h:Ce te o.op env=some x):
  ∃v,(∀w',(execOp a.eval o).run P w'=.ok (.value v) w')/\(∀w',o.about P w' a.eval=none)/\Rel w g v x:=by
 unfold Zm at ha
 split at ha
 ·rename_i y ho
  simp only[ho,Ce]at h
  exact⟨_,fun w'=>by simp[execOp,ho],fun w'=>by simp[Oper.about,ho],AG he h⟩
 ·rename_i t y i ho
  simp only[ho,Ce]at h
  split at h
  ·rename_i p hp
   obtain⟨z,h1,h2⟩:=SB (P:=P) hte h (AG he hp)
   exact⟨z,fun w'=>by simp[execOp,ho,h1],fun w'=>by simp[Oper.about,ho],h2⟩
  ·simp at h
 ·cases ha
end
structure DrawOkR (ops:Array Oper) (fl:List Nat) (m:Nat):Prop where
 edge: ∀(i:Nat) o,ops[i]?=some o-> ∀e∈o.after,Region.binds .any e=true->e.on<i
 head: ∀i oi,i<m->i∉fl->ops[i]?=some oi-> ∀j oj,j<i->j∉fl->ops[j]?=some oj->Pre ops j i\/oj.apart ops oi=true
 tail: ∀i,m<=i->i<ops.size->i∉fl-> ∀j,j∉fl->j<i->Pre ops j i
 le:m<=ops.size
section
variable {P:Program} {c:Conf} {n m:Nat} {ops:Array Oper} {news:List Nat}
theorem JM {F:Fence} (hF:IsW F) (hedge: ∀(i:Nat) o,ops[i]?=some o-> ∀e∈o.after,Region.binds .any e=true->e.on<i) {K:Exit->Env->St->Prop} {w0:World} {g0:G}: ∀(ts:List Nat) {fuel:Nat} {listed:Array Bool} {w:World} {g:G} {a:Act} {env:Env} {σ:St},
  listed.size=ops.size->DC ops listed->(∀i∈ts,i<ops.size)->(∀i,i<ops.size->(¬Li listed i↔i∈ts))->ts.Pairwise (· < ·)->(∀i∈ts,∀j∈ts,j<i->Pre ops j i)->ts.length<=fuel->A2 P n ops (ts.filterMap (ops[·]?)) env σ (K .normal)->Good n w g a env σ->Ext w0 g0 w g->
  wpAnyIn F 0 P .any ops (BS n w0 g0 K) fuel listed a w
 |[],fuel,listed,w,g,a,env,σ,hs,_,_,hl,_,_,_,h,hg,hx=>by
  have hready:Region.ready .any ops listed=[]:=by
   apply List.eq_nil_iff_forall_not_mem.2
   intro i hi
   rw[Bv hs]at hi
   obtain⟨hn,o,ho,_⟩:=hi
   have hi':i<ops.size:=by
    rcases Nat.lt_or_ge i ops.size with h|h
    ·exact h
    ·rw[Array.getElem?_eq_none h]at ho;cases ho
   have:=(hl i hi').1 hn;simp at this
  have hq:BS n w0 g0 K .normal a w:=⟨env,σ,g,hx,hg,h⟩
  cases fuel with
  |zero=>exact⟨hready,hq⟩
  |succ f=>exact⟨fun _=>hq,fun i hi=>by rw[hready]at hi;simp at hi⟩
 |i::r,0,listed,w,g,a,env,σ,_,_,_,_,_,_,hf,_,_,_=>by simp at hf
 |i::r,fuel+1,listed,w,g,a,env,σ,hs,hdc,hlt0,hl,hsort,hpre,hf,h,hg,hx=>by
  have hmin: ∀j∈r,i<j:=(List.pairwise_cons.1 hsort).1
  have hisz:i<ops.size:=hlt0 i Ac
  have ho:ops[i]?=some ops[i]:=Array.getElem?_eq_getElem hisz
  have hn: ¬Li listed i:=(hl i hisz).2 Ac
  have hbelow: ∀j,j<i->Li listed j:=fun j hj=>Classical.byContradiction fun hc=>by
   have:=(hl j Aa).1 hc
   rcases List.mem_cons.1 this with e|e
   ·omega
   ·have:=hmin j e;omega
  have hrdy: ∀o2,ops[i]?=some o2-> ∀e∈o2.after,Region.binds .any e=true->Li listed e.on:=fun o2 ho2 e he hb=>hbelow _ (hedge i o2 ho2 e he hb)
  have hin:i∈Region.ready .any ops listed:=by
   rw[Bv hs]
   exact⟨hn,ops[i],ho,hrdy _ ho⟩
  refine⟨fun hnil=>by rw[hnil]at hin;simp at hin,fun i' hi'=>?_⟩
  rw[Bv hs]at hi'
  obtain⟨hn',o,ho',hr'⟩:=hi'
  have hsz':i'<ops.size:=by
   rcases Nat.lt_or_ge i' ops.size with h|h
   ·exact h
   ·rw[Array.getElem?_eq_none h]at ho';cases ho'
  have hmem:=(hl i' hsz').1 hn'
  have hii:i'=i:=by
   rcases List.mem_cons.1 hmem with e|e
   ·exact e
   ·exact absurd (CA hdc (hpre i' (by simp[e]) i Ac (hmin i' e)) (fun o2 ho2=>by rw[ho']at ho2;cases ho2;exact hr')) hn
  subst hii
  rw[ho']at ho;cases ho
  have hfm:(i'::r).filterMap (ops[·]?)=ops[i']::r.filterMap (ops[·]?):=by simp[List.filterMap_cons,ho']
  rw[hfm]at h
  simp only[A2]at h
  have hl': ∀j,j<ops.size->(¬Li (listed.setIfInBounds i' true) j↔j∈r):=by
   intro j hj
   rw[DL Aa]
   have hjj:=hl j hj
   constructor
   ·intro hc
    have:j∈i'::r:=hjj.1 (fun h=>hc (.inr h))
    rcases List.mem_cons.1 this with e|e
    ·exact absurd (.inl e) hc
    ·exact e
   ·intro hm hc
    rcases hc with e|e
    ·subst e;have:=hmin j hm;omega
    ·exact hjj.2 (by simp[hm]) e
  have hnext: ∀{w':World} {g':G} {a':Act} {env':Env} {σ':St},A2 P n ops (r.filterMap (ops[·]?)) env' σ' (K .normal)->Good n w' g' a' env' σ'->Ext w0 g0 w' g'->wpAnyIn F 0 P .any ops (BS n w0 g0 K) fuel (listed.setIfInBounds i' true) a' w':=fun h1 h2 h3=>
   JM hF hedge r (by simp[hs]) (hdc.set Aa hrdy) (fun j hj=>hlt0 j (by simp[hj])) hl' (List.pairwise_cons.1 hsort).2 (fun p hp q hq=>hpre p (by simp[hp]) q (by simp[hq])) (by simpa using hf) h1 h2 h3
  refine FM hF ho' ?_
  rcases F6 hg h with⟨hw,env0,h,hg⟩|⟨hw,env0,h,hg⟩
  ·refine .inl ⟨hw,?_⟩
   refine h w g a hg.inv hg.env F hF _ _ ?_
   rintro v w' ⟨x,e1,s1,⟨g',k1,k2,k3,k4⟩,e2,hput,h⟩
   exact hnext h (Cm hput ⟨k4,k3,hg.defers.ext k1,hg.size⟩ k2) (hx.trans k1)
  ·refine .inr ⟨hw,?_⟩
   obtain⟨e2,hput,h⟩:=h
   exact hnext h (Cm hput hg (.t _ _ .undef)) hx
theorem WV {F:Fence} (hF:IsW F) (hp:ProgOk P c) {fl tl:List Nat} (hD:DrawOkR ops fl m) (htl0: ∀i,i∈tl↔m<=i/\i<ops.size/\i∉fl) (hts:tl.Pairwise (· < ·)) {K:Exit->Env->St->Prop} {w0:World} {g0:G} {e:Env} {s:St} (htl:A2 P n ops (tl.filterMap (ops[·]?)) e s (K .normal)):
  ∀(fuel:Nat) {listed:Array Bool} {rem:List Nat} {w:World} {g:G} {a:Act} {env:Env} {σ:St},listed.size=ops.size->DC ops listed->(∀j∈fl,Li listed j)->(∀i∈tl,¬Li listed i)->
  (∀i,i∈rem↔i<m/\ ¬Li listed i)->rem.Pairwise (· < ·)->rem.length+tl.length<=fuel->JF P c WC n ops news rem env σ e s->Good n w g a env σ->Ext w0 g0 w g->
  wpAnyIn F 0 P .any ops (BS n w0 g0 K) fuel listed a w:=by
 intro fuel
 induction fuel with
 |zero=>
  intro listed rem w g a env σ hs hdc hkl hhi hrem hsort hf hruns hg hx
  have hnil:rem=[]:=List.eq_nil_of_length_eq_zero Aa
  subst hnil
  refine JM hF (fun i o ho=>hD.edge i o ho) tl hs hdc (fun i hi=>((htl0 i).1 hi).2.1) (fun i hi=>⟨fun h=>?_,fun h=>hhi i h⟩) hts (fun i hi j hj hji=>hD.tail i ((htl0 i).1 hi).1 ((htl0 i).1 hi).2.1 ((htl0 i).1 hi).2.2 j ((htl0 j).1 hj).2.2 hji) (by simpa using hf) htl (hg.eqv hruns.1 hruns.2) hx
  exact Classical.byContradiction fun hc=>by
   rcases Nat.lt_or_ge i m with h1|h1
   ·have:=(hrem i).2 ⟨h1,h⟩;simp at this
   ·exact hc ((htl0 i).2 ⟨h1,hi,fun hf=>h (hkl i hf)⟩)
 |succ fuel ih=>
  intro listed rem w g a env σ hs hdc hkl hhi hrem hsort hf hruns hg hx
  by_cases hnil:rem=[]
  ·subst hnil
   refine JM hF (fun i o ho=>hD.edge i o ho) tl hs hdc (fun i hi=>((htl0 i).1 hi).2.1) (fun i hi=>⟨fun h=>?_,fun h=>hhi i h⟩) hts (fun i hi j hj hji=>hD.tail i ((htl0 i).1 hi).1 ((htl0 i).1 hi).2.1 ((htl0 i).1 hi).2.2 j ((htl0 j).1 hj).2.2 hji) (by simpa using hf) htl (hg.eqv hruns.1 hruns.2) hx
   exact Classical.byContradiction fun hc=>by
    rcases Nat.lt_or_ge i m with h1|h1
    ·have:=(hrem i).2 ⟨h1,h⟩;simp at this
    ·exact hc ((htl0 i).2 ⟨h1,hi,fun hf=>h (hkl i hf)⟩)
  ·obtain⟨i0,rest,rfl⟩: ∃i0 rest,rem=i0::rest:=List.exists_cons_of_ne_nil hnil
   have hm:=hD.le
   obtain⟨hi0,hn0⟩:=(hrem i0).1 Ac
   have hmin: ∀j,j<i0->Li listed j:=fun j hj=>Classical.byContradiction fun hc=>by
    have:=(hrem j).2 ⟨by omega,hc⟩
    simp at this
    rcases this with h'|h'
    ·omega
    ·have:=(List.pairwise_cons.1 hsort).1 j h';omega
   have ho0:ops[i0]?=some ops[i0]:=Array.getElem?_eq_getElem Aa
   have hin:i0∈Region.ready .any ops listed:=by
    rw[Bv hs]
    exact⟨hn0,ops[i0],ho0,fun e he hb=>hmin _ (hD.edge i0 _ ho0 e he hb)⟩
   refine⟨fun hnil=>by rw[hnil]at hin;simp at hin,fun i hi=>?_⟩
   rw[Bv hs]at hi
   obtain⟨hn,o,ho,hr⟩:=hi
   have hisz:i<ops.size:=by
    rcases Nat.lt_or_ge i ops.size with h|h
    ·exact h
    ·rw[Array.getElem?_eq_none h]at ho;cases ho
   have hr': ∀o2,ops[i]?=some o2-> ∀e∈o2.after,Region.binds .any e=true->Li listed e.on:=fun o2 ho2=>by rw[ho]at ho2;cases ho2;exact hr
   have him:i<m:=Classical.byContradiction fun hc=>hn0 (CA hdc (hD.tail i Aa hisz (fun hf=>hn (hkl i hf)) i0 (fun hf=>hn0 (hkl i0 hf)) Aa) hr')
   have himem:i∈i0::rest:=(hrem i).2 ⟨him,hn⟩
   obtain⟨l1,l2,hsplit⟩:=List.append_of_mem himem
   rw[hsplit]at hruns hsort hrem hf
   have hlt: ∀j∈l1,j<i:=fun j hj=>(List.pairwise_append.1 hsort).2.2 j hj i Ac
   have hgt: ∀j∈l2,i<j:=fun j hj=>(List.pairwise_cons.1 (List.pairwise_append.1 hsort).2.1).1 j hj
   have hb:=V6 Iy ho (l1:=l1) (l2:=l2) (fun j hj=>by
    obtain⟨hjm,hjn⟩:=(hrem j).1 (by simp[hj])
    have hoj:ops[j]?=some ops[j]:=Array.getElem?_eq_getElem Aa
    refine⟨ops[j],hoj,?_⟩
    rcases hD.head i o him (fun hf=>hn (hkl i hf)) ho j ops[j] (hlt j hj) (fun hf=>hjn (hkl j hf)) hoj with h'|h'
    ·exact absurd (CA hdc h' hr') hjn
    ·exact h') hruns
   obtain⟨o2,y,nb,e1,s1,q1,q2,q3,q4,q5⟩:=hb
   rw[ho]at q1;cases q1
   have hrem': ∀j,j∈l1++l2↔j<m/\ ¬Li (listed.setIfInBounds i true) j:=by
    intro j
    rw[DL Aa]
    have hj:=hrem j
    constructor
    ·intro hmem
     have hne:j≠i:=by
      rcases List.mem_append.1 hmem with h'|h'
      ·have:=hlt j h';omega
      ·have:=hgt j h';omega
     have:=hj.1 (by rcases List.mem_append.1 hmem with h'|h'<;>simp[h'])
     exact⟨this.1,fun hc=>by rcases hc with h'|h';exact hne h';exact this.2 h'⟩
    ·rintro⟨h1,h2⟩
     have hne:j≠i:=fun e=>h2 (.inl e)
     have:=hj.2 ⟨h1,fun hc=>h2 (.inr hc)⟩
     simp at this⊢
     rcases this with h'|h'|h'
     ·exact .inl h'
     ·exact absurd h' hne
     ·exact .inr h'
   have hsort':(l1++l2).Pairwise (· < ·):=by
    refine List.pairwise_append.2 ⟨(List.pairwise_append.1 hsort).1,(List.pairwise_cons.1 (List.pairwise_append.1 hsort).2.1).2,fun x hx y hy=>?_⟩
    have:=hlt x hx;have:=hgt y hy;omega
   have hhi': ∀j∈tl,¬Li (listed.setIfInBounds i true) j:=fun j hj hc=>by
    rw[DL Aa]at hc
    rcases hc with h'|h'
    ·have:=((htl0 j).1 hj).1;omega
    ·exact hhi j hj h'
   have hcont: ∀{w':World} {g':G} {a':Act} {env':Env} {σ':St},(∀t,look env' t=look e1 t)->(∀b,look σ' b=look s1 b)->Good n w' g' a' env' σ'->Ext w0 g0 w' g'->
     wpAnyIn F 0 P .any ops (BS n w0 g0 K) fuel (listed.setIfInBounds i true) a' w':=by
    intro w' g' a' env' σ' he1 hs1 hg1 hx1
    exact ih (by simp[hs]) (hdc.set Aa hr') (fun j hj=>(DL Aa).2 (.inr (hkl j hj))) hhi' hrem' hsort' (by simp at hf⊢;omega) (q5.congr Iy (fun t=>(he1 t).symm) (fun b=>(hs1 b).symm)) hg1 hx1
   have hputg: ∀{w':World} {g':G} {v:Value} {σ':St},Good n w' g' a env σ'->Rel w' g' v y->(∀b,look σ' b=look s1 b)->Ext w0 g0 w' g'->
     wpAnyIn F 0 P .any ops (BS n w0 g0 K) fuel (listed.setIfInBounds i true) (a.put o.dst v) w':=by
    intro w' g' v σ' hg1 hrel hs1 hx1
    cases hd:o.dst with
    |none=>
     refine hcont (env':=env) (fun t=>?_) hs1 hg1 hx1
     rw[q4.1 t,hd];simp
    |some d=>
     have hlt:=q3.1 d hd
     have hput:B4 n (some d) y env=some ((d,y)::env):=by
      simp only[B4]
      have:Nat.blt d n=true:=by simpa[Nat.blt_eq]using hlt
      rw[this]
     refine hcont (env':=(d,y)::env) (fun t=>?_) hs1 (Cm hput hg1 hrel) hx1
     rw[q4.1 t,hd,Ao];simp
   refine FM hF ho ?_
   rcases q3.2 with⟨_,hal,_⟩|⟨hw,cf,hcf,hst⟩|⟨hw,hy,hnb⟩
   ·exact hal.elim
   ·refine .inl ⟨Dc hg hw,?_⟩
    refine FU hp hcf hg.inv hg.env hst F hF _ _ ?_
    rintro v w' ⟨g',k1,k2,k3,k4⟩
    exact hputg (σ':=nb++σ) ⟨k4,k3,hg.defers.ext k1,hg.size⟩ k2 (fun b=>(q4.2 b).symm) (hx.trans k1)
   ·refine .inr ⟨Dc hg hw,?_⟩
    subst hy;subst hnb
    exact hputg (σ':=σ) hg (.t _ _ .undef) (fun b=>(q4.2 b).symm) hx
def Io (te:TE) (n:Nat) (ops:Array Oper):List Nat->Env->Option Env
 |[],e=>some e
 |i::r,e=>match ops[i]? with
  |some o=>(match o.guard with
   |none=>(match Zm o.op with
    |true=>(match Ce te o.op e with
     |some y=>(match B4 n o.dst y e with
      |some e2=>Io te n ops r e2
      |none=>none)
     |none=>none)
    |false=>none)
   |some _=>none)
  |none=>none
theorem JL (hte:CX P c.te) {F:Fence} (hro:F.round=none) (hs:Region.noSelect ops=true) {K:Exit->Env->St->Prop} (hK: ∀ch e s,¬K (.panic ch) e s) {w0:World} {g0:G} {fuel:Nat} {w:World} {g:G} {env':Env} {σ:St}: ∀(fl:List Nat) {listed:Array Bool} {a:Act} {env:Env},
  E8 ops fl listed=true->Io c.te n ops fl env=some env'->Good n w g a env σ->
  (∀a',Good n w g a' env' σ->wpAnyIn F 0 P .any ops (BS n w0 g0 K) fuel (Gu fl listed) a' w)->wpAnyIn F 0 P .any ops (BS n w0 g0 K) (fuel+fl.length) listed a w
 |[],listed,a,env,_,he,hg,h=>by simp[Io]at he;subst he;exact h a hg
 |i::r,listed,a,env,ht,he,hg,h=>by
  simp only[E8,Bool.and_eq_true]at ht
  simp only[Io]at he
  split at he
  ·rename_i o ho
   split at he
   ·rename_i hgd
    split at he
    ·rename_i hia
     split at he
     ·rename_i y hy
      split at he
      ·rename_i e2 hp
       obtain⟨v,v1,v2,v3⟩:=Aka (P:=P) hte hg.env hia hy
       have hg2:=Cm hp hg v3
       refine wpAnyIn_take (fuel:=fuel+r.length) (v:=v) hro ho hs ht.1.1 ht.1.2 ?_ ⟨.inl ⟨by simp[Region.wanted,hgd],v1⟩,v2⟩ ?_
       ·rintro ch a1 w1 ⟨e1,s1,g1,_,_,hk⟩;exact absurd hk (hK _ _ _)
       ·exact JL hte hro hs hK r ht.2 he hg2 h
      ·cases he
     ·cases he
    ·cases he
   ·cases he
  ·cases he
def Mb (i:Nat):List Nat->Bool
 |[]=>true
 |j::r=> !Nat.beq i j&&Mb i r
theorem Ma {i:Nat}: ∀{l:List Nat},Mb i l=true↔i∉l
 |[]=>by simp[Mb]
 |j::r=>by
  simp only[Mb,Bool.and_eq_true,Bool.not_eq_true',List.mem_cons,not_or,Ma (l:=r)]
  constructor
  ·rintro⟨h1,h2⟩;exact⟨fun e=>by subst e;simp at h1,h2⟩
  ·rintro⟨h1,h2⟩;exact⟨by cases h:Nat.beq i j with|false=>rfl|true=>exact absurd (Nat.eq_of_beq_eq_true h) h1,h2⟩
def EV (fl:List Nat):Nat->Nat->List Nat
 |_,0=>[]
 |k,l+1=>bif Mb k fl then k::EV fl (k+1) l else EV fl (k+1) l
theorem D0 {fl:List Nat}: ∀{l k i:Nat},i∈EV fl k l↔k<=i/\i<k+l/\i∉fl
 |0,k,i=>by simp[EV];omega
 |l+1,k,i=>by
  simp only[EV]
  cases h:Mb k fl with
  |true=>
   have hk:=Ma.1 h
   simp only[cond_true,List.mem_cons,D0 (l:=l)]
   constructor
   ·rintro(rfl|⟨h1,h2,h3⟩)
    ·exact⟨Nat.le_refl _,by omega,hk⟩
    ·exact⟨by omega,by omega,h3⟩
   ·rintro⟨h1,h2,h3⟩
    by_cases e:i=k
    ·exact .inl e
    ·exact .inr ⟨by omega,by omega,h3⟩
  |false=>
   have hk:k∈fl:=Classical.byContradiction fun hc=>by rw[Ma.2 hc]at h;cases h
   simp only[cond_false,D0 (l:=l)]
   constructor
   ·rintro⟨h1,h2,h3⟩;exact⟨by omega,by omega,h3⟩
   ·rintro⟨h1,h2,h3⟩
    have:i≠k:=fun e=>by subst e;exact h3 hk
    exact⟨by omega,by omega,h3⟩
theorem G8 {fl:List Nat}: ∀(l k:Nat),(EV fl k l).Pairwise (· < ·)
 |0,k=>by simp[EV]
 |l+1,k=>by
  simp only[EV]
  cases Mb k fl with
  |true=>exact List.pairwise_cons.2 ⟨fun j hj=>by have:=D0.1 hj;omega,G8 l (k+1)⟩
  |false=>exact G8 l (k+1)
def UP (ms:List Nat) (i:Nat):List Nat->Bool
 |[]=>true
 |j::r=>(!Nat.blt j i||Nat.testBit (ms.getD i 0) j)&&UP ms i r
theorem Rm {ms:List Nat} {i:Nat}: ∀{l:List Nat},UP ms i l=true-> ∀j∈l,j<i->(ms.getD i 0).testBit j=true
 |j::r,h,k,hk,hlt=>by
  simp only[UP,Bool.and_eq_true,Bool.or_eq_true,Bool.not_eq_true']at h
  rcases List.mem_cons.1 hk with rfl|hk
  ·rcases h.1 with h'|h'
   ·have:Nat.blt k i=true:=by simpa[Nat.blt_eq]using hlt
    rw[this]at h';cases h'
   ·exact h'
  ·exact Rm h.2 k hk hlt
def Ji (ops:Array Oper) (ms:List Nat) (i:Nat):List Nat->Bool
 |[]=>true
 |j::r=>(!Nat.blt j i||(Nat.testBit (ms.getD i 0) j||(match ops[j]?,ops[i]? with
  |some oj,some oi=>oj.apart ops oi
  |_,_=>false)))&&Ji ops ms i r
theorem Kb {ms:List Nat} {i:Nat}: ∀{l:List Nat},Ji ops ms i l=true-> ∀j∈l,j<i-> ∀oi oj,ops[i]?=some oi->ops[j]?=some oj->(ms.getD i 0).testBit j=true\/oj.apart ops oi=true
 |j::r,h,k,hk,hlt,oi,oj,hi,hj=>by
  simp only[Ji,Bool.and_eq_true,Bool.or_eq_true,Bool.not_eq_true']at h
  rcases List.mem_cons.1 hk with rfl|hk
  ·rcases h.1 with h'|h'|h'
   ·have:Nat.blt k i=true:=by simpa[Nat.blt_eq]using hlt
    rw[this]at h';cases h'
   ·exact .inl h'
   ·rw[hi,hj]at h';exact .inr h'
  ·exact Kb h.2 k hk hlt oi oj hi hj
def Aj9 (f:Nat->Bool):List Nat->Bool
 |[]=>true
 |i::r=>f i&&Aj9 f r
theorem Sw {f:Nat->Bool}: ∀{l:List Nat},Aj9 f l=true-> ∀i∈l,f i=true
 |i::r,h,j,hj=>by
  simp only[Aj9,Bool.and_eq_true]at h
  rcases List.mem_cons.1 hj with rfl|hj
  ·exact h.1
  ·exact Sw h.2 j hj
def Ai8 (ops:Array Oper) (fl:List Nat) (m:Nat):Bool:=
 let ms:=Eh ops.toList []
 let rs:=EV fl 0 ops.size
 Lo 0 ops.toList&&(Aj9 (fun i=>Ji ops ms i (EV fl 0 m)) (EV fl 0 m)&&(Aj9 (fun i=>UP ms i rs) (EV fl m (ops.size-m))&&(Nat.ble m ops.size&&(Region.noSelect ops&&(E8 ops fl (Array.replicate ops.size false)&&Nat.ble (fl.length+((EV fl 0 m).length+(EV fl m (ops.size-m)).length)) ops.size)))))
theorem Ai7 {fl:List Nat} (h:Ai8 ops fl m=true):DrawOkR ops fl m/\Region.noSelect ops=true/\E8 ops fl (Array.replicate ops.size false)=true/\fl.length+((EV fl 0 m).length+(EV fl m (ops.size-m)).length)<=ops.size:=by
 simp only[Ai8,Bool.and_eq_true]at h
 obtain⟨h1,h2,h3,h4,h5,h6,h7⟩:=h
 have hle:m<=ops.size:=by simpa using h4
 refine⟨⟨fun i o ho e he hbi=>?_,fun i oi hi hif hoi j oj hj hjf hoj=>?_,fun i hi hsz hif j hjf hj=>?_,hle⟩,h5,h6,by simpa using h7⟩
 ·have:=HQ h1 i o (by rw[Array.getElem?_toList];exact ho) e he hbi;omega
 ·have:=Kb (Sw h2 i (D0.2 ⟨by omega,by omega,hif⟩)) j (D0.2 ⟨by omega,by omega,hjf⟩) hj oi oj hoi hoj
  rcases this with h'|h'
  ·exact .inl (Er _ _ h')
  ·exact .inr h'
 ·exact Er _ _ (Rm (Sw h3 i (D0.2 ⟨hi,by omega,hif⟩)) j (D0.2 ⟨by omega,by omega,hjf⟩) hj)
theorem Oy {alt:Oper->Env->Prop} {K:Env->St->Prop}: ∀(is:List Nat),(∀i∈is,∀o,ops[i]?=some o-> ∀b∈C0 o,b∈news)->(∀i∈is,i<ops.size)-> ∀{env:Env} {σ:St},
  hSK P c n ops news (is.filterMap (ops[·]?)) env σ K-> ∃e s,JF P c alt n ops news is env σ e s/\K e s
 |[],_,_,env,σ,h=>⟨env,σ,⟨fun _=>rfl,fun _=>rfl⟩,h⟩
 |i::r,hn,hlt,env,σ,h=>by
  have hisz:=hlt i Ac
  have ho:ops[i]?=some ops[i]:=Array.getElem?_eq_getElem hisz
  have hfm:(i::r).filterMap (ops[·]?)=ops[i]::r.filterMap (ops[·]?):=by simp[List.filterMap_cons,ho]
  rw[hfm]at h
  simp only[hSK]at h
  have hn': ∀i∈r,∀o,ops[i]?=some o-> ∀b∈C0 o,b∈news:=fun x hx=>hn x (by simp[hx])
  have hlt': ∀i∈r,i<ops.size:=fun x hx=>hlt x (by simp[hx])
  obtain⟨env1,he1,hc⟩:=IP h
  rcases hc with⟨hw,cf,x,nb,hcf,hst,env2,hput,h⟩|⟨hw,env2,hput,h⟩
  ·obtain⟨e,s,h1,h2⟩:=Oy r hn' hlt' h
   obtain⟨p1,p2⟩:=F9 hput he1
   refine⟨e,s,⟨ops[i],x,nb,env2,nb++σ,ho,hn i Ac _ ho,⟨p1,.inr (.inl ⟨hw,cf,hcf,?_⟩)⟩,⟨p2,fun _=>rfl⟩,h1⟩,h2⟩
   rw[<-hst]
   exact Fh (EG (ops:=ops) fun t _=>(he1 t).symm) (fun _ _=>rfl) (fun _ _=>rfl)
  ·obtain⟨e,s,h1,h2⟩:=Oy r hn' hlt' h
   obtain⟨p1,p2⟩:=F9 hput he1
   exact⟨e,s,⟨ops[i],.t .undef,[],env2,σ,ho,hn i Ac _ ho,⟨p1,.inr (.inr ⟨hw,Y,Y⟩)⟩,⟨p2,fun _=>rfl⟩,h1⟩,h2⟩
theorem Afy (hp:ProgOk P c) (fl:List Nat) (m:Nat) {id:Nat} {env env1 env':Env} {σ σ1:St} {K:Exit->Env->St->Prop} {l1 l2:List Oper} {news:List Nat} (hd:Ai8 ops fl m=true) (ha:Kx ops.toList=true) (hz:regFrz ops env σ=(env1,σ1)) (hte:Io c.te n ops fl env1=some env')
  (hl1:(EV fl 0 m).filterMap (ops[·]?)=l1) (hl2:(EV fl m (ops.size-m)).filterMap (ops[·]?)=l2) (hnw:D1 l1=news) (hK: ∀ch e s,¬K (.panic ch) e s)
  (h:hSK P c n ops news l1 env' σ1 (fun env σ=>A2 P n ops l2 env σ (K .normal))):Tr P n (.region id ops true) env σ K:=by
 subst hl1;subst hl2;subst hnw
 refine Tr.regFrz env1 σ1 hz ?_
 intro F hF hrf w g a hg
 obtain⟨hD,hns,htk,hcnt⟩:=Ai7 hd
 have hro:F.round=none:=by
  rcases hrf with h|h
  ·exact h
  ·simp[Lx,ha]at h
 have hle:=hD.le
 have hin: ∀i∈fl,i<(Array.replicate ops.size false).size:=fun i hi=>by
  have key: ∀{l:List Nat} {ar:Array Bool},E8 ops l ar=true-> ∀i∈l,i<ops.size:=by
   intro l
   induction l with
   |nil=>intro _ _ i hi;simp at hi
   |cons x r ih=>
    intro ar ht i hi
    simp only[E8,Bool.and_eq_true]at ht
    rcases List.mem_cons.1 hi with rfl|hi
    ·have:=List.contains_iff_mem.1 ht.1.2
     unfold Region.ready at this
     rw[List.mem_filter,List.mem_range]at this
     exact this.1
    ·exact ih ht.2 i hi
  simpa using key htk i hi
 have hLi: ∀j,Li (Gu fl (Array.replicate ops.size false)) j↔j∈fl:=fun j=>by
  rw[KL _ _ _ hin];simp[Li,Array.getElem?_replicate]
 obtain⟨e,s,h1,h2⟩:=Oy (alt:=WC) (EV fl 0 m) (fun i hi o ho=>Jm (List.mem_filterMap.2 ⟨i,hi,ho⟩)) (fun i hi=>by have:=D0.1 hi;omega) h
 refine wpIn_region_any hp.mix ?_
 rw[show wpAnyIn F 0 P .any ops (BS n w g K) ops.size=wpAnyIn F 0 P .any ops (BS n w g K) ((ops.size-fl.length)+fl.length)by congr 1;omega]
 refine JL hp.te hro hns hK fl htk hte hg.drew (fun a' hg'=>?_)
 refine WV hF hp hD (tl:=EV fl m (ops.size-m)) (fun i=>by rw[D0];exact⟨fun⟨a,b,c⟩=>⟨a,by omega,c⟩,fun⟨a,b,c⟩=>⟨a,by omega,c⟩⟩) (G8 _ _) h2 (ops.size-fl.length) (by rw[HG];simp) (NS _ _ Ac htk (fun i o ho hl=>by simp[Li,Array.getElem?_replicate]at hl)) (fun j hj=>(hLi j).2 hj) (fun i hi hl=>by have:=(hLi i).1 hl;exact(D0.1 hi).2.2 this) (fun i=>?_) (G8 _ _) Aa h1 hg' (Ext.drew w g)
 rw[hLi,D0];exact⟨fun⟨a,b,c⟩=>⟨by omega,c⟩,fun⟨b,c⟩=>⟨by omega,by omega,c⟩⟩
end
end Go.Am
namespace Go.Am
theorem A13 {P:Program} {n:Nat} {env:Env} {σ:St} {K:Exit->Env->St->Prop} {code:Code} (b off lab sz:Nat) {cs:List AV} {sz0:Nat} {es0:List (List T)} (hb:look σ b=some (.cells cs)) (hc:cs[off]?=some (.t (.slice .nil sz0 es0))) (hlab:look σ (2*lab)=none)
  (h:Tr P n code env ((2*lab,.grow sz [])::upd σ b (.cells (cs.set off (.row (2*lab) sz 0 0)))) K):Tr P n code env σ K:=by
 intro F hF hrf w g a hg
 obtain⟨k1,k2,k3⟩:=PM (sz:=sz) hg.inv hlab
 have hne:2*lab≠b:=fun e=>by rw[e,hb]at hlab;cases hlab
 obtain⟨blk,vs,e,q1,q2,q3,q4,q5⟩:=hg.inv.ok b _ hb
 have hβ:(g.with (2*lab) none).β b=some (some blk):=by simp[G.with,Ne.symm hne,q1]
 have hi2:Inv w (g.with (2*lab) none) ((2*lab,.grow sz [])::upd σ b (.cells (cs.set off (.row (2*lab) sz 0 0)))):=by
  have hl: ∀c,look ((2*lab,Blk.grow sz [])::upd σ b (.cells (cs.set off (.row (2*lab) sz 0 0)))) c=if c=b then some (.cells (cs.set off (.row (2*lab) sz 0 0)))else look ((2*lab,Blk.grow sz [])::σ) c:=by
   intro c
   rw[Ao,Ao,B3]
   by_cases e1:2*lab=c
   ·have:c≠b:=fun e2=>hne (e1.trans e2)
    simp[e1,this]
   ·by_cases e2:b=c
    ·subst e2;simp[hne]
    ·simp[e1,e2,Ne.symm e2]
  refine⟨fun c C hC=>?_,fun c=>?_,k2.inj,k2.lt,fun c hc'=>?_,k2.dis,k2.im,k2.lo,k2.sx.mono (Nat.le_refl _) Y (fun _ _ _ h=>h) (fun _ _ _ _ _=>rfl) (fun c blk h=>.inl ⟨c,h⟩) (fun c L hL=>?_)⟩
  ·rw[hl]at hC
   split at hC
   ·rename_i e1;subst e1;cases hC
    refine⟨blk,vs,e,hβ,.inl q2,q3,by simp[q4],fun i v x hv hx=>?_⟩
    rw[List.getElem?_set]at hx
    split at hx
    ·rename_i e2
     split at hx
     ·cases hx
      rw[<-e2]at hv
      have hr:=Aw (q5 off v _ hv hc)
      cases hr with
      |sliceNil=>exact .rowNil _ _ none Ac (by simp[G.with])
      |sliceZ _ _ _ hm=>exact absurd Y hm
      |slice _ _ _ _ _ _ _ _ _ _ _ hm=>exact absurd Y hm
     ·cases hx
    ·exact k3 _ _ (q5 i v x hv hx)
   ·exact k2.ok c C hC
  ·rw[hl]
   split
   ·rename_i e1;subst e1;rw[hβ];rfl
   ·exact k2.dom c
  ·obtain⟨r1,cs',r2⟩:=k2.bx c hc'
   refine⟨r1,?_⟩
   rw[hl]
   split
   ·exact⟨_,Y⟩
   ·exact⟨cs',r2⟩
  ·rw[hl]at hL
   split at hL
   ·cases hL
   ·exact hL
 exact wpIn_mono (h F hF hrf w _ a ⟨hg.env.mono k3,hi2,hg.defers.ext k1,hg.size⟩) fun ex a2 w2 hq=>hq.lift k1
theorem Acs {P:Program} {c:Conf} {n:Nat} {ops:Array Oper} {rest:List Oper} {env:Env} {σ:St} {o:Oper} {k:Env->St->Prop} {news:List Nat} {cl:Call} {f d cl' sz lo n':Nat} {as:List AV} {es:List (List T)} {e2:Env} (hg:o.guard=none) (ho:o.op=.call cl) (hb:isB cl.callee=false) (hc:C6 c env cl=some (f,as))
  (hfr:D7 as=true) (hct:Ct P f as [] (.row cl' sz lo n') [(cl',.grow sz es)]) (hd:o.dst=some d) (hle:Nat.ble cl' (2*d)=true) (hlk:look σ (2*d)=none) (hp:B4 n o.dst (.row (2*d) sz lo n') env=some e2) (h:hSK P c n ops news rest e2 ((2*d,.grow sz es)::σ) k):
  hSK P c n ops news (o::rest) env σ k:=by
 simp only[hSK,AL,hg]
 refine⟨OS f as [] (.row cl' sz lo n') [(cl',.grow sz es)],.row (2*d) sz lo n',[(2*d,.grow sz es)],MO hct,?_,e2,hp,h⟩
 unfold BW
 rw[ho]
 simp only
 have hl:look [(cl',Blk.grow sz es)] cl'=some (.grow sz es):=by rw[Ao];simp
 split
 ·rename_i hq;rw[hq]at hb;simp[isB]at hb
 ·rename_i hq;rw[hq]at hb;simp[isB]at hb
 ·simp only[hc,hfr,MP,AV.free,GC,hd,hl,hle,hlk]
theorem Tr.eqS {P:Program} {n:Nat} {env:Env} {σ:St} {K:Exit->Env->St->Prop} {code:Code} (σ':St) (hs: ∀b,look σ' b=look σ b) (h:Tr P n code env σ' K):Tr P n code env σ K:=
 fun F hF hrf w g a hg=>h F hF hrf w g a (hg.eqv (fun _=>rfl) hs)
theorem A14 {P:Program} {n:Nat} {env:Env} {r:St} {b c:Nat} {B C:Blk} {K:Exit->Env->St->Prop} {code:Code} (hne:Nat.beq b c=false) (h:Tr P n code env ((c,C)::(b,B)::r) K):Tr P n code env ((b,B)::(c,C)::r) K:=
 Tr.eqS _ (fun d=>by
  have:=E2 hne
  simp only[Ao]
  by_cases h1:c=d<;>by_cases h2:b=d<;>simp[h1,h2]
  exact absurd (h2.trans h1.symm) this) h
end Go.Am
namespace Go.Am
theorem Up {env:Env} {o:Operand} {kk:IntKind} {nn:Int} {k d:Nat} (h:ev env o=some (.t (.int kk nn))) (hn:nn=(k:Int)):BA env (some o) d=some k:=by
 subst hn;simp[BA,h,FY]
theorem Uo {env:Env} {d:Nat}:BA env none d=some d:=rfl
section
variable {P:Program} {c:Conf} {n:Nat} {ops:Array Oper} {rest:List Oper} {env:Env} {σ:St} {o:Oper} {k:Env->St->Prop} {news:List Nat}
theorem Ack {te:TE} {t e s0 b0 sz esz ebb:Nat} {z0 ez:List T} {ek:TK} {m m':SM} {es:List (List T)} {lo hi mx:Option Operand} {l h:Nat} (ht:look te t=some ⟨s0,b0,z0,.slice e⟩) (he:look te e=some ⟨esz,ebb,ez,ek⟩) (hsz:esz=sz)
  (hh:BA env hi es.length=some h) (hl:BA env lo 0=some l) (h1:h<=es.length) (h2:l<=h) (hm:(mx=none/\m'=EN m (decide (h=es.length)))\/(hi.isSome=true/\mx.isSome=true/\BA env mx 0=some h/\m'=Gv m)):
  JR te t (.t (.slice m sz es)) env lo hi mx=some (.t (.slice m' sz ((es.drop l).take (h-l)))):=by
 subst hsz
 unfold JR
 simp only[ht,he,hh,hl,if_true,if_pos h1,if_pos h2]
 rcases hm with⟨rfl,rfl⟩|⟨q1,q2,q3,rfl⟩
 ·rfl
 ·cases mx with
  |none=>simp at q2
  |some mx=>cases hi with
   |none=>simp at q1
   |some hi=>simp only[q3,if_true]
theorem KF (hp0:ProgOk P c) {t e s0 b0 sz esz ebb:Nat} {z0 ez:List T} {ek:TK} {m m':SM} {es es':List (List T)} {xo:Operand} {lo hi mx:Option Operand} {l h:Nat} {e2:Env} (hg:o.guard=none) (ho:o.op=.slice t xo lo hi mx) (hx:ev env xo=some (.t (.slice m sz es))) (ht:look c.te t=some ⟨s0,b0,z0,.slice e⟩) (he:look c.te e=some ⟨esz,ebb,ez,ek⟩) (hsz:esz=sz)
  (hh:BA env hi es.length=some h) (hl:BA env lo 0=some l) (h1:h<=es.length) (h2:l<=h) (hm:(mx=none/\m'=EN m (decide (h=es.length)))\/(hi.isSome=true/\mx.isSome=true/\BA env mx 0=some h/\m'=Gv m)) (hes:(es.drop l).take (h-l)=es')
  (hp:B4 n o.dst (.t (.slice m' sz es')) env=some e2) (h:A2 P n ops rest e2 σ k):A2 P n ops (o::rest) env σ k:=by
 subst hes
 refine E6 hp0 (x:=.t (.slice m' sz ((es.drop l).take (_-l)))) (e:=env) (s:=σ) hg ?_ hp h
 unfold Dx
 rw[ho]
 simp only[Ce,hx,Ack ht he hsz hh hl h1 h2 hm]
end
def BN (x y:T):Prop:=(CK x=true->CK y=true)/\ ∀w M v,RelT w M v x->RelT w M v y
def F5:List T->List T->Prop
 |[],[]=>True
 |x::r,y::s=>BN x y/\F5 r s
 |_,_=>False
def Ih:List (List T)->List (List T)->Prop
 |[],[]=>True
 |x::r,y::s=>F5 x y/\Ih r s
 |_,_=>False
theorem A15 (x:T):BN x x:=⟨id,fun _ _ _ h=>h⟩
theorem BN.of_eq {x y:T} (h:x=y):BN x y:=h▸A15 x
theorem BN.any {m:SM} {sz:Nat} {es:List (List T)}:BN (.slice m sz es) (.slice .any sz es):=⟨fun _=>rfl,fun _ _ _ h=>Q2 h⟩
theorem BN.nil {m:SM} {sz sz':Nat}:BN (.slice m sz []) (.slice .any sz' []):=⟨fun _=>rfl,fun _ _ _ h=>VT h⟩
theorem BN.sub {x y:T} (h:BN x y):Sub (.t x) (.t y):=fun _ _ _ hr=>.t _ _ (h.2 _ _ _ (Aw hr))
theorem F5.refl: ∀l:List T,F5 l l
 |[]=>trivial
 |x::r=>⟨A15 x,F5.refl r⟩
theorem Ih.refl: ∀l:List (List T),Ih l l
 |[]=>trivial
 |x::r=>⟨F5.refl x,Ih.refl r⟩
theorem F5.len: ∀{a b:List T},F5 a b->a.length=b.length
 |[],[],_=>rfl
 |x::r,y::s,h=>by simp[F5.len h.2]
 |[],_::_,h=>h.elim
 |_::_,[],h=>h.elim
theorem F5.get: ∀{a b:List T},F5 a b-> ∀(i:Nat) y,b[i]?=some y-> ∃x,a[i]?=some x/\BN x y
 |[],[],_,i,y,hy=>by simp at hy
 |x::r,z::s,h,0,y,hy=>by simp at hy;subst hy;exact⟨x,Y,h.1⟩
 |x::r,z::s,h,i+1,y,hy=>by
  obtain⟨u,h1,h2⟩:=F5.get h.2 i y (by simpa using hy)
  exact⟨u,by simpa using h1,h2⟩
 |[],_::_,h,_,_,_=>h.elim
 |_::_,[],h,_,_,_=>h.elim
theorem F5.app: ∀{a b c d:List T},F5 a b->F5 c d->F5 (a++c) (b++d)
 |[],[],_,_,_,h=>h
 |x::r,y::s,_,_,h1,h2=>⟨h1.1,F5.app h1.2 h2⟩
 |[],_::_,_,_,h,_=>h.elim
 |_::_,[],_,_,h,_=>h.elim
theorem Ih.flat: ∀{a b:List (List T)},Ih a b->a.length=b.length/\F5 a.flatten b.flatten/\ ∀sz,(∀e∈a,e.length=sz)-> ∀e∈b,e.length=sz
 |[],[],_=>⟨Y,trivial,fun _ _ _ h=>by simp at h⟩
 |x::r,y::s,h=>by
  obtain⟨h1,h2,h3⟩:=Ih.flat h.2
  refine⟨by simp[h1],by simpa using h.1.app h2,fun sz hs e he=>?_⟩
  rcases List.mem_cons.1 he with rfl|he
  ·rw[<-h.1.len];exact hs x Ac
  ·exact h3 sz (fun z hz=>hs z (by simp[hz])) e he
 |[],_::_,h=>h.elim
 |_::_,[],h=>h.elim
theorem BN.slice {m:SM} {sz:Nat} {es es':List (List T)} (h:Ih es es'):BN (.slice m sz es) (.slice .any sz es'):=by
 obtain⟨h1,h2,h3⟩:=h.flat
 refine⟨fun _=>rfl,fun w M v hr=>?_⟩
 cases hr with
 |sliceNil=>
  cases es' with
  |nil=>exact .sliceNil _ _
  |cons=>simp at h1
 |sliceZ a _ _ hm=>
  cases es' with
  |nil=>exact .sliceZ a _ _ Ac
  |cons=>simp at h1
 |slice b off len cap _ _ _ vs hl hc hf hm hp hsz hone hcell hrel=>
  refine .slice b off len cap .any sz es' vs Aa hc (fun h=>by cases h) Ac (fun _ _ h=>by cases h) (h3 sz hsz) (fun i y hy=>?_) (fun i y hy=>?_) (fun i y hy=>?_)
  ·obtain⟨x,q1,q2⟩:=h2.get i y hy;exact q2.1 (hone i x q1)
  ·obtain⟨x,q1,q2⟩:=h2.get i y hy;exact hcell i x q1
  ·obtain⟨x,q1,q2⟩:=h2.get i y hy;exact q2.2 _ _ _ (hrel i x q1)
theorem Yx {m:SM} {sz:Nat} {es es':List (List T)} (h:Ih es es'):Sub (.t (.slice m sz es)) (.t (.slice .any sz es')):=(BN.slice h).sub
def Jh (done:List Nat):List Edge->Bool
 |[]=>true
 |e::r=>(!Region.binds .any e||FC e.on done)&&Jh done r
def Je (done:List Nat):Nat->List Oper->List Nat
 |_,[]=>[]
 |i,o::r=>bif (!FC i done&&Jh done o.after.toList)then i::Je done (i+1) r else Je done (i+1) r
def HX (ops:Array Oper) (done:List Nat):List Nat:=Je done 0 ops.toList
theorem OQ {done:List Nat}: ∀{l:List Edge},Jh done l=true↔ ∀e∈l,Region.binds .any e=true->e.on∈done
 |[]=>by simp[Jh]
 |e::r=>by
  simp only[Jh,Bool.and_eq_true,Bool.or_eq_true,Bool.not_eq_true',List.mem_cons,OQ (l:=r),Hg]
  constructor
  ·rintro⟨h1,h2⟩ x (rfl|hx) hb
   ·rcases h1 with h1|h1
    ·rw[h1]at hb;cases hb
    ·exact h1
   ·exact h2 x hx hb
  ·intro h
   refine⟨?_,fun x hx=>h x (.inr hx)⟩
   cases hb:Region.binds .any e with
   |false=>exact .inl Y
   |true=>exact .inr (h e (.inl Y) hb)
theorem OP {done:List Nat}: ∀{l:List Oper} {k i:Nat},i∈Je done k l↔k<=i/\ ∃o,l[i-k]?=some o/\i∉done/\ ∀e∈o.after,Region.binds .any e=true->e.on∈done
 |[],k,i=>by simp[Je]
 |o::r,k,i=>by
  have key:(!FC k done&&Jh done o.after.toList)=true↔k∉done/\ ∀e∈o.after,Region.binds .any e=true->e.on∈done:=by
   simp only[Bool.and_eq_true,Bool.not_eq_true',OQ,Array.mem_toList_iff]
   refine and_congr ?_ Iff.rfl
   rw[<-Hg (l:=done)];simp
  have hstep:(i∈Je done (k+1) r)↔k+1<=i/\ ∃o2,(o::r)[i-k]?=some o2/\i∉done/\ ∀e∈o2.after,Region.binds .any e=true->e.on∈done:=by
   rw[OP]
   refine and_congr_right fun h=>?_
   rw[show i-k=(i-(k+1))+1 by omega,List.getElem?_cons_succ]
  simp only[Je]
  cases hc:(!FC k done&&Jh done o.after.toList)with
  |true=>
   obtain⟨h1,h2⟩:=key.1 hc
   simp only[cond_true,List.mem_cons,hstep]
   constructor
   ·rintro(rfl|⟨h3,h4⟩)
    ·exact⟨Nat.le_refl _,o,by simp,h1,h2⟩
    ·exact⟨by omega,h4⟩
   ·rintro⟨h3,h4⟩
    by_cases e:i=k
    ·exact .inl e
    ·exact .inr ⟨by omega,h4⟩
  |false=>
   simp only[cond_false,hstep]
   constructor
   ·rintro⟨h3,h4⟩;exact⟨by omega,h4⟩
   ·rintro⟨h3,o2,h4,h5,h6⟩
    by_cases e:i=k
    ·subst e
     simp at h4;subst h4
     rw[key.2 ⟨h5,h6⟩]at hc;cases hc
    ·exact⟨by omega,o2,h4,h5,h6⟩
theorem YG {ops:Array Oper} {done:List Nat} {i:Nat}:i∈HX ops done↔ ∃o,ops[i]?=some o/\i∉done/\ ∀e∈o.after,Region.binds .any e=true->e.on∈done:=by
 unfold HX
 rw[OP]
 simp
section
variable {P:Program} {c:Conf} {n m:Nat} {ops:Array Oper}
def Nv (P:Program) (n:Nat) (ops:Array Oper):Nat->List Nat->Env->St->(Env->St->Prop)->Prop
 |0,done,env,σ,K=>HX ops done=[]/\K env σ
 |f+1,done,env,σ,K=>(HX ops done=[]->K env σ)/\ ∀i∈HX ops done,∃o,ops[i]?=some o/\A2 P n ops [o] env σ (fun env σ=>Nv P n ops f (i::done) env σ K)
theorem Us {F:Fence} (hF:IsW F) {K:Exit->Env->St->Prop} {w0:World} {g0:G}: ∀(fuel:Nat) {done:List Nat} {listed:Array Bool} {w:World} {g:G} {a:Act} {env:Env} {σ:St},
  listed.size=ops.size->(∀j,Li listed j↔j∈done)->Nv P n ops fuel done env σ (K .normal)->Good n w g a env σ->Ext w0 g0 w g->wpAnyIn F 0 P .any ops (BS n w0 g0 K) fuel listed a w:=by
 have hrdy: ∀{done:List Nat} {listed:Array Bool},listed.size=ops.size->(∀j,Li listed j↔j∈done)-> ∀i,i∈Region.ready .any ops listed↔i∈HX ops done:=fun{done} {listed} hs hl i=>by
  rw[Bv hs,YG]
  constructor
  ·rintro⟨h1,o,h2,h3⟩
   exact⟨o,h2,fun hc=>h1 ((hl i).2 hc),fun e he hb=>(hl _).1 (h3 e he hb)⟩
  ·rintro⟨o,h2,h1,h3⟩
   exact⟨fun hc=>h1 ((hl i).1 hc),o,h2,fun e he hb=>(hl _).2 (h3 e he hb)⟩
 intro fuel
 induction fuel with
 |zero=>
  intro done listed w g a env σ hs hl h hg hx
  obtain⟨h1,h2⟩:=h
  refine⟨?_,env,σ,g,hx,hg,h2⟩
  rw[List.eq_nil_iff_forall_not_mem]
  intro i hi
  rw[hrdy hs hl,h1]at hi
  simp at hi
 |succ fuel ih=>
  intro done listed w g a env σ hs hl h hg hx
  obtain⟨h1,h2⟩:=h
  refine⟨fun hnil=>⟨env,σ,g,hx,hg,h1 ?_⟩,fun i hi=>?_⟩
  ·rw[List.eq_nil_iff_forall_not_mem]
   intro i hi
   rw[<-hrdy hs hl,hnil]at hi
   simp at hi
  ·obtain⟨o,ho,h⟩:=h2 i ((hrdy hs hl i).1 hi)
   have hlt:i<ops.size:=(Array.getElem?_eq_some_iff.1 ho).1
   have hl': ∀j,Li (listed.setIfInBounds i true) j↔j∈i::done:=fun j=>by
    rw[DL Aa,hl j,List.mem_cons]
   simp only[A2]at h
   refine FM hF ho ?_
   rcases F6 hg h with⟨hw,env0,h,hg⟩|⟨hw,env0,h,hg⟩
   ·refine .inl ⟨hw,?_⟩
    refine h w g a hg.inv hg.env F hF _ _ ?_
    rintro v w' ⟨x,e1,s1,⟨g',k1,k2,k3,k4⟩,e2,hput,h⟩
    exact ih (by simp[hs]) hl' h (Cm hput ⟨k4,k3,hg.defers.ext k1,hg.size⟩ k2) (hx.trans k1)
   ·refine .inr ⟨hw,?_⟩
    obtain⟨e2,hput,h⟩:=h
    exact ih (by simp[hs]) hl' h (Cm hput hg (.t _ _ .undef)) hx
theorem VJ (hp:ProgOk P c) {id f:Nat} {env env':Env} {σ σ':St} {K:Exit->Env->St->Prop} (hf:ops.size=f) (hz:regFrz ops env σ=(env',σ')) (h:Nv P n ops f [] env' σ' (K .normal)):Tr P n (.region id ops true) env σ K:=by
 subst hf
 intro F hF hrf w g0 a hg0
 obtain⟨g,hx,hg⟩:=Fo hz hg0
 refine wpIn_mono ?_ fun ex a2 w2 (hq:BS n w g K ex a2 w2)=>hq.lift hx
 refine wpIn_region_any hp.mix ?_
 exact Us hF ops.size Ac (fun j=>by simp[Li,Array.getElem?_replicate]) h hg.drew (Ext.drew w g)
theorem LD {f:Nat} {done:List Nat} {env:Env} {σ:St} {K:Env->St->Prop} (hr:HX ops done=[]) (h:K env σ):Nv P n ops f done env σ K:=by
 cases f with
 |zero=>exact⟨hr,h⟩
 |succ f=>exact⟨fun _=>h,fun i hi=>by rw[hr]at hi;simp at hi⟩
theorem CR {f i:Nat} {o:Oper} {done:List Nat} {env:Env} {σ:St} {K:Env->St->Prop} (hr:HX ops done=[i]) (ho:ops[i]?=some o) (h:A2 P n ops [o] env σ (fun env σ=>Nv P n ops f (i::done) env σ K)):Nv P n ops (f+1) done env σ K:=
 ⟨fun hc=>(by rw[hr]at hc;cases hc),fun j hj=>by rw[hr]at hj;simp at hj;subst hj;exact⟨o,ho,h⟩⟩
theorem E5 {f i j:Nat} {o o2:Oper} {done:List Nat} {env:Env} {σ:St} {K:Env->St->Prop} (hr:HX ops done=[i,j]) (ho:ops[i]?=some o) (ho2:ops[j]?=some o2) (h:A2 P n ops [o] env σ (fun env σ=>Nv P n ops f (i::done) env σ K)) (h2:A2 P n ops [o2] env σ (fun env σ=>Nv P n ops f (j::done) env σ K)):Nv P n ops (f+1) done env σ K:=
 ⟨fun hc=>(by rw[hr]at hc;cases hc),fun k hk=>by
  rw[hr]at hk;simp at hk
  rcases hk with rfl|rfl
  ·exact⟨o,ho,h⟩
  ·exact⟨o2,ho2,h2⟩⟩
theorem Ut {f i j l:Nat} {o o2 o3:Oper} {done:List Nat} {env:Env} {σ:St} {K:Env->St->Prop} (hr:HX ops done=[i,j,l]) (ho:ops[i]?=some o) (ho2:ops[j]?=some o2) (ho3:ops[l]?=some o3) (h:A2 P n ops [o] env σ (fun env σ=>Nv P n ops f (i::done) env σ K)) (h2:A2 P n ops [o2] env σ (fun env σ=>Nv P n ops f (j::done) env σ K)) (h3:A2 P n ops [o3] env σ (fun env σ=>Nv P n ops f (l::done) env σ K)):Nv P n ops (f+1) done env σ K:=
 ⟨fun hc=>(by rw[hr]at hc;cases hc),fun k hk=>by
  rw[hr]at hk;simp at hk
  rcases hk with rfl|rfl|rfl
  ·exact⟨o,ho,h⟩
  ·exact⟨o2,ho2,h2⟩
  ·exact⟨o3,ho3,h3⟩⟩
end
section
variable {P:Program} {c:Conf} {n:Nat} {ops:Array Oper} {rest:List Oper} {env:Env} {σ:St} {o:Oper} {k:Env->St->Prop} {news:List Nat}
theorem Zq {te:TE} {t e s0 b0 b sz lo len esz ebb kc:Nat} {z0 ez:List T} {ek:TK} {kk:IntKind} {nn:Int} (ht:look te t=some ⟨s0,b0,z0,.slice e⟩) (he:look te e=some ⟨esz,ebb,ez,ek⟩) (hsz:esz=sz) (hn:nn=(kc:Int)) (hlt:kc<len):
  DE te t (.row b sz lo len) (.t (.int kk nn))=some (.eref b sz (lo+kc) 0):=by
 subst hn;subst hsz
 unfold DE
 simp only[FY,ht,he,if_true,if_pos hlt]
theorem CH (hp0:ProgOk P c) {t e s0 b0 b sz lo len esz ebb kc:Nat} {z0 ez:List T} {ek:TK} {kk:IntKind} {nn:Int} {xo io:Operand} {e2:Env} (hg:o.guard=none) (ho:o.op=.indexAddr t xo io) (hx:ev env xo=some (.row b sz lo len)) (hi:ev env io=some (.t (.int kk nn)))
  (ht:look c.te t=some ⟨s0,b0,z0,.slice e⟩) (he:look c.te e=some ⟨esz,ebb,ez,ek⟩) (hsz:esz=sz) (hn:nn=(kc:Int)) (hlt:kc<len) (hp:B4 n o.dst (.eref b sz (lo+kc) 0) env=some e2) (h:A2 P n ops rest e2 σ k):A2 P n ops (o::rest) env σ k:=by
 refine E6 hp0 (x:=.eref b sz (lo+kc) 0) (e:=env) (s:=σ) hg ?_ hp h
 unfold Dx
 rw[ho]
 simp only[Ce,hx,hi,Zq ht he hsz hn hlt]
theorem FT (hp0:ProgOk P c) {t b sz kc off:Nat} {ti:TI} {es:List (List T)} {e:List T} {y:AV} {ts:List T} {po xo:Operand} {env' e2:Env} {σ':St} (hg:o.guard=none) (ho:o.op=.store t po xo) (hz:Jj o env σ=(env',σ')) (hpo:ev env' po=some (.eref b sz kc off)) (hxo:ev env' xo=some y) (ht:look c.te t=some ti) (hc:J0 y=some (Ah ts)) (hat:allT (Ah ts)=some ts) (hl:(Ah ts).length=ti.size)
  (hb:look σ' b=some (.grow sz es)) (he:es[kc]?=some e) (hle:Nat.ble (off+ti.size) sz=true) (hp:B4 n o.dst (.t .undef) env'=some e2) (h:A2 P n ops rest e2 (upd σ' b (.grow sz (es.set kc (EL e off ts)))) k):A2 P n ops (o::rest) env σ k:=by
 have hle':off+ti.size<=sz:=by simpa using hle
 refine E6 hp0 (x:=.t .undef) (e:=env') (s:=upd σ' b (.grow sz (es.set kc (EL e off ts)))) hg ?_ hp h
 unfold Dx
 rw[ho]
 simp only[hz,F1,ho,hpo,hxo,EK,ht,hc,hl,hb,if_true,he,hat,if_pos hle']
theorem Zh {f:Nat} {xs ys:List AV} {r:AV} (h:Ct P f ys [] r []) (hs:F2 r=true) (hl:Kr σ xs=some ys) {vs:List Value} {w:World} {g:G} (hr:Bt w g vs xs) (hi:Inv w g σ):
  Calls P f vs.toArray w fun e w'=> ∃v,e=.returned v/\Ext w g w' g/\Rel w' g v r/\Inv w' g σ/\ ∀v x,Rel w g v x->Rel w' g v x:=by
 refine(h.2 vs w (g.lend σ) (On hi hl hr) (WJ hi)).mono ?_
 rintro e w' ⟨v,g',rfl,hx,hv,hi'⟩
 have hkeep: ∀blk,blk<w.heap.size->w'.heap[blk]?=w.heap[blk]?:=fun blk hb=>hx.keep blk hb (fun h=>h)
 have hext:Ext w g w' g:=⟨hx.size,fun blk hb _=>hkeep blk hb,fun _ _ h=>h,fun _ _=>Iff.rfl,hx.shape,fun _ h=>⟨h,Y⟩,⟨Y,hx.lo.2⟩,Gt (fun _ _ _ _ h=>h) (fun blk e hb _ _=>hkeep blk hb)⟩
 have hmono: ∀v x,Rel w g v x->Rel w' g v x:=fun v x hr=>hr.mono hext.keeps (fun _ _ h=>h) hx.shape
 refine⟨v,Y,hext,SZ hv hs,⟨fun b B hB=>?_,hi.dom,hi.inj,fun blk hb=>Nat.lt_of_lt_of_le (hi.lt blk hb) hx.size,hi.bx,hi.dis,hi.im_of hext.keeps,Nat.le_trans hi.lo hx.size,hi.sx.mono hx.size Y (fun _ _ _ h=>h) (fun blk e h _ _=>hkeep blk (hi.sx.lt _ _ h)) (fun c blk h=>.inl ⟨c,h⟩) (fun _ _ h=>h)⟩,hmono⟩
 have hok:=hi.ok b B hB
 refine hok.mono Y (fun _ _ h=>h) (fun blk hb=>hkeep _ ?_) hmono
 exact(E9 hi hb).1
theorem GW (hp0:ProgOk P c) {cl:Call} {f:Nat} {as ys:List AV} {e2:Env} {r:AV} (hg:o.guard=none) (ho:o.op=.call cl) (hc:C6 c env cl=some (f,as)) (hl:Kr σ as=some ys) (hct:Ct P f ys [] r []) (hs:F2 r=true) (hp:B4 n o.dst r env=some e2) (h:A2 P n ops rest e2 σ k):A2 P n ops (o::rest) env σ k:=by
 simp only[A2,AL,hg]
 intro w g a hi hee
 obtain⟨⟨fn,hf,hb⟩,hca⟩:=id hct
 obtain⟨vs,hrun,hrel⟩:=C5 hp0 hee hc ho hf hb
 refine BJ.enter hrun ?_
 refine(Zh hct hs hl hrel hi).mono ?_
 rintro ed w' ⟨v,rfl,q1,q2,q3,q4⟩
 exact⟨v,Y,_,_,_,⟨g,q1,q2,q3,hee.mono q4⟩,e2,hp,h⟩
def Azh (ops:Array Oper) (fl:List Nat) (f:Nat):Bool:=Region.noSelect ops&&(E8 ops fl (Array.replicate ops.size false)&&(Kx ops.toList&&Nat.beq ops.size (f+fl.length)))
theorem GK (hp:ProgOk P c) (fl:List Nat) (f:Nat) {id:Nat} {env1 env':Env} {σ1:St} {K:Exit->Env->St->Prop} (hd:Azh ops fl f=true) (hz:regFrz ops env σ=(env1,σ1)) (hte:Io c.te n ops fl env1=some env') (hK: ∀ch e s,¬K (.panic ch) e s) (h:Nv P n ops f fl env' σ1 (K .normal)):Tr P n (.region id ops true) env σ K:=by
 simp only[Azh,Bool.and_eq_true]at hd
 obtain⟨hns,htk,ha,hsz⟩:=hd
 have hsz:=Nat.eq_of_beq_eq_true hsz
 refine Tr.regFrz env1 σ1 hz ?_
 intro F hF hrf w g a hg
 have hro:F.round=none:=by
  rcases hrf with h|h
  ·exact h
  ·simp[Lx,ha]at h
 have hin: ∀i∈fl,i<(Array.replicate ops.size false).size:=fun i hi=>by
  have key: ∀{l:List Nat} {ar:Array Bool},E8 ops l ar=true-> ∀i∈l,i<ops.size:=by
   intro l
   induction l with
   |nil=>intro _ _ i hi;simp at hi
   |cons x r ih=>
    intro ar ht i hi
    simp only[E8,Bool.and_eq_true]at ht
    rcases List.mem_cons.1 hi with rfl|hi
    ·have:=List.contains_iff_mem.1 ht.1.2
     unfold Region.ready at this
     rw[List.mem_filter,List.mem_range]at this
     exact this.1
    ·exact ih ht.2 i hi
  simpa using key htk i hi
 have hLi: ∀j,Li (Gu fl (Array.replicate ops.size false)) j↔j∈fl:=fun j=>by
  rw[KL _ _ _ hin];simp[Li,Array.getElem?_replicate]
 refine wpIn_region_any hp.mix ?_
 rw[show wpAnyIn F 0 P .any ops (BS n w g K) ops.size=wpAnyIn F 0 P .any ops (BS n w g K) (f+fl.length)by rw[hsz]]
 refine JL hp.te hro hns hK fl htk hte hg.drew (fun a' hg'=>?_)
 exact Us hF f (by rw[HG];simp) hLi h hg' (Ext.drew w g)
end
section
variable {P:Program} {c:Conf} {n:Nat} {ops:Array Oper} {rest:List Oper} {env:Env} {σ:St} {o:Oper} {k:Env->St->Prop} {news:List Nat}
theorem Zg {te:TE} {t b sz kc off:Nat} {ti:TI} {es:List (List T)} {e ys:List T} (ht:look te t=some ti) (hb:look σ b=some (.grow sz es)) (he:es[kc]?=some e) (ha:ti.kind.agg=true) (hy:ED ti.size (e.drop off)=some ys):I4 te t (.eref b sz kc off) σ=some (.agg (Ah ys)):=by
 unfold I4
 simp only[ht,hb,if_true,he,ha,hy]
theorem Mr (hp0:ProgOk P c) {t b sz kc off:Nat} {ti:TI} {es:List (List T)} {e ys:List T} {xo:Operand} {e2:Env} (hg:o.guard=none) (ho:o.op=.load t xo) (hx:ev env xo=some (.eref b sz kc off)) (ht:look c.te t=some ti) (hb:look σ b=some (.grow sz es)) (he:es[kc]?=some e) (ha:ti.kind.agg=true) (hy:ED ti.size (e.drop off)=some ys) (hp:B4 n o.dst (.agg (Ah ys)) env=some e2) (h:A2 P n ops rest e2 σ k):A2 P n ops (o::rest) env σ k:=by
 refine E6 hp0 (x:=.agg (Ah ys)) (e:=env) (s:=σ) hg ?_ hp h
 unfold Dx
 rw[ho]
 simp only[F1,ho,hx,Zg ht hb he ha hy]
theorem I5 {es:List (List T)} {b sz m:Nat} {x:T} (h:look σ b=some (.grow sz es)) (hm:m=es.length):Kr σ [.row b sz 0 m,.t x]=some [.t (.slice .any sz es),.t x]:=by
 subst hm
 have t1:es.take es.length=es:=List.take_of_length_le (Nat.le_refl _)
 have t2:es.length.ble es.length=true:=by simp
 simp[Kr,D3,h,t1,t2]
end
section
variable {P:Program} {c:Conf} {n:Nat} {ops:Array Oper} {rest:List Oper} {env:Env} {σ:St} {o:Oper} {k:Env->St->Prop}
theorem A16 {code:Code} {K:Exit->Env->St->Prop} (b:Nat) {sz:Nat} {es:List (List T)} (hb:look σ b=some (.grow sz es)) (h:Tr P n code (I9 b sz es env) (Gf b sz es σ) K):Tr P n code env σ K:=by
 intro F hF hrf w g a hg
 obtain⟨k1,k2,k3⟩:=freeze hg.inv hb
 refine wpIn_mono (h F hF hrf w _ a ⟨fun t x hx=>?_,k2,hg.defers.ext k1,hg.size⟩) fun ex a2 w2 hq=>hq.lift k1
 rw[Fu]at hx
 cases hl:look env t with
 |none=>simp[hl]at hx
 |some z=>simp[hl]at hx;subst hx;exact k3 _ _ (hg.env t z hl)
theorem BF (t b:Nat) {sz:Nat} {es:List (List T)} {y y':AV} (hg:o.guard=none) (hb:look σ b=some (.grow sz es)) (hy:look env t=some y) (hy':B5 b sz es y=y') (h:A2 P n ops (o::rest) ((t,y')::I9 b sz es env) (Gf b sz es σ) k):A2 P n ops (o::rest) env σ k:=by
 simp only[A2,AL,hg]at h⊢
 intro w g a hi he
 obtain⟨k1,k2,k3⟩:=freeze hi hb
 refine(h w _ a k2 (fun t' x hx=>?_)).mono ?_
 ·rw[Ao]at hx
  split at hx
  ·rename_i e;subst e;cases hx;rw[<-hy'];exact k3 _ _ (he t y hy)
  ·rw[Fu]at hx
   cases hl:look env t' with
   |none=>simp[hl]at hx
   |some z=>simp[hl]at hx;subst hx;exact k3 _ _ (he t' z hl)
 ·rintro v w' ⟨x,e,s,hp,hk⟩
  exact⟨x,e,s,hp.lift k1,hk⟩
end
section
variable {P:Program} {c:Conf} {n:Nat} {ops:Array Oper} {rest:List Oper} {env:Env} {σ:St} {o:Oper} {k:Env->St->Prop}
def Qk (te:TE) (t m:Nat) (env:Env) (parts:List (Nat×Operand)):Option (List AV):=
 match look te t with
 |some ⟨_,_,_,.slice e⟩=>match look te e with
  |some ei=>if m*ei.size<=16777216 then(if ei.size=1 then(match evP env parts with
   |some ps=>F3 (fun i=>some (i*ei.size,ei.size)) ps (Ah (MG ei.zero m))
   |none=>none)else none)else none
  |none=>none
 |_=>none
theorem TM {place:Nat->Option (Nat×Nat)}: ∀(ps:List (Nat×AV)) (cs cs':List AV),F3 place ps cs=some cs'->cs'.length=cs.length
 |[],cs,cs',h=>by simp[F3]at h;rw[h]
 |(i,x)::r,cs,cs',h=>by
  simp only[F3]at h
  split at h
  ·split at h
   ·split at h
    ·split at h
     ·rw[TM r _ _ h,FW _ _ _ Aa]
     ·simp at h
    ·simp at h
   ·simp at h
  ·simp at h
theorem SH {te:TE} (hte:CX P te) {w:World} {g:G} {a:Act} {env:Env} (he:AK w g a env) {t m:Nat} {parts:Array (Nat×Operand)} {cs:List AV} (h:Qk te t m env parts.toList=some cs):
  ∃cells' e w',(Instr.buildSlice t m (parts.map fun p=>(p.1,a.eval p.2))).run P w=.ok (.slice (some ⟨w.heap.size,0,none⟩) m m) w'/\More w w' (.cells cells' e (0,0))/\Bt w g cells'.toList cs/\cs.length=m:=by
 unfold Qk at h
 split at h
 ·rename_i i1 i2 i3 e hl
  have hu:=F7 (hte _ _ hl) w Y
  split at h
  ·rename_i ei hei
   have hsz:=BT (hte _ _ hei) w
   have hz:=Do (hte _ _ hei) w
   have hzr:=DM (w:=w) (g:=g) (hte _ _ hei)
   have hzl:=(hte _ _ hei).len
   split at h
   ·rename_i hsmall
    split at h
    ·rename_i hone
     split at h
     ·rename_i ps hps
      obtain⟨zc,hzc⟩: ∃zc:Array Value,zc=(if m*ei.size=0 then #[]else(BZ ei).cells):=⟨_,Y⟩
      have hzs:(BZ ei).cells.size=ei.size:=by rw[<-hzl,<-AU,<-hzr.1];simp
      have hinit:Bt w g ((Array.range (m*ei.size)).map (zc[· % zc.size]!)).toList (Ah (MG ei.zero m)):=by
       refine⟨by simp[AU,He,hzl],fun i v x hv hx=>?_⟩
       have hlt:i<m*ei.size:=by have:=AW hx;rw[AU,He,hzl]at this;exact this
       have hne:m*ei.size≠0:=by omega
       have hpos:0<ei.size:=by omega
       rw[if_neg hne]at hzc
       subst hzc
       rw[BV,QU _ _ _ (by rw[hzl];exact hlt),hzl]at hx
       have hm:i % ei.size<ei.size:=Nat.mod_lt _ hpos
       simp only[Array.toList_map,Array.toList_range,List.getElem?_map,List.getElem?_range hlt,Option.map_some,Option.some.injEq,hzs]at hv
       have hget:(BZ ei).cells.toList[i % ei.size]?=some v:=by
        rw[<-hv,Array.getElem?_toList,getElem!_pos _ _ (by rw[hzs];exact hm),Array.getElem?_eq_getElem (by rw[hzs];exact hm)]
       exact hzr.2 _ v x hget (by rw[BV];exact hx)
      obtain⟨cells',f1,f2⟩:=IC (fun i=>some (i*ei.size,ei.size)) h hinit (Jt he hps)
      have hcl:cs.length=m:=by rw[TM _ _ _ h,AU,He,hzl,hone,Nat.mul_one]
      refine⟨cells',e,_,?_,More.alloc w (.cells cells' e),f2,hcl⟩
      have hsm: ¬(m*ei.size>2^24):=by omega
      have f1':Instr.fill (fun i=>some (i*ei.size,ei.size)) ((Array.range (m*ei.size)).map (zc[· % zc.size]!)) (parts.map fun p=>(p.1,a.eval p.2)).toList=some cells':=by
       rw[<-f1];simp
      simp only[Instr.buildSlice,Sem.run_bind,hu,Result.andThen_ok,hsz]
      rw[if_neg hsm]
      by_cases hn0:m*ei.size=0
      ·rw[if_pos hn0]at hzc⊢
       subst hzc
       simp only[Sem.run_pure,Result.andThen_ok,Sem.run_bind,f1',newRow,newObj,Sem.run]
       rfl
      ·rw[if_neg hn0]at hzc⊢
       subst hzc
       simp only[Sem.run_pure,Result.andThen_ok,hz,Sem.run_bind,f1',newRow,newObj,Sem.run]
       rfl
     ·simp at h
    ·simp at h
   ·simp at h
  ·simp at h
 ·simp at h
theorem NL (hp0:ProgOk P c) {t m d:Nat} {parts:Array (Nat×Operand)} {cs:List AV} {e2:Env} (hg:o.guard=none) (ho:o.op=.buildSlice t m parts) (hd:o.dst=some d) (hl:look σ (2*d)=none) (hs:Qk c.te t m env parts.toList=some cs)
  (hp:B4 n o.dst (.row (2*d) 1 0 m) env=some e2) (h:A2 P n ops rest e2 ((2*d,.cells cs)::σ) k):A2 P n ops (o::rest) env σ k:=by
 simp only[A2,AL,hg]
 intro w g a hi hee
 obtain⟨cells',e,w',h1,h2,h3,h4⟩:=SH (P:=P) hp0.te hee hs
 obtain⟨k1,k2,k3⟩:=KS hi hl h2 (B:=.cells cs) (fun hr=>⟨w.heap.size,cells',e,by simp[G.with],.inr Y,h2.new,by rw[<-h3.1];simp,fun i v x hv hx=>hr _ _ (h3.2 i v x (by rw[Array.getElem?_toList];exact hv) hx)⟩)
 refine BJ.value (v:=.slice (some ⟨w.heap.size,0,none⟩) m m) (w':=w') ?_ ⟨_,_,_,⟨_,k1,?_,k2,hee.mono k3⟩,e2,hp,h⟩
 ·simp only[execOp,ho,Sem.run_bind]
  simp[h1]
 ·have hcs:cells'.size=m:=by have:=h3.1;simp at this;omega
  exact .row (2*d) 1 0 m w.heap.size 0 m e cells'.size (by simp[G.with]) (by simp[World.shape?,h2.new]) (.inl Ac) (Nat.le_refl _) (by rw[hcs];omega)
theorem JI (hp0:ProgOk P c) {t b kc:Nat} {ti:TI} {cs:List AV} {y:AV} {xo:Operand} {e2:Env} (hg:o.guard=none) (ho:o.op=.load t xo) (hx:ev env xo=some (.eref b 1 kc 0)) (ht:look c.te t=some ti) (hb:look σ b=some (.cells cs)) (he:cs[kc]?=some y) (ha:ti.kind.agg=false)
  (hp:B4 n o.dst y env=some e2) (h:A2 P n ops rest e2 σ k):A2 P n ops (o::rest) env σ k:=by
 simp only[A2,AL,hg]
 intro w g a hi hee
 have hr:=AG hee hx
 obtain⟨blk',vs,e,h1,h2,h3⟩:=NY hi hb
 generalize hu:a.eval xo=ux at hr
 cases hr with
  |eref _ _ _ _ blk hβ=>
   rw[h1]at hβ;cases hβ
   have hlt:=AW he
   have hsz:=(hp0.te _ _ ht).one ha
   obtain⟨v,hv⟩: ∃v,vs.toList[kc]?=some v:=⟨vs.toList[kc]'(by rw[h3.1];exact hlt),List.getElem?_eq_getElem _⟩
   have hrun:=HM (P:=P) hp0.te (w:=w) ht (b:=blk') (off:=kc*1+0) (vs:=[v]) (by simp[hsz]) (fun i u hu=>by
    cases i with
    |zero=>simp at hu;subst hu;rw[EH h2,<-Array.getElem?_toList];simpa using hv
    |succ i=>simp at hu)
   rw[ha]at hrun
   exact BJ.value (v:=v) (w':=w) (by have hrun':(loadVar t ⟨blk',kc,none⟩).run P w=.ok v w:=(by simpa using hrun);simp[execOp,ho,hu,Instr.loadAt,Instr.sureAddr,hrun']) ⟨_,_,_,⟨g,A1t _ _,h3.2 kc v y hv he,hi,hee⟩,e2,hp,h⟩
end
section
variable {P:Program} {c:Conf} {n:Nat} {ops:Array Oper} {rest:List Oper} {env:Env} {σ:St} {o:Oper} {k:Env->St->Prop}
theorem Mq (hp0:ProgOk P c) {t m e h:Nat} {xo:Operand} {hi:Option Operand} {cs:List T} {ti ei:TI} {e2:Env} (hg:o.guard=none) (ho:o.op=.slice t xo none hi none) (hx:ev env xo=some (.t (.ptr cs))) (ht:look c.te t=some ti) (hk:ti.kind=.array m e) (he:look c.te e=some ei)
  (hl:m*ei.size<=cs.length) (hm:m≠0) (hh:BA env hi m=some h) (h1:h<=m) (hp:B4 n o.dst (.t (.slice .any ei.size ((Bq ei.size m (cs.take (m*ei.size))).take h))) env=some e2) (hK:A2 P n ops rest e2 σ k):A2 P n ops (o::rest) env σ k:=by
 simp only[A2,AL,hg]
 intro w g a hin hee
 have hte:=hp0.te
 have hd:=F8 (hte _ _ ht) w hk
 have hsz:=BT (hte _ _ he) w
 obtain⟨b,off,hv,hc⟩:=FO (Aw (AG hee hx))
 have hb:=DJ (P:=P) (w:=w) hee (s:=false) (len:=m) (cap:=m) (lo:=none) (hi:=hi) (l:=0) (h:=h) hh Y h1 (Nat.zero_le _)
 simp only[Option.map_none]at hb
 have hrun:(Instr.sliceAt t (a.eval xo) none (hi.map a.eval) none).run P w=.ok (.slice (some ⟨b,off,none⟩) h m) w:=by
  rw[hv]
  simp[Instr.sliceAt,hd,hb,hsz,Instr.sureAddr,asAddr,Addr.add,hm]
 obtain⟨q1,q2,q3⟩:=Jw ei.size m (cs.take (m*ei.size)) (by rw[List.length_take];omega)
 refine BJ.value (v:=.slice (some ⟨b,off,none⟩) h m) (w':=w) ?_ ⟨_,env,σ,⟨g,A1t _ _,.t _ _ (DN (m:=.any) (by rw[List.length_take,q3];omega) h1 (by intro e;cases e) Ac (fun x hx=>q2 x (List.mem_of_mem_take hx)) (fun i x hx=>?_)),hin,hee⟩,e2,hp,hK⟩
 ·simp[execOp,ho,hrun]
 ·have:=C7 ei.size (Bq ei.size m (cs.take (m*ei.size))) q2 0 h i x (by simpa using hx)
  rw[q1]at this
  have h2:cs[i]?=some x:=by
   simp only[Nat.zero_mul,Nat.zero_add,List.getElem?_take]at this
   split at this
   ·exact this
   ·cases this
  exact hc i x h2
end
def Ayt (te:TE) (t:Nat):Bool:=match look te t with
 |some ⟨_,_,_,.array _ _⟩=>true
 |_=>false
def Vj (te:TE):List Oper->Bool
 |[]=>false
 |o::r=>match o.op with
  |.slice t _ _ _ _=>Ayt te t||Vj te r
  |_=>Vj te r
def K0:List Oper->Env->St->Env×St
 |[],env,σ=>(env,σ)
 |o::r,env,σ=>(match o.op with
  |.fieldAddr _ (.tmp a) _=>(match look env a with
   |some (.ref b 0)=>(match Nat.beq (b % 2) 0 with
    |true=>(match look σ b with
     |some (.cells cs)=>(match allT cs with
      |some ts=>(match ts.all CK with
       |true=>K0 r ((a,.t (.ptr ts))::I9 b ts.length [ts] env) (Gf b ts.length [ts] σ)
       |false=>K0 r env σ)
      |none=>K0 r env σ)
     |_=>K0 r env σ)
    |false=>K0 r env σ)
   |_=>K0 r env σ)
  |_=>K0 r env σ)
theorem Gi {P:Program} {n:Nat} {code:Code} {K:Exit->Env->St->Prop}: ∀(l:List Oper) {env:Env} {σ:St},Tr P n code (K0 l env σ).1 (K0 l env σ).2 K->Tr P n code env σ K
 |[],env,σ,h=>h
 |o::r,env,σ,h=>by
  simp only[K0]at h
  split at h
  ·rename_i t0 a i0 ho0
   split at h
   ·rename_i x0 b hl
    split at h
    ·rename_i hev
     split at h
     ·rename_i cs hb
      split at h
      ·rename_i ts hts
       split at h
       ·rename_i hone
        have hcs:=IJ hts
        subst hcs
        exact A12 a b (Nat.eq_of_beq_eq_true hev) hl hb hone (Gi r h)
       ·exact Gi r h
      ·exact Gi r h
     ·exact Gi r h
    ·exact Gi r h
   ·exact Gi r h
  ·exact Gi r h
end Go.Am
