/- The general texts of the abstract machine, joined: Hw17, Hw18, Ay, Hw19. -/
import Derived.Test.YthjoclecnacdiaaGreatDoorZM6
set_option linter.unusedVariables false
set_option linter.unusedSimpArgs false
namespace Go.Am
section
variable {P:Program} {c:Conf} {te:TE} {w w':World} {g:G} {σ:St}
end
end Go.Am
namespace Go.Am
def PS (b sz:Nat) (es:List (List T)) (blk N:Nat) (y y':AV):Prop:= ∀(w:World) (g g':G),(∀v,Rel w g v (.row b sz 0 es.length)→Rel w g' v (.t (.slice (.phys blk N) sz es)))→(∀v x,Rel w g v x→Rel w g' v (D1 b sz es x))→ ∀v,Rel w g v y→Rel w g' v y'
def PSL (b sz:Nat) (es:List (List T)) (blk N:Nat):List AV→List AV→Prop
 |[],[]=>True
 |x::r,y::s=>PS b sz es blk N x y∧PSL b sz es blk N r s
 |_,_=>False
section
variable {b sz:Nat} {es:List (List T)} {blk N:Nat}
theorem PSL.get: ∀{xs ys:List AV},PSL b sz es blk N xs ys→xs.length=ys.length∧ ∀(i:Nat) y,ys[i]?=some y→ ∃x,xs[i]?=some x∧PS b sz es blk N x y
 |[],[],_=>⟨rfl,fun i y h=>by simp at h⟩
 |x::r,y::s,⟨h1,h2⟩=>by
  obtain⟨k1,k2⟩:=PSL.get h2
  refine⟨by simp[k1],fun i z hz=>?_⟩
  cases i with
  |zero=>simp at hz;subst hz;exact⟨x,rfl,h1⟩
  |succ i=>simp at hz;simpa using k2 i z hz
 |[],_::_,h=>h.elim
 |_::_,[],h=>h.elim
end
section
variable {P:Program} {c:Conf} {n:Nat} {ops:Array Oper} {rest:List Oper} {env:Env} {σ:St} {o:Oper} {K:Exit→Env→St→Prop} {k:Env→St→Prop}
def CtF (P:Program) (f:Nat) (as:List AV) (σ:St) {ι:Type} (V:ι→Prop) (r:ι→AV) (s:ι→St):Prop:=
 (∃fn,P.funcs[f]?=some fn∧fn.body.isSome=true)∧ ∀(vs:List Value) (w:World) (g:G),B5 w g vs as→Inv w g σ→Calls P f vs.toArray w fun e w'=> ∃v g' i,e=.returned v∧V i∧Ext w g w' g'∧Rel w' g' v (r i)∧Inv w' g' (s i)
def Y4 {ι:Type} (te:TE) (rs:List ResultVar) (V:ι→Prop) (r:ι→AV) (s:ι→St) (ex:Exit) (e:Env) (st:St):Prop:=
 (ex=.normal∨ex=.ret)∧ ∃i,V i∧ ∃r0 s1 D r1,Is te true rs e st=some (r0,s1)∧Hm D [(0,r0)]=[(0,r1)]∧GE D s1=s i∧Sub r1 (r i)
theorem ctF (hp:ProgOk P c) {f:Nat} {fn:Func} (hf:P.funcs[f]?=some fn) {code:Code} (hb:fn.body=some code) {as:List AV} {ι:Type} {V:ι→Prop} {r:ι→AV} {s:ι→St} (hle:Nat.ble as.length fn.ntmps=true)
  (h:Tr P fn.ntmps code (E9 0 as) σ (Y4 c.te fn.results.toList V r s)):CtF P f as σ V r s:=by
 refine⟨⟨fn,hf,by simp[hb]⟩,?_⟩
 intro vs w g hrl hi
 refine E2 hf hb hle h hrl hi fun ex a' w' g' env' σ1 h1 h2 h3=>?_
 obtain⟨hex,i,hV,r0,s1,D,r1,h4,h5,hs,h6⟩:=h3
 obtain⟨v,g2,q1,q2,q3,q4⟩:=FL hp h2 h4
 have hg2:Good 0 w' g2 ⟨#[v],[]⟩ [(0,r0)] s1:=⟨fun t x hx=>by
  rw[AB]at hx
  split at hx
  ·rename_i e;subst e;cases hx;exact q3
  ·simp[look]at hx,q4,EE.nil,by simp⟩
 obtain⟨g3,k1,k2⟩:=HI D hg2
 rw[h5]at k2
 have hv:Rel w' g3 v r1:=k2.env 0 r1 rfl
 exact⟨hex,v,q1,v,g3,i,rfl,hV,(h1.trans q2).trans k1,h6 _ _ _ hv,hs▸k2.inv⟩
theorem Cq {ι:Type} {te:TE} {rs:List ResultVar} {V:ι→Prop} {r:ι→AV} {s:ι→St} {e:Env} {st s1:St} {r0 r1:AV} (i:ι) (hV:V i) (D:List Nat) (h:Is te true rs e st=some (r0,s1)) (h1:Hm D [(0,r0)]=[(0,r1)]) (h2:GE D s1=s i) (hs:Sub r1 (r i)):Y4 te rs V r s .ret e st:=
 ⟨.inr rfl,i,hV,r0,s1,D,r1,h,h1,h2,hs⟩
theorem CtF.args {f:Nat} {as as0:List AV} {ι:Type} {V:ι→Prop} {r:ι→AV} {s:ι→St} (h:CtF P f as0 σ V r s) (hs:Dm as as0):CtF P f as σ V r s:=
 ⟨h.1,fun vs w g hr hi=>h.2 vs w g (hs.rel hr) hi⟩
theorem EF (hp0:ProgOk P c) (ι ω:List (Nat×Nat)) {cl:Call} {f:Nat} {as as0:List AV} {σ0:St} {I:Type} {V:I→Prop} {r:I→AV} {s2:I→St} {e2:I→Env} {s:I→St} (hg:o.guard=none) (ho:o.op=.call cl) (hc:Cz c env cl=some (f,as)) (ha:DN (look ι) as=as0) (hs0:Cu ι σ ι=σ0)
  (hct:CtF P f as0 σ0 V r s2) (hR0:My ι ω σ []=true) (hR: ∀i,V i→My ι ω σ (s2 i)=true) (hs: ∀i,V i→FN ω (s2 i)++GA ι σ σ=s i) (hp: ∀i,V i→BD n o.dst (Cw (look ω) (r i)) (Mu (Dw ι σ) env)=some (e2 i)) (h: ∀i,V i→AU P n ops rest (e2 i) (s i) k):
  AU P n ops (o::rest) env σ k:=by
 subst ha;subst hs0
 simp only[AU,AZ,hg]
 intro w g a hi hee
 obtain⟨⟨fn,hf,hb⟩,hca⟩:=hct
 obtain⟨vs,hrun,hrel⟩:=Cy hp0 hee hc ho hf hb
 refine BJ.enter hrun ?_
 obtain⟨i1,i2⟩:=KI hi (J5 hR0)
 refine(hca vs w _ (hrel.ren (look ι) i2) i1).mono ?_
 rintro ed w' ⟨v,g1,i,rfl,hVi,q1,q2,q3⟩
 obtain⟨g',k1,k2,k3,k4⟩:=G2 hi (J5 (hR i hVi)) q1 q3
 refine⟨v,rfl,_,_,_,⟨g',k1,k3 v (r i) q2,(hs i hVi)▸k2,fun t x hx=>?_⟩,e2 i,hp i hVi,h i hVi⟩
 rw[Je]at hx
 cases hl:look env t with
 |none=>simp[hl]at hx
 |some y=>simp[hl]at hx;subst hx;exact k4 _ _ (hee t y hl)
end
end Go.Am
namespace Go.Am
section
variable {P:Program} {c:Conf} {n k m:Nat} {ops:Array Oper} {news:List Nat}
theorem G5.app {alt:Oper→Env→Prop} (hal:Mm ops alt): ∀{l1 l2:List Nat} {env e1 e:Env} {σ s1 s:St},G5 P c alt n ops news l1 env σ e1 s1→G5 P c alt n ops news l2 e1 s1 e s→G5 P c alt n ops news (l1++l2) env σ e s
 |[],l2,env,e1,e,σ,s1,s,h1,h2=>h2.congr hal (fun t=>h1.1 t) (fun b=>h1.2 b)
 |i::r,l2,env,e1,e,σ,s1,s,⟨o,y,nb,e2,s2,a1,a2,a3,a4,a5⟩,h2=>⟨o,y,nb,e2,s2,a1,a2,a3,a4,G5.app hal a5 h2⟩
end
end Go.Am
namespace Go.Am
section
variable {P:Program} {c:Conf} {n:Nat} {ops:Array Oper} {rest:List Oper} {env:Env} {σ:St} {o:Oper} {k:Env→St→Prop}
theorem A8 (hp0:ProgOk P c) {t yt e s0 b0 sz sz':Nat} {z0:List T} {xo yo:Operand} {m:SM} {es:List (List T)} {e2:Bool→Env} (hg:o.guard=none) (ho:o.op=.binOp .eql t xo yo yt) (hx:ev env xo=some (.t (.slice m sz es))) (hy:ev env yo=some (.t (.slice .nil sz' [])))
  (ht:look c.te t=some ⟨s0,b0,z0,.slice e⟩) (hp: ∀b,BD n o.dst (.t (.bool b)) env=some (e2 b)) (h: ∀b,(b=true→es=[])→AU P n ops rest (e2 b) σ k):AU P n ops (o::rest) env σ k:=by
 simp only[AU,AZ,hg]
 intro w g a hi hee
 have rx:=AE (AO hee hx)
 have ry:=AE (AO hee hy)
 have hv:a.eval yo=.slice none 0 0:=by
  generalize a.eval yo=v at ry
  cases ry with
  |sliceNil=>rfl
  |sliceZ _ _ _ hm=>exact absurd rfl hm
  |slice _ _ _ _ _ _ _ _ _ _ _ hm=>exact absurd rfl hm
 have hu:=DX (hp0.te _ _ ht) w rfl
 have fin: ∀b,(b=true→es=[])→(execOp a.eval o).run P w=.ok (.value (.bool b)) w→BJ P o a w fun v w'=> ∃x e s,D6 w g a x e s v w'∧Fs n o.dst x e fun e2=>AU P n ops rest e2 s k:=fun b hb hrun=>
  BJ.value hrun ⟨.t (.bool b),env,σ,⟨g,Ext.refl _ _,.t _ _ (.bool b),hi,hee⟩,e2 b,hp b,h b hb⟩
 rcases BW rx with⟨h1,h2⟩|⟨b,off,cap,h1,_,_,_,_,_⟩|⟨az,h1,h2,_⟩
 ·refine fin true (fun _=>h2) ?_
  have:=Em (P:=P) (w:=w) (t:=t) (Fk hu) rfl
  simp[execOp,ho,h1,hv,Fh,this]
 ·refine fin false (fun hb=>by cases hb) ?_
  have:=Em (P:=P) (w:=w) (t:=t) (D8 (a:=⟨b,off,none⟩) (l:=es.length) (c:=cap) hu) rfl
  simp[execOp,ho,h1,hv,Fh,this]
 ·refine fin false (fun hb=>by cases hb) ?_
  have:=Em (P:=P) (w:=w) (t:=t) (D8 (a:=az) (l:=0) (c:=0) hu) rfl
  simp[execOp,ho,h1,hv,Fh,this]
theorem Ao {news:List Nat} {t s0 b0 e:Nat} {z0:List T} {esz ebb:Nat} {ez:List T} {ek:TK} {xo io:Operand} {m:SM} {sz:Nat} {es:List (List T)} {kk:IntKind} {kc:Nat} {nn:Int} {cc:List T} {e2:Env} (hg:o.guard=none) (ho:o.op=.indexAddr t xo io) (hx:ev env xo=some (.t (.slice m sz es)))
  (hi:ev env io=some (.t (.int kk nn))) (ht:look c.te t=some ⟨s0,b0,z0,.slice e⟩) (he:look c.te e=some ⟨esz,ebb,ez,ek⟩) (hsz:sz=esz) (hn:nn=(kc:Int)) (hc:es[kc]?=some cc) (hp:BD n o.dst (.t (.ptr cc)) env=some e2)
  (h:hSK P c n ops news rest e2 σ k):hSK P c n ops news (o::rest) env σ k:=by
 subst hn
 simp only[hSK,AZ,hg]
 refine⟨SF,.t (.ptr cc),[],KL,?_,e2,hp,h⟩
 unfold B8
 rw[ho]
 simp only[Cn,hx,hi,CU,Fy,ht,he,hsz,hc,if_true]
end
end Go.Am
